/- The walk of SetsBytes: Encode returns the bytes of the reference, Decode leads back for sets alone, and Decode of any bytes is a set with just these bytes, or an error. -/
import Derived.Test.YtlbdjnbcoldjhaaV6
import Derived.Test.YtlbdjnbcoldjhaaHF
namespace Go.Proofs.Ytlbdjnbcoldjhaa
open Go.RowKit
attribute [local go_sem ↓] Go.wp_at_zero Go.wp_at_succ

set_option maxRecDepth 100000 in
set_option maxHeartbeats 8000000 in
theorem SetsBytes_any (A : Option Addr) (c : Nat) (l : List Int) (at_ by_ n : Int) (R : Option Addr) (cR : Nat) (raw : List Int) (ch : Int) (w : World) (hl : IL w A c l) (ha : I64 at_) (hb : I64 by_) (hn : I64 n) (hR : BL w R cR raw) (hc : U8 ch) :
    Calls Try.prog 8 #[.slice A l.length c, .int .i64 at_, .int .i64 by_, .int .i64 n, .slice R raw.length cR, .int .u8 ch] w (RetV (.bool true) w) := by
  have hcap := hl.len
  have hcap2 := hR.len
  have HS := Lib.hid (gSetF_any A c l 10 w hl (by omega))
  have HA1 := fun (W : World) => Lib.hid ((around_any n 3 W hn (by omega) (by omega)).mono (fun _ _ h => RetQ.ext h))
  have B1 := around_bd n 3 (by omega)
  generalize around n 3 = n1 at *
  obtain ⟨m, hm⟩ : ∃ m : Nat, 63 + n1 = m := ⟨(63 + n1).toNat, by omega⟩
  have hwm : IntKind.i64.wrap (63 + n1) = (m : Int) := by rw [IntKind.wrap_i64]; omega
  go_enter Try.func8, Try.ntmps8
  go_wp2_with fail
  refine HS.out.mono ?_
  rintro e w1 ⟨A1, c1, l1, rfl, s1, hl1, _, ho1, x1, f1⟩
  have hs1 := Lib.hid (show ∀ s ∈ l1, Small s from fun s hs => good_small ((okL_canon ho1).2 s hs))
  have HO1 := Lib.hid ho1
  have HP := Lib.hid (gSpoiltF_any A1 c1 l1 at_ by_ w1 s1 hs1.out (by omega) ha hb)
  clear HS ho1
  go_wp2_with fail
  refine HP.out.mono ?_
  rintro e w2 ⟨A2, c2, l2, rfl, s2, hl2, x2, f2⟩
  clear HP
  go_wp2_with fail
  refine (HA1 _).out.mono ?_
  rintro e w3 ⟨rfl, x3⟩
  have HM := Lib.hid (gManyF_any m 7 w3 (by omega) (by omega))
  clear HA1
  go_wp2_with fail
  refine HM.out.mono ?_
  rintro e w4 ⟨A3, c3, l3, rfl, s3, hl3, _, x4, f3⟩
  clear HM
  go_upto_region 3 with fail
  have x24 := (x2.trans x3).trans x4
  have bL := Blk.new w4 24 (flatH [⟨A1, c1, l1⟩, ⟨A2, c2, l2⟩, ⟨A3, c3, l3⟩]).toArray
  have eL := Ext.alloc w4 (.cells (flatH [⟨A1, c1, l1⟩, ⟨A2, c2, l2⟩, ⟨A3, c3, l3⟩]).toArray 24)
  have HLL := LLS.lit' [⟨A1, c1, l1⟩, ⟨A2, c2, l2⟩, ⟨A3, c3, l3⟩] bL (fun h hh => by
    simp only [List.mem_cons, List.not_mem_nil, or_false] at hh
    rcases hh with rfl | rfl | rfl
    · exact (s1.ext x24).ext eL
    · exact ((s2.ext x3).ext x4).ext eL
    · exact s3.ext eL) (by simp)
  have HLN := Lib.hid (show ∀ h ∈ ([⟨A1, c1, l1⟩, ⟨A2, c2, l2⟩, ⟨A3, c3, l3⟩] : List Hs), h.l.length ≤ 100 from fun h hh => by
    simp only [List.mem_cons, List.not_mem_nil, or_false] at hh
    rcases hh with rfl | rfl | rfl <;> simp only <;> omega)
  have H3 := Lib.hid (show ([⟨A1, c1, l1⟩, ⟨A2, c2, l2⟩, ⟨A3, c3, l3⟩] : List Hs).length = 3 from rfl)
  have X := ((x1.trans x24).trans eL)
  have HS1 := Lib.hid ((s1.ext x24).ext eL)
  rw [show (flatH [⟨A1, c1, l1⟩, ⟨A2, c2, l2⟩, ⟨A3, c3, l3⟩]).toArray = #[.slice A1 l1.length c1, .slice A2 l2.length c2, .slice A3 l3.length c3] from rfl] at HLL X HS1
  generalize ([⟨A1, c1, l1⟩, ⟨A2, c2, l2⟩, ⟨A3, c3, l3⟩] : List Hs) = hs' at *
  rw [H3.out] at HLL
  obtain ⟨g, hg⟩ : ∃ g, g = w4.heap.size := ⟨_, rfl⟩
  rw [← hg] at HLL ⊢
  clear hg bL eL
  generalize w4.alloc (.cells #[.slice A1 l1.length c1, .slice A2 l2.length c2, .slice A3 l3.length c3] 24) = wL at *
  clear s1 s2 s3 f2 f3 hwm hm B1 hl2 hl3 x1 x2 x3 x4 x24
  go_wp2_with fail
  go_loopw [15] (fun v wr => ∃ i : Nat, v = .int .i64 i ∧ i ≤ 3 ∧ Ext wL wr) (fun v _ => 3 - (intOf v).toNat)
  case atStart => exact ⟨0, rfl, by omega, Ext.rfl' _⟩
  case round =>
    obtain ⟨i, rfl, hi, y1⟩ := hrel
    by_cases hlt : i < 3
    · have hiI : (i : Int) < 3 := by omega
      have hih : i < hs'.length := by rw [H3.out]; exact hlt
      obtain ⟨pb, po, hpe, g0⟩ := (HLL.ext y1).get hih
      have hsl := (HLL.sl _ (List.getElem_mem hih)).ext y1
      have hln := HLN.out _ (List.getElem_mem hih)
      have hpe2 : g = pb ∧ po = 0 := by injection hpe with h1; injection h1 with h2 h3 h4; exact ⟨h2, h3.symm⟩
      obtain ⟨rfl, rfl⟩ := hpe2
      clear hpe
      simp only [Nat.zero_add] at g0
      generalize hs'[i] = hh at *
      obtain ⟨hA, hc, hl2⟩ := hh
      simp only at g0 hsl hln
      have HEL := Lib.hid (encU_len hsl.rng (by omega) hl2.length (Nat.le_refl _))
      have HE := Lib.hid (sEncode_any hA hc hl2 wr hsl (by omega))
      have HU := Lib.hid (show ∀ b ∈ encS hl2, U8 b from encU_u8 _ _)
      have HDE := fun (o : List Sp) (er : Int) h => Lib.hid (dec_enc hsl.rng (by omega) (o := o) (er := er) h)
      have HGE := fun (W : World) (x : Ext wr W) => Lib.hid (gEncode_any hA hc hl2 W (hsl.ext x) (by omega))
      obtain ⟨eb, heb⟩ : ∃ eb, eb = encS hl2 := ⟨_, rfl⟩
      have hebl : eb.length ≤ 100000 := by rw [heb]; show (encU hl2 hl2.length).length ≤ _; have := HEL.out; omega
      rw [← heb] at HE HU HDE HGE
      have HEB := Lib.hid heb
      clear heb HEL
      go_wp2_with fail
      refine HE.out.mono ?_
      rintro e w5 ⟨EB, ec, rfl, hEB, y2⟩
      have HBL := Lib.hid (BL.of_own hEB HU.out)
      have HD := Lib.hid (sDecode_any EB ec eb w5 HBL.out (by omega))
      clear HE hEB
      go_wp2_with fail
      refine HD.out.mono ?_
      rintro e w6 ⟨S, cS, o, er, rfl, hdr, hS, y3⟩
      have HDR := HDE o er hdr
      have HRd := Lib.hid (wRead_any EB ec eb w6 (HBL.out.ext y3) (by omega))
      clear HD HDE hdr
      go_wp2_with fail
      refine HRd.out.mono ?_
      rintro e w7 ⟨gr, rA, rc, rfl, hR7, y4, hgr, hfr⟩
      clear HRd
      go_upto_region 9 with fail
      have hgb : g < wr.heap.size := World.block_lt_of_cell? _ _ g0
      have z2 := y2.size
      have z3 := y3.size
      have y24 := (y2.trans y3).trans y4
      have hg9 : g ≠ gr := by omega
      have g7 := y24.cell g0
      have k0 := fun (w' : World) (h : Kp [gr] w7 w') => h.cell g7 (by simp only [List.mem_cons, List.not_mem_nil, or_false]; exact hg9)
      have HB7 := fun (W : World) (k : Kp [gr] w7 W) => Lib.hid (((HBL.out.ext y3).ext y4).kp k.p (fun hx b hb hm => by
        have h1 := HBL.out.blt hx hb
        have h2 : b = gr := by simpa using hm
        omega))
      obtain ⟨bS, hbS⟩ : ∃ bS, bS = strOfNums eb := ⟨_, rfl⟩
      have HBS := Lib.hid hbS
      clear hbS
      have HIR := Lib.hid (show (irun (some eb)).1 = (hl2.length : Int) by rw [HEB.out, encS_eq, irun_enc (by unfold I64; omega)])
      have HRI := fun (W : World) (h : RdAt W gr rA rc eb (some eb)) => Lib.hid (rdInt_any gr rA rc eb (some eb) W h)
      rw [HIR.out] at HRI
      have hll : ((hl2.length : Int) != (hl2.length : Int)) = false := by simp
      refine Xr.start [gr] (by kernel_rfl) ?_
      (refine Xr.take 0 (some 56) (v := ?_) rfl rfl (by decide +kernel) (by rfl) ?_ ?_; rotate_left; (focus (intro w' hk; go_simp; (try with_reducible rfl); done)); (try simp only [Act.put, List.setIfInBounds_toArray, List.set_cons_zero, List.set_cons_succ]))
      refine Xr.take 1 (some 57) (v := .string bS) rfl rfl (by decide +kernel) (by rfl) (fun w' hk => exec_conv (HB7 w' hk).out _ rfl rfl HBS.out) ?_
      (try simp only [Act.put, List.setIfInBounds_toArray, List.set_cons_zero, List.set_cons_succ])
      (refine Xr.take 2 (some 58) (v := ?_) rfl rfl (by decide +kernel) (by rfl) ?_ ?_; rotate_left; (focus (intro w' hk; go_simp; (try with_reducible rfl); done)); (try simp only [Act.put, List.setIfInBounds_toArray, List.set_cons_zero, List.set_cons_succ]))
      (refine Xr.take 3 (some 59) (v := ?_) rfl rfl (by decide +kernel) (by rfl) ?_ ?_; rotate_left; (focus (intro w' hk; go_simp; (try with_reducible rfl); done)); (try simp only [Act.put, List.setIfInBounds_toArray, List.set_cons_zero, List.set_cons_succ]))
      (refine Xr.take 4 (some 60) (v := ?_) rfl rfl (by decide +kernel) (by rfl) ?_ ?_; rotate_left; (focus (intro w' hk; go_simp; (try with_reducible rfl); done)); (try simp only [Act.put, List.setIfInBounds_toArray, List.set_cons_zero, List.set_cons_succ]))
      (refine Xr.take 5 (some 61) (v := ?_) rfl rfl (by decide +kernel) (by rfl) ?_ ?_; rotate_left; (focus (intro w' hk; go_simp; (try with_reducible rfl); done)); (try simp only [Act.put, List.setIfInBounds_toArray, List.set_cons_zero, List.set_cons_succ]))
      refine Xr.call 6 rfl (by decide +kernel) (by rfl) (fun w8 hE8 hK8 K hKK => ?_)
      go_simp
      refine (HGE _ (y24.trans hE8)).out.mono ?_
      rintro e w9 ⟨GB, gc, rfl, hGB, x9⟩
      refine hKK _ _ x9 ?_
      clear hKK
      (try simp only [Act.put, List.setIfInBounds_toArray, List.set_cons_zero, List.set_cons_succ])
      refine Xr.call 7 rfl (by decide +kernel) (by rfl) (fun w10 hE10 hK10 K hKK => ?_)
      refine wp_conv (BL.of_own (OwnS.ext hGB hE10) HU.out) _ rfl rfl HBS.out (some 63) rfl ?_
      refine hKK _ _ (Ext.rfl' _) ?_
      clear hKK
      (try simp only [Act.put, List.setIfInBounds_toArray, List.set_cons_zero, List.set_cons_succ])
      (refine Xr.take 8 (some 64) (v := ?_) rfl rfl (by decide +kernel) (by rfl) ?_ ?_; rotate_left; (focus (intro w' hk; go_simp; (try with_reducible rfl); done)); (try simp only [Act.put, List.setIfInBounds_toArray, List.set_cons_zero, List.set_cons_succ]))
      (refine Xr.take 9 (some 65) (v := ?_) rfl rfl (by decide +kernel) (by rfl) ?_ ?_; rotate_left; (focus (intro w' hk; go_simp; (try with_reducible rfl); done)); (try simp only [Act.put, List.setIfInBounds_toArray, List.set_cons_zero, List.set_cons_succ]))
      first | (refine Xr.take 10 (some 66) (v := ?_) rfl rfl (by decide +kernel) (by rfl) ?_ ?_; rotate_left; (focus (intro w' hk; go_simp; (try with_reducible rfl); done)); (try simp only [Act.put, List.setIfInBounds_toArray, List.set_cons_zero, List.set_cons_succ])) | (refine Xr.skip 10 (some 66) rfl rfl (by decide +kernel) (by rfl) ?_; (try simp only [Act.put, List.setIfInBounds_toArray, List.set_cons_zero, List.set_cons_succ]))
      first | (refine Xr.take 11 (some 67) (v := ?_) rfl rfl (by decide +kernel) (by rfl) ?_ ?_; rotate_left; (focus (intro w' hk; go_simp; (try with_reducible rfl); done)); (try simp only [Act.put, List.setIfInBounds_toArray, List.set_cons_zero, List.set_cons_succ])) | (refine Xr.skip 11 (some 67) rfl rfl (by decide +kernel) (by rfl) ?_; (try simp only [Act.put, List.setIfInBounds_toArray, List.set_cons_zero, List.set_cons_succ]))
      (refine Xr.take 12 (some 68) (v := ?_) rfl rfl (by decide +kernel) (by rfl) ?_ ?_; rotate_left; (focus (intro w' hk; go_simp; (try with_reducible rfl); done)); (try simp only [Act.put, List.setIfInBounds_toArray, List.set_cons_zero, List.set_cons_succ]))
      (refine Xr.take 13 (some 69) (v := ?_) rfl rfl (by decide +kernel) (by rfl) ?_ ?_; rotate_left; (focus (intro w' hk; go_simp; (try with_reducible rfl); done)); (try simp only [Act.put, List.setIfInBounds_toArray, List.set_cons_zero, List.set_cons_succ]))
      first | (refine Xr.take 14 (some 70) (v := ?_) rfl rfl (by decide +kernel) (by rfl) ?_ ?_; rotate_left; (focus (intro w' hk; go_simp; (try with_reducible rfl); done)); (try simp only [Act.put, List.setIfInBounds_toArray, List.set_cons_zero, List.set_cons_succ])) | (refine Xr.skip 14 (some 70) rfl rfl (by decide +kernel) (by rfl) ?_; (try simp only [Act.put, List.setIfInBounds_toArray, List.set_cons_zero, List.set_cons_succ]))
      first | (refine Xr.take 16 (some 72) (v := ?_) rfl rfl (by decide +kernel) (by rfl) ?_ ?_; rotate_left; (focus (intro w' hk; go_simp; (try with_reducible rfl); done)); (try simp only [Act.put, List.setIfInBounds_toArray, List.set_cons_zero, List.set_cons_succ])) | (refine Xr.skip 16 (some 72) rfl rfl (by decide +kernel) (by rfl) ?_; (try simp only [Act.put, List.setIfInBounds_toArray, List.set_cons_zero, List.set_cons_succ]))
      first | (refine Xr.take 17 (some 73) (v := ?_) rfl rfl (by decide +kernel) (by rfl) ?_ ?_; rotate_left; (focus (intro w' hk; go_simp; (try with_reducible rfl); done)); (try simp only [Act.put, List.setIfInBounds_toArray, List.set_cons_zero, List.set_cons_succ])) | (refine Xr.skip 17 (some 73) rfl rfl (by decide +kernel) (by rfl) ?_; (try simp only [Act.put, List.setIfInBounds_toArray, List.set_cons_zero, List.set_cons_succ]))
      first | (refine Xr.take 18 (some 74) (v := ?_) rfl rfl (by decide +kernel) (by rfl) ?_ ?_; rotate_left; (focus (intro w' hk; go_simp; (try with_reducible rfl); done)); (try simp only [Act.put, List.setIfInBounds_toArray, List.set_cons_zero, List.set_cons_succ])) | (refine Xr.skip 18 (some 74) rfl rfl (by decide +kernel) (by rfl) ?_; (try simp only [Act.put, List.setIfInBounds_toArray, List.set_cons_zero, List.set_cons_succ]))
      first | (refine Xr.take 19 (some 75) (v := ?_) rfl rfl (by decide +kernel) (by rfl) ?_ ?_; rotate_left; (focus (intro w' hk; go_simp; (try with_reducible rfl); done)); (try simp only [Act.put, List.setIfInBounds_toArray, List.set_cons_zero, List.set_cons_succ])) | (refine Xr.skip 19 (some 75) rfl rfl (by decide +kernel) (by rfl) ?_; (try simp only [Act.put, List.setIfInBounds_toArray, List.set_cons_zero, List.set_cons_succ]))
      first | (refine Xr.take 20 (some 76) (v := ?_) rfl rfl (by decide +kernel) (by rfl) ?_ ?_; rotate_left; (focus (intro w' hk; go_simp; (try with_reducible rfl); done)); (try simp only [Act.put, List.setIfInBounds_toArray, List.set_cons_zero, List.set_cons_succ])) | (refine Xr.skip 20 (some 76) rfl rfl (by decide +kernel) (by rfl) ?_; (try simp only [Act.put, List.setIfInBounds_toArray, List.set_cons_zero, List.set_cons_succ]))
      refine Xr.step 15 rfl (by decide +kernel) (by rfl) (fun w11 hE11 hK11 K hKK => ?_)
      go_simp
      refine (HRI w11 ((((hR7.ext hE8).ext x9).ext hE10).ext hE11)).out.mono ?_
      rintro e w12 ⟨rfl, hR12, hk12⟩
      refine hKK _ _ (hk12.mono (fun k hk => Or.inl (by simp [hk]))) (hK11.thenP hk12 (fun i hi => Or.inl (by simp [hi]))) ?_
      clear hKK
      (try simp only [Act.put, List.setIfInBounds_toArray, List.set_cons_zero, List.set_cons_succ])
      first | (refine Xr.take 21 (some 77) (v := ?_) rfl rfl (by decide +kernel) (by rfl) ?_ ?_; rotate_left; (focus (intro w' hk; go_simp; (try with_reducible rfl); done)); (try simp only [Act.put, List.setIfInBounds_toArray, List.set_cons_zero, List.set_cons_succ])) | (refine Xr.skip 21 (some 77) rfl rfl (by decide +kernel) (by rfl) ?_; (try simp only [Act.put, List.setIfInBounds_toArray, List.set_cons_zero, List.set_cons_succ]))
      (refine Xr.take 22 (some 78) (v := ?_) rfl rfl (by decide +kernel) (by rfl) ?_ ?_; rotate_left; (focus (intro w' hk; go_simp; (try with_reducible rfl); done)); (try simp only [Act.put, List.setIfInBounds_toArray, List.set_cons_zero, List.set_cons_succ]))
      refine Xr.done (by decide +kernel) (fun w13 hE13 hK13 => ?_)
      have x13 : Ext wr w13 := hK13.to_ext y24 (fun b hb => by
        have h2 : b = gr := by simpa using hb
        omega)
      have x613 : Ext w6 w13 := hK13.to_ext y4 (fun b hb => by
        have h2 : b = gr := by simpa using hb
        omega)
      have HS13 := hS.ext x613
      have g13 := x13.cell g0
      have HL13 := hsl.ext x13
      have HV := Lib.hid (gValid_any hA hc hl2 w13 HL13)
      have HQ := fun (W : World) (h1 : SL W S cS hl2) (h2 : SL W hA hc hl2) => Lib.hid (gEqual_any S hA cS hc hl2 hl2 W h1 h2)
      rw [decide_eq_true (rfl : hl2 = hl2)] at HQ
      clear k0 g7 hg9 hgb z2 z3 y24 HB7 HIR HRI hE8 hK8 hE10 hK10 hE11 hK11 hk12 hR12 hE13 hK13 x9 hGB hR7 y4 hS HBS HU HGE HBL y3
      by_cases hv : validE hl2 = 0
      · obtain ⟨rfl, rfl⟩ := HDR.out.1 hv
        rw [hv] at HV
        clear hv HDR
        go_wp2_with fail
        refine HV.out.mono ?_
        rintro e w14 ⟨rfl, x14⟩
        clear HV
        have g14 := x14.cell g13
        have HQ2 := HQ w14 (HS13.ext x14) (HL13.ext x14)
        clear g13 HS13 HL13 HQ
        go_wp2_with fail
        refine HQ2.out.mono ?_
        rintro e w15 ⟨rfl, x15⟩
        clear HQ2
        have xf := ((y1.trans x13).trans x14).trans x15
        go_wp2_with fail
        go_roundw
        case rel => exact ⟨i + 1, by go_num, by omega, xf⟩
        case measure => simp [intOf]; omega
      · obtain ⟨rfl, rfl⟩ := HDR.out.2 hv
        have hv2 : (validE hl2 == 0) = false := by rw [beq_eq_false_iff_ne]; exact hv
        generalize validE hl2 = vE at *
        clear hv HDR HQ
        go_wp2_with fail
        refine HV.out.mono ?_
        rintro e w14 ⟨rfl, x14⟩
        clear HV
        have xf := (y1.trans x13).trans x14
        clear g13 HS13 HL13
        go_wp2_with fail
        go_roundw
        case rel => exact ⟨i + 1, by go_num, by omega, xf⟩
        case measure => simp [intOf]; omega
    · have hiI : ¬ (i : Int) < 3 := by omega
      have hA1 := HS1.out.ext y1
      have HE := Lib.hid (gEncode_any A1 c1 l1 wr hA1 (by omega))
      have hel := encU_len hA1.rng (by omega) l1.length (Nat.le_refl _)
      have hep := encS_pos l1
      have heu : ∀ b ∈ encS l1, U8 b := encU_u8 _ _
      obtain ⟨eb, heb⟩ : ∃ eb, eb = encS l1 := ⟨_, rfl⟩
      have hebl : eb.length ≤ 220 := by rw [heb]; show (encU l1 l1.length).length ≤ _; omega
      rw [← heb] at HE hep heu
      have HEU := Lib.hid heu
      clear heu hel heb hA1
      clear hl1 HLL HLN HS1 hs1 HO1
      go_wp2_with fail
      refine HE.out.mono ?_
      rintro e w5 ⟨B0, cB, rfl, hB0, y2⟩
      clear HE
      have HOB := Lib.hid (BL.of_own hB0 HEU.out)
      have hcB := HOB.out.len
      have hab := around_bd at_ eb.length (by omega)
      have HAT := fun W' => Lib.hid (around_any at_ eb.length W' ha (by omega) (by omega))
      obtain ⟨j, hj⟩ : ∃ j : Nat, around at_ eb.length = (j : Int) := ⟨(around at_ eb.length).toNat, by omega⟩
      rw [hj] at HAT hab
      have hjl : j < eb.length := by omega
      have hjI : (j : Int) < eb.length := by omega
      have hj0 : (0 : Int) ≤ j := by omega
      clear hj hab hB0
      go_wp2_with fail
      refine (HAT _).out.mono ?_
      rintro e w6 hq
      obtain ⟨rfl, y3⟩ := hq.v
      clear hq HAT
      have hB6 := HOB.out.ext y3
      have HB6 := Lib.hid hB6
      have hc6 := HB6.out.cells
      have HC6 := Lib.hid hc6
      clear hB6 hc6 HOB
      go_upto_region 18 with fail
      go_upto_region 19 with ((at_builtin; refine wpList_appBZ rfl _ _ _ rfl Try.underlying53 w6 (Ext.alloc _ _) (some ⟨w6.heap.size, 0, none⟩) 0 [] rfl (ownB_lit0 w6) B0 cB eb rfl (HC6.out.ext (Ext.alloc _ _)) (by simp; omega) eb rfl ?_; intro T cT w7 hT y4))
      obtain ⟨gT, rfl, hgT, t0, t0f, tz, hst⟩ := OwnB.store hT hjl
      have HST := Lib.hid hst
      clear hT hst
      go_upto_region 20 with fail
      have hT2 := HST.out ch
      have hlT : (eb.set j ch).length = eb.length := List.length_set ..
      have huT : ∀ b ∈ eb.set j ch, U8 b := fun b hb => by
        rcases List.mem_or_eq_of_mem_set hb with hb | rfl
        · exact HEU.out b hb
        · exact hc
      have hkT : KpP (· = gT) w7 (w7.setCell ⟨gT, j, none⟩ (.int .u8 ch)) := KpP.set (p := (· = gT)) (KpP.refl _ _) (.inl rfl) _
      have hTB := Lib.hid (BL.of_own hT2 huT)
      have x78 : Ext w6 (w7.setCell ⟨gT, j, none⟩ (.int .u8 ch)) := y4.thenKp hkT (fun i hi => by omega)
      generalize w7.setCell ⟨gT, j, none⟩ (.int .u8 ch) = w8 at *
      clear hkT hT2 HST t0 t0f tz
      go_upto_region 21 with fail
      have HB8 := Lib.hid (HB6.out.ext x78)
      have hj1 : (j : Int) + 1 ≤ eb.length := by omega
      have hj2 : (0 : Int) ≤ (j : Int) + 1 := by omega
      have hj3 : ((j : Int) + 1).toNat = j + 1 := by omega
      have hj4 : (j : Int) ≤ cB := by omega
      have hj5 : (j : Int) + 1 ≤ cB := by omega
      have hjw : IntKind.i64.wrap ((j : Int) + 1) = (j : Int) + 1 := by rw [IntKind.wrap_i64]; omega
      have HTJ := Lib.hid (show (eb.take j).length = j by rw [List.length_take]; omega)
      have HDJ := Lib.hid (show (eb.drop (j + 1)).length = eb.length - (j + 1) by rw [List.length_drop])
      obtain ⟨lss, hlss⟩ : ∃ lss, lss = eb.take j ++ eb.drop (j + 1) := ⟨_, rfl⟩
      have HLS := Lib.hid hlss
      have hlsl : lss.length ≤ 220 := by rw [hlss, List.length_append, HTJ.out, HDJ.out]; omega
      have HLU := Lib.hid (show ∀ b ∈ lss, U8 b by
        rw [hlss]; intro b hb
        rcases List.mem_append.1 hb with hb | hb
        · exact HEU.out b (List.mem_of_mem_take hb)
        · exact HEU.out b (List.mem_of_mem_drop hb))
      clear hlss
      refine Xr.start [] (by kernel_rfl) ?_
      (refine Xr.take 0 (some 116) (v := ?_) rfl rfl (by decide +kernel) (by rfl) ?_ ?_; rotate_left; (focus (intro w' hk; go_simp; (try with_reducible rfl); done)); (try simp only [Act.put, List.setIfInBounds_toArray, List.set_cons_zero, List.set_cons_succ]))
      (refine Xr.take 1 (some 117) (v := ?_) rfl rfl (by decide +kernel) (by rfl) ?_ ?_; rotate_left; (focus (intro w' hk; go_simp; (try with_reducible rfl); done)); (try simp only [Act.put, List.setIfInBounds_toArray, List.set_cons_zero, List.set_cons_succ]))
      (refine Xr.take 2 (some 118) (v := ?_) rfl rfl (by decide +kernel) (by rfl) ?_ ?_; rotate_left; (focus (intro w' hk; go_simp; (try with_reducible rfl); done)); (try simp only [Act.put, List.setIfInBounds_toArray, List.set_cons_zero, List.set_cons_succ]))
      (refine Xr.take 3 (some 119) (v := ?_) rfl rfl (by decide +kernel) (by rfl) ?_ ?_; rotate_left; (focus (intro w' hk; go_simp; (try with_reducible rfl); done)); (try simp only [Act.put, List.setIfInBounds_toArray, List.set_cons_zero, List.set_cons_succ]))
      (refine Xr.take 5 (some 121) (v := ?_) rfl rfl (by decide +kernel) (by rfl) ?_ ?_; rotate_left; (focus (intro w' hk; go_simp; (try with_reducible rfl); done)); (try simp only [Act.put, List.setIfInBounds_toArray, List.set_cons_zero, List.set_cons_succ]))
      (refine Xr.take 6 (some 122) (v := ?_) rfl rfl (by decide +kernel) (by rfl) ?_ ?_; rotate_left; (focus (intro w' hk; go_simp; (try with_reducible rfl); done)); (try simp only [Act.put, List.setIfInBounds_toArray, List.set_cons_zero, List.set_cons_succ]))
      (refine Xr.take 7 (some 123) (v := ?_) rfl rfl (by decide +kernel) (by rfl) ?_ ?_; rotate_left; (focus (intro w' hk; go_simp; (try with_reducible rfl); done)); (try simp only [Act.put, List.setIfInBounds_toArray, List.set_cons_zero, List.set_cons_succ]))
      refine Xr.take 8 (some 124) (v := .slice (dropA B0 cB (j + 1)) (eb.length - (j + 1)) (cB - (j + 1))) rfl rfl (by decide +kernel) (by rfl) (fun w' hk => ?_) ?_
      · by_cases hcc : cB = j + 1
        · have hd : dropA B0 cB (j + 1) = B0 := by unfold dropA; rw [if_pos hcc]
          rw [hd]
          go_simp
        · have hd : dropA B0 cB (j + 1) = B0.map (fun x => x.add (j + 1)) := by unfold dropA; rw [if_neg hcc]
          rw [hd]
          go_simp
      (try simp only [Act.put, List.setIfInBounds_toArray, List.set_cons_zero, List.set_cons_succ])
      refine Xr.call 4 rfl (by decide +kernel) (by rfl) (fun w9 hE9 hK9 K hKK => ?_)
      refine wp_appB _ _ _ rfl Try.underlying53 w8.heap.size hE9.size none 0 [] rfl (OwnS.nil _ _ _ _) B0 cB (eb.take j) (by rw [HTJ.out]; rfl) ((HB8.out.ext hE9).take j).cells (by rw [HTJ.out]; simp only [List.length_nil]; omega) (eb.take j) rfl (some 120) rfl ?_
      intro A1' c1' w10 ho1 hg1 hat1
      have hE10 : Ext w9 w10 := (Ext.rfl' w9).grown hg1 (by simp)
      refine hKK _ _ hE10 ?_
      clear hKK
      (try simp only [Act.put, List.setIfInBounds_toArray, List.set_cons_zero, List.set_cons_succ])
      refine Xr.step 9 rfl (by decide +kernel) (by rfl) (fun w11 hE11 hK11 K hKK => ?_)
      have hB11 := ((HB8.out.ext hE9).ext hE10).ext hE11
      refine wp_appB _ _ _ rfl Try.underlying53 w8.heap.size hK11.size A1' c1' (eb.take j) rfl (OwnS.ext ho1 hE11) (dropA B0 cB (j + 1)) (cB - (j + 1)) (eb.drop (j + 1)) (by rw [HDJ.out]; rfl) (hB11.drop (by omega)).cells (by rw [HTJ.out, HDJ.out]; omega) lss HLS.out (some 125) rfl ?_
      intro A2' c2' w12 ho2 hg2 hat2
      refine hKK _ _ (WI_grown hg2 (fun b hb => .inr ⟨(w9.heap.size, w10.heap.size), by simp, ?_, (OwnS.blt ho1 hb).1⟩)) (hK11.grownL hg2 (fun b hb => .inr (OwnS.row ho1 b hb))) ?_
      · rcases hat1 with h | h
        · rw [h] at hb; simp at hb
        · rw [h] at hb; have : w9.heap.size = b := by simpa using hb
          simp only; omega
      clear hKK
      (try simp only [Act.put, List.setIfInBounds_toArray, List.set_cons_zero, List.set_cons_succ])
      (refine Xr.take 10 (some 23) (v := ?_) rfl rfl (by decide +kernel) (by rfl) ?_ ?_; rotate_left; (focus (intro w' hk; go_simp; (try with_reducible rfl); done)); (try simp only [Act.put, List.setIfInBounds_toArray, List.set_cons_zero, List.set_cons_succ]))
      refine Xr.done (by decide +kernel) (fun w13 hE13 hK13 => ?_)
      have x813 := hK13.nil
      have HB13 := Lib.hid (HB8.out.ext x813)
      have HT13 := Lib.hid (hTB.out.ext x813)
      have HL13 := Lib.hid (BL.of_own (OwnS.ext ho2 hE13) HLU.out)
      clear hE9 hK9 ho1 hg1 hat1 hE10 hE11 hK11 hB11 ho2 hg2 hat2 hE13 hK13 HB8 hTB HDJ HTJ HLS HLU hj1 hj2 hj3 hj4 hj5 hjw
      go_upto_region 22 with fail
      have Xw : Ext w w13 := (((X.trans y1).trans (y2.trans y3)).trans x78).trans x813
      have HR13 := Lib.hid (hR.ext Xw)
      obtain ⟨mm, hmm⟩ : ∃ mm : Nat, mm = min raw.length 60 := ⟨_, rfl⟩
      have hm1 : min (raw.length : Int) 60 = (mm : Int) := by omega
      have hm2 : (mm : Int) ≤ cR := by omega
      have HMT := Lib.hid (show (raw.take mm).length = mm by rw [List.length_take]; omega)
      have hm3 : mm ≤ 60 := by omega
      have HCH := Lib.hid (show (eb ++ [ch]).length = eb.length + 1 by simp)
      obtain ⟨ebc, hebc⟩ : ∃ ebc, ebc = eb ++ [ch] := ⟨_, rfl⟩
      have HEC := Lib.hid hebc
      have hecl : ebc.length ≤ 221 := by rw [hebc, HCH.out]; omega
      have HECU := Lib.hid (show ∀ b ∈ ebc, U8 b by
        rw [hebc]; intro b hb
        rcases List.mem_append.1 hb with hb | hb
        · exact HEU.out b hb
        · have : b = ch := by simpa using hb
          subst this; exact hc)
      clear hmm hebc HCH
      refine Xr.start [] (by kernel_rfl) ?_
      (refine Xr.take 0 (some 126) (v := ?_) rfl rfl (by decide +kernel) (by rfl) ?_ ?_; rotate_left; (focus (intro w' hk; go_simp; (try with_reducible rfl); done)); (try simp only [Act.put, List.setIfInBounds_toArray, List.set_cons_zero, List.set_cons_succ]))
      (refine Xr.take 1 (some 127) (v := ?_) rfl rfl (by decide +kernel) (by rfl) ?_ ?_; rotate_left; (focus (intro w' hk; go_simp; (try with_reducible rfl); done)); (try simp only [Act.put, List.setIfInBounds_toArray, List.set_cons_zero, List.set_cons_succ]))
      (refine Xr.take 2 (some 128) (v := ?_) rfl rfl (by decide +kernel) (by rfl) ?_ ?_; rotate_left; (focus (intro w' hk; go_simp; (try with_reducible rfl); done)); (try simp only [Act.put, List.setIfInBounds_toArray, List.set_cons_zero, List.set_cons_succ]))
      (refine Xr.take 3 (some 129) (v := ?_) rfl rfl (by decide +kernel) (by rfl) ?_ ?_; rotate_left; (focus (intro w' hk; go_simp; (try with_reducible rfl); done)); (try simp only [Act.put, List.setIfInBounds_toArray, List.set_cons_zero, List.set_cons_succ]))
      (refine Xr.take 4 (some 130) (v := ?_) rfl rfl (by decide +kernel) (by rfl) ?_ ?_; rotate_left; (focus (intro w' hk; go_simp; (try with_reducible rfl); done)); (try simp only [Act.put, List.setIfInBounds_toArray, List.set_cons_zero, List.set_cons_succ]))
      (refine Xr.take 5 (some 131) (v := ?_) rfl rfl (by decide +kernel) (by rfl) ?_ ?_; rotate_left; (focus (intro w' hk; go_simp; (try with_reducible rfl); done)); (try simp only [Act.put, List.setIfInBounds_toArray, List.set_cons_zero, List.set_cons_succ]))
      (refine Xr.take 6 (some 132) (v := ?_) rfl rfl (by decide +kernel) (by rfl) ?_ ?_; rotate_left; (focus (intro w' hk; go_simp; (try with_reducible rfl); done)); (try simp only [Act.put, List.setIfInBounds_toArray, List.set_cons_zero, List.set_cons_succ]))
      (refine Xr.take 8 (some 134) (v := ?_) rfl rfl (by decide +kernel) (by rfl) ?_ ?_; rotate_left; (focus (intro w' hk; go_simp; (try with_reducible rfl); done)); (try simp only [Act.put, List.setIfInBounds_toArray, List.set_cons_zero, List.set_cons_succ]))
      (refine Xr.take 10 (some 136) (v := ?_) rfl rfl (by decide +kernel) (by rfl) ?_ ?_; rotate_left; (focus (intro w' hk; go_simp; (try with_reducible rfl); done)); (try simp only [Act.put, List.setIfInBounds_toArray, List.set_cons_zero, List.set_cons_succ]))
      refine Xr.lazy 11 137 12 (fun g => .slice (some ⟨g, 0, none⟩) 1 1) 5 #[.int .u8 ch] rfl (by simp) (by decide +kernel) (by simp) (fun w' => by go_simp) ?_
      refine Xr.lazy 7 133 9 (fun g => .slice (some ⟨g, 0, none⟩) 0 0) 5 #[] rfl (by simp) (by decide +kernel) (by simp) (fun w' => by go_simp) ?_
      refine Xr.stepZ rfl (by decide +kernel) (fun _ => by rfl) (fun w14 gq hE14 hK14 hgq hq hno K hKK => ?_)
      refine wp_appB _ _ _ rfl Try.underlying53 w13.heap.size hK14.size (some ⟨gq, 0, none⟩) 0 [] rfl (ownB_blk0 hq hgq) B0 cB eb rfl (HB13.out.ext hE14).cells (by simp only [List.length_nil]; omega) eb rfl (some 135) rfl ?_
      intro A3 c3 w15 ho3 hg3 hat3
      have hqlt := hq.lt
      refine hKK _ _ (WI_grown hg3 (fun b hb => .inr ?_)) (hK14.grownL hg3 (fun b hb => .inr ?_)) ?_
      · have : gq = b := by simpa using hb
        exact ⟨(gq, gq + 1), by simp, by simp only; omega, by simp only; omega⟩
      · have : gq = b := by simpa using hb
        omega
      clear hKK
      (try simp only [Act.put, List.setIfInBounds_toArray, List.set_cons_zero, List.set_cons_succ])
      refine Xr.stepZ rfl (by decide +kernel) (fun _ => by rfl) (fun w16 g1 hE16 hK16 hg1 h1 hno1 K hKK => ?_)
      refine wp_appB _ _ _ rfl Try.underlying53 w13.heap.size hK16.size A3 c3 eb rfl (OwnS.ext ho3 hE16) (some ⟨g1, 0, none⟩) 1 [ch] rfl (cells_one h1) (by simp only [List.length_cons, List.length_nil]; omega) ebc HEC.out (some 138) rfl ?_
      intro A4 c4 w17 ho4 hg4 hat4
      have hz3 := hg3.size
      have hz4 := hg4.size
      have hz16 := hE16.size
      have h1lt := h1.lt
      refine hKK _ _ (WI_grown hg4 (fun b hb => .inr ?_)) (hK16.grownL hg4 (fun b hb => .inr (OwnS.row ho3 b hb))) ?_
      · have hb2 := (OwnS.blt ho3 hb).1
        rcases hat3 with h | h
        · rw [h] at hb; have : gq = b := by simpa using hb
          exact ⟨(gq, gq + 1), by simp, by simp only; omega, by simp only; omega⟩
        · rw [h] at hb; have : w14.heap.size = b := by simpa using hb
          exact ⟨(w14.heap.size, w15.heap.size), by simp, by simp only; omega, by simp only; omega⟩
      clear hKK
      (try simp only [Act.put, List.setIfInBounds_toArray, List.set_cons_zero, List.set_cons_succ])
      refine Xr.lazy 13 139 14 (fun g => .slice (some ⟨g, 0, none⟩) 4 4) 53 #[.slice R mm cR, .slice (some ⟨gT, 0, none⟩) eb.length cT, .slice A2' lss.length c2', .slice A4 ebc.length c4] rfl (by simp) (by decide +kernel) (by simp; omega) (fun w' => by go_simp) ?_
      refine Xr.stepZ rfl (by decide +kernel) (fun _ => by rfl) (fun w18 gL hE18 hK18 hgL hL _ K hKK => ?_)
      go_simp
      refine hKK _ _ (WI_refl _ _ _) hK18 ?_
      clear hKK
      (try simp only [Act.put, List.setIfInBounds_toArray, List.set_cons_zero, List.set_cons_succ])
      refine Xr.done (by decide +kernel) (fun w20 hE20 hK20 => ?_)
      have hL20 := hL.ext hE20
      have x20 := hK20.nil
      have H4 : ∀ k, k < 4 → ∃ (A' : Option Addr) (c' : Nat) (l : List Int), w20.cell? ⟨gL, k, none⟩ = some (.slice A' l.length c') ∧ BL w20 A' c' l ∧ l.length ≤ 300 := by
        intro k hk
        match k, hk with
        | 0, _ => exact ⟨R, cR, raw.take mm, by rw [hL20.cell, HMT.out]; rfl, (HR13.out.take mm).ext x20, by rw [HMT.out]; omega⟩
        | 1, _ => exact ⟨_, cT, eb.set j ch, by rw [hL20.cell, hlT]; rfl, HT13.out.ext x20, by rw [hlT]; omega⟩
        | 2, _ => exact ⟨A2', c2', lss, by rw [hL20.cell]; rfl, HL13.out.ext x20, by omega⟩
        | 3, _ => exact ⟨A4, c4, ebc, by rw [hL20.cell]; rfl, ((BL.of_own ho4 HECU.out).ext hE18).ext hE20, by omega⟩
      have H4H := Lib.hid H4
      have X20 := Xw.trans x20
      clear hE14 hK14 hgq hq hno ho3 hg3 hat3 hqlt hE16 hK16 hg1 h1 hno1 ho4 hg4 hat4 hz3 hz4 hz16 h1lt hE18 hK18 hgL hL hE20 hK20 hL20 H4 HB13 HT13 HL13 HR13 HMT HEC HECU hm1 hm2 hm3 hecl hlsl hlT huT hgT HEU HB6 HC6 hcB hjl hjI hj0 hep hebl x20 Xw x813 x78 y4 y3 y2
      go_wp2_with fail
      go_loopw [25] (fun v wr2 => ∃ k : Nat, v = .int .i64 k ∧ k ≤ 4 ∧ Ext w20 wr2) (fun v _ => 4 - (intOf v).toNat)
      case atStart => exact ⟨0, rfl, by omega, Ext.rfl' _⟩
      case round =>
        obtain ⟨k, rfl, hk, hz⟩ := hrel
        by_cases hk4 : k < 4
        · have hkI : (k : Int) < 4 := by omega
          have hkI0 : (0 : Int) ≤ k := by omega
          obtain ⟨A', c', l', hcl, hbl, hll⟩ := H4H.out k hk4
          replace hcl := hz.cell hcl
          replace hbl := hbl.ext hz
          have HD2 := Lib.hid (sDecode_any A' c' l' wr hbl (by omega))
          go_wp2_with fail
          refine HD2.out.mono ?_
          rintro e q1 ⟨S, cS, o, er, rfl, hdr, hS, d1⟩
          clear HD2
          have hcl1 := d1.cell hcl
          have hbl1 := hbl.ext d1
          have xq := hz.trans d1
          have hor := dec_any hbl.rng hdr
          clear hdr hcl
          go_upto_region 27 with fail
          have kc := fun (w' : World) (h : Kp [] q1 w') => h.cell hcl1 (by simp)
          rcases hor with ⟨rfl, hvo, heo⟩ | ⟨rfl, rfl⟩
          · have hol := validE_zero2 hvo
            have HV := fun (W : World) (h : SL W S cS o) => Lib.hid (gValid_any S cS o W h)
            rw [hvo] at HV
            have HG := fun (W : World) (h : SL W S cS o) => Lib.hid (gEncode_any S cS o W h (by omega))
            rw [heo] at HG
            have HBU := Lib.hid hbl1.rng
            obtain ⟨bS, hbS⟩ : ∃ bS, bS = strOfNums l' := ⟨_, rfl⟩
            have HBS := Lib.hid hbS
            clear hbS hvo heo
            refine Xr.start [] (by kernel_rfl) ?_
            (refine Xr.take 0 (some 152) (v := ?_) rfl rfl (by decide +kernel) (by rfl) ?_ ?_; rotate_left; (focus (intro w' hk; go_simp; (try with_reducible rfl); done)); (try simp only [Act.put, List.setIfInBounds_toArray, List.set_cons_zero, List.set_cons_succ]))
            (refine Xr.take 1 (some 153) (v := ?_) rfl rfl (by decide +kernel) (by rfl) ?_ ?_; rotate_left; (focus (intro w' hk; go_simp; (try with_reducible rfl); done)); (try simp only [Act.put, List.setIfInBounds_toArray, List.set_cons_zero, List.set_cons_succ]))
            (refine Xr.take 2 (some 154) (v := ?_) rfl rfl (by decide +kernel) (by rfl) ?_ ?_; rotate_left; (focus (intro w' hk; go_simp; (try with_reducible rfl); done)); (try simp only [Act.put, List.setIfInBounds_toArray, List.set_cons_zero, List.set_cons_succ]))
            first | (refine Xr.take 3 (some 155) (v := ?_) rfl rfl (by decide +kernel) (by rfl) ?_ ?_; rotate_left; (focus (intro w' hk; go_simp; (try with_reducible rfl); done)); (try simp only [Act.put, List.setIfInBounds_toArray, List.set_cons_zero, List.set_cons_succ])) | (refine Xr.skip 3 (some 155) rfl rfl (by decide +kernel) (by rfl) ?_; (try simp only [Act.put, List.setIfInBounds_toArray, List.set_cons_zero, List.set_cons_succ]))
            refine Xr.call 4 rfl (by decide +kernel) (by rfl) (fun q2 hE2 hK2 K hKK => ?_)
            go_simp
            refine (HV _ (hS.ext hE2)).out.mono ?_
            rintro e q3 ⟨rfl, e3⟩
            refine hKK _ _ e3 ?_
            clear hKK
            (try simp only [Act.put, List.setIfInBounds_toArray, List.set_cons_zero, List.set_cons_succ])
            first | (refine Xr.take 5 (some 157) (v := ?_) rfl rfl (by decide +kernel) (by rfl) ?_ ?_; rotate_left; (focus (intro w' hk; go_simp; (try with_reducible rfl); done)); (try simp only [Act.put, List.setIfInBounds_toArray, List.set_cons_zero, List.set_cons_succ])) | (refine Xr.skip 5 (some 157) rfl rfl (by decide +kernel) (by rfl) ?_; (try simp only [Act.put, List.setIfInBounds_toArray, List.set_cons_zero, List.set_cons_succ]))
            first | (refine Xr.take 6 (some 158) (v := ?_) rfl rfl (by decide +kernel) (by rfl) ?_ ?_; rotate_left; (focus (intro w' hk; go_simp; (try with_reducible rfl); done)); (try simp only [Act.put, List.setIfInBounds_toArray, List.set_cons_zero, List.set_cons_succ])) | (refine Xr.skip 6 (some 158) rfl rfl (by decide +kernel) (by rfl) ?_; (try simp only [Act.put, List.setIfInBounds_toArray, List.set_cons_zero, List.set_cons_succ]))
            first | (refine Xr.take 7 (some 159) (v := ?_) rfl rfl (by decide +kernel) (by rfl) ?_ ?_; rotate_left; (focus (intro w' hk; go_simp; (try with_reducible rfl); done)); (try simp only [Act.put, List.setIfInBounds_toArray, List.set_cons_zero, List.set_cons_succ])) | (refine Xr.skip 7 (some 159) rfl rfl (by decide +kernel) (by rfl) ?_; (try simp only [Act.put, List.setIfInBounds_toArray, List.set_cons_zero, List.set_cons_succ]))
            first | (refine Xr.take 10 (some 162) (v := ?_) rfl rfl (by decide +kernel) (by rfl) ?_ ?_; rotate_left; (focus (intro w' hk; go_simp; (try with_reducible rfl); done)); (try simp only [Act.put, List.setIfInBounds_toArray, List.set_cons_zero, List.set_cons_succ])) | (refine Xr.skip 10 (some 162) rfl rfl (by decide +kernel) (by rfl) ?_; (try simp only [Act.put, List.setIfInBounds_toArray, List.set_cons_zero, List.set_cons_succ]))
            first | (refine Xr.take 11 (some 163) (v := ?_) rfl rfl (by decide +kernel) (by rfl) ?_ ?_; rotate_left; (focus (intro w' hk; go_simp; (try with_reducible rfl); done)); (try simp only [Act.put, List.setIfInBounds_toArray, List.set_cons_zero, List.set_cons_succ])) | (refine Xr.skip 11 (some 163) rfl rfl (by decide +kernel) (by rfl) ?_; (try simp only [Act.put, List.setIfInBounds_toArray, List.set_cons_zero, List.set_cons_succ]))
            first | (refine Xr.take 12 (some 164) (v := ?_) rfl rfl (by decide +kernel) (by rfl) ?_ ?_; rotate_left; (focus (intro w' hk; go_simp; (try with_reducible rfl); done)); (try simp only [Act.put, List.setIfInBounds_toArray, List.set_cons_zero, List.set_cons_succ])) | (refine Xr.skip 12 (some 164) rfl rfl (by decide +kernel) (by rfl) ?_; (try simp only [Act.put, List.setIfInBounds_toArray, List.set_cons_zero, List.set_cons_succ]))
            first | (refine Xr.take 13 (some 165) (v := ?_) rfl rfl (by decide +kernel) (by rfl) ?_ ?_; rotate_left; (focus (intro w' hk; go_simp; (try with_reducible rfl); done)); (try simp only [Act.put, List.setIfInBounds_toArray, List.set_cons_zero, List.set_cons_succ])) | (refine Xr.skip 13 (some 165) rfl rfl (by decide +kernel) (by rfl) ?_; (try simp only [Act.put, List.setIfInBounds_toArray, List.set_cons_zero, List.set_cons_succ]))
            refine Xr.take 14 (some 166) (v := .string bS) rfl rfl (by decide +kernel) (by rfl) (fun w' hk => exec_conv (hbl1.ext hk.nil) _ rfl rfl HBS.out) ?_
            (try simp only [Act.put, List.setIfInBounds_toArray, List.set_cons_zero, List.set_cons_succ])
            refine Xr.call 8 rfl (by decide +kernel) (by rfl) (fun q4 hE4 hK4 K hKK => ?_)
            go_simp
            refine (HG _ (((hS.ext hE2).ext e3).ext hE4)).out.mono ?_
            rintro e q5 ⟨GB, gc, rfl, hGB, e5⟩
            refine hKK _ _ e5 ?_
            clear hKK
            (try simp only [Act.put, List.setIfInBounds_toArray, List.set_cons_zero, List.set_cons_succ])
            refine Xr.call 9 rfl (by decide +kernel) (by rfl) (fun q6 hE6 hK6 K hKK => ?_)
            refine wp_conv (BL.of_own (OwnS.ext hGB hE6) HBU.out) _ rfl rfl HBS.out (some 161) rfl ?_
            refine hKK _ _ (Ext.rfl' _) ?_
            clear hKK
            (try simp only [Act.put, List.setIfInBounds_toArray, List.set_cons_zero, List.set_cons_succ])
            first | (refine Xr.take 15 (some 167) (v := ?_) rfl rfl (by decide +kernel) (by rfl) ?_ ?_; rotate_left; (focus (intro w' hk; go_simp; (try with_reducible rfl); done)); (try simp only [Act.put, List.setIfInBounds_toArray, List.set_cons_zero, List.set_cons_succ])) | (refine Xr.skip 15 (some 167) rfl rfl (by decide +kernel) (by rfl) ?_; (try simp only [Act.put, List.setIfInBounds_toArray, List.set_cons_zero, List.set_cons_succ]))
            first | (refine Xr.take 16 (some 168) (v := ?_) rfl rfl (by decide +kernel) (by rfl) ?_ ?_; rotate_left; (focus (intro w' hk; go_simp; (try with_reducible rfl); done)); (try simp only [Act.put, List.setIfInBounds_toArray, List.set_cons_zero, List.set_cons_succ])) | (refine Xr.skip 16 (some 168) rfl rfl (by decide +kernel) (by rfl) ?_; (try simp only [Act.put, List.setIfInBounds_toArray, List.set_cons_zero, List.set_cons_succ]))
            (refine Xr.take 17 (some 169) (v := ?_) rfl rfl (by decide +kernel) (by rfl) ?_ ?_; rotate_left; (focus (intro w' hk; go_simp; (try with_reducible rfl); done)); (try simp only [Act.put, List.setIfInBounds_toArray, List.set_cons_zero, List.set_cons_succ]))
            (refine Xr.take 18 (some 170) (v := ?_) rfl rfl (by decide +kernel) (by rfl) ?_ ?_; rotate_left; (focus (intro w' hk; go_simp; (try with_reducible rfl); done)); (try simp only [Act.put, List.setIfInBounds_toArray, List.set_cons_zero, List.set_cons_succ]))
            first | (refine Xr.take 19 (some 171) (v := ?_) rfl rfl (by decide +kernel) (by rfl) ?_ ?_; rotate_left; (focus (intro w' hk; go_simp; (try with_reducible rfl); done)); (try simp only [Act.put, List.setIfInBounds_toArray, List.set_cons_zero, List.set_cons_succ])) | (refine Xr.skip 19 (some 171) rfl rfl (by decide +kernel) (by rfl) ?_; (try simp only [Act.put, List.setIfInBounds_toArray, List.set_cons_zero, List.set_cons_succ]))
            first | (refine Xr.take 20 (some 172) (v := ?_) rfl rfl (by decide +kernel) (by rfl) ?_ ?_; rotate_left; (focus (intro w' hk; go_simp; (try with_reducible rfl); done)); (try simp only [Act.put, List.setIfInBounds_toArray, List.set_cons_zero, List.set_cons_succ])) | (refine Xr.skip 20 (some 172) rfl rfl (by decide +kernel) (by rfl) ?_; (try simp only [Act.put, List.setIfInBounds_toArray, List.set_cons_zero, List.set_cons_succ]))
            first | (refine Xr.take 21 (some 173) (v := ?_) rfl rfl (by decide +kernel) (by rfl) ?_ ?_; rotate_left; (focus (intro w' hk; go_simp; (try with_reducible rfl); done)); (try simp only [Act.put, List.setIfInBounds_toArray, List.set_cons_zero, List.set_cons_succ])) | (refine Xr.skip 21 (some 173) rfl rfl (by decide +kernel) (by rfl) ?_; (try simp only [Act.put, List.setIfInBounds_toArray, List.set_cons_zero, List.set_cons_succ]))
            first | (refine Xr.take 22 (some 174) (v := ?_) rfl rfl (by decide +kernel) (by rfl) ?_ ?_; rotate_left; (focus (intro w' hk; go_simp; (try with_reducible rfl); done)); (try simp only [Act.put, List.setIfInBounds_toArray, List.set_cons_zero, List.set_cons_succ])) | (refine Xr.skip 22 (some 174) rfl rfl (by decide +kernel) (by rfl) ?_; (try simp only [Act.put, List.setIfInBounds_toArray, List.set_cons_zero, List.set_cons_succ]))
            first | (refine Xr.take 23 (some 175) (v := ?_) rfl rfl (by decide +kernel) (by rfl) ?_ ?_; rotate_left; (focus (intro w' hk; go_simp; (try with_reducible rfl); done)); (try simp only [Act.put, List.setIfInBounds_toArray, List.set_cons_zero, List.set_cons_succ])) | (refine Xr.skip 23 (some 175) rfl rfl (by decide +kernel) (by rfl) ?_; (try simp only [Act.put, List.setIfInBounds_toArray, List.set_cons_zero, List.set_cons_succ]))
            first | (refine Xr.take 24 (some 176) (v := ?_) rfl rfl (by decide +kernel) (by rfl) ?_ ?_; rotate_left; (focus (intro w' hk; go_simp; (try with_reducible rfl); done)); (try simp only [Act.put, List.setIfInBounds_toArray, List.set_cons_zero, List.set_cons_succ])) | (refine Xr.skip 24 (some 176) rfl rfl (by decide +kernel) (by rfl) ?_; (try simp only [Act.put, List.setIfInBounds_toArray, List.set_cons_zero, List.set_cons_succ]))
            first | (refine Xr.take 25 (some 177) (v := ?_) rfl rfl (by decide +kernel) (by rfl) ?_ ?_; rotate_left; (focus (intro w' hk; go_simp; (try with_reducible rfl); done)); (try simp only [Act.put, List.setIfInBounds_toArray, List.set_cons_zero, List.set_cons_succ])) | (refine Xr.skip 25 (some 177) rfl rfl (by decide +kernel) (by rfl) ?_; (try simp only [Act.put, List.setIfInBounds_toArray, List.set_cons_zero, List.set_cons_succ]))
            first | (refine Xr.take 26 (some 178) (v := ?_) rfl rfl (by decide +kernel) (by rfl) ?_ ?_; rotate_left; (focus (intro w' hk; go_simp; (try with_reducible rfl); done)); (try simp only [Act.put, List.setIfInBounds_toArray, List.set_cons_zero, List.set_cons_succ])) | (refine Xr.skip 26 (some 178) rfl rfl (by decide +kernel) (by rfl) ?_; (try simp only [Act.put, List.setIfInBounds_toArray, List.set_cons_zero, List.set_cons_succ]))
            first | (refine Xr.take 27 (some 179) (v := ?_) rfl rfl (by decide +kernel) (by rfl) ?_ ?_; rotate_left; (focus (intro w' hk; go_simp; (try with_reducible rfl); done)); (try simp only [Act.put, List.setIfInBounds_toArray, List.set_cons_zero, List.set_cons_succ])) | (refine Xr.skip 27 (some 179) rfl rfl (by decide +kernel) (by rfl) ?_; (try simp only [Act.put, List.setIfInBounds_toArray, List.set_cons_zero, List.set_cons_succ]))
            first | (refine Xr.take 28 (some 180) (v := ?_) rfl rfl (by decide +kernel) (by rfl) ?_ ?_; rotate_left; (focus (intro w' hk; go_simp; (try with_reducible rfl); done)); (try simp only [Act.put, List.setIfInBounds_toArray, List.set_cons_zero, List.set_cons_succ])) | (refine Xr.skip 28 (some 180) rfl rfl (by decide +kernel) (by rfl) ?_; (try simp only [Act.put, List.setIfInBounds_toArray, List.set_cons_zero, List.set_cons_succ]))
            first | (refine Xr.take 29 (some 181) (v := ?_) rfl rfl (by decide +kernel) (by rfl) ?_ ?_; rotate_left; (focus (intro w' hk; go_simp; (try with_reducible rfl); done)); (try simp only [Act.put, List.setIfInBounds_toArray, List.set_cons_zero, List.set_cons_succ])) | (refine Xr.skip 29 (some 181) rfl rfl (by decide +kernel) (by rfl) ?_; (try simp only [Act.put, List.setIfInBounds_toArray, List.set_cons_zero, List.set_cons_succ]))
            (refine Xr.take 30 (some 182) (v := ?_) rfl rfl (by decide +kernel) (by rfl) ?_ ?_; rotate_left; (focus (intro w' hk; go_simp; (try with_reducible rfl); done)); (try simp only [Act.put, List.setIfInBounds_toArray, List.set_cons_zero, List.set_cons_succ]))
            refine Xr.done (by decide +kernel) (fun q7 hE7 hK7 => ?_)
            have xf := xq.trans hK7.nil
            clear kc
            go_wp2_with fail
            go_roundw
            case rel => exact ⟨k + 1, by go_num, by omega, xf⟩
            case measure => simp [intOf]; omega
          · refine Xr.start [] (by kernel_rfl) ?_
            (refine Xr.take 0 (some 152) (v := ?_) rfl rfl (by decide +kernel) (by rfl) ?_ ?_; rotate_left; (focus (intro w' hk; go_simp; (try with_reducible rfl); done)); (try simp only [Act.put, List.setIfInBounds_toArray, List.set_cons_zero, List.set_cons_succ]))
            (refine Xr.take 1 (some 153) (v := ?_) rfl rfl (by decide +kernel) (by rfl) ?_ ?_; rotate_left; (focus (intro w' hk; go_simp; (try with_reducible rfl); done)); (try simp only [Act.put, List.setIfInBounds_toArray, List.set_cons_zero, List.set_cons_succ]))
            (refine Xr.take 2 (some 154) (v := ?_) rfl rfl (by decide +kernel) (by rfl) ?_ ?_; rotate_left; (focus (intro w' hk; go_simp; (try with_reducible rfl); done)); (try simp only [Act.put, List.setIfInBounds_toArray, List.set_cons_zero, List.set_cons_succ]))
            first | (refine Xr.take 3 (some 155) (v := ?_) rfl rfl (by decide +kernel) (by rfl) ?_ ?_; rotate_left; (focus (intro w' hk; go_simp; (try with_reducible rfl); done)); (try simp only [Act.put, List.setIfInBounds_toArray, List.set_cons_zero, List.set_cons_succ])) | (refine Xr.skip 3 (some 155) rfl rfl (by decide +kernel) (by rfl) ?_; (try simp only [Act.put, List.setIfInBounds_toArray, List.set_cons_zero, List.set_cons_succ]))
            try (refine Xr.skip 4 (some 156) rfl rfl (by decide +kernel) (by rfl) ?_; (try simp only [Act.put, List.setIfInBounds_toArray, List.set_cons_zero, List.set_cons_succ]))
            first | (refine Xr.take 5 (some 157) (v := ?_) rfl rfl (by decide +kernel) (by rfl) ?_ ?_; rotate_left; (focus (intro w' hk; go_simp; (try with_reducible rfl); done)); (try simp only [Act.put, List.setIfInBounds_toArray, List.set_cons_zero, List.set_cons_succ])) | (refine Xr.skip 5 (some 157) rfl rfl (by decide +kernel) (by rfl) ?_; (try simp only [Act.put, List.setIfInBounds_toArray, List.set_cons_zero, List.set_cons_succ]))
            first | (refine Xr.take 6 (some 158) (v := ?_) rfl rfl (by decide +kernel) (by rfl) ?_ ?_; rotate_left; (focus (intro w' hk; go_simp; (try with_reducible rfl); done)); (try simp only [Act.put, List.setIfInBounds_toArray, List.set_cons_zero, List.set_cons_succ])) | (refine Xr.skip 6 (some 158) rfl rfl (by decide +kernel) (by rfl) ?_; (try simp only [Act.put, List.setIfInBounds_toArray, List.set_cons_zero, List.set_cons_succ]))
            first | (refine Xr.take 7 (some 159) (v := ?_) rfl rfl (by decide +kernel) (by rfl) ?_ ?_; rotate_left; (focus (intro w' hk; go_simp; (try with_reducible rfl); done)); (try simp only [Act.put, List.setIfInBounds_toArray, List.set_cons_zero, List.set_cons_succ])) | (refine Xr.skip 7 (some 159) rfl rfl (by decide +kernel) (by rfl) ?_; (try simp only [Act.put, List.setIfInBounds_toArray, List.set_cons_zero, List.set_cons_succ]))
            try (refine Xr.skip 8 (some 160) rfl rfl (by decide +kernel) (by rfl) ?_; (try simp only [Act.put, List.setIfInBounds_toArray, List.set_cons_zero, List.set_cons_succ]))
            first | (refine Xr.take 9 (some 161) (v := ?_) rfl rfl (by decide +kernel) (by rfl) ?_ ?_; rotate_left; (focus (intro w' hk; go_simp; (try with_reducible rfl); done)); (try simp only [Act.put, List.setIfInBounds_toArray, List.set_cons_zero, List.set_cons_succ])) | (refine Xr.skip 9 (some 161) rfl rfl (by decide +kernel) (by rfl) ?_; (try simp only [Act.put, List.setIfInBounds_toArray, List.set_cons_zero, List.set_cons_succ]))
            first | (refine Xr.take 10 (some 162) (v := ?_) rfl rfl (by decide +kernel) (by rfl) ?_ ?_; rotate_left; (focus (intro w' hk; go_simp; (try with_reducible rfl); done)); (try simp only [Act.put, List.setIfInBounds_toArray, List.set_cons_zero, List.set_cons_succ])) | (refine Xr.skip 10 (some 162) rfl rfl (by decide +kernel) (by rfl) ?_; (try simp only [Act.put, List.setIfInBounds_toArray, List.set_cons_zero, List.set_cons_succ]))
            first | (refine Xr.take 11 (some 163) (v := ?_) rfl rfl (by decide +kernel) (by rfl) ?_ ?_; rotate_left; (focus (intro w' hk; go_simp; (try with_reducible rfl); done)); (try simp only [Act.put, List.setIfInBounds_toArray, List.set_cons_zero, List.set_cons_succ])) | (refine Xr.skip 11 (some 163) rfl rfl (by decide +kernel) (by rfl) ?_; (try simp only [Act.put, List.setIfInBounds_toArray, List.set_cons_zero, List.set_cons_succ]))
            first | (refine Xr.take 12 (some 164) (v := ?_) rfl rfl (by decide +kernel) (by rfl) ?_ ?_; rotate_left; (focus (intro w' hk; go_simp; (try with_reducible rfl); done)); (try simp only [Act.put, List.setIfInBounds_toArray, List.set_cons_zero, List.set_cons_succ])) | (refine Xr.skip 12 (some 164) rfl rfl (by decide +kernel) (by rfl) ?_; (try simp only [Act.put, List.setIfInBounds_toArray, List.set_cons_zero, List.set_cons_succ]))
            first | (refine Xr.take 13 (some 165) (v := ?_) rfl rfl (by decide +kernel) (by rfl) ?_ ?_; rotate_left; (focus (intro w' hk; go_simp; (try with_reducible rfl); done)); (try simp only [Act.put, List.setIfInBounds_toArray, List.set_cons_zero, List.set_cons_succ])) | (refine Xr.skip 13 (some 165) rfl rfl (by decide +kernel) (by rfl) ?_; (try simp only [Act.put, List.setIfInBounds_toArray, List.set_cons_zero, List.set_cons_succ]))
            first | (refine Xr.take 14 (some 166) (v := ?_) rfl rfl (by decide +kernel) (by rfl) ?_ ?_; rotate_left; (focus (intro w' hk; go_simp; (try with_reducible rfl); done)); (try simp only [Act.put, List.setIfInBounds_toArray, List.set_cons_zero, List.set_cons_succ])) | (refine Xr.skip 14 (some 166) rfl rfl (by decide +kernel) (by rfl) ?_; (try simp only [Act.put, List.setIfInBounds_toArray, List.set_cons_zero, List.set_cons_succ]))
            first | (refine Xr.take 15 (some 167) (v := ?_) rfl rfl (by decide +kernel) (by rfl) ?_ ?_; rotate_left; (focus (intro w' hk; go_simp; (try with_reducible rfl); done)); (try simp only [Act.put, List.setIfInBounds_toArray, List.set_cons_zero, List.set_cons_succ])) | (refine Xr.skip 15 (some 167) rfl rfl (by decide +kernel) (by rfl) ?_; (try simp only [Act.put, List.setIfInBounds_toArray, List.set_cons_zero, List.set_cons_succ]))
            first | (refine Xr.take 16 (some 168) (v := ?_) rfl rfl (by decide +kernel) (by rfl) ?_ ?_; rotate_left; (focus (intro w' hk; go_simp; (try with_reducible rfl); done)); (try simp only [Act.put, List.setIfInBounds_toArray, List.set_cons_zero, List.set_cons_succ])) | (refine Xr.skip 16 (some 168) rfl rfl (by decide +kernel) (by rfl) ?_; (try simp only [Act.put, List.setIfInBounds_toArray, List.set_cons_zero, List.set_cons_succ]))
            (refine Xr.take 17 (some 169) (v := ?_) rfl rfl (by decide +kernel) (by rfl) ?_ ?_; rotate_left; (focus (intro w' hk; go_simp; (try with_reducible rfl); done)); (try simp only [Act.put, List.setIfInBounds_toArray, List.set_cons_zero, List.set_cons_succ]))
            (refine Xr.take 18 (some 170) (v := ?_) rfl rfl (by decide +kernel) (by rfl) ?_ ?_; rotate_left; (focus (intro w' hk; go_simp; (try with_reducible rfl); done)); (try simp only [Act.put, List.setIfInBounds_toArray, List.set_cons_zero, List.set_cons_succ]))
            first | (refine Xr.take 19 (some 171) (v := ?_) rfl rfl (by decide +kernel) (by rfl) ?_ ?_; rotate_left; (focus (intro w' hk; go_simp; (try with_reducible rfl); done)); (try simp only [Act.put, List.setIfInBounds_toArray, List.set_cons_zero, List.set_cons_succ])) | (refine Xr.skip 19 (some 171) rfl rfl (by decide +kernel) (by rfl) ?_; (try simp only [Act.put, List.setIfInBounds_toArray, List.set_cons_zero, List.set_cons_succ]))
            first | (refine Xr.take 20 (some 172) (v := ?_) rfl rfl (by decide +kernel) (by rfl) ?_ ?_; rotate_left; (focus (intro w' hk; go_simp; (try with_reducible rfl); done)); (try simp only [Act.put, List.setIfInBounds_toArray, List.set_cons_zero, List.set_cons_succ])) | (refine Xr.skip 20 (some 172) rfl rfl (by decide +kernel) (by rfl) ?_; (try simp only [Act.put, List.setIfInBounds_toArray, List.set_cons_zero, List.set_cons_succ]))
            first | (refine Xr.take 21 (some 173) (v := ?_) rfl rfl (by decide +kernel) (by rfl) ?_ ?_; rotate_left; (focus (intro w' hk; go_simp; (try with_reducible rfl); done)); (try simp only [Act.put, List.setIfInBounds_toArray, List.set_cons_zero, List.set_cons_succ])) | (refine Xr.skip 21 (some 173) rfl rfl (by decide +kernel) (by rfl) ?_; (try simp only [Act.put, List.setIfInBounds_toArray, List.set_cons_zero, List.set_cons_succ]))
            first | (refine Xr.take 22 (some 174) (v := ?_) rfl rfl (by decide +kernel) (by rfl) ?_ ?_; rotate_left; (focus (intro w' hk; go_simp; (try with_reducible rfl); done)); (try simp only [Act.put, List.setIfInBounds_toArray, List.set_cons_zero, List.set_cons_succ])) | (refine Xr.skip 22 (some 174) rfl rfl (by decide +kernel) (by rfl) ?_; (try simp only [Act.put, List.setIfInBounds_toArray, List.set_cons_zero, List.set_cons_succ]))
            first | (refine Xr.take 23 (some 175) (v := ?_) rfl rfl (by decide +kernel) (by rfl) ?_ ?_; rotate_left; (focus (intro w' hk; go_simp; (try with_reducible rfl); done)); (try simp only [Act.put, List.setIfInBounds_toArray, List.set_cons_zero, List.set_cons_succ])) | (refine Xr.skip 23 (some 175) rfl rfl (by decide +kernel) (by rfl) ?_; (try simp only [Act.put, List.setIfInBounds_toArray, List.set_cons_zero, List.set_cons_succ]))
            first | (refine Xr.take 24 (some 176) (v := ?_) rfl rfl (by decide +kernel) (by rfl) ?_ ?_; rotate_left; (focus (intro w' hk; go_simp; (try with_reducible rfl); done)); (try simp only [Act.put, List.setIfInBounds_toArray, List.set_cons_zero, List.set_cons_succ])) | (refine Xr.skip 24 (some 176) rfl rfl (by decide +kernel) (by rfl) ?_; (try simp only [Act.put, List.setIfInBounds_toArray, List.set_cons_zero, List.set_cons_succ]))
            first | (refine Xr.take 25 (some 177) (v := ?_) rfl rfl (by decide +kernel) (by rfl) ?_ ?_; rotate_left; (focus (intro w' hk; go_simp; (try with_reducible rfl); done)); (try simp only [Act.put, List.setIfInBounds_toArray, List.set_cons_zero, List.set_cons_succ])) | (refine Xr.skip 25 (some 177) rfl rfl (by decide +kernel) (by rfl) ?_; (try simp only [Act.put, List.setIfInBounds_toArray, List.set_cons_zero, List.set_cons_succ]))
            first | (refine Xr.take 26 (some 178) (v := ?_) rfl rfl (by decide +kernel) (by rfl) ?_ ?_; rotate_left; (focus (intro w' hk; go_simp; (try with_reducible rfl); done)); (try simp only [Act.put, List.setIfInBounds_toArray, List.set_cons_zero, List.set_cons_succ])) | (refine Xr.skip 26 (some 178) rfl rfl (by decide +kernel) (by rfl) ?_; (try simp only [Act.put, List.setIfInBounds_toArray, List.set_cons_zero, List.set_cons_succ]))
            first | (refine Xr.take 27 (some 179) (v := ?_) rfl rfl (by decide +kernel) (by rfl) ?_ ?_; rotate_left; (focus (intro w' hk; go_simp; (try with_reducible rfl); done)); (try simp only [Act.put, List.setIfInBounds_toArray, List.set_cons_zero, List.set_cons_succ])) | (refine Xr.skip 27 (some 179) rfl rfl (by decide +kernel) (by rfl) ?_; (try simp only [Act.put, List.setIfInBounds_toArray, List.set_cons_zero, List.set_cons_succ]))
            first | (refine Xr.take 28 (some 180) (v := ?_) rfl rfl (by decide +kernel) (by rfl) ?_ ?_; rotate_left; (focus (intro w' hk; go_simp; (try with_reducible rfl); done)); (try simp only [Act.put, List.setIfInBounds_toArray, List.set_cons_zero, List.set_cons_succ])) | (refine Xr.skip 28 (some 180) rfl rfl (by decide +kernel) (by rfl) ?_; (try simp only [Act.put, List.setIfInBounds_toArray, List.set_cons_zero, List.set_cons_succ]))
            first | (refine Xr.take 29 (some 181) (v := ?_) rfl rfl (by decide +kernel) (by rfl) ?_ ?_; rotate_left; (focus (intro w' hk; go_simp; (try with_reducible rfl); done)); (try simp only [Act.put, List.setIfInBounds_toArray, List.set_cons_zero, List.set_cons_succ])) | (refine Xr.skip 29 (some 181) rfl rfl (by decide +kernel) (by rfl) ?_; (try simp only [Act.put, List.setIfInBounds_toArray, List.set_cons_zero, List.set_cons_succ]))
            (refine Xr.take 30 (some 182) (v := ?_) rfl rfl (by decide +kernel) (by rfl) ?_ ?_; rotate_left; (focus (intro w' hk; go_simp; (try with_reducible rfl); done)); (try simp only [Act.put, List.setIfInBounds_toArray, List.set_cons_zero, List.set_cons_succ]))
            refine Xr.done (by decide +kernel) (fun q7 hE7 hK7 => ?_)
            have xf := xq.trans hK7.nil
            clear kc
            go_wp2_with fail
            go_roundw
            case rel => exact ⟨k + 1, by go_num, by omega, xf⟩
            case measure => simp [intOf]; omega
        · have hkI : ¬ (k : Int) < 4 := by omega
          go_wp2_with fail
          refine (slives_any _).mono ?_
          rintro e q1 ⟨rfl, e1⟩
          have xf := (X20.trans hz).trans e1
          go_wp2
          go_ret
          exact ⟨rfl, xf⟩
end Go.Proofs.Ytlbdjnbcoldjhaa
