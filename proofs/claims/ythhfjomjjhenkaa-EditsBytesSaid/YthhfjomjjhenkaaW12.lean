/- The walk of EditsBytes. -/
import Derived.Test.YthhfjomjjhenkaaW11
import Derived.Test.YthhfjomjjhenkaaW10
import Derived.Test.YthhfjomjjhenkaaD8
import Derived.Test.YthhfjomjjhenkaaE16
namespace Go.Proofs.Ythhfjomjjhenkaa
open Go.RowKit
attribute [local go_sem ↓] Go.wp_at_zero Go.wp_at_succ

theorem two_cells {w : World} {g : Nat} {hs : List Hv} (h : Blk w g 63 (flatI hs).toArray) {i : Nat} (hi : i < hs.length) :
    w.cell? ⟨g, i * 6, none⟩ = some (.int .i64 hs[i].it.client) ∧ w.cell? ⟨g, i * 6 + 1, none⟩ = some (.int .i64 hs[i].it.number) ∧ w.cell? ⟨g, i * 6 + 2, none⟩ = some (.int .i64 hs[i].it.base) ∧
    w.cell? ⟨g, i * 6 + 3, none⟩ = some (.int .i64 hs[i].it.e.at_) ∧ w.cell? ⟨g, i * 6 + 4, none⟩ = some (.int .i64 hs[i].it.e.del) ∧ w.cell? ⟨g, i * 6 + 5, none⟩ = some (.slice hs[i].A hs[i].it.e.ins.length hs[i].c) := by
  obtain ⟨h0, h1, h2, h3, h4, h5⟩ := flatI_get hs i hi
  refine ⟨?_, ?_, ?_, ?_, ?_, ?_⟩ <;> rw [h.cell, List.getElem?_toArray] <;> assumption

theorem encI_len {x : It} (h : It64 x) (hi : ∀ y ∈ x.e.ins, I64 y) (hl : x.e.ins.length ≤ 5) : 0 < (encI x).length ∧ (encI x).length ≤ 200 := by
  obtain ⟨h0, h1, h2, h3, h4⟩ := h
  have := ienc_len10 h0
  have := ienc_len10 h1
  have := ienc_len10 h2
  have := ienc_len10 h3
  have := ienc_len10 h4
  have := iencs_len10 hi
  have := venc_len10 (n := x.e.ins.length) (by omega)
  have := venc_pos x.e.ins.length
  unfold encI lenc
  simp only [List.length_append]
  omega
theorem encI_u8 (x : It) : ∀ b ∈ encI x, U8 b := by
  intro b hb
  unfold encI lenc at hb
  simp only [List.mem_append] at hb
  rcases hb with ((((hb | hb) | hb) | hb) | hb) | (hb | hb)
  · exact ienc_u8 _ b hb
  · exact ienc_u8 _ b hb
  · exact ienc_u8 _ b hb
  · exact ienc_u8 _ b hb
  · exact ienc_u8 _ b hb
  · exact venc_u8 _ b hb
  · exact iencs_u8 _ b hb
/-- what was written with Raw is read back -/
theorem lrun_raw (eb : List Int) (hl : eb.length ≤ 1099511627776) : lrun octE (some ([] ++ (venc eb.length ++ eb))) = (eb, some []) := by
  have h := uintP_venc eb.length 0 eb (by omega) (by simp; omega) (fun h => by omega)
  have hu : urun 0 0 (some (venc eb.length ++ eb)) = (eb.length, some eb) := by simp [urun, h]
  rw [List.nil_append]
  unfold lrun
  rw [hu]
  simp only
  rw [if_neg (by omega), seqP_oct _ _ (Nat.le_refl _), List.take_length, List.drop_length]

theorem OwnB.store {w : World} {base : Nat} {A : Option Addr} {c : Nat} {bs : List Int} (h : OwnB w base A c bs) {i : Nat} (hi : i < bs.length) :
    ∃ g, A = some ⟨g, 0, none⟩ ∧ base ≤ g ∧ w.cell? ⟨g, i, none⟩ = some (.int .u8 bs[i]) ∧ w.frozen? ⟨g, i, none⟩ = false ∧ g < w.heap.size ∧ ∀ v, OwnB (w.setCell ⟨g, i, none⟩ (.int .u8 v)) base A c (bs.set i v) := by
  rcases h.form with ⟨_, h0, _⟩ | ⟨g, cur, rfl, hg, hh, hnc, hcm, hcs, ht⟩
  · omega
  · have hB : Blk w g 5 cur := hh
    have hcell := OwnS.cells h (by intro e; rw [List.map_eq_nil_iff] at e; subst e; simp at hi)
    obtain ⟨b, o, he, hc⟩ := hcell
    injection he with he; injection he with e1 e2 _
    subst e1 e2
    refine ⟨g, rfl, hg, ?_, hB.frz i, hB.lt, fun v => ?_⟩
    · have := hc i (by simpa using hi)
      simpa using this
    · have h1 := OwnS.of_blk (n := bs.length) (c := c) (size := 1) (hB.set i (.int .u8 v)) hg (by rw [Array.size_setIfInBounds]; exact hcs) hnc hcm
      unfold OwnB
      have e : ((cur.setIfInBounds i (.int .u8 v)).toList.take (bs.length * 1)) = ((bs.set i v).map (Value.int .u8)) := by
        rw [Array.toList_setIfInBounds, List.map_set, ← ht, List.take_set]
      rw [e] at h1
      rw [List.length_set]
      exact h1

set_option maxRecDepth 100000 in
set_option maxHeartbeats 16000000 in
theorem EditsBytes_any (A R : Option Addr) (ca cr : Nat) (n raw : List Int) (how by_ at_ c : Int) (w : World) (hn : IL w A ca n) (hr : BL w R cr raw) (hh : I64 how) (hb : I64 by_) (hat : I64 at_) (hc : U8 c) :
    Calls Try.prog 9 #[.slice A n.length ca, .int .i64 how, .int .i64 by_, .slice R raw.length cr, .int .i64 at_, .int .u8 c] w (RetV (.bool true) w) := by
  have hnl := hn.len
  have hrl := hr.len
  have P0 := fun W' h => Lib.hid (pick_any A ca n 0 9 W' h (by omega) (by omega) (by omega))
  have P1 := fun W' h => Lib.hid (pick_any A ca n 1 300 W' h (by omega) (by omega) (by omega))
  have P2 := fun W' h => Lib.hid (pick_any A ca n 2 300 W' h (by omega) (by omega) (by omega))
  have P3 := fun W' h => Lib.hid (pick_any A ca n 3 1048576 W' h (by omega) (by omega) (by omega))
  have P4 := fun W' h => Lib.hid (pick_any A ca n 4 1048576 W' h (by omega) (by omega) (by omega))
  have d0 := pick_bd n 0 9 (by omega)
  have d1 := pick_bd n 1 300 (by omega)
  have d2 := pick_bd n 2 300 (by omega)
  have d3 := pick_bd n 3 1048576 (by omega)
  have d4 := pick_bd n 4 1048576 (by omega)
  generalize pick n 0 9 = v0 at *
  generalize pick n 1 300 = v1 at *
  generalize pick n 2 300 = v2 at *
  generalize pick n 3 1048576 = v3 at *
  generalize pick n 4 1048576 = v4 at *
  have HRE := fun (W' : World) => Lib.hid (rEdit_any 20 v3 v4 W' (by omega) (by unfold I64; omega) (by unfold I64; omega))
  have hbd := redit_bd 20 v3 v4 (by omega)
  have hin := (redit_ins 20 v3 v4).2
  change ∀ W', Hid (Calls _ _ #[.int .i64 20, .int .i64 v3, .int .i64 v4] W' _) at HRE
  change ∀ W', Hid (Calls _ _ _ _ (RetEdF (redit (20 : Int) v3 v4) W')) at HRE
  generalize redit (20 : Int) v3 v4 = ed at *
  have HX : Hid (It64 ⟨v0, v1, v2, ed⟩) := by
    have i0 : I64 v0 := by unfold I64; omega
    have i1 : I64 v1 := by unfold I64; omega
    have i2 : I64 v2 := by unfold I64; omega
    have i3 : I64 ed.at_ := by unfold I64; omega
    have i4 : I64 ed.del := by unfold I64; omega
    exact ⟨i0, i1, i2, i3, i4⟩
  clear d0 d1 d2 d3 d4
  clear hbd
  go_enter Try.func9, Try.ntmps9
  go_wp2_with fail
  refine (P0 _ hn).out.mono ?_
  rintro e w1 hq
  obtain ⟨rfl, x1⟩ := hq.v
  clear hq P0
  go_wp2_with fail
  refine (P1 _ (hn.ext x1)).out.mono ?_
  rintro e w2 hq
  obtain ⟨rfl, x2⟩ := hq.v
  replace x1 := x1.trans x2
  clear hq P1 x2
  go_wp2_with fail
  refine (P2 _ (hn.ext x1)).out.mono ?_
  rintro e w3 hq
  obtain ⟨rfl, x2⟩ := hq.v
  replace x1 := x1.trans x2
  clear hq P2 x2
  go_wp2_with fail
  refine (P3 _ (hn.ext x1)).out.mono ?_
  rintro e w4 hq
  obtain ⟨rfl, x2⟩ := hq.v
  replace x1 := x1.trans x2
  clear hq P3 x2
  go_wp2_with fail
  refine (P4 _ (hn.ext x1)).out.mono ?_
  rintro e w5 hq
  obtain ⟨rfl, x2⟩ := hq.v
  replace x1 := x1.trans x2
  clear hq P4 x2
  go_wp2_with fail
  refine (HRE _).out.mono ?_
  rintro e w6 ⟨X, xc, rfl, iX, x2, _⟩
  replace x1 := x1.trans x2
  clear HRE x2
  have by0 := Blk.new w6 63 #[.int .i64 v0, .int .i64 v1, .int .i64 v2, .int .i64 ed.at_, .int .i64 ed.del, .slice X ed.ins.length xc]
  have ey := Ext.alloc w6 (.cells #[.int .i64 v0, .int .i64 v1, .int .i64 v2, .int .i64 ed.at_, .int .i64 ed.del, .slice X ed.ins.length xc] 63)
  go_upto_region 2 with fail
  obtain ⟨gy, hgy⟩ : ∃ gy, gy = w6.heap.size := ⟨_, rfl⟩
  rw [← hgy] at by0 ⊢
  replace x1 := x1.trans ey
  replace iX := iX.ext ey
  generalize w6.alloc (.cells #[.int .i64 v0, .int .i64 v1, .int .i64 v2, .int .i64 ed.at_, .int .i64 ed.del, .slice X ed.ins.length xc] 63) = w7 at *
  clear ey hgy
  have p0 := by0.cell 0
  have p1 := by0.cell 1
  have p2 := by0.cell 2
  have p3 := by0.cell 3
  have p4 := by0.cell 4
  have p5 := by0.cell 5
  simp only [List.getElem?_toArray, List.getElem?_cons_succ, List.getElem?_cons_zero] at p0 p1 p2 p3 p4 p5
  have k0 := fun (w' : World) (h : Kp [] w7 w') => h.cell p0 (by simp)
  have k1 := fun (w' : World) (h : Kp [] w7 w') => h.cell p1 (by simp)
  have k2 := fun (w' : World) (h : Kp [] w7 w') => h.cell p2 (by simp)
  have k3 := fun (w' : World) (h : Kp [] w7 w') => h.cell p3 (by simp)
  have k4 := fun (w' : World) (h : Kp [] w7 w') => h.cell p4 (by simp)
  have k5 := fun (w' : World) (h : Kp [] w7 w') => h.cell p5 (by simp)
  have HBT := fun W' h => Lib.hid (bent_any ⟨v0, v1, v2, ed⟩ X xc how by_ W' HX.out h (by simp only; omega) hh hb)
  unfold itV at HBT
  simp only at HBT
  refine Xr.start [] (by kernel_rfl) ?_
  repeat (first | (refine Xr.take 0 (some 38) (v := ?_) rfl rfl (by decide +kernel) (by rfl) ?_ ?_; rotate_left; (focus (intro w' hk; go_simp; (try with_reducible rfl); done)); (try simp only [Act.put, List.setIfInBounds_toArray, List.set_cons_zero, List.set_cons_succ])) | (refine Xr.take 1 (some 39) (v := ?_) rfl rfl (by decide +kernel) (by rfl) ?_ ?_; rotate_left; (focus (intro w' hk; go_simp; (try with_reducible rfl); done)); (try simp only [Act.put, List.setIfInBounds_toArray, List.set_cons_zero, List.set_cons_succ])) | (refine Xr.take 2 (some 40) (v := ?_) rfl rfl (by decide +kernel) (by rfl) ?_ ?_; rotate_left; (focus (intro w' hk; go_simp; (try with_reducible rfl); done)); (try simp only [Act.put, List.setIfInBounds_toArray, List.set_cons_zero, List.set_cons_succ])) | (refine Xr.take 3 (some 41) (v := ?_) rfl rfl (by decide +kernel) (by rfl) ?_ ?_; rotate_left; (focus (intro w' hk; go_simp; (try with_reducible rfl); done)); (try simp only [Act.put, List.setIfInBounds_toArray, List.set_cons_zero, List.set_cons_succ])) | (refine Xr.take 6 (some 14) (v := ?_) rfl rfl (by decide +kernel) (by rfl) ?_ ?_; rotate_left; (focus (intro w' hk; go_simp; (try with_reducible rfl); done)); (try simp only [Act.put, List.setIfInBounds_toArray, List.set_cons_zero, List.set_cons_succ])))
  refine Xr.call 4 rfl (by decide +kernel) (by rfl) (fun w8 hE8 hK8 K hKK => ?_)
  go_simp
  refine (HBT _ (iX.ext hE8)).out.mono ?_
  rintro e w9 ⟨z, Z, zc, rfl, hz64, iZ, hzl, hx9⟩
  refine hKK _ _ hx9 ?_
  clear hKK
  unfold itV
  (try simp only [Act.put, List.setIfInBounds_toArray, List.set_cons_zero, List.set_cons_succ])
  refine Xr.lazy 5 43 6 (fun g => .slice (some ⟨g, 0, none⟩) 2 2) 63 #[.int .i64 v0, .int .i64 v1, .int .i64 v2, .int .i64 ed.at_, .int .i64 ed.del, .slice X ed.ins.length xc, .int .i64 z.client, .int .i64 z.number, .int .i64 z.base, .int .i64 z.e.at_, .int .i64 z.e.del, .slice Z z.e.ins.length zc] rfl (by simp) (by decide +kernel) (by first | (simp; done) | (simp; omega)) (fun w' => by go_simp) ?_
  refine Xr.stepZ rfl (by decide +kernel) (fun _ => by rfl) (fun w10 gB hE10 hK10 hgB hB hno K hKK => ?_)
  go_simp
  refine hKK _ _ (WI_refl _ _ _) hK10 ?_
  clear hKK
  (try simp only [Act.put, List.setIfInBounds_toArray, List.set_cons_zero, List.set_cons_succ])
  refine Xr.done (by decide +kernel) (fun w11 hE11 hK11 => ?_)
  obtain ⟨hs, hhs⟩ : ∃ hs : List Hv, hs = [⟨⟨v0, v1, v2, ed⟩, X, xc⟩, ⟨z, Z, zc⟩] := ⟨_, rfl⟩
  have hB2 : Blk w11 gB 63 (flatI hs).toArray := by rw [hhs]; exact hB.ext hE11
  have hX11 := x1.trans hK11.nil
  have hAll : ∀ h ∈ hs, It64 h.it ∧ IL w11 h.A h.c h.it.e.ins ∧ h.it.e.ins.length ≤ 5 := by
    rw [hhs]; intro h hm
    simp only [List.mem_cons, List.not_mem_nil, or_false] at hm
    rcases hm with rfl | rfl
    · exact ⟨HX.out, iX.ext hK11.nil, by simp only; omega⟩
    · exact ⟨hz64, (iZ.ext hE10).ext hE11, by simp only at hzl ⊢; omega⟩
  have hs2 : hs.length = 2 := by rw [hhs]; rfl
  have HS2 := Lib.hid hs2
  have HALL := Lib.hid hAll
  have hW : w.heap.size ≤ w11.heap.size := hX11.size
  clear hhs hs2 hAll k0 k1 k2 k3 k4 k5 p0 p1 p2 p3 p4 p5 hB hno hE10 hE11 hK10 hK11 hE8 hK8 hx9 iZ iX by0 HBT HX hin hzl hz64 x1 hgB hW
  generalize w11 = W at *
  go_wp2_with fail
  go_loopw [15] (fun v15 wr => ∃ i : Nat, v15 = .int .i64 i ∧ i ≤ 2 ∧ Ext W wr) (fun v _ => 2 - (intOf v).toNat)
  case atStart => exact ⟨0, rfl, by omega, Ext.rfl' _⟩
  case round =>
    obtain ⟨i, rfl, hi, hxr⟩ := hrel
    have hxr0 := hxr
    by_cases hlt : i < 2
    · have hI : (i : Int) < 2 := by omega
      have hI0 : (0 : Int) ≤ i := by omega
      have hi' : i < hs.length := by rw [HS2.out]; exact hlt
      obtain ⟨c0, c1, c2, c3, c4, c5⟩ := two_cells (hB2.ext hxr) hi'
      obtain ⟨hz64, iz, hzl⟩ := HALL.out _ (List.getElem_mem hi')
      replace iz := iz.ext hxr
      have iz0 := iz
      have KC := fun (W' : World) (x : Ext wr W') => Lib.hid (two_cells (hB2.ext (hxr.trans x)) hi')
      have HS3 := Lib.hid (show i * 6 + 6 ≤ 12 by omega)
      generalize hs[i] = zz at *
      obtain ⟨⟨zc, zn, zb, ⟨za, zd, zs⟩⟩, zA, zk⟩ := zz
      simp only at c0 c1 c2 c3 c4 c5 iz hzl hz64 KC
      have HOWN := fun W' => Lib.hid (own_any ⟨zc, zn, zb, ⟨za, zd, zs⟩⟩ zA zk W')
      unfold itV at HOWN
      simp only at HOWN
      have HENC := fun W' h => Lib.hid (eEncode_any ⟨zc, zn, zb, ⟨za, zd, zs⟩⟩ zA zk W' hz64 h (by simp only; omega))
      have HREN := fun W' h => Lib.hid (rEncode_any ⟨zc, zn, zb, ⟨za, zd, zs⟩⟩ zA zk W' hz64 h (by simp only; omega))
      unfold itV at HENC HREN
      simp only at HENC HREN
      have hel := encI_len hz64 iz.rng hzl
      have heu := encI_u8 ⟨zc, zn, zb, ⟨za, zd, zs⟩⟩
      have HDEC := Lib.hid (decP_enc hz64 iz.rng (by simp only; omega))
      have HINV := fun (x : It) (bs : List Int) (h1 : ∀ b ∈ bs, U8 b) (h2 : decP bs = some x) => Lib.hid (decP_inv h1 h2)
      generalize heb : encI ⟨zc, zn, zb, ⟨za, zd, zs⟩⟩ = eb at *
      clear heb
      obtain ⟨he0, hel⟩ := hel
      have HLR := Lib.hid (lrun_raw eb (by omega))
      go_wp2_with fail
      refine (HOWN _).out.mono ?_
      rintro e w1 ⟨rfl, x1⟩
      replace hxr := hxr.trans x1
      replace iz := iz.ext x1
      go_wp2_with fail
      refine (HENC _ iz).out.mono ?_
      rintro e w2 ⟨E, ce, rfl, hE, x2⟩
      replace hxr := hxr.trans x2
      replace iz := iz.ext x2
      have hEb := BL.of_own hE heu
      replace x1 := x1.trans x2
      clear x2 c0 c1 c2 c3 c4 c5
      -- the writer
      have bw := Blk.new w2 68 #[.slice none 0 0]
      have ew := Ext.alloc w2 (.cells #[.slice none 0 0] 68)
      go_upto_region 8 with fail
      obtain ⟨gw, hgw⟩ : ∃ gw, gw = w2.heap.size := ⟨_, rfl⟩
      rw [← hgw] at bw ⊢
      have hsz : wr.heap.size ≤ gw := by rw [hgw]; exact x1.size
      have hWA : WrAt (w2.alloc (.cells #[.slice none 0 0] 68)) gw gw none 0 [] := ⟨bw, OwnS.nil _ _ _ _, Nat.le_refl _, by simp⟩
      have hEbw := hEb.ext ew
      have HEL : Hid (∀ b, E.map (·.block) = some b → b < gw) := fun b hb => by rw [hgw]; exact (OwnS.blt hE hb).1
      replace iz := iz.ext ew
      replace hxr := hxr.trans ew
      replace x1 := x1.trans ew
      generalize w2.alloc (.cells #[.slice none 0 0] 68) = w3 at *
      clear hgw bw ew hE hEb
      have hbs1 : Hid (([] ++ (venc eb.length ++ eb)).length ≤ 300 ∧ ∀ b ∈ ([] ++ (venc eb.length ++ eb)), U8 b) := by
        have h1 := venc_len10 (n := eb.length) (by omega)
        refine ⟨by simp only [List.length_append, List.length_nil]; omega, fun b hb => ?_⟩
        rw [List.nil_append] at hb
        rcases List.mem_append.1 hb with hb | hb
        · exact venc_u8 _ b hb
        · exact heu b hb
      have HRW := Lib.hid (wRaw_any eb E ce gw gw none 0 [] w3 hEbw (fun _ b hb => ⟨by have := HEL.out b hb; omega, by simp [Off]⟩) hWA (by simp) (by omega))
      generalize hb1 : ([] ++ (venc eb.length ++ eb) : List Int) = bs1 at *
      unfold RetWr WrOut at HRW
      rw [hb1] at HRW
      clear hb1
      go_wp2_with fail
      refine HRW.out.mono ?_
      rintro e w4 ⟨rfl, A4, c4, hW4, hk4, ha4⟩
      clear HRW hWA
      have x34 : Ext wr w4 := x1.thenKp hk4 (fun i hi => by rcases hi with e | e; omega; simp at e)
      have hEb4 := hEbw.kp hk4 (fun hx b hb hor => by rcases hor with e | e; have := HEL.out b hb; omega; simp at e)
      have HD := Lib.hid (wDone_any gw gw A4 c4 bs1 w4 hW4 (by have := hbs1.out.1; omega))
      have hgl4 := hW4.blk.lt
      clear hk4 ha4 hW4 iz x1 hEbw
      go_wp2_with fail
      refine HD.out.mono ?_
      rintro e w5 ⟨D, cD, rfl, hD, x5⟩
      clear HD
      have HR := Lib.hid (wRead_any D cD bs1 w5 (BL.of_own hD hbs1.out.2) (by have := hbs1.out.1; omega))
      replace x34 := x34.trans x5
      replace hEb4 := hEb4.ext x5
      have hgl5 := x5.size
      clear hD x5
      go_wp2_with fail
      refine HR.out.mono ?_
      rintro e w6 ⟨g, Ar, cr2, rfl, hR, x6, hg6, _⟩
      clear HR
      replace x34 := x34.trans x6
      replace hEb4 := hEb4.ext x6
      clear x6
      have hwg : wr.heap.size ≤ g := by omega
      have hgg : gw < g := by omega
      obtain ⟨c0, c1, c2, c3, c4', c5⟩ := (KC _ x34).out
      have he0I : ((eb.length : Int) == 0) = false := by rw [beq_eq_false_iff_ne]; omega
      go_wp2_with fail
      refine (HREN _ (iz0.ext x34)).out.mono ?_
      rintro e w7 ⟨F, cF, rfl, hF, x7⟩
      replace x34 := x34.trans x7
      replace hEb4 := hEb4.ext x7
      replace hR := hR.ext x7
      clear c0 c1 c2 c3 c4' c5
      have HSB := Lib.hid (sameBytes_any E F ce cF eb eb w7 hEb4 (BL.of_own hF heu))
      rw [beq_self_eq_true] at HSB
      clear hF x7
      go_wp2_with fail
      refine HSB.out.mono ?_
      rintro e w8 hq
      obtain ⟨rfl, x8⟩ := hq.v
      clear hq HSB
      replace x34 := x34.trans x8
      replace hEb4 := hEb4.ext x8
      replace hR := hR.ext x8
      clear x8
      have HRR := Lib.hid (rdRaw_any g Ar cr2 bs1 (some bs1) w8 hR (by have := hbs1.out.1; omega))
      rw [HLR.out] at HRR
      go_wp2_with fail
      refine HRR.out.mono ?_
      rintro e w9 ⟨B, cB, rfl, hOB, hR9, hk9⟩
      clear HRR hR hR9
      have hEb9 := hEb4.kp hk9 (fun hx b hb e => by have := HEL.out b hb; omega)
      have x9 : Ext wr w9 := x34.thenKp hk9 (fun i hi => by omega)
      have HDC := Lib.hid (eDecode_any eb B cB w9 (BL.of_own hOB heu) (by omega))
      clear hk9 hEb4 x34 hOB
      simp only
      go_wp2_with fail
      refine HDC.out.mono ?_
      rintro e w10 ⟨x', B2, cB2, err, rfl, hI2, x10, hor⟩
      clear HDC
      rw [HDEC.out] at hor
      rcases hor with ⟨rfl, hx'⟩ | ⟨_, hx', _⟩
      rotate_left
      · cases hx'
      injection hx' with hx'
      subst hx'
      simp only at hI2
      unfold itV
      simp only
      replace x9 := x9.trans x10
      replace hEb9 := hEb9.ext x10
      have bx := Blk.new w10 39 #[.int .i64 zc, .int .i64 zn, .int .i64 zb, .int .i64 za, .int .i64 zd, .slice B2 zs.length cB2]
      have ex := Ext.alloc w10 (.cells #[.int .i64 zc, .int .i64 zn, .int .i64 zb, .int .i64 za, .int .i64 zd, .slice B2 zs.length cB2] 39)
      go_upto_region 13 with fail
      obtain ⟨gx, hgx⟩ : ∃ gx, gx = w10.heap.size := ⟨_, rfl⟩
      rw [← hgx] at bx ⊢
      replace x9 := x9.trans ex
      replace hEb9 := hEb9.ext ex
      replace hI2 := hI2.ext ex
      generalize w10.alloc (.cells #[.int .i64 zc, .int .i64 zn, .int .i64 zb, .int .i64 za, .int .i64 zd, .slice B2 zs.length cB2] 39) = w11 at *
      clear ex hgx x10
      have m0 := bx.cell 0
      have m1 := bx.cell 1
      have m2 := bx.cell 2
      have m3 := bx.cell 3
      have m4 := bx.cell 4
      have m5 := bx.cell 5
      simp only [List.getElem?_toArray, List.getElem?_cons_succ, List.getElem?_cons_zero] at m0 m1 m2 m3 m4 m5
      obtain ⟨c0, c1, c2, c3, c4', c5⟩ := (KC _ x9).out
      have k0 := fun (w' : World) (h : Kp [] w11 w') => h.cell m0 (by simp)
      have k1 := fun (w' : World) (h : Kp [] w11 w') => h.cell m1 (by simp)
      have k2 := fun (w' : World) (h : Kp [] w11 w') => h.cell m2 (by simp)
      have k3 := fun (w' : World) (h : Kp [] w11 w') => h.cell m3 (by simp)
      have k4 := fun (w' : World) (h : Kp [] w11 w') => h.cell m4 (by simp)
      have k5 := fun (w' : World) (h : Kp [] w11 w') => h.cell m5 (by simp)
      have l0 := fun (w' : World) (h : Kp [] w11 w') => h.cell c0 (by simp)
      have l1 := fun (w' : World) (h : Kp [] w11 w') => h.cell c1 (by simp)
      have l2 := fun (w' : World) (h : Kp [] w11 w') => h.cell c2 (by simp)
      have l3 := fun (w' : World) (h : Kp [] w11 w') => h.cell c3 (by simp)
      have l4 := fun (w' : World) (h : Kp [] w11 w') => h.cell c4' (by simp)
      have l5 := fun (w' : World) (h : Kp [] w11 w') => h.cell c5 (by simp)
      refine Xr.start [] (by kernel_rfl) ?_
      (refine Xr.take 0 (some 81) (v := ?_) rfl rfl (by decide +kernel) (by rfl) ?_ ?_; rotate_left; (focus (intro w' hk; go_simp; (try with_reducible rfl); done)); (try simp only [Act.put, List.setIfInBounds_toArray, List.set_cons_zero, List.set_cons_succ]))
      (refine Xr.take 1 (some 82) (v := ?_) rfl rfl (by decide +kernel) (by rfl) ?_ ?_; rotate_left; (focus (intro w' hk; go_simp; (try with_reducible rfl); done)); (try simp only [Act.put, List.setIfInBounds_toArray, List.set_cons_zero, List.set_cons_succ]))
      (refine Xr.take 2 (some 83) (v := ?_) rfl rfl (by decide +kernel) (by rfl) ?_ ?_; rotate_left; (focus (intro w' hk; go_simp; (try with_reducible rfl); done)); (try simp only [Act.put, List.setIfInBounds_toArray, List.set_cons_zero, List.set_cons_succ]))
      first | (refine Xr.take 3 (some 84) (v := ?_) rfl rfl (by decide +kernel) (by rfl) ?_ ?_; rotate_left; (focus (intro w' hk; go_simp; (try with_reducible rfl); done)); (try simp only [Act.put, List.setIfInBounds_toArray, List.set_cons_zero, List.set_cons_succ])) | (refine Xr.skip 3 (some 84) rfl rfl (by decide +kernel) (by rfl) ?_; (try simp only [Act.put, List.setIfInBounds_toArray, List.set_cons_zero, List.set_cons_succ]))
      first | (refine Xr.take 4 (some 85) (v := ?_) rfl rfl (by decide +kernel) (by rfl) ?_ ?_; rotate_left; (focus (intro w' hk; go_simp; (try with_reducible rfl); done)); (try simp only [Act.put, List.setIfInBounds_toArray, List.set_cons_zero, List.set_cons_succ])) | (refine Xr.skip 4 (some 85) rfl rfl (by decide +kernel) (by rfl) ?_; (try simp only [Act.put, List.setIfInBounds_toArray, List.set_cons_zero, List.set_cons_succ]))
      first | (refine Xr.take 5 (some 86) (v := ?_) rfl rfl (by decide +kernel) (by rfl) ?_ ?_; rotate_left; (focus (intro w' hk; go_simp; (try with_reducible rfl); done)); (try simp only [Act.put, List.setIfInBounds_toArray, List.set_cons_zero, List.set_cons_succ])) | (refine Xr.skip 5 (some 86) rfl rfl (by decide +kernel) (by rfl) ?_; (try simp only [Act.put, List.setIfInBounds_toArray, List.set_cons_zero, List.set_cons_succ]))
      first | (refine Xr.take 6 (some 87) (v := ?_) rfl rfl (by decide +kernel) (by rfl) ?_ ?_; rotate_left; (focus (intro w' hk; go_simp; (try with_reducible rfl); done)); (try simp only [Act.put, List.setIfInBounds_toArray, List.set_cons_zero, List.set_cons_succ])) | (refine Xr.skip 6 (some 87) rfl rfl (by decide +kernel) (by rfl) ?_; (try simp only [Act.put, List.setIfInBounds_toArray, List.set_cons_zero, List.set_cons_succ]))
      first | (refine Xr.take 7 (some 88) (v := ?_) rfl rfl (by decide +kernel) (by rfl) ?_ ?_; rotate_left; (focus (intro w' hk; go_simp; (try with_reducible rfl); done)); (try simp only [Act.put, List.setIfInBounds_toArray, List.set_cons_zero, List.set_cons_succ])) | (refine Xr.skip 7 (some 88) rfl rfl (by decide +kernel) (by rfl) ?_; (try simp only [Act.put, List.setIfInBounds_toArray, List.set_cons_zero, List.set_cons_succ]))
      first | (refine Xr.take 8 (some 89) (v := ?_) rfl rfl (by decide +kernel) (by rfl) ?_ ?_; rotate_left; (focus (intro w' hk; go_simp; (try with_reducible rfl); done)); (try simp only [Act.put, List.setIfInBounds_toArray, List.set_cons_zero, List.set_cons_succ])) | (refine Xr.skip 8 (some 89) rfl rfl (by decide +kernel) (by rfl) ?_; (try simp only [Act.put, List.setIfInBounds_toArray, List.set_cons_zero, List.set_cons_succ]))
      first | (refine Xr.take 9 (some 90) (v := ?_) rfl rfl (by decide +kernel) (by rfl) ?_ ?_; rotate_left; (focus (intro w' hk; go_simp; (try with_reducible rfl); done)); (try simp only [Act.put, List.setIfInBounds_toArray, List.set_cons_zero, List.set_cons_succ])) | (refine Xr.skip 9 (some 90) rfl rfl (by decide +kernel) (by rfl) ?_; (try simp only [Act.put, List.setIfInBounds_toArray, List.set_cons_zero, List.set_cons_succ]))
      first | (refine Xr.take 10 (some 91) (v := ?_) rfl rfl (by decide +kernel) (by rfl) ?_ ?_; rotate_left; (focus (intro w' hk; go_simp; (try with_reducible rfl); done)); (try simp only [Act.put, List.setIfInBounds_toArray, List.set_cons_zero, List.set_cons_succ])) | (refine Xr.skip 10 (some 91) rfl rfl (by decide +kernel) (by rfl) ?_; (try simp only [Act.put, List.setIfInBounds_toArray, List.set_cons_zero, List.set_cons_succ]))
      (refine Xr.take 11 (some 92) (v := ?_) rfl rfl (by decide +kernel) (by rfl) ?_ ?_; rotate_left; (focus (intro w' hk; go_simp; (try with_reducible rfl); done)); (try simp only [Act.put, List.setIfInBounds_toArray, List.set_cons_zero, List.set_cons_succ]))
      (refine Xr.take 12 (some 93) (v := ?_) rfl rfl (by decide +kernel) (by rfl) ?_ ?_; rotate_left; (focus (intro w' hk; go_simp; (try with_reducible rfl); done)); (try simp only [Act.put, List.setIfInBounds_toArray, List.set_cons_zero, List.set_cons_succ]))
      first | (refine Xr.take 13 (some 94) (v := ?_) rfl rfl (by decide +kernel) (by rfl) ?_ ?_; rotate_left; (focus (intro w' hk; go_simp; (try with_reducible rfl); done)); (try simp only [Act.put, List.setIfInBounds_toArray, List.set_cons_zero, List.set_cons_succ])) | (refine Xr.skip 13 (some 94) rfl rfl (by decide +kernel) (by rfl) ?_; (try simp only [Act.put, List.setIfInBounds_toArray, List.set_cons_zero, List.set_cons_succ]))
      first | (refine Xr.take 14 (some 95) (v := ?_) rfl rfl (by decide +kernel) (by rfl) ?_ ?_; rotate_left; (focus (intro w' hk; go_simp; (try with_reducible rfl); done)); (try simp only [Act.put, List.setIfInBounds_toArray, List.set_cons_zero, List.set_cons_succ])) | (refine Xr.skip 14 (some 95) rfl rfl (by decide +kernel) (by rfl) ?_; (try simp only [Act.put, List.setIfInBounds_toArray, List.set_cons_zero, List.set_cons_succ]))
      first | (refine Xr.take 15 (some 96) (v := ?_) rfl rfl (by decide +kernel) (by rfl) ?_ ?_; rotate_left; (focus (intro w' hk; go_simp; (try with_reducible rfl); done)); (try simp only [Act.put, List.setIfInBounds_toArray, List.set_cons_zero, List.set_cons_succ])) | (refine Xr.skip 15 (some 96) rfl rfl (by decide +kernel) (by rfl) ?_; (try simp only [Act.put, List.setIfInBounds_toArray, List.set_cons_zero, List.set_cons_succ]))
      first | (refine Xr.take 16 (some 97) (v := ?_) rfl rfl (by decide +kernel) (by rfl) ?_ ?_; rotate_left; (focus (intro w' hk; go_simp; (try with_reducible rfl); done)); (try simp only [Act.put, List.setIfInBounds_toArray, List.set_cons_zero, List.set_cons_succ])) | (refine Xr.skip 16 (some 97) rfl rfl (by decide +kernel) (by rfl) ?_; (try simp only [Act.put, List.setIfInBounds_toArray, List.set_cons_zero, List.set_cons_succ]))
      first | (refine Xr.take 17 (some 98) (v := ?_) rfl rfl (by decide +kernel) (by rfl) ?_ ?_; rotate_left; (focus (intro w' hk; go_simp; (try with_reducible rfl); done)); (try simp only [Act.put, List.setIfInBounds_toArray, List.set_cons_zero, List.set_cons_succ])) | (refine Xr.skip 17 (some 98) rfl rfl (by decide +kernel) (by rfl) ?_; (try simp only [Act.put, List.setIfInBounds_toArray, List.set_cons_zero, List.set_cons_succ]))
      first | (refine Xr.take 18 (some 99) (v := ?_) rfl rfl (by decide +kernel) (by rfl) ?_ ?_; rotate_left; (focus (intro w' hk; go_simp; (try with_reducible rfl); done)); (try simp only [Act.put, List.setIfInBounds_toArray, List.set_cons_zero, List.set_cons_succ])) | (refine Xr.skip 18 (some 99) rfl rfl (by decide +kernel) (by rfl) ?_; (try simp only [Act.put, List.setIfInBounds_toArray, List.set_cons_zero, List.set_cons_succ]))
      first | (refine Xr.take 19 (some 100) (v := ?_) rfl rfl (by decide +kernel) (by rfl) ?_ ?_; rotate_left; (focus (intro w' hk; go_simp; (try with_reducible rfl); done)); (try simp only [Act.put, List.setIfInBounds_toArray, List.set_cons_zero, List.set_cons_succ])) | (refine Xr.skip 19 (some 100) rfl rfl (by decide +kernel) (by rfl) ?_; (try simp only [Act.put, List.setIfInBounds_toArray, List.set_cons_zero, List.set_cons_succ]))
      first | (refine Xr.take 20 (some 101) (v := ?_) rfl rfl (by decide +kernel) (by rfl) ?_ ?_; rotate_left; (focus (intro w' hk; go_simp; (try with_reducible rfl); done)); (try simp only [Act.put, List.setIfInBounds_toArray, List.set_cons_zero, List.set_cons_succ])) | (refine Xr.skip 20 (some 101) rfl rfl (by decide +kernel) (by rfl) ?_; (try simp only [Act.put, List.setIfInBounds_toArray, List.set_cons_zero, List.set_cons_succ]))
      (refine Xr.take 21 (some 102) (v := ?_) rfl rfl (by decide +kernel) (by rfl) ?_ ?_; rotate_left; (focus (intro w' hk; go_simp; (try with_reducible rfl); done)); (try simp only [Act.put, List.setIfInBounds_toArray, List.set_cons_zero, List.set_cons_succ]))
      (refine Xr.take 22 (some 103) (v := ?_) rfl rfl (by decide +kernel) (by rfl) ?_ ?_; rotate_left; (focus (intro w' hk; go_simp; (try with_reducible rfl); done)); (try simp only [Act.put, List.setIfInBounds_toArray, List.set_cons_zero, List.set_cons_succ]))
      first | (refine Xr.take 23 (some 104) (v := ?_) rfl rfl (by decide +kernel) (by rfl) ?_ ?_; rotate_left; (focus (intro w' hk; go_simp; (try with_reducible rfl); done)); (try simp only [Act.put, List.setIfInBounds_toArray, List.set_cons_zero, List.set_cons_succ])) | (refine Xr.skip 23 (some 104) rfl rfl (by decide +kernel) (by rfl) ?_; (try simp only [Act.put, List.setIfInBounds_toArray, List.set_cons_zero, List.set_cons_succ]))
      first | (refine Xr.take 24 (some 105) (v := ?_) rfl rfl (by decide +kernel) (by rfl) ?_ ?_; rotate_left; (focus (intro w' hk; go_simp; (try with_reducible rfl); done)); (try simp only [Act.put, List.setIfInBounds_toArray, List.set_cons_zero, List.set_cons_succ])) | (refine Xr.skip 24 (some 105) rfl rfl (by decide +kernel) (by rfl) ?_; (try simp only [Act.put, List.setIfInBounds_toArray, List.set_cons_zero, List.set_cons_succ]))
      first | (refine Xr.take 25 (some 106) (v := ?_) rfl rfl (by decide +kernel) (by rfl) ?_ ?_; rotate_left; (focus (intro w' hk; go_simp; (try with_reducible rfl); done)); (try simp only [Act.put, List.setIfInBounds_toArray, List.set_cons_zero, List.set_cons_succ])) | (refine Xr.skip 25 (some 106) rfl rfl (by decide +kernel) (by rfl) ?_; (try simp only [Act.put, List.setIfInBounds_toArray, List.set_cons_zero, List.set_cons_succ]))
      first | (refine Xr.take 26 (some 107) (v := ?_) rfl rfl (by decide +kernel) (by rfl) ?_ ?_; rotate_left; (focus (intro w' hk; go_simp; (try with_reducible rfl); done)); (try simp only [Act.put, List.setIfInBounds_toArray, List.set_cons_zero, List.set_cons_succ])) | (refine Xr.skip 26 (some 107) rfl rfl (by decide +kernel) (by rfl) ?_; (try simp only [Act.put, List.setIfInBounds_toArray, List.set_cons_zero, List.set_cons_succ]))
      first | (refine Xr.take 27 (some 108) (v := ?_) rfl rfl (by decide +kernel) (by rfl) ?_ ?_; rotate_left; (focus (intro w' hk; go_simp; (try with_reducible rfl); done)); (try simp only [Act.put, List.setIfInBounds_toArray, List.set_cons_zero, List.set_cons_succ])) | (refine Xr.skip 27 (some 108) rfl rfl (by decide +kernel) (by rfl) ?_; (try simp only [Act.put, List.setIfInBounds_toArray, List.set_cons_zero, List.set_cons_succ]))
      first | (refine Xr.take 28 (some 109) (v := ?_) rfl rfl (by decide +kernel) (by rfl) ?_ ?_; rotate_left; (focus (intro w' hk; go_simp; (try with_reducible rfl); done)); (try simp only [Act.put, List.setIfInBounds_toArray, List.set_cons_zero, List.set_cons_succ])) | (refine Xr.skip 28 (some 109) rfl rfl (by decide +kernel) (by rfl) ?_; (try simp only [Act.put, List.setIfInBounds_toArray, List.set_cons_zero, List.set_cons_succ]))
      first | (refine Xr.take 29 (some 110) (v := ?_) rfl rfl (by decide +kernel) (by rfl) ?_ ?_; rotate_left; (focus (intro w' hk; go_simp; (try with_reducible rfl); done)); (try simp only [Act.put, List.setIfInBounds_toArray, List.set_cons_zero, List.set_cons_succ])) | (refine Xr.skip 29 (some 110) rfl rfl (by decide +kernel) (by rfl) ?_; (try simp only [Act.put, List.setIfInBounds_toArray, List.set_cons_zero, List.set_cons_succ]))
      first | (refine Xr.take 30 (some 111) (v := ?_) rfl rfl (by decide +kernel) (by rfl) ?_ ?_; rotate_left; (focus (intro w' hk; go_simp; (try with_reducible rfl); done)); (try simp only [Act.put, List.setIfInBounds_toArray, List.set_cons_zero, List.set_cons_succ])) | (refine Xr.skip 30 (some 111) rfl rfl (by decide +kernel) (by rfl) ?_; (try simp only [Act.put, List.setIfInBounds_toArray, List.set_cons_zero, List.set_cons_succ]))
      (refine Xr.take 31 (some 112) (v := ?_) rfl rfl (by decide +kernel) (by rfl) ?_ ?_; rotate_left; (focus (intro w' hk; go_simp; (try with_reducible rfl); done)); (try simp only [Act.put, List.setIfInBounds_toArray, List.set_cons_zero, List.set_cons_succ]))
      (refine Xr.take 32 (some 113) (v := ?_) rfl rfl (by decide +kernel) (by rfl) ?_ ?_; rotate_left; (focus (intro w' hk; go_simp; (try with_reducible rfl); done)); (try simp only [Act.put, List.setIfInBounds_toArray, List.set_cons_zero, List.set_cons_succ]))
      first | (refine Xr.take 33 (some 114) (v := ?_) rfl rfl (by decide +kernel) (by rfl) ?_ ?_; rotate_left; (focus (intro w' hk; go_simp; (try with_reducible rfl); done)); (try simp only [Act.put, List.setIfInBounds_toArray, List.set_cons_zero, List.set_cons_succ])) | (refine Xr.skip 33 (some 114) rfl rfl (by decide +kernel) (by rfl) ?_; (try simp only [Act.put, List.setIfInBounds_toArray, List.set_cons_zero, List.set_cons_succ]))
      first | (refine Xr.take 34 (some 115) (v := ?_) rfl rfl (by decide +kernel) (by rfl) ?_ ?_; rotate_left; (focus (intro w' hk; go_simp; (try with_reducible rfl); done)); (try simp only [Act.put, List.setIfInBounds_toArray, List.set_cons_zero, List.set_cons_succ])) | (refine Xr.skip 34 (some 115) rfl rfl (by decide +kernel) (by rfl) ?_; (try simp only [Act.put, List.setIfInBounds_toArray, List.set_cons_zero, List.set_cons_succ]))
      first | (refine Xr.take 35 (some 116) (v := ?_) rfl rfl (by decide +kernel) (by rfl) ?_ ?_; rotate_left; (focus (intro w' hk; go_simp; (try with_reducible rfl); done)); (try simp only [Act.put, List.setIfInBounds_toArray, List.set_cons_zero, List.set_cons_succ])) | (refine Xr.skip 35 (some 116) rfl rfl (by decide +kernel) (by rfl) ?_; (try simp only [Act.put, List.setIfInBounds_toArray, List.set_cons_zero, List.set_cons_succ]))
      first | (refine Xr.take 36 (some 117) (v := ?_) rfl rfl (by decide +kernel) (by rfl) ?_ ?_; rotate_left; (focus (intro w' hk; go_simp; (try with_reducible rfl); done)); (try simp only [Act.put, List.setIfInBounds_toArray, List.set_cons_zero, List.set_cons_succ])) | (refine Xr.skip 36 (some 117) rfl rfl (by decide +kernel) (by rfl) ?_; (try simp only [Act.put, List.setIfInBounds_toArray, List.set_cons_zero, List.set_cons_succ]))
      first | (refine Xr.take 37 (some 118) (v := ?_) rfl rfl (by decide +kernel) (by rfl) ?_ ?_; rotate_left; (focus (intro w' hk; go_simp; (try with_reducible rfl); done)); (try simp only [Act.put, List.setIfInBounds_toArray, List.set_cons_zero, List.set_cons_succ])) | (refine Xr.skip 37 (some 118) rfl rfl (by decide +kernel) (by rfl) ?_; (try simp only [Act.put, List.setIfInBounds_toArray, List.set_cons_zero, List.set_cons_succ]))
      first | (refine Xr.take 38 (some 119) (v := ?_) rfl rfl (by decide +kernel) (by rfl) ?_ ?_; rotate_left; (focus (intro w' hk; go_simp; (try with_reducible rfl); done)); (try simp only [Act.put, List.setIfInBounds_toArray, List.set_cons_zero, List.set_cons_succ])) | (refine Xr.skip 38 (some 119) rfl rfl (by decide +kernel) (by rfl) ?_; (try simp only [Act.put, List.setIfInBounds_toArray, List.set_cons_zero, List.set_cons_succ]))
      first | (refine Xr.take 39 (some 120) (v := ?_) rfl rfl (by decide +kernel) (by rfl) ?_ ?_; rotate_left; (focus (intro w' hk; go_simp; (try with_reducible rfl); done)); (try simp only [Act.put, List.setIfInBounds_toArray, List.set_cons_zero, List.set_cons_succ])) | (refine Xr.skip 39 (some 120) rfl rfl (by decide +kernel) (by rfl) ?_; (try simp only [Act.put, List.setIfInBounds_toArray, List.set_cons_zero, List.set_cons_succ]))
      refine Xr.call 40 rfl (by decide +kernel) (by rfl) (fun w12 hE12 hK12 K hKK => ?_)
      go_simp
      refine (sameEdit_any _ _ _ _ _ _ _ _ _ _ _ (hI2.ext hE12) ((iz0.ext x9).ext hE12)).mono ?_
      rw [decide_eq_true (show _ by exact ⟨rfl, rfl, rfl⟩)]
      rintro e w13 ⟨rfl, x13⟩
      refine hKK _ _ x13 ?_
      clear hKK
      (try simp only [Act.put, List.setIfInBounds_toArray, List.set_cons_zero, List.set_cons_succ])
      first | (refine Xr.take 41 (some 122) (v := ?_) rfl rfl (by decide +kernel) (by rfl) ?_ ?_; rotate_left; (focus (intro w' hk; go_simp; (try with_reducible rfl); done)); (try simp only [Act.put, List.setIfInBounds_toArray, List.set_cons_zero, List.set_cons_succ])) | (refine Xr.skip 41 (some 122) rfl rfl (by decide +kernel) (by rfl) ?_; (try simp only [Act.put, List.setIfInBounds_toArray, List.set_cons_zero, List.set_cons_succ]))
      (refine Xr.take 42 (some 123) (v := ?_) rfl rfl (by decide +kernel) (by rfl) ?_ ?_; rotate_left; (focus (intro w' hk; go_simp; (try with_reducible rfl); done)); (try simp only [Act.put, List.setIfInBounds_toArray, List.set_cons_zero, List.set_cons_succ]))
      refine Xr.done (by decide +kernel) (fun w14 hE14 hK14 => ?_)
      replace x9 := x9.trans hK14.nil
      replace hEb9 := hEb9.ext hK14.nil
      clear k0 k1 k2 k3 k4 k5 l0 l1 l2 l3 l4 l5 m0 m1 m2 m3 m4 m5 c0 c1 c2 c3 c4' c5 hE12 hK12 hE14 hK14 x13 bx hI2
      have HFW := Lib.hid (few_any eb E ce eb.length w14 hEb9 (by omega))
      rw [List.take_length] at HFW
      go_wp2_with fail
      refine HFW.out.mono ?_
      rintro e w15 ⟨T, cT, rfl, hT, x15⟩
      clear HFW
      have hz14 := x9.size
      have HELT := Lib.hid (show eb ≠ [] → ∀ b, E.map (·.block) = some b → b < w14.heap.size from fun hx b hb => hEb9.blt hx hb)
      replace x9 := x9.trans x15
      replace hEb9 := hEb9.ext x15
      have hab := around_bd at_ eb.length (by omega)
      have HAT := fun W' => Lib.hid (around_any at_ eb.length W' hat (by omega) (by omega))
      obtain ⟨j, hj⟩ : ∃ j : Nat, around at_ eb.length = (j : Int) := ⟨(around at_ eb.length).toNat, by omega⟩
      rw [hj] at HAT hab
      have hjl : j < eb.length := by omega
      have hjI : (j : Int) < eb.length := by omega
      have hj0 : (0 : Int) ≤ j := by omega
      clear hj hab
      go_wp2_with fail
      refine (HAT _).out.mono ?_
      rintro e w16 hq
      obtain ⟨rfl, x16⟩ := hq.v
      clear hq HAT
      replace x9 := x9.trans x16
      replace hEb9 := hEb9.ext x16
      obtain ⟨gT, rfl, hgT, t0, t0f, tz, hst⟩ := OwnB.store (OwnS.ext hT x16) hjl
      have HST := Lib.hid hst
      clear hT x15 x16 hst
      go_upto_region 17 with fail
      have hT2 := HST.out c
      have hlT : (eb.set j c).length = eb.length := List.length_set ..
      have huT : ∀ b ∈ eb.set j c, U8 b := fun b hb => by
        rcases List.mem_or_eq_of_mem_set hb with hb | rfl
        · exact heu b hb
        · exact hc
      have hkT : KpP (· = gT) w16 (w16.setCell ⟨gT, j, none⟩ (.int .u8 c)) := KpP.set (p := (· = gT)) (KpP.refl _ _) (.inl rfl) _
      have hTB := BL.of_own hT2 huT
      replace hEb9 := hEb9.kp hkT (fun hx b hb e => by have := HELT.out hx b hb; omega)
      replace x9 := x9.thenKp hkT (fun i hi => by omega)
      generalize w16.setCell ⟨gT, j, none⟩ (.int .u8 c) = w17 at *
      clear hkT hT2 HST t0 t0f tz
      have HF30 := fun W' h => Lib.hid (few_any raw R cr 30 W' h (by omega))
      obtain ⟨r30, hr30⟩ : ∃ r30, r30 = raw.take 30 := ⟨_, rfl⟩
      rw [← hr30] at HF30
      have hr30l : r30.length ≤ 30 := by rw [hr30, List.length_take]; omega
      have hr30u : ∀ b ∈ r30, U8 b := by rw [hr30]; exact fun b hb => hr.rng b (List.mem_of_mem_take hb)
      clear hr30
      have hEce := hEb9.len
      have hE1 : (1 : Int) ≤ eb.length := by omega
      have hE2 : (eb.length : Int) - 1 ≤ ce := by omega
      have hE3 : (0 : Int) ≤ (eb.length : Int) - 1 := by omega
      have hE4 : ((eb.length : Int) - 1).toNat = eb.length - 1 := by omega
      have hEw : IntKind.i64.wrap ((eb.length : Int) - 1) = (eb.length : Int) - 1 := by rw [IntKind.wrap_i64]; omega
      have hRw : BL w17 R cr raw := hr.ext (hX11.trans (hxr0.trans x9))
      refine Xr.start [] (by kernel_rfl) ?_
      (refine Xr.take 0 (some 135) (v := ?_) rfl rfl (by decide +kernel) (by rfl) ?_ ?_; rotate_left; (focus (intro w' hk; go_simp; (try with_reducible rfl); done)); (try simp only [Act.put, List.setIfInBounds_toArray, List.set_cons_zero, List.set_cons_succ]))
      (refine Xr.take 2 (some 137) (v := ?_) rfl rfl (by decide +kernel) (by rfl) ?_ ?_; rotate_left; (focus (intro w' hk; go_simp; (try with_reducible rfl); done)); (try simp only [Act.put, List.setIfInBounds_toArray, List.set_cons_zero, List.set_cons_succ]))
      (refine Xr.take 3 (some 138) (v := ?_) rfl rfl (by decide +kernel) (by rfl) ?_ ?_; rotate_left; (focus (intro w' hk; go_simp; (try with_reducible rfl); done)); (try simp only [Act.put, List.setIfInBounds_toArray, List.set_cons_zero, List.set_cons_succ]))
      (refine Xr.take 4 (some 139) (v := ?_) rfl rfl (by decide +kernel) (by rfl) ?_ ?_; rotate_left; (focus (intro w' hk; go_simp; (try with_reducible rfl); done)); (try simp only [Act.put, List.setIfInBounds_toArray, List.set_cons_zero, List.set_cons_succ]))
      (refine Xr.take 5 (some 140) (v := ?_) rfl rfl (by decide +kernel) (by rfl) ?_ ?_; rotate_left; (focus (intro w' hk; go_simp; (try with_reducible rfl); done)); (try simp only [Act.put, List.setIfInBounds_toArray, List.set_cons_zero, List.set_cons_succ]))
      (refine Xr.take 6 (some 141) (v := ?_) rfl rfl (by decide +kernel) (by rfl) ?_ ?_; rotate_left; (focus (intro w' hk; go_simp; (try with_reducible rfl); done)); (try simp only [Act.put, List.setIfInBounds_toArray, List.set_cons_zero, List.set_cons_succ]))
      (refine Xr.take 7 (some 142) (v := ?_) rfl rfl (by decide +kernel) (by rfl) ?_ ?_; rotate_left; (focus (intro w' hk; go_simp; (try with_reducible rfl); done)); (try simp only [Act.put, List.setIfInBounds_toArray, List.set_cons_zero, List.set_cons_succ]))
      refine Xr.call 1 rfl (by decide +kernel) (by rfl) (fun w18 hE18 hK18 K hKK => ?_)
      go_simp
      refine (HF30 _ (hRw.ext hE18)).out.mono ?_
      rintro e w19 ⟨F, cF, rfl, hF, x19⟩
      refine hKK _ _ x19 ?_
      clear hKK
      (try simp only [Act.put, List.setIfInBounds_toArray, List.set_cons_zero, List.set_cons_succ])
      refine Xr.lazy 8 143 9 (fun g => .slice (some ⟨g, 0, none⟩) 3 3) 64 #[.slice F r30.length cF, .slice (some ⟨gT, 0, none⟩) eb.length cT, .slice E (eb.length - 1) ce] rfl (by simp) (by decide +kernel) (by first | (simp; done) | (simp; omega)) (fun w' => by go_simp) ?_
      refine Xr.stepZ rfl (by decide +kernel) (fun _ => by rfl) (fun w20 gq hE20 hK20 hgq hq _ K hKK => ?_)
      go_simp
      refine hKK _ _ (WI_refl _ _ _) hK20 ?_
      clear hKK
      (try simp only [Act.put, List.setIfInBounds_toArray, List.set_cons_zero, List.set_cons_succ])
      refine Xr.done (by decide +kernel) (fun w22 hE22 hK22 => ?_)
      have hq22 := hq.ext hE22
      have H3 : ∀ k, k < 3 → ∃ (A' : Option Addr) (c' : Nat) (l : List Int), w22.cell? ⟨gq, k, none⟩ = some (.slice A' l.length c') ∧ BL w22 A' c' l ∧ l.length ≤ 300 := by
        intro k hk
        match k, hk with
        | 0, _ => exact ⟨F, cF, r30, by rw [hq22.cell]; rfl, ((BL.of_own hF hr30u).ext hE20).ext hE22, by omega⟩
        | 1, _ => exact ⟨_, cT, eb.set j c, by rw [hq22.cell, hlT]; rfl, hTB.ext hK22.nil, by rw [hlT]; omega⟩
        | 2, _ => exact ⟨E, ce, eb.take (eb.length - 1), by rw [hq22.cell, List.length_take, Nat.min_eq_left (by omega)]; rfl, (hEb9.take _).ext hK22.nil, by rw [List.length_take]; omega⟩
      have H3H := Lib.hid H3
      replace x9 := x9.trans hK22.nil
      clear hE20 hK20 hgq hq hE22 hK22 hq22 H3 hF x19 hE18 hK18 hRw hTB hEb9 huT hlT hEce hE1 hE2 hE3 hE4 hEw hgT HELT hjl hjI hj0 hz14 HF30 hr30u hr30l HEL hbs1 HLR HENC HREN HOWN HDEC hsz hgg hwg he0I
      go_wp2_with fail
      go_loopw [23] (fun v23 wr => ∃ k : Nat, v23 = .int .i64 k ∧ k ≤ 3 ∧ Ext w22 wr) (fun v _ => 3 - (intOf v).toNat)
      case atStart => exact ⟨0, rfl, by omega, Ext.rfl' _⟩
      case round =>
        obtain ⟨k, rfl, hk, hz⟩ := hrel
        by_cases hk3 : k < 3
        · have hkI : (k : Int) < 3 := by omega
          have hkI0 : (0 : Int) ≤ k := by omega
          obtain ⟨A', c', l, hcl, hbl, hll⟩ := H3H.out k hk3
          replace hcl := hz.cell hcl
          replace hbl := hbl.ext hz
          have HD2 := Lib.hid (eDecode_any l A' c' wr hbl (by omega))
          go_wp2_with fail
          refine HD2.out.mono ?_
          rintro e y1 ⟨⟨xc', xn', xb', ⟨xa', xd', xs'⟩⟩, B', cB', err, rfl, hI', xd2, hor⟩
          clear HD2
          unfold itV
          simp only at hI' ⊢
          have bq := Blk.new y1 39 #[.int .i64 xc', .int .i64 xn', .int .i64 xb', .int .i64 xa', .int .i64 xd', .slice B' xs'.length cB']
          have eq := Ext.alloc y1 (.cells #[.int .i64 xc', .int .i64 xn', .int .i64 xb', .int .i64 xa', .int .i64 xd', .slice B' xs'.length cB'] 39)
          go_upto_region 22 with fail
          obtain ⟨gz, hgz⟩ : ∃ gz, gz = y1.heap.size := ⟨_, rfl⟩
          rw [← hgz] at bq ⊢
          have xy := xd2.trans eq
          replace hI' := hI'.ext eq
          generalize y1.alloc (.cells #[.int .i64 xc', .int .i64 xn', .int .i64 xb', .int .i64 xa', .int .i64 xd', .slice B' xs'.length cB'] 39) = y2 at *
          clear eq hgz xd2
          replace hcl := xy.cell hcl
          replace hbl := hbl.ext xy
          replace hz := hz.trans xy
          have m0 := bq.cell 0
          have m1 := bq.cell 1
          have m2 := bq.cell 2
          have m3 := bq.cell 3
          have m4 := bq.cell 4
          have m5 := bq.cell 5
          simp only [List.getElem?_toArray, List.getElem?_cons_succ, List.getElem?_cons_zero] at m0 m1 m2 m3 m4 m5
          have kc := fun (w' : World) (h : Kp [] y2 w') => h.cell hcl (by simp)
          have k0 := fun (w' : World) (h : Kp [] y2 w') => h.cell m0 (by simp)
          have k1 := fun (w' : World) (h : Kp [] y2 w') => h.cell m1 (by simp)
          have k2 := fun (w' : World) (h : Kp [] y2 w') => h.cell m2 (by simp)
          have k3 := fun (w' : World) (h : Kp [] y2 w') => h.cell m3 (by simp)
          have k4 := fun (w' : World) (h : Kp [] y2 w') => h.cell m4 (by simp)
          have k5 := fun (w' : World) (h : Kp [] y2 w') => h.cell m5 (by simp)
          rcases hor with ⟨rfl, hd⟩ | ⟨rfl, _, hns⟩
          · obtain ⟨hle, h64, hii⟩ := (HINV _ l hbl.rng hd).out
            have hxl : xs'.length ≤ 300 := by
              have h1 := iencs_len xs'
              have h2 := congrArg List.length hle
              unfold encI lenc at h2
              simp only [List.length_append] at h2
              omega
            have HEN := fun W' h => Lib.hid (eEncode_any ⟨xc', xn', xb', ⟨xa', xd', xs'⟩⟩ B' cB' W' h64 h (by simp only; omega))
            rw [← hle] at HEN
            unfold itV at HEN
            simp only at HEN
            have hlu := hbl.rng
            clear hd hle h64 hii hxl
            refine Xr.start [] (by kernel_rfl) ?_
            (refine Xr.take 0 (some 156) (v := ?_) rfl rfl (by decide +kernel) (by rfl) ?_ ?_; rotate_left; (focus (intro w' hk; go_simp; (try with_reducible rfl); done)); (try simp only [Act.put, List.setIfInBounds_toArray, List.set_cons_zero, List.set_cons_succ]))
            (refine Xr.take 1 (some 157) (v := ?_) rfl rfl (by decide +kernel) (by rfl) ?_ ?_; rotate_left; (focus (intro w' hk; go_simp; (try with_reducible rfl); done)); (try simp only [Act.put, List.setIfInBounds_toArray, List.set_cons_zero, List.set_cons_succ]))
            (refine Xr.take 2 (some 158) (v := ?_) rfl rfl (by decide +kernel) (by rfl) ?_ ?_; rotate_left; (focus (intro w' hk; go_simp; (try with_reducible rfl); done)); (try simp only [Act.put, List.setIfInBounds_toArray, List.set_cons_zero, List.set_cons_succ]))
            first | (refine Xr.take 3 (some 159) (v := ?_) rfl rfl (by decide +kernel) (by rfl) ?_ ?_; rotate_left; (focus (intro w' hk; go_simp; (try with_reducible rfl); done)); (try simp only [Act.put, List.setIfInBounds_toArray, List.set_cons_zero, List.set_cons_succ])) | (refine Xr.skip 3 (some 159) rfl rfl (by decide +kernel) (by rfl) ?_; (try simp only [Act.put, List.setIfInBounds_toArray, List.set_cons_zero, List.set_cons_succ]))
            first | (refine Xr.take 4 (some 160) (v := ?_) rfl rfl (by decide +kernel) (by rfl) ?_ ?_; rotate_left; (focus (intro w' hk; go_simp; (try with_reducible rfl); done)); (try simp only [Act.put, List.setIfInBounds_toArray, List.set_cons_zero, List.set_cons_succ])) | (refine Xr.skip 4 (some 160) rfl rfl (by decide +kernel) (by rfl) ?_; (try simp only [Act.put, List.setIfInBounds_toArray, List.set_cons_zero, List.set_cons_succ]))
            first | (refine Xr.take 5 (some 161) (v := ?_) rfl rfl (by decide +kernel) (by rfl) ?_ ?_; rotate_left; (focus (intro w' hk; go_simp; (try with_reducible rfl); done)); (try simp only [Act.put, List.setIfInBounds_toArray, List.set_cons_zero, List.set_cons_succ])) | (refine Xr.skip 5 (some 161) rfl rfl (by decide +kernel) (by rfl) ?_; (try simp only [Act.put, List.setIfInBounds_toArray, List.set_cons_zero, List.set_cons_succ]))
            first | (refine Xr.take 6 (some 162) (v := ?_) rfl rfl (by decide +kernel) (by rfl) ?_ ?_; rotate_left; (focus (intro w' hk; go_simp; (try with_reducible rfl); done)); (try simp only [Act.put, List.setIfInBounds_toArray, List.set_cons_zero, List.set_cons_succ])) | (refine Xr.skip 6 (some 162) rfl rfl (by decide +kernel) (by rfl) ?_; (try simp only [Act.put, List.setIfInBounds_toArray, List.set_cons_zero, List.set_cons_succ]))
            first | (refine Xr.take 7 (some 163) (v := ?_) rfl rfl (by decide +kernel) (by rfl) ?_ ?_; rotate_left; (focus (intro w' hk; go_simp; (try with_reducible rfl); done)); (try simp only [Act.put, List.setIfInBounds_toArray, List.set_cons_zero, List.set_cons_succ])) | (refine Xr.skip 7 (some 163) rfl rfl (by decide +kernel) (by rfl) ?_; (try simp only [Act.put, List.setIfInBounds_toArray, List.set_cons_zero, List.set_cons_succ]))
            first | (refine Xr.take 8 (some 164) (v := ?_) rfl rfl (by decide +kernel) (by rfl) ?_ ?_; rotate_left; (focus (intro w' hk; go_simp; (try with_reducible rfl); done)); (try simp only [Act.put, List.setIfInBounds_toArray, List.set_cons_zero, List.set_cons_succ])) | (refine Xr.skip 8 (some 164) rfl rfl (by decide +kernel) (by rfl) ?_; (try simp only [Act.put, List.setIfInBounds_toArray, List.set_cons_zero, List.set_cons_succ]))
            first | (refine Xr.take 9 (some 165) (v := ?_) rfl rfl (by decide +kernel) (by rfl) ?_ ?_; rotate_left; (focus (intro w' hk; go_simp; (try with_reducible rfl); done)); (try simp only [Act.put, List.setIfInBounds_toArray, List.set_cons_zero, List.set_cons_succ])) | (refine Xr.skip 9 (some 165) rfl rfl (by decide +kernel) (by rfl) ?_; (try simp only [Act.put, List.setIfInBounds_toArray, List.set_cons_zero, List.set_cons_succ]))
            first | (refine Xr.take 10 (some 166) (v := ?_) rfl rfl (by decide +kernel) (by rfl) ?_ ?_; rotate_left; (focus (intro w' hk; go_simp; (try with_reducible rfl); done)); (try simp only [Act.put, List.setIfInBounds_toArray, List.set_cons_zero, List.set_cons_succ])) | (refine Xr.skip 10 (some 166) rfl rfl (by decide +kernel) (by rfl) ?_; (try simp only [Act.put, List.setIfInBounds_toArray, List.set_cons_zero, List.set_cons_succ]))
            first | (refine Xr.take 11 (some 167) (v := ?_) rfl rfl (by decide +kernel) (by rfl) ?_ ?_; rotate_left; (focus (intro w' hk; go_simp; (try with_reducible rfl); done)); (try simp only [Act.put, List.setIfInBounds_toArray, List.set_cons_zero, List.set_cons_succ])) | (refine Xr.skip 11 (some 167) rfl rfl (by decide +kernel) (by rfl) ?_; (try simp only [Act.put, List.setIfInBounds_toArray, List.set_cons_zero, List.set_cons_succ]))
            (refine Xr.take 12 (some 168) (v := ?_) rfl rfl (by decide +kernel) (by rfl) ?_ ?_; rotate_left; (focus (intro w' hk; go_simp; (try with_reducible rfl); done)); (try simp only [Act.put, List.setIfInBounds_toArray, List.set_cons_zero, List.set_cons_succ]))
            (refine Xr.take 13 (some 169) (v := ?_) rfl rfl (by decide +kernel) (by rfl) ?_ ?_; rotate_left; (focus (intro w' hk; go_simp; (try with_reducible rfl); done)); (try simp only [Act.put, List.setIfInBounds_toArray, List.set_cons_zero, List.set_cons_succ]))
            first | (refine Xr.take 14 (some 170) (v := ?_) rfl rfl (by decide +kernel) (by rfl) ?_ ?_; rotate_left; (focus (intro w' hk; go_simp; (try with_reducible rfl); done)); (try simp only [Act.put, List.setIfInBounds_toArray, List.set_cons_zero, List.set_cons_succ])) | (refine Xr.skip 14 (some 170) rfl rfl (by decide +kernel) (by rfl) ?_; (try simp only [Act.put, List.setIfInBounds_toArray, List.set_cons_zero, List.set_cons_succ]))
            first | (refine Xr.take 15 (some 171) (v := ?_) rfl rfl (by decide +kernel) (by rfl) ?_ ?_; rotate_left; (focus (intro w' hk; go_simp; (try with_reducible rfl); done)); (try simp only [Act.put, List.setIfInBounds_toArray, List.set_cons_zero, List.set_cons_succ])) | (refine Xr.skip 15 (some 171) rfl rfl (by decide +kernel) (by rfl) ?_; (try simp only [Act.put, List.setIfInBounds_toArray, List.set_cons_zero, List.set_cons_succ]))
            first | (refine Xr.take 16 (some 172) (v := ?_) rfl rfl (by decide +kernel) (by rfl) ?_ ?_; rotate_left; (focus (intro w' hk; go_simp; (try with_reducible rfl); done)); (try simp only [Act.put, List.setIfInBounds_toArray, List.set_cons_zero, List.set_cons_succ])) | (refine Xr.skip 16 (some 172) rfl rfl (by decide +kernel) (by rfl) ?_; (try simp only [Act.put, List.setIfInBounds_toArray, List.set_cons_zero, List.set_cons_succ]))
            first | (refine Xr.take 17 (some 173) (v := ?_) rfl rfl (by decide +kernel) (by rfl) ?_ ?_; rotate_left; (focus (intro w' hk; go_simp; (try with_reducible rfl); done)); (try simp only [Act.put, List.setIfInBounds_toArray, List.set_cons_zero, List.set_cons_succ])) | (refine Xr.skip 17 (some 173) rfl rfl (by decide +kernel) (by rfl) ?_; (try simp only [Act.put, List.setIfInBounds_toArray, List.set_cons_zero, List.set_cons_succ]))
            first | (refine Xr.take 19 (some 175) (v := ?_) rfl rfl (by decide +kernel) (by rfl) ?_ ?_; rotate_left; (focus (intro w' hk; go_simp; (try with_reducible rfl); done)); (try simp only [Act.put, List.setIfInBounds_toArray, List.set_cons_zero, List.set_cons_succ])) | (refine Xr.skip 19 (some 175) rfl rfl (by decide +kernel) (by rfl) ?_; (try simp only [Act.put, List.setIfInBounds_toArray, List.set_cons_zero, List.set_cons_succ]))
            first | (refine Xr.take 20 (some 176) (v := ?_) rfl rfl (by decide +kernel) (by rfl) ?_ ?_; rotate_left; (focus (intro w' hk; go_simp; (try with_reducible rfl); done)); (try simp only [Act.put, List.setIfInBounds_toArray, List.set_cons_zero, List.set_cons_succ])) | (refine Xr.skip 20 (some 176) rfl rfl (by decide +kernel) (by rfl) ?_; (try simp only [Act.put, List.setIfInBounds_toArray, List.set_cons_zero, List.set_cons_succ]))
            first | (refine Xr.take 21 (some 177) (v := ?_) rfl rfl (by decide +kernel) (by rfl) ?_ ?_; rotate_left; (focus (intro w' hk; go_simp; (try with_reducible rfl); done)); (try simp only [Act.put, List.setIfInBounds_toArray, List.set_cons_zero, List.set_cons_succ])) | (refine Xr.skip 21 (some 177) rfl rfl (by decide +kernel) (by rfl) ?_; (try simp only [Act.put, List.setIfInBounds_toArray, List.set_cons_zero, List.set_cons_succ]))
            first | (refine Xr.take 22 (some 178) (v := ?_) rfl rfl (by decide +kernel) (by rfl) ?_ ?_; rotate_left; (focus (intro w' hk; go_simp; (try with_reducible rfl); done)); (try simp only [Act.put, List.setIfInBounds_toArray, List.set_cons_zero, List.set_cons_succ])) | (refine Xr.skip 22 (some 178) rfl rfl (by decide +kernel) (by rfl) ?_; (try simp only [Act.put, List.setIfInBounds_toArray, List.set_cons_zero, List.set_cons_succ]))
            refine Xr.call 18 rfl (by decide +kernel) (by rfl) (fun y3 hE3 hK3 K hKK => ?_)
            go_simp
            refine (HEN _ (hI'.ext hE3)).out.mono ?_
            rintro e y4 ⟨G, cG, rfl, hG, x4⟩
            refine hKK _ _ x4 ?_
            clear hKK
            (try simp only [Act.put, List.setIfInBounds_toArray, List.set_cons_zero, List.set_cons_succ])
            refine Xr.call 23 rfl (by decide +kernel) (by rfl) (fun y5 hE5 hK5 K hKK => ?_)
            go_simp
            refine (sameBytes_any G A' cG c' l l y5 ((BL.of_own hG hlu).ext hE5) (((hbl.ext hE3).ext x4).ext hE5)).mono ?_
            rw [beq_self_eq_true]
            rintro e y6 hq
            obtain ⟨rfl, x6⟩ := hq.v
            refine hKK _ _ x6 ?_
            clear hKK
            (try simp only [Act.put, List.setIfInBounds_toArray, List.set_cons_zero, List.set_cons_succ])
            first | (refine Xr.take 24 (some 180) (v := ?_) rfl rfl (by decide +kernel) (by rfl) ?_ ?_; rotate_left; (focus (intro w' hk; go_simp; (try with_reducible rfl); done)); (try simp only [Act.put, List.setIfInBounds_toArray, List.set_cons_zero, List.set_cons_succ])) | (refine Xr.skip 24 (some 180) rfl rfl (by decide +kernel) (by rfl) ?_; (try simp only [Act.put, List.setIfInBounds_toArray, List.set_cons_zero, List.set_cons_succ]))
            first | (refine Xr.take 25 (some 181) (v := ?_) rfl rfl (by decide +kernel) (by rfl) ?_ ?_; rotate_left; (focus (intro w' hk; go_simp; (try with_reducible rfl); done)); (try simp only [Act.put, List.setIfInBounds_toArray, List.set_cons_zero, List.set_cons_succ])) | (refine Xr.skip 25 (some 181) rfl rfl (by decide +kernel) (by rfl) ?_; (try simp only [Act.put, List.setIfInBounds_toArray, List.set_cons_zero, List.set_cons_succ]))
            (refine Xr.take 26 (some 182) (v := ?_) rfl rfl (by decide +kernel) (by rfl) ?_ ?_; rotate_left; (focus (intro w' hk; go_simp; (try with_reducible rfl); done)); (try simp only [Act.put, List.setIfInBounds_toArray, List.set_cons_zero, List.set_cons_succ]))
            refine Xr.done (by decide +kernel) (fun y7 hE7 hK7 => ?_)
            have xf := hz.trans hK7.nil
            clear k0 k1 k2 k3 k4 k5 kc m0 m1 m2 m3 m4 m5
            go_wp2_with fail
            go_roundw
            case rel => exact ⟨k + 1, by go_num, by omega, xf⟩
            case measure => simp [intOf]; omega
          · simp only at hns
            subst hns
            refine Xr.start [] (by kernel_rfl) ?_
            (refine Xr.take 0 (some 156) (v := ?_) rfl rfl (by decide +kernel) (by rfl) ?_ ?_; rotate_left; (focus (intro w' hk; go_simp; (try with_reducible rfl); done)); (try simp only [Act.put, List.setIfInBounds_toArray, List.set_cons_zero, List.set_cons_succ]))
            (refine Xr.take 1 (some 157) (v := ?_) rfl rfl (by decide +kernel) (by rfl) ?_ ?_; rotate_left; (focus (intro w' hk; go_simp; (try with_reducible rfl); done)); (try simp only [Act.put, List.setIfInBounds_toArray, List.set_cons_zero, List.set_cons_succ]))
            (refine Xr.take 2 (some 158) (v := ?_) rfl rfl (by decide +kernel) (by rfl) ?_ ?_; rotate_left; (focus (intro w' hk; go_simp; (try with_reducible rfl); done)); (try simp only [Act.put, List.setIfInBounds_toArray, List.set_cons_zero, List.set_cons_succ]))
            first | (refine Xr.take 3 (some 159) (v := ?_) rfl rfl (by decide +kernel) (by rfl) ?_ ?_; rotate_left; (focus (intro w' hk; go_simp; (try with_reducible rfl); done)); (try simp only [Act.put, List.setIfInBounds_toArray, List.set_cons_zero, List.set_cons_succ])) | (refine Xr.skip 3 (some 159) rfl rfl (by decide +kernel) (by rfl) ?_; (try simp only [Act.put, List.setIfInBounds_toArray, List.set_cons_zero, List.set_cons_succ]))
            first | (refine Xr.take 4 (some 160) (v := ?_) rfl rfl (by decide +kernel) (by rfl) ?_ ?_; rotate_left; (focus (intro w' hk; go_simp; (try with_reducible rfl); done)); (try simp only [Act.put, List.setIfInBounds_toArray, List.set_cons_zero, List.set_cons_succ])) | (refine Xr.skip 4 (some 160) rfl rfl (by decide +kernel) (by rfl) ?_; (try simp only [Act.put, List.setIfInBounds_toArray, List.set_cons_zero, List.set_cons_succ]))
            first | (refine Xr.take 5 (some 161) (v := ?_) rfl rfl (by decide +kernel) (by rfl) ?_ ?_; rotate_left; (focus (intro w' hk; go_simp; (try with_reducible rfl); done)); (try simp only [Act.put, List.setIfInBounds_toArray, List.set_cons_zero, List.set_cons_succ])) | (refine Xr.skip 5 (some 161) rfl rfl (by decide +kernel) (by rfl) ?_; (try simp only [Act.put, List.setIfInBounds_toArray, List.set_cons_zero, List.set_cons_succ]))
            first | (refine Xr.take 6 (some 162) (v := ?_) rfl rfl (by decide +kernel) (by rfl) ?_ ?_; rotate_left; (focus (intro w' hk; go_simp; (try with_reducible rfl); done)); (try simp only [Act.put, List.setIfInBounds_toArray, List.set_cons_zero, List.set_cons_succ])) | (refine Xr.skip 6 (some 162) rfl rfl (by decide +kernel) (by rfl) ?_; (try simp only [Act.put, List.setIfInBounds_toArray, List.set_cons_zero, List.set_cons_succ]))
            first | (refine Xr.take 7 (some 163) (v := ?_) rfl rfl (by decide +kernel) (by rfl) ?_ ?_; rotate_left; (focus (intro w' hk; go_simp; (try with_reducible rfl); done)); (try simp only [Act.put, List.setIfInBounds_toArray, List.set_cons_zero, List.set_cons_succ])) | (refine Xr.skip 7 (some 163) rfl rfl (by decide +kernel) (by rfl) ?_; (try simp only [Act.put, List.setIfInBounds_toArray, List.set_cons_zero, List.set_cons_succ]))
            first | (refine Xr.take 8 (some 164) (v := ?_) rfl rfl (by decide +kernel) (by rfl) ?_ ?_; rotate_left; (focus (intro w' hk; go_simp; (try with_reducible rfl); done)); (try simp only [Act.put, List.setIfInBounds_toArray, List.set_cons_zero, List.set_cons_succ])) | (refine Xr.skip 8 (some 164) rfl rfl (by decide +kernel) (by rfl) ?_; (try simp only [Act.put, List.setIfInBounds_toArray, List.set_cons_zero, List.set_cons_succ]))
            first | (refine Xr.take 9 (some 165) (v := ?_) rfl rfl (by decide +kernel) (by rfl) ?_ ?_; rotate_left; (focus (intro w' hk; go_simp; (try with_reducible rfl); done)); (try simp only [Act.put, List.setIfInBounds_toArray, List.set_cons_zero, List.set_cons_succ])) | (refine Xr.skip 9 (some 165) rfl rfl (by decide +kernel) (by rfl) ?_; (try simp only [Act.put, List.setIfInBounds_toArray, List.set_cons_zero, List.set_cons_succ]))
            first | (refine Xr.take 10 (some 166) (v := ?_) rfl rfl (by decide +kernel) (by rfl) ?_ ?_; rotate_left; (focus (intro w' hk; go_simp; (try with_reducible rfl); done)); (try simp only [Act.put, List.setIfInBounds_toArray, List.set_cons_zero, List.set_cons_succ])) | (refine Xr.skip 10 (some 166) rfl rfl (by decide +kernel) (by rfl) ?_; (try simp only [Act.put, List.setIfInBounds_toArray, List.set_cons_zero, List.set_cons_succ]))
            first | (refine Xr.take 11 (some 167) (v := ?_) rfl rfl (by decide +kernel) (by rfl) ?_ ?_; rotate_left; (focus (intro w' hk; go_simp; (try with_reducible rfl); done)); (try simp only [Act.put, List.setIfInBounds_toArray, List.set_cons_zero, List.set_cons_succ])) | (refine Xr.skip 11 (some 167) rfl rfl (by decide +kernel) (by rfl) ?_; (try simp only [Act.put, List.setIfInBounds_toArray, List.set_cons_zero, List.set_cons_succ]))
            (refine Xr.take 12 (some 168) (v := ?_) rfl rfl (by decide +kernel) (by rfl) ?_ ?_; rotate_left; (focus (intro w' hk; go_simp; (try with_reducible rfl); done)); (try simp only [Act.put, List.setIfInBounds_toArray, List.set_cons_zero, List.set_cons_succ]))
            (refine Xr.take 13 (some 169) (v := ?_) rfl rfl (by decide +kernel) (by rfl) ?_ ?_; rotate_left; (focus (intro w' hk; go_simp; (try with_reducible rfl); done)); (try simp only [Act.put, List.setIfInBounds_toArray, List.set_cons_zero, List.set_cons_succ]))
            first | (refine Xr.take 14 (some 170) (v := ?_) rfl rfl (by decide +kernel) (by rfl) ?_ ?_; rotate_left; (focus (intro w' hk; go_simp; (try with_reducible rfl); done)); (try simp only [Act.put, List.setIfInBounds_toArray, List.set_cons_zero, List.set_cons_succ])) | (refine Xr.skip 14 (some 170) rfl rfl (by decide +kernel) (by rfl) ?_; (try simp only [Act.put, List.setIfInBounds_toArray, List.set_cons_zero, List.set_cons_succ]))
            first | (refine Xr.take 15 (some 171) (v := ?_) rfl rfl (by decide +kernel) (by rfl) ?_ ?_; rotate_left; (focus (intro w' hk; go_simp; (try with_reducible rfl); done)); (try simp only [Act.put, List.setIfInBounds_toArray, List.set_cons_zero, List.set_cons_succ])) | (refine Xr.skip 15 (some 171) rfl rfl (by decide +kernel) (by rfl) ?_; (try simp only [Act.put, List.setIfInBounds_toArray, List.set_cons_zero, List.set_cons_succ]))
            first | (refine Xr.take 16 (some 172) (v := ?_) rfl rfl (by decide +kernel) (by rfl) ?_ ?_; rotate_left; (focus (intro w' hk; go_simp; (try with_reducible rfl); done)); (try simp only [Act.put, List.setIfInBounds_toArray, List.set_cons_zero, List.set_cons_succ])) | (refine Xr.skip 16 (some 172) rfl rfl (by decide +kernel) (by rfl) ?_; (try simp only [Act.put, List.setIfInBounds_toArray, List.set_cons_zero, List.set_cons_succ]))
            first | (refine Xr.take 17 (some 173) (v := ?_) rfl rfl (by decide +kernel) (by rfl) ?_ ?_; rotate_left; (focus (intro w' hk; go_simp; (try with_reducible rfl); done)); (try simp only [Act.put, List.setIfInBounds_toArray, List.set_cons_zero, List.set_cons_succ])) | (refine Xr.skip 17 (some 173) rfl rfl (by decide +kernel) (by rfl) ?_; (try simp only [Act.put, List.setIfInBounds_toArray, List.set_cons_zero, List.set_cons_succ]))
            try (refine Xr.skip 18 (some 174) rfl rfl (by decide +kernel) (by rfl) ?_; (try simp only [Act.put, List.setIfInBounds_toArray, List.set_cons_zero, List.set_cons_succ]))
            first | (refine Xr.take 19 (some 175) (v := ?_) rfl rfl (by decide +kernel) (by rfl) ?_ ?_; rotate_left; (focus (intro w' hk; go_simp; (try with_reducible rfl); done)); (try simp only [Act.put, List.setIfInBounds_toArray, List.set_cons_zero, List.set_cons_succ])) | (refine Xr.skip 19 (some 175) rfl rfl (by decide +kernel) (by rfl) ?_; (try simp only [Act.put, List.setIfInBounds_toArray, List.set_cons_zero, List.set_cons_succ]))
            first | (refine Xr.take 20 (some 176) (v := ?_) rfl rfl (by decide +kernel) (by rfl) ?_ ?_; rotate_left; (focus (intro w' hk; go_simp; (try with_reducible rfl); done)); (try simp only [Act.put, List.setIfInBounds_toArray, List.set_cons_zero, List.set_cons_succ])) | (refine Xr.skip 20 (some 176) rfl rfl (by decide +kernel) (by rfl) ?_; (try simp only [Act.put, List.setIfInBounds_toArray, List.set_cons_zero, List.set_cons_succ]))
            first | (refine Xr.take 21 (some 177) (v := ?_) rfl rfl (by decide +kernel) (by rfl) ?_ ?_; rotate_left; (focus (intro w' hk; go_simp; (try with_reducible rfl); done)); (try simp only [Act.put, List.setIfInBounds_toArray, List.set_cons_zero, List.set_cons_succ])) | (refine Xr.skip 21 (some 177) rfl rfl (by decide +kernel) (by rfl) ?_; (try simp only [Act.put, List.setIfInBounds_toArray, List.set_cons_zero, List.set_cons_succ]))
            first | (refine Xr.take 22 (some 178) (v := ?_) rfl rfl (by decide +kernel) (by rfl) ?_ ?_; rotate_left; (focus (intro w' hk; go_simp; (try with_reducible rfl); done)); (try simp only [Act.put, List.setIfInBounds_toArray, List.set_cons_zero, List.set_cons_succ])) | (refine Xr.skip 22 (some 178) rfl rfl (by decide +kernel) (by rfl) ?_; (try simp only [Act.put, List.setIfInBounds_toArray, List.set_cons_zero, List.set_cons_succ]))
            try (refine Xr.skip 23 (some 179) rfl rfl (by decide +kernel) (by rfl) ?_; (try simp only [Act.put, List.setIfInBounds_toArray, List.set_cons_zero, List.set_cons_succ]))
            first | (refine Xr.take 24 (some 180) (v := ?_) rfl rfl (by decide +kernel) (by rfl) ?_ ?_; rotate_left; (focus (intro w' hk; go_simp; (try with_reducible rfl); done)); (try simp only [Act.put, List.setIfInBounds_toArray, List.set_cons_zero, List.set_cons_succ])) | (refine Xr.skip 24 (some 180) rfl rfl (by decide +kernel) (by rfl) ?_; (try simp only [Act.put, List.setIfInBounds_toArray, List.set_cons_zero, List.set_cons_succ]))
            first | (refine Xr.take 25 (some 181) (v := ?_) rfl rfl (by decide +kernel) (by rfl) ?_ ?_; rotate_left; (focus (intro w' hk; go_simp; (try with_reducible rfl); done)); (try simp only [Act.put, List.setIfInBounds_toArray, List.set_cons_zero, List.set_cons_succ])) | (refine Xr.skip 25 (some 181) rfl rfl (by decide +kernel) (by rfl) ?_; (try simp only [Act.put, List.setIfInBounds_toArray, List.set_cons_zero, List.set_cons_succ]))
            (refine Xr.take 26 (some 182) (v := ?_) rfl rfl (by decide +kernel) (by rfl) ?_ ?_; rotate_left; (focus (intro w' hk; go_simp; (try with_reducible rfl); done)); (try simp only [Act.put, List.setIfInBounds_toArray, List.set_cons_zero, List.set_cons_succ]))
            refine Xr.done (by decide +kernel) (fun y7 hE7 hK7 => ?_)
            have xf := hz.trans hK7.nil
            clear k0 k1 k2 k3 k4 k5 kc m0 m1 m2 m3 m4 m5
            go_wp2_with fail
            go_roundw
            case rel => exact ⟨k + 1, by go_num, by omega, xf⟩
            case measure => simp [intOf]; omega
        · have hkI : ¬ (k : Int) < 3 := by omega
          have xf := hxr0.trans (x9.trans hz)
          go_wp2_with fail
          go_roundw
          case rel => exact ⟨i + 1, by go_num, by omega, xf⟩
          case measure => simp [intOf]; omega
    · have hI : ¬ (i : Int) < 2 := by omega
      go_wp2_with fail
      refine (lives_any _).mono ?_
      rintro e w1 ⟨rfl, x1⟩
      go_wp2
      go_ret
      exact ⟨rfl, (hX11.trans hxr).trans x1⟩
end Go.Proofs.Ythhfjomjjhenkaa
