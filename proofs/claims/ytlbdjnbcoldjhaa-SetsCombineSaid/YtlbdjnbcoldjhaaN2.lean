/- The walk of SetsCombine: for every two sets made from numbers Union, Meet and Minus return what the reference does. -/
import Derived.Test.YtlbdjnbcoldjhaaNR
namespace Go.Proofs.Ytlbdjnbcoldjhaa
open Go.RowKit

set_option maxRecDepth 100000 in
set_option maxHeartbeats 8000000 in
theorem SetsCombine_any (A : Option Addr) (c : Nat) (l : List Int) (B : Option Addr) (d : Nat) (k : List Int) (at_ by_ n : Int) (w : World) (hl : IL w A c l) (hk : IL w B d k) (ha : I64 at_) (hb : I64 by_) (hn : I64 n) :
    Calls Try.prog 5 #[.slice A l.length c, .slice B k.length d, .int .i64 at_, .int .i64 by_, .int .i64 n] w (RetV (.bool true) w) := by
  have hcap := hl.len
  have hcap2 := hk.len
  have HS1 := Lib.hid (gSet_any A c l 10 w hl (by omega))
  have HAR := fun (q m : Int) (W : World) hq h0 h1 => Lib.hid ((around_any q m W hq h0 h1).mono (fun _ _ h => RetQ.ext h))
  have HA1 := fun (W : World) => HAR n 36 W hn (by omega) (by omega)
  have HA2 := fun (W : World) => HAR n 3 W hn (by omega) (by omega)
  have B1 := around_bd n 36 (by omega)
  have B2 := around_bd n 3 (by omega)
  generalize around n 36 = n1 at *
  generalize around n 3 = n2 at *
  obtain ⟨m, hm⟩ : ∃ m : Nat, 30 + n1 = m := ⟨(30 + n1).toNat, by omega⟩
  have hwm : IntKind.i64.wrap (30 + n1) = (m : Int) := by rw [IntKind.wrap_i64]; omega
  have hwm2 : IntKind.i64.wrap (2 * (m : Int)) = 2 * (m : Int) := by rw [IntKind.wrap_i64]; omega
  have hwm3 : IntKind.i64.wrap (2 * (m : Int) + n2) = 2 * (m : Int) + n2 := by rw [IntKind.wrap_i64]; omega
  clear HAR
  go_enter Try.func5, Try.ntmps5
  go_wp2_with fail
  refine HS1.out.mono ?_
  rintro e w1 ⟨A1, c1, l1, rfl, s1, hl1, _, ho1, x1⟩
  have HS2 := Lib.hid (gSet_any B d k 10 w1 (hk.ext x1) (by omega))
  clear HS1
  go_wp2_with fail
  refine HS2.out.mono ?_
  rintro e w2 ⟨A2, c2, l2, rfl, s2, hl2, _, ho2, x2⟩
  clear HS2
  replace s1 := s1.ext x2
  have X := x1.trans x2
  clear x1 x2
  have hs2 := Lib.hid (show ∀ s ∈ l2, Small s from fun s hs => good_small (okL_good ho2 s hs))
  clear ho1 ho2
  go_wp2_with fail
  refine (HA1 _).out.mono ?_
  rintro e w3 ⟨rfl, x3⟩
  clear HA1
  replace s1 := s1.ext x3
  replace s2 := s2.ext x3
  replace X := X.trans x3
  have HP := Lib.hid (gSpoilt_any A2 c2 l2 at_ by_ w3 s2 hs2.out (by omega) ha hb)
  clear x3
  go_wp2_with fail
  refine HP.out.mono ?_
  rintro e w4 ⟨A3, c3, l3, rfl, s3, hl3, x4⟩
  replace s1 := s1.ext x4
  replace s2 := s2.ext x4
  replace X := X.trans x4
  have HM := Lib.hid (gMany_any m 0 w4 (by omega) (by omega))
  clear HP x4
  go_wp2_with fail
  refine HM.out.mono ?_
  rintro e w5 ⟨A4, c4, l4, rfl, s4, hl4, _, x5⟩
  replace s1 := s1.ext x5
  replace s2 := s2.ext x5
  replace s3 := s3.ext x5
  replace X := X.trans x5
  clear HM x5
  go_wp2_with fail
  refine (HA2 _).out.mono ?_
  rintro e w6 ⟨rfl, x6⟩
  have HM2 := Lib.hid (gMany_any m (2 * (m : Int) + n2) w6 (by omega) (by omega))
  go_wp2_with fail
  refine HM2.out.mono ?_
  rintro e w7 ⟨A5, c5, l5, rfl, s5, hl5, _, x7⟩
  have x67 := x6.trans x7
  replace s1 := s1.ext x67
  replace s2 := s2.ext x67
  replace s3 := s3.ext x67
  replace s4 := s4.ext x67
  replace X := X.trans x67
  clear HM2 HA2 x6 x7 x67
  go_upto_region 5 with fail
  have bL := Blk.new w7 24 (flatH [⟨A1, c1, l1⟩, ⟨A2, c2, l2⟩, ⟨A3, c3, l3⟩, ⟨A4, c4, l4⟩, ⟨A5, c5, l5⟩]).toArray
  have eL := Ext.alloc w7 (.cells (flatH [⟨A1, c1, l1⟩, ⟨A2, c2, l2⟩, ⟨A3, c3, l3⟩, ⟨A4, c4, l4⟩, ⟨A5, c5, l5⟩]).toArray 24)
  have HLL := LLS.lit [⟨A1, c1, l1⟩, ⟨A2, c2, l2⟩, ⟨A3, c3, l3⟩, ⟨A4, c4, l4⟩, ⟨A5, c5, l5⟩] bL (fun h hh => by
    simp only [List.mem_cons, List.not_mem_nil, or_false] at hh
    rcases hh with rfl | rfl | rfl | rfl | rfl
    · exact s1.ext eL
    · exact s2.ext eL
    · exact s3.ext eL
    · exact s4.ext eL
    · exact s5.ext eL) (by simp)
  have H5 := Lib.hid (show ([⟨A1, c1, l1⟩, ⟨A2, c2, l2⟩, ⟨A3, c3, l3⟩, ⟨A4, c4, l4⟩, ⟨A5, c5, l5⟩] : List Hs).length = 5 from rfl)
  replace X := X.trans eL
  rw [show (flatH [⟨A1, c1, l1⟩, ⟨A2, c2, l2⟩, ⟨A3, c3, l3⟩, ⟨A4, c4, l4⟩, ⟨A5, c5, l5⟩]).toArray = #[.slice A1 l1.length c1, .slice A2 l2.length c2, .slice A3 l3.length c3, .slice A4 l4.length c4, .slice A5 l5.length c5] from rfl] at HLL X
  generalize ([⟨A1, c1, l1⟩, ⟨A2, c2, l2⟩, ⟨A3, c3, l3⟩, ⟨A4, c4, l4⟩, ⟨A5, c5, l5⟩] : List Hs) = hs' at *
  rw [H5.out] at HLL
  obtain ⟨g, hg⟩ : ∃ g, g = w7.heap.size := ⟨_, rfl⟩
  rw [← hg] at HLL ⊢
  clear hg bL eL
  generalize w7.alloc (.cells #[.slice A1 l1.length c1, .slice A2 l2.length c2, .slice A3 l3.length c3, .slice A4 l4.length c4, .slice A5 l5.length c5] 24) = wL at *
  clear s1 s2 s3 s4 s5 hs2 hl1 hl2 hl3 hl4 hl5 hwm hwm2 hwm3 hm B1 B2
  go_wp2_with fail
  go_loopw [15] (fun v wr => ∃ i : Nat, v = .int .i64 i ∧ i ≤ 5 ∧ Ext wL wr) (fun v _ => 5 - (intOf v).toNat)
  case atStart => exact ⟨0, rfl, by omega, Ext.rfl' _⟩
  case round =>
    obtain ⟨i, rfl, hi, x1⟩ := hrel
    by_cases hlt : i < 5
    · have hiI : (i : Int) < 5 := by omega
      have hih : i < hs'.length := by rw [H5.out]; exact hlt
      obtain ⟨pb, po, hpe, g0⟩ := (HLL.ext x1).get hih
      have hsl := (HLL.sl _ (List.getElem_mem hih)).ext x1
      have hpe2 : g = pb ∧ po = 0 := by injection hpe with h1; injection h1 with h2 h3 h4; exact ⟨h2, h3.symm⟩
      obtain ⟨rfl, rfl⟩ := hpe2
      clear hpe
      simp only [Nat.zero_add] at g0
      generalize hs'[i] = hh at *
      obtain ⟨hA, hc, hl2⟩ := hh
      simp only at g0 hsl
      go_wp2_with fail
      go_loopw [16] (fun v wr2 => ∃ q : Nat, v = .int .i64 q ∧ q ≤ 5 ∧ Ext wr wr2) (fun v _ => 5 - (intOf v).toNat)
      case atStart => exact ⟨0, rfl, by omega, Ext.rfl' _⟩
      case round =>
        obtain ⟨q, rfl, hq, x6⟩ := hrel
        by_cases hqt : q < 5
        · have hqI : (q : Int) < 5 := by omega
          have hqh : q < hs'.length := by rw [H5.out]; exact hqt
          obtain ⟨pb, po, hpe, q0⟩ := (HLL.ext (x1.trans x6)).get hqh
          have hsk := (HLL.sl _ (List.getElem_mem hqh)).ext (x1.trans x6)
          have hpe2 : g = pb ∧ po = 0 := by injection hpe with h1; injection h1 with h2 h3 h4; exact ⟨h2, h3.symm⟩
          obtain ⟨rfl, rfl⟩ := hpe2
          clear hpe
          simp only [Nat.zero_add] at q0
          generalize hs'[q] = hh2 at *
          obtain ⟨kA, kc, kl⟩ := hh2
          simp only at q0 hsk
          have g0k := x6.cell g0
          have hsi := hsl.ext x6
          have HC0 := fun (W' : World) (x : Ext wr W') => Lib.hid (sC0 hA kA hc kc hl2 kl W' (hsi.ext x) (hsk.ext x))
          have HD0 := fun (W' : World) (x : Ext wr W') => Lib.hid (gC0 hA kA hc kc hl2 kl W' (hsi.ext x) (hsk.ext x))
          have HL0 := cO_len (validE hl2) (validE kl) (combo kOr [hl2, kl])
          generalize cO (validE hl2) (validE kl) (combo kOr [hl2, kl]) = o0 at *
          generalize cE (validE hl2) (validE kl) (combo kOr [hl2, kl]) = e0 at *
          have he0 : (e0 != e0) = false := by simp
          have HC1 := fun (W' : World) (x : Ext wr W') => Lib.hid (sC1 hA kA hc kc hl2 kl W' (hsi.ext x) (hsk.ext x))
          have HD1 := fun (W' : World) (x : Ext wr W') => Lib.hid (gC1 hA kA hc kc hl2 kl W' (hsi.ext x) (hsk.ext x))
          have HL1 := cO_len (validE hl2) (validE kl) (combo kAnd [hl2, kl])
          generalize cO (validE hl2) (validE kl) (combo kAnd [hl2, kl]) = o1 at *
          generalize cE (validE hl2) (validE kl) (combo kAnd [hl2, kl]) = e1 at *
          have he1 : (e1 != e1) = false := by simp
          have HC2 := fun (W' : World) (x : Ext wr W') => Lib.hid (sC2 hA kA hc kc hl2 kl W' (hsi.ext x) (hsk.ext x))
          have HD2 := fun (W' : World) (x : Ext wr W') => Lib.hid (gC2 hA kA hc kc hl2 kl W' (hsi.ext x) (hsk.ext x))
          have HL2 := cO_len (validE hl2) (validE kl) (combo kMinus [hl2, kl])
          generalize cO (validE hl2) (validE kl) (combo kMinus [hl2, kl]) = o2 at *
          generalize cE (validE hl2) (validE kl) (combo kMinus [hl2, kl]) = e2 at *
          have he2 : (e2 != e2) = false := by simp
          have y0 := Ext.rfl' wr
          have g1 := g0k
          have g2 := q0
          clear g0k q0
          have k0 := fun (w' : World) (h : Kp [] wr w') => h.cell g1 (by simp)
          have k1 := fun (w' : World) (h : Kp [] wr w') => h.cell g2 (by simp)
          go_upto_region 11 with fail
          refine Xr.start [] (by kernel_rfl) ?_
          (refine Xr.take 0 (some 65) (v := ?_) rfl rfl (by decide +kernel) (by rfl) ?_ ?_; rotate_left; (focus (intro w' hk; go_simp; (try with_reducible rfl); done)); (try simp only [Act.put, List.setIfInBounds_toArray, List.set_cons_zero, List.set_cons_succ]))
          (refine Xr.take 1 (some 66) (v := ?_) rfl rfl (by decide +kernel) (by rfl) ?_ ?_; rotate_left; (focus (intro w' hk; go_simp; (try with_reducible rfl); done)); (try simp only [Act.put, List.setIfInBounds_toArray, List.set_cons_zero, List.set_cons_succ]))
          (refine Xr.take 2 (some 67) (v := ?_) rfl rfl (by decide +kernel) (by rfl) ?_ ?_; rotate_left; (focus (intro w' hk; go_simp; (try with_reducible rfl); done)); (try simp only [Act.put, List.setIfInBounds_toArray, List.set_cons_zero, List.set_cons_succ]))
          (refine Xr.take 3 (some 68) (v := ?_) rfl rfl (by decide +kernel) (by rfl) ?_ ?_; rotate_left; (focus (intro w' hk; go_simp; (try with_reducible rfl); done)); (try simp only [Act.put, List.setIfInBounds_toArray, List.set_cons_zero, List.set_cons_succ]))
          (refine Xr.take 4 (some 69) (v := ?_) rfl rfl (by decide +kernel) (by rfl) ?_ ?_; rotate_left; (focus (intro w' hk; go_simp; (try with_reducible rfl); done)); (try simp only [Act.put, List.setIfInBounds_toArray, List.set_cons_zero, List.set_cons_succ]))
          (refine Xr.take 5 (some 70) (v := ?_) rfl rfl (by decide +kernel) (by rfl) ?_ ?_; rotate_left; (focus (intro w' hk; go_simp; (try with_reducible rfl); done)); (try simp only [Act.put, List.setIfInBounds_toArray, List.set_cons_zero, List.set_cons_succ]))
          (refine Xr.take 6 (some 71) (v := ?_) rfl rfl (by decide +kernel) (by rfl) ?_ ?_; rotate_left; (focus (intro w' hk; go_simp; (try with_reducible rfl); done)); (try simp only [Act.put, List.setIfInBounds_toArray, List.set_cons_zero, List.set_cons_succ]))
          (refine Xr.take 7 (some 72) (v := ?_) rfl rfl (by decide +kernel) (by rfl) ?_ ?_; rotate_left; (focus (intro w' hk; go_simp; (try with_reducible rfl); done)); (try simp only [Act.put, List.setIfInBounds_toArray, List.set_cons_zero, List.set_cons_succ]))
          refine Xr.call 8 rfl (by decide +kernel) (by rfl) (fun a0 hE1 hK1 K hKK => ?_)
          go_simp
          refine (HC0 _ (y0.trans hK1.nil)).out.mono ?_
          rintro e b0 ⟨S0, cS0, rfl, sS0, z2⟩
          refine hKK _ _ z2 ?_
          clear hKK HC0
          (try simp only [Act.put, List.setIfInBounds_toArray, List.set_cons_zero, List.set_cons_succ])
          (refine Xr.take 9 (some 64) (v := ?_) rfl rfl (by decide +kernel) (by rfl) ?_ ?_; rotate_left; (focus (intro w' hk; go_simp; (try with_reducible rfl); done)); (try simp only [Act.put, List.setIfInBounds_toArray, List.set_cons_zero, List.set_cons_succ]))
          (refine Xr.take 10 (some 74) (v := ?_) rfl rfl (by decide +kernel) (by rfl) ?_ ?_; rotate_left; (focus (intro w' hk; go_simp; (try with_reducible rfl); done)); (try simp only [Act.put, List.setIfInBounds_toArray, List.set_cons_zero, List.set_cons_succ]))
          (refine Xr.take 11 (some 75) (v := ?_) rfl rfl (by decide +kernel) (by rfl) ?_ ?_; rotate_left; (focus (intro w' hk; go_simp; (try with_reducible rfl); done)); (try simp only [Act.put, List.setIfInBounds_toArray, List.set_cons_zero, List.set_cons_succ]))
          (refine Xr.take 12 (some 17) (v := ?_) rfl rfl (by decide +kernel) (by rfl) ?_ ?_; rotate_left; (focus (intro w' hk; go_simp; (try with_reducible rfl); done)); (try simp only [Act.put, List.setIfInBounds_toArray, List.set_cons_zero, List.set_cons_succ]))
          (refine Xr.take 13 (some 18) (v := ?_) rfl rfl (by decide +kernel) (by rfl) ?_ ?_; rotate_left; (focus (intro w' hk; go_simp; (try with_reducible rfl); done)); (try simp only [Act.put, List.setIfInBounds_toArray, List.set_cons_zero, List.set_cons_succ]))
          refine Xr.done (by decide +kernel) (fun d0 hE2 hK2 => ?_)
          have z := hK2.nil
          have y1 := y0.trans z
          replace g1 := z.cell g1
          replace g2 := z.cell g2
          replace sS0 := sS0.ext hE2
          clear k0 k1 hE1 hK1 hE2 hK2 z2 z y0
          have k0 := fun (w' : World) (h : Kp [] d0 w') => h.cell g1 (by simp)
          have k1 := fun (w' : World) (h : Kp [] d0 w') => h.cell g2 (by simp)
          go_upto_region 12 with fail
          refine Xr.start [] (by kernel_rfl) ?_
          (refine Xr.take 0 (some 77) (v := ?_) rfl rfl (by decide +kernel) (by rfl) ?_ ?_; rotate_left; (focus (intro w' hk; go_simp; (try with_reducible rfl); done)); (try simp only [Act.put, List.setIfInBounds_toArray, List.set_cons_zero, List.set_cons_succ]))
          (refine Xr.take 1 (some 78) (v := ?_) rfl rfl (by decide +kernel) (by rfl) ?_ ?_; rotate_left; (focus (intro w' hk; go_simp; (try with_reducible rfl); done)); (try simp only [Act.put, List.setIfInBounds_toArray, List.set_cons_zero, List.set_cons_succ]))
          (refine Xr.take 2 (some 79) (v := ?_) rfl rfl (by decide +kernel) (by rfl) ?_ ?_; rotate_left; (focus (intro w' hk; go_simp; (try with_reducible rfl); done)); (try simp only [Act.put, List.setIfInBounds_toArray, List.set_cons_zero, List.set_cons_succ]))
          (refine Xr.take 3 (some 80) (v := ?_) rfl rfl (by decide +kernel) (by rfl) ?_ ?_; rotate_left; (focus (intro w' hk; go_simp; (try with_reducible rfl); done)); (try simp only [Act.put, List.setIfInBounds_toArray, List.set_cons_zero, List.set_cons_succ]))
          (refine Xr.take 4 (some 81) (v := ?_) rfl rfl (by decide +kernel) (by rfl) ?_ ?_; rotate_left; (focus (intro w' hk; go_simp; (try with_reducible rfl); done)); (try simp only [Act.put, List.setIfInBounds_toArray, List.set_cons_zero, List.set_cons_succ]))
          (refine Xr.take 5 (some 82) (v := ?_) rfl rfl (by decide +kernel) (by rfl) ?_ ?_; rotate_left; (focus (intro w' hk; go_simp; (try with_reducible rfl); done)); (try simp only [Act.put, List.setIfInBounds_toArray, List.set_cons_zero, List.set_cons_succ]))
          (refine Xr.take 6 (some 83) (v := ?_) rfl rfl (by decide +kernel) (by rfl) ?_ ?_; rotate_left; (focus (intro w' hk; go_simp; (try with_reducible rfl); done)); (try simp only [Act.put, List.setIfInBounds_toArray, List.set_cons_zero, List.set_cons_succ]))
          (refine Xr.take 7 (some 84) (v := ?_) rfl rfl (by decide +kernel) (by rfl) ?_ ?_; rotate_left; (focus (intro w' hk; go_simp; (try with_reducible rfl); done)); (try simp only [Act.put, List.setIfInBounds_toArray, List.set_cons_zero, List.set_cons_succ]))
          refine Xr.call 8 rfl (by decide +kernel) (by rfl) (fun a1 hE1 hK1 K hKK => ?_)
          go_simp
          refine (HC1 _ (y1.trans hK1.nil)).out.mono ?_
          rintro e b1 ⟨S1, cS1, rfl, sS1, z2⟩
          refine hKK _ _ z2 ?_
          clear hKK HC1
          (try simp only [Act.put, List.setIfInBounds_toArray, List.set_cons_zero, List.set_cons_succ])
          (refine Xr.take 9 (some 76) (v := ?_) rfl rfl (by decide +kernel) (by rfl) ?_ ?_; rotate_left; (focus (intro w' hk; go_simp; (try with_reducible rfl); done)); (try simp only [Act.put, List.setIfInBounds_toArray, List.set_cons_zero, List.set_cons_succ]))
          (refine Xr.take 10 (some 86) (v := ?_) rfl rfl (by decide +kernel) (by rfl) ?_ ?_; rotate_left; (focus (intro w' hk; go_simp; (try with_reducible rfl); done)); (try simp only [Act.put, List.setIfInBounds_toArray, List.set_cons_zero, List.set_cons_succ]))
          (refine Xr.take 11 (some 87) (v := ?_) rfl rfl (by decide +kernel) (by rfl) ?_ ?_; rotate_left; (focus (intro w' hk; go_simp; (try with_reducible rfl); done)); (try simp only [Act.put, List.setIfInBounds_toArray, List.set_cons_zero, List.set_cons_succ]))
          (refine Xr.take 12 (some 19) (v := ?_) rfl rfl (by decide +kernel) (by rfl) ?_ ?_; rotate_left; (focus (intro w' hk; go_simp; (try with_reducible rfl); done)); (try simp only [Act.put, List.setIfInBounds_toArray, List.set_cons_zero, List.set_cons_succ]))
          (refine Xr.take 13 (some 20) (v := ?_) rfl rfl (by decide +kernel) (by rfl) ?_ ?_; rotate_left; (focus (intro w' hk; go_simp; (try with_reducible rfl); done)); (try simp only [Act.put, List.setIfInBounds_toArray, List.set_cons_zero, List.set_cons_succ]))
          refine Xr.done (by decide +kernel) (fun d1 hE2 hK2 => ?_)
          have z := hK2.nil
          have y2 := y1.trans z
          replace g1 := z.cell g1
          replace g2 := z.cell g2
          replace sS1 := sS1.ext hE2
          replace sS0 := sS0.ext z
          clear k0 k1 hE1 hK1 hE2 hK2 z2 z y1
          have k0 := fun (w' : World) (h : Kp [] d1 w') => h.cell g1 (by simp)
          have k1 := fun (w' : World) (h : Kp [] d1 w') => h.cell g2 (by simp)
          go_upto_region 13 with fail
          refine Xr.start [] (by kernel_rfl) ?_
          (refine Xr.take 0 (some 89) (v := ?_) rfl rfl (by decide +kernel) (by rfl) ?_ ?_; rotate_left; (focus (intro w' hk; go_simp; (try with_reducible rfl); done)); (try simp only [Act.put, List.setIfInBounds_toArray, List.set_cons_zero, List.set_cons_succ]))
          (refine Xr.take 1 (some 90) (v := ?_) rfl rfl (by decide +kernel) (by rfl) ?_ ?_; rotate_left; (focus (intro w' hk; go_simp; (try with_reducible rfl); done)); (try simp only [Act.put, List.setIfInBounds_toArray, List.set_cons_zero, List.set_cons_succ]))
          (refine Xr.take 2 (some 91) (v := ?_) rfl rfl (by decide +kernel) (by rfl) ?_ ?_; rotate_left; (focus (intro w' hk; go_simp; (try with_reducible rfl); done)); (try simp only [Act.put, List.setIfInBounds_toArray, List.set_cons_zero, List.set_cons_succ]))
          (refine Xr.take 3 (some 92) (v := ?_) rfl rfl (by decide +kernel) (by rfl) ?_ ?_; rotate_left; (focus (intro w' hk; go_simp; (try with_reducible rfl); done)); (try simp only [Act.put, List.setIfInBounds_toArray, List.set_cons_zero, List.set_cons_succ]))
          (refine Xr.take 4 (some 93) (v := ?_) rfl rfl (by decide +kernel) (by rfl) ?_ ?_; rotate_left; (focus (intro w' hk; go_simp; (try with_reducible rfl); done)); (try simp only [Act.put, List.setIfInBounds_toArray, List.set_cons_zero, List.set_cons_succ]))
          (refine Xr.take 5 (some 94) (v := ?_) rfl rfl (by decide +kernel) (by rfl) ?_ ?_; rotate_left; (focus (intro w' hk; go_simp; (try with_reducible rfl); done)); (try simp only [Act.put, List.setIfInBounds_toArray, List.set_cons_zero, List.set_cons_succ]))
          (refine Xr.take 6 (some 95) (v := ?_) rfl rfl (by decide +kernel) (by rfl) ?_ ?_; rotate_left; (focus (intro w' hk; go_simp; (try with_reducible rfl); done)); (try simp only [Act.put, List.setIfInBounds_toArray, List.set_cons_zero, List.set_cons_succ]))
          (refine Xr.take 7 (some 96) (v := ?_) rfl rfl (by decide +kernel) (by rfl) ?_ ?_; rotate_left; (focus (intro w' hk; go_simp; (try with_reducible rfl); done)); (try simp only [Act.put, List.setIfInBounds_toArray, List.set_cons_zero, List.set_cons_succ]))
          refine Xr.call 8 rfl (by decide +kernel) (by rfl) (fun a2 hE1 hK1 K hKK => ?_)
          go_simp
          refine (HC2 _ (y2.trans hK1.nil)).out.mono ?_
          rintro e b2 ⟨S2, cS2, rfl, sS2, z2⟩
          refine hKK _ _ z2 ?_
          clear hKK HC2
          (try simp only [Act.put, List.setIfInBounds_toArray, List.set_cons_zero, List.set_cons_succ])
          (refine Xr.take 9 (some 88) (v := ?_) rfl rfl (by decide +kernel) (by rfl) ?_ ?_; rotate_left; (focus (intro w' hk; go_simp; (try with_reducible rfl); done)); (try simp only [Act.put, List.setIfInBounds_toArray, List.set_cons_zero, List.set_cons_succ]))
          (refine Xr.take 10 (some 98) (v := ?_) rfl rfl (by decide +kernel) (by rfl) ?_ ?_; rotate_left; (focus (intro w' hk; go_simp; (try with_reducible rfl); done)); (try simp only [Act.put, List.setIfInBounds_toArray, List.set_cons_zero, List.set_cons_succ]))
          (refine Xr.take 11 (some 99) (v := ?_) rfl rfl (by decide +kernel) (by rfl) ?_ ?_; rotate_left; (focus (intro w' hk; go_simp; (try with_reducible rfl); done)); (try simp only [Act.put, List.setIfInBounds_toArray, List.set_cons_zero, List.set_cons_succ]))
          (refine Xr.take 12 (some 21) (v := ?_) rfl rfl (by decide +kernel) (by rfl) ?_ ?_; rotate_left; (focus (intro w' hk; go_simp; (try with_reducible rfl); done)); (try simp only [Act.put, List.setIfInBounds_toArray, List.set_cons_zero, List.set_cons_succ]))
          (refine Xr.take 13 (some 22) (v := ?_) rfl rfl (by decide +kernel) (by rfl) ?_ ?_; rotate_left; (focus (intro w' hk; go_simp; (try with_reducible rfl); done)); (try simp only [Act.put, List.setIfInBounds_toArray, List.set_cons_zero, List.set_cons_succ]))
          refine Xr.done (by decide +kernel) (fun d2 hE2 hK2 => ?_)
          have z := hK2.nil
          have y3 := y2.trans z
          replace g1 := z.cell g1
          replace g2 := z.cell g2
          replace sS2 := sS2.ext hE2
          replace sS0 := sS0.ext z
          replace sS1 := sS1.ext z
          clear k0 k1 hE1 hK1 hE2 hK2 z2 z y2
          have k0 := fun (w' : World) (h : Kp [] d2 w') => h.cell g1 (by simp)
          have k1 := fun (w' : World) (h : Kp [] d2 w') => h.cell g2 (by simp)
          go_upto_region 14 with fail
          refine Xr.start [] (by kernel_rfl) ?_
          (refine Xr.take 0 (some 101) (v := ?_) rfl rfl (by decide +kernel) (by rfl) ?_ ?_; rotate_left; (focus (intro w' hk; go_simp; (try with_reducible rfl); done)); (try simp only [Act.put, List.setIfInBounds_toArray, List.set_cons_zero, List.set_cons_succ]))
          (refine Xr.take 1 (some 102) (v := ?_) rfl rfl (by decide +kernel) (by rfl) ?_ ?_; rotate_left; (focus (intro w' hk; go_simp; (try with_reducible rfl); done)); (try simp only [Act.put, List.setIfInBounds_toArray, List.set_cons_zero, List.set_cons_succ]))
          (refine Xr.take 2 (some 103) (v := ?_) rfl rfl (by decide +kernel) (by rfl) ?_ ?_; rotate_left; (focus (intro w' hk; go_simp; (try with_reducible rfl); done)); (try simp only [Act.put, List.setIfInBounds_toArray, List.set_cons_zero, List.set_cons_succ]))
          (refine Xr.take 3 (some 104) (v := ?_) rfl rfl (by decide +kernel) (by rfl) ?_ ?_; rotate_left; (focus (intro w' hk; go_simp; (try with_reducible rfl); done)); (try simp only [Act.put, List.setIfInBounds_toArray, List.set_cons_zero, List.set_cons_succ]))
          (refine Xr.take 4 (some 105) (v := ?_) rfl rfl (by decide +kernel) (by rfl) ?_ ?_; rotate_left; (focus (intro w' hk; go_simp; (try with_reducible rfl); done)); (try simp only [Act.put, List.setIfInBounds_toArray, List.set_cons_zero, List.set_cons_succ]))
          (refine Xr.take 5 (some 106) (v := ?_) rfl rfl (by decide +kernel) (by rfl) ?_ ?_; rotate_left; (focus (intro w' hk; go_simp; (try with_reducible rfl); done)); (try simp only [Act.put, List.setIfInBounds_toArray, List.set_cons_zero, List.set_cons_succ]))
          (refine Xr.take 6 (some 107) (v := ?_) rfl rfl (by decide +kernel) (by rfl) ?_ ?_; rotate_left; (focus (intro w' hk; go_simp; (try with_reducible rfl); done)); (try simp only [Act.put, List.setIfInBounds_toArray, List.set_cons_zero, List.set_cons_succ]))
          (refine Xr.take 7 (some 108) (v := ?_) rfl rfl (by decide +kernel) (by rfl) ?_ ?_; rotate_left; (focus (intro w' hk; go_simp; (try with_reducible rfl); done)); (try simp only [Act.put, List.setIfInBounds_toArray, List.set_cons_zero, List.set_cons_succ]))
          refine Xr.call 8 rfl (by decide +kernel) (by rfl) (fun a3 hE1 hK1 K hKK => ?_)
          go_simp
          refine (HD0 _ (y3.trans hK1.nil)).out.mono ?_
          rintro e b3 ⟨T0, cT0, rfl, sT0, z2⟩
          refine hKK _ _ z2 ?_
          clear hKK HD0
          (try simp only [Act.put, List.setIfInBounds_toArray, List.set_cons_zero, List.set_cons_succ])
          (refine Xr.take 9 (some 100) (v := ?_) rfl rfl (by decide +kernel) (by rfl) ?_ ?_; rotate_left; (focus (intro w' hk; go_simp; (try with_reducible rfl); done)); (try simp only [Act.put, List.setIfInBounds_toArray, List.set_cons_zero, List.set_cons_succ]))
          (refine Xr.take 10 (some 110) (v := ?_) rfl rfl (by decide +kernel) (by rfl) ?_ ?_; rotate_left; (focus (intro w' hk; go_simp; (try with_reducible rfl); done)); (try simp only [Act.put, List.setIfInBounds_toArray, List.set_cons_zero, List.set_cons_succ]))
          (refine Xr.take 11 (some 111) (v := ?_) rfl rfl (by decide +kernel) (by rfl) ?_ ?_; rotate_left; (focus (intro w' hk; go_simp; (try with_reducible rfl); done)); (try simp only [Act.put, List.setIfInBounds_toArray, List.set_cons_zero, List.set_cons_succ]))
          (refine Xr.take 12 (some 23) (v := ?_) rfl rfl (by decide +kernel) (by rfl) ?_ ?_; rotate_left; (focus (intro w' hk; go_simp; (try with_reducible rfl); done)); (try simp only [Act.put, List.setIfInBounds_toArray, List.set_cons_zero, List.set_cons_succ]))
          (refine Xr.take 13 (some 24) (v := ?_) rfl rfl (by decide +kernel) (by rfl) ?_ ?_; rotate_left; (focus (intro w' hk; go_simp; (try with_reducible rfl); done)); (try simp only [Act.put, List.setIfInBounds_toArray, List.set_cons_zero, List.set_cons_succ]))
          refine Xr.done (by decide +kernel) (fun d3 hE2 hK2 => ?_)
          have z := hK2.nil
          have y4 := y3.trans z
          replace g1 := z.cell g1
          replace g2 := z.cell g2
          replace sT0 := sT0.ext hE2
          replace sS0 := sS0.ext z
          replace sS1 := sS1.ext z
          replace sS2 := sS2.ext z
          clear k0 k1 hE1 hK1 hE2 hK2 z2 z y3
          have k0 := fun (w' : World) (h : Kp [] d3 w') => h.cell g1 (by simp)
          have k1 := fun (w' : World) (h : Kp [] d3 w') => h.cell g2 (by simp)
          go_upto_region 15 with fail
          refine Xr.start [] (by kernel_rfl) ?_
          (refine Xr.take 0 (some 113) (v := ?_) rfl rfl (by decide +kernel) (by rfl) ?_ ?_; rotate_left; (focus (intro w' hk; go_simp; (try with_reducible rfl); done)); (try simp only [Act.put, List.setIfInBounds_toArray, List.set_cons_zero, List.set_cons_succ]))
          (refine Xr.take 1 (some 114) (v := ?_) rfl rfl (by decide +kernel) (by rfl) ?_ ?_; rotate_left; (focus (intro w' hk; go_simp; (try with_reducible rfl); done)); (try simp only [Act.put, List.setIfInBounds_toArray, List.set_cons_zero, List.set_cons_succ]))
          (refine Xr.take 2 (some 115) (v := ?_) rfl rfl (by decide +kernel) (by rfl) ?_ ?_; rotate_left; (focus (intro w' hk; go_simp; (try with_reducible rfl); done)); (try simp only [Act.put, List.setIfInBounds_toArray, List.set_cons_zero, List.set_cons_succ]))
          (refine Xr.take 3 (some 116) (v := ?_) rfl rfl (by decide +kernel) (by rfl) ?_ ?_; rotate_left; (focus (intro w' hk; go_simp; (try with_reducible rfl); done)); (try simp only [Act.put, List.setIfInBounds_toArray, List.set_cons_zero, List.set_cons_succ]))
          (refine Xr.take 4 (some 117) (v := ?_) rfl rfl (by decide +kernel) (by rfl) ?_ ?_; rotate_left; (focus (intro w' hk; go_simp; (try with_reducible rfl); done)); (try simp only [Act.put, List.setIfInBounds_toArray, List.set_cons_zero, List.set_cons_succ]))
          (refine Xr.take 5 (some 118) (v := ?_) rfl rfl (by decide +kernel) (by rfl) ?_ ?_; rotate_left; (focus (intro w' hk; go_simp; (try with_reducible rfl); done)); (try simp only [Act.put, List.setIfInBounds_toArray, List.set_cons_zero, List.set_cons_succ]))
          (refine Xr.take 6 (some 119) (v := ?_) rfl rfl (by decide +kernel) (by rfl) ?_ ?_; rotate_left; (focus (intro w' hk; go_simp; (try with_reducible rfl); done)); (try simp only [Act.put, List.setIfInBounds_toArray, List.set_cons_zero, List.set_cons_succ]))
          (refine Xr.take 7 (some 120) (v := ?_) rfl rfl (by decide +kernel) (by rfl) ?_ ?_; rotate_left; (focus (intro w' hk; go_simp; (try with_reducible rfl); done)); (try simp only [Act.put, List.setIfInBounds_toArray, List.set_cons_zero, List.set_cons_succ]))
          refine Xr.call 8 rfl (by decide +kernel) (by rfl) (fun a4 hE1 hK1 K hKK => ?_)
          go_simp
          refine (HD1 _ (y4.trans hK1.nil)).out.mono ?_
          rintro e b4 ⟨T1, cT1, rfl, sT1, z2⟩
          refine hKK _ _ z2 ?_
          clear hKK HD1
          (try simp only [Act.put, List.setIfInBounds_toArray, List.set_cons_zero, List.set_cons_succ])
          (refine Xr.take 9 (some 112) (v := ?_) rfl rfl (by decide +kernel) (by rfl) ?_ ?_; rotate_left; (focus (intro w' hk; go_simp; (try with_reducible rfl); done)); (try simp only [Act.put, List.setIfInBounds_toArray, List.set_cons_zero, List.set_cons_succ]))
          (refine Xr.take 10 (some 122) (v := ?_) rfl rfl (by decide +kernel) (by rfl) ?_ ?_; rotate_left; (focus (intro w' hk; go_simp; (try with_reducible rfl); done)); (try simp only [Act.put, List.setIfInBounds_toArray, List.set_cons_zero, List.set_cons_succ]))
          (refine Xr.take 11 (some 123) (v := ?_) rfl rfl (by decide +kernel) (by rfl) ?_ ?_; rotate_left; (focus (intro w' hk; go_simp; (try with_reducible rfl); done)); (try simp only [Act.put, List.setIfInBounds_toArray, List.set_cons_zero, List.set_cons_succ]))
          (refine Xr.take 12 (some 25) (v := ?_) rfl rfl (by decide +kernel) (by rfl) ?_ ?_; rotate_left; (focus (intro w' hk; go_simp; (try with_reducible rfl); done)); (try simp only [Act.put, List.setIfInBounds_toArray, List.set_cons_zero, List.set_cons_succ]))
          (refine Xr.take 13 (some 26) (v := ?_) rfl rfl (by decide +kernel) (by rfl) ?_ ?_; rotate_left; (focus (intro w' hk; go_simp; (try with_reducible rfl); done)); (try simp only [Act.put, List.setIfInBounds_toArray, List.set_cons_zero, List.set_cons_succ]))
          refine Xr.done (by decide +kernel) (fun d4 hE2 hK2 => ?_)
          have z := hK2.nil
          have y5 := y4.trans z
          replace g1 := z.cell g1
          replace g2 := z.cell g2
          replace sT1 := sT1.ext hE2
          replace sS0 := sS0.ext z
          replace sS1 := sS1.ext z
          replace sS2 := sS2.ext z
          replace sT0 := sT0.ext z
          clear k0 k1 hE1 hK1 hE2 hK2 z2 z y4
          have k0 := fun (w' : World) (h : Kp [] d4 w') => h.cell g1 (by simp)
          have k1 := fun (w' : World) (h : Kp [] d4 w') => h.cell g2 (by simp)
          go_upto_region 16 with fail
          refine Xr.start [] (by kernel_rfl) ?_
          (refine Xr.take 0 (some 125) (v := ?_) rfl rfl (by decide +kernel) (by rfl) ?_ ?_; rotate_left; (focus (intro w' hk; go_simp; (try with_reducible rfl); done)); (try simp only [Act.put, List.setIfInBounds_toArray, List.set_cons_zero, List.set_cons_succ]))
          (refine Xr.take 1 (some 126) (v := ?_) rfl rfl (by decide +kernel) (by rfl) ?_ ?_; rotate_left; (focus (intro w' hk; go_simp; (try with_reducible rfl); done)); (try simp only [Act.put, List.setIfInBounds_toArray, List.set_cons_zero, List.set_cons_succ]))
          (refine Xr.take 2 (some 127) (v := ?_) rfl rfl (by decide +kernel) (by rfl) ?_ ?_; rotate_left; (focus (intro w' hk; go_simp; (try with_reducible rfl); done)); (try simp only [Act.put, List.setIfInBounds_toArray, List.set_cons_zero, List.set_cons_succ]))
          (refine Xr.take 3 (some 128) (v := ?_) rfl rfl (by decide +kernel) (by rfl) ?_ ?_; rotate_left; (focus (intro w' hk; go_simp; (try with_reducible rfl); done)); (try simp only [Act.put, List.setIfInBounds_toArray, List.set_cons_zero, List.set_cons_succ]))
          (refine Xr.take 4 (some 129) (v := ?_) rfl rfl (by decide +kernel) (by rfl) ?_ ?_; rotate_left; (focus (intro w' hk; go_simp; (try with_reducible rfl); done)); (try simp only [Act.put, List.setIfInBounds_toArray, List.set_cons_zero, List.set_cons_succ]))
          (refine Xr.take 5 (some 130) (v := ?_) rfl rfl (by decide +kernel) (by rfl) ?_ ?_; rotate_left; (focus (intro w' hk; go_simp; (try with_reducible rfl); done)); (try simp only [Act.put, List.setIfInBounds_toArray, List.set_cons_zero, List.set_cons_succ]))
          (refine Xr.take 6 (some 131) (v := ?_) rfl rfl (by decide +kernel) (by rfl) ?_ ?_; rotate_left; (focus (intro w' hk; go_simp; (try with_reducible rfl); done)); (try simp only [Act.put, List.setIfInBounds_toArray, List.set_cons_zero, List.set_cons_succ]))
          (refine Xr.take 7 (some 132) (v := ?_) rfl rfl (by decide +kernel) (by rfl) ?_ ?_; rotate_left; (focus (intro w' hk; go_simp; (try with_reducible rfl); done)); (try simp only [Act.put, List.setIfInBounds_toArray, List.set_cons_zero, List.set_cons_succ]))
          refine Xr.call 8 rfl (by decide +kernel) (by rfl) (fun a5 hE1 hK1 K hKK => ?_)
          go_simp
          refine (HD2 _ (y5.trans hK1.nil)).out.mono ?_
          rintro e b5 ⟨T2, cT2, rfl, sT2, z2⟩
          refine hKK _ _ z2 ?_
          clear hKK HD2
          (try simp only [Act.put, List.setIfInBounds_toArray, List.set_cons_zero, List.set_cons_succ])
          (refine Xr.take 9 (some 124) (v := ?_) rfl rfl (by decide +kernel) (by rfl) ?_ ?_; rotate_left; (focus (intro w' hk; go_simp; (try with_reducible rfl); done)); (try simp only [Act.put, List.setIfInBounds_toArray, List.set_cons_zero, List.set_cons_succ]))
          (refine Xr.take 10 (some 134) (v := ?_) rfl rfl (by decide +kernel) (by rfl) ?_ ?_; rotate_left; (focus (intro w' hk; go_simp; (try with_reducible rfl); done)); (try simp only [Act.put, List.setIfInBounds_toArray, List.set_cons_zero, List.set_cons_succ]))
          (refine Xr.take 11 (some 135) (v := ?_) rfl rfl (by decide +kernel) (by rfl) ?_ ?_; rotate_left; (focus (intro w' hk; go_simp; (try with_reducible rfl); done)); (try simp only [Act.put, List.setIfInBounds_toArray, List.set_cons_zero, List.set_cons_succ]))
          (refine Xr.take 12 (some 27) (v := ?_) rfl rfl (by decide +kernel) (by rfl) ?_ ?_; rotate_left; (focus (intro w' hk; go_simp; (try with_reducible rfl); done)); (try simp only [Act.put, List.setIfInBounds_toArray, List.set_cons_zero, List.set_cons_succ]))
          (refine Xr.take 13 (some 28) (v := ?_) rfl rfl (by decide +kernel) (by rfl) ?_ ?_; rotate_left; (focus (intro w' hk; go_simp; (try with_reducible rfl); done)); (try simp only [Act.put, List.setIfInBounds_toArray, List.set_cons_zero, List.set_cons_succ]))
          refine Xr.done (by decide +kernel) (fun d5 hE2 hK2 => ?_)
          have z := hK2.nil
          have y6 := y5.trans z
          replace g1 := z.cell g1
          replace g2 := z.cell g2
          replace sT2 := sT2.ext hE2
          replace sS0 := sS0.ext z
          replace sS1 := sS1.ext z
          replace sS2 := sS2.ext z
          replace sT0 := sT0.ext z
          replace sT1 := sT1.ext z
          clear k0 k1 hE1 hK1 hE2 hK2 z2 z y5
          have HQ0 := fun (W' : World) (x : Ext d5 W') => Lib.hid (gEqual_any S0 T0 cS0 cT0 o0 o0 W' (sS0.ext x) (sT0.ext x))
          rw [decide_eq_true rfl] at HQ0
          have HQ1 := fun (W' : World) (x : Ext d5 W') => Lib.hid (gEqual_any S1 T1 cS1 cT1 o1 o1 W' (sS1.ext x) (sT1.ext x))
          rw [decide_eq_true rfl] at HQ1
          have HQ2 := fun (W' : World) (x : Ext d5 W') => Lib.hid (gEqual_any S2 T2 cS2 cT2 o2 o2 W' (sS2.ext x) (sT2.ext x))
          rw [decide_eq_true rfl] at HQ2
          clear g1 g2 hsi hsk
          go_wp2_with fail
          refine (HQ0 _ (Ext.rfl' _)).out.mono ?_
          rintro e f1 ⟨rfl, z1⟩
          clear HQ0
          go_wp2_with fail
          refine (HQ1 _ z1).out.mono ?_
          rintro e f2 ⟨rfl, z2⟩
          have z12 := z1.trans z2
          clear HQ1 z1 z2
          go_wp2_with fail
          refine (HQ2 _ z12).out.mono ?_
          rintro e f3 ⟨rfl, z3⟩
          have z6 := x6.trans (y6.trans (z12.trans z3))
          clear HQ2 z12 z3 y6 sS0 sS1 sS2 sT0 sT1 sT2
          go_wp2_with fail
          go_roundw
          case rel => exact ⟨q + 1, by go_num, by omega, z6⟩
          case measure => simp [intOf]; omega
        · have hqI : ¬ (q : Int) < 5 := by omega
          have z5 := x1.trans x6
          clear g0 hsl
          go_wp2_with fail
          go_roundw
          case rel => exact ⟨i + 1, by go_num, by omega, z5⟩
          case measure => simp [intOf]; omega
    · have hiI : ¬ (i : Int) < 5 := by omega
      go_wp2_with fail
      refine (slives_any _).mono ?_
      rintro e w11 ⟨rfl, x11⟩
      have XX := (X.trans x1).trans x11
      go_wp2_with fail
      go_ret
      exact ⟨rfl, XX⟩
end Go.Proofs.Ytlbdjnbcoldjhaa
