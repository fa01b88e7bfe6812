/- Walks of package sets: Valid; and Equal of package sets and of its reference. -/
import Derived.Test.YtlbdjnbcoldjhaaG2
namespace Go.Proofs.Ytlbdjnbcoldjhaa
open Go.RowKit

set_option maxRecDepth 100000 in
set_option maxHeartbeats 4000000 in
theorem sValid_any (A : Option Addr) (c : Nat) (l : List Sp) (w : World) (hl : SL w A c l) : Calls Try.prog 18 #[.slice A l.length c] w (RetV (.int .i64 (validE l)) w) := by
  have hlen := hl.len
  have HB := fun i hi h => Lib.hid (validE_bad (l := l) (i := i) hi h)
  have HK := fun h => Lib.hid (validE_ok (l := l) h)
  generalize validE l = r at *
  go_enter Try.func18, Try.ntmps18
  go_wp2
  go_loopw [7] (fun v wr => ∃ i : Nat, v = .int .i64 i ∧ i ≤ l.length ∧ Hid (∀ j, j < i → okAt l j) ∧ Ext w wr) (fun v _ => l.length - (intOf v).toNat)
  case atStart => exact ⟨0, rfl, by omega, fun j hj => absurd hj (Nat.not_lt_zero _), Ext.rfl' _⟩
  case round =>
    obtain ⟨i, rfl, hi, HI, x1⟩ := hrel
    by_cases hlt : i < l.length
    · obtain ⟨s1, s2, s3⟩ := okStep hlt HI.out
      have HB2 := HB i hlt
      have HM := fun h => Lib.hid (okMore HI.out h)
      obtain ⟨b, o, rfl, g1, g2⟩ := (hl.ext x1).get hlt
      have h64 := hl.wf hlt
      have hI : (i : Int) < l.length := by omega
      by_cases h0 : 0 < i
      · obtain ⟨p, hp, hpg, s4, s5⟩ := s2 h0
        have h1l : i - 1 < l.length := by omega
        rw [List.getElem?_eq_getElem h1l] at hp
        injection hp with hp
        obtain ⟨b2, o2, hA2, g4, g3⟩ := (hl.ext x1).get h1l
        obtain ⟨rfl, rfl⟩ : b = b2 ∧ o = o2 := by injection hA2 with h1; injection h1 with h2 h3 h4; exact ⟨h2, h3⟩
        rw [hp] at g3
        clear s1 s2 hA2 hp g4 h1l HI HB
        obtain ⟨k, rfl⟩ : ∃ k, i = k + 1 := ⟨i - 1, by omega⟩
        simp only [Nat.add_sub_cancel] at g3
        generalize l[k + 1] = s at *
        obtain ⟨lo, hi2⟩ := s
        obtain ⟨plo, phi⟩ := p
        simp only at g1 g2 g3 s4 s5 hpg
        have hG := fun (W' : World) => Lib.hid (right_any (lo, hi2) W')
        unfold spV at hG
        simp only at hG
        have hphi : 0 ≤ phi ∧ phi ≤ 1114111 := by unfold goodS at hpg; simp only at hpg; omega
        have hki : (0 : Int) < (k : Int) + 1 := by omega
        have hwk : IntKind.i64.wrap ((k : Int) + 1 - 1) = (k : Int) := by rw [IntKind.wrap_i64]; omega
        have hwk2 : IntKind.i64.wrap (k : Int) = (k : Int) := by rw [IntKind.wrap_i64]; omega
        have hk0 : (0 : Int) ≤ (k : Int) + 1 := by omega
        have hk1 : (k : Int) + 1 < (l.length : Int) := by omega
        have hk2 : (k : Int) < (l.length : Int) := by omega
        have hto : ((k : Int) + 1).toNat = k + 1 := by omega
        have hwd : IntKind.i64.wrap (phi + 2) = phi + 2 := by rw [IntKind.wrap_i64]; omega
        obtain ⟨b1, xa⟩ := alloc1 wr 48 #[.int .i64 lo, .int .i64 hi2]
        have x2 := x1.trans xa
        have g3a := xa.cell g3
        obtain ⟨p0, p1, _, _, pz⟩ := b1.c2
        go_upto_region 4 with fail
        obtain ⟨gs, hgs⟩ : ∃ gs, gs = wr.heap.size := ⟨_, rfl⟩
        rw [← hgs] at b1 p0 p1 pz ⊢
        generalize wr.alloc (.cells #[.int .i64 lo, .int .i64 hi2] 48) = wa at *
        have k0 := fun (w' : World) (h : Kp [] wa w') => h.cell p0 (by simp)
        have k1 := fun (w' : World) (h : Kp [] wa w') => h.cell p1 (by simp)
        have k3 := fun (w' : World) (h : Kp [] wa w') => h.cell g3a (by simp)
        clear xa hgs
        by_cases hg : goodS (lo, hi2)
        · have hgB : goodB (lo, hi2) = true := decide_eq_true hg
          rw [hgB] at hG
          by_cases hp : phi + 2 ≤ lo
          · have hd : ¬ lo < phi + 2 := by omega
            have HE := HM (s4 hg (by omega))
            clear s3 s4 s5 HB2 HM HK hp
            refine Xr.start [] (by kernel_rfl) ?_
            (refine Xr.take 0 (some 12) (v := ?_) rfl rfl (by decide +kernel) (by rfl) ?_ ?_; rotate_left; (focus (intro w' hk; go_simp; (try with_reducible rfl); done)); (try simp only [Act.put, List.setIfInBounds_toArray, List.set_cons_zero, List.set_cons_succ]))
            refine Xr.call 1 rfl (by decide +kernel) (by rfl) (fun w2 hE2 hK2 K hKK => ?_)
            go_simp
            refine (hG _).out.mono ?_
            rintro e w3 ⟨rfl, x3⟩
            refine hKK _ _ x3 ?_
            clear hKK hG
            (try simp only [Act.put, List.setIfInBounds_toArray, List.set_cons_zero, List.set_cons_succ])
            (refine Xr.take 2 (some 14) (v := ?_) rfl rfl (by decide +kernel) (by rfl) ?_ ?_; rotate_left; (focus (intro w' hk; go_simp; (try with_reducible rfl); done)); (try simp only [Act.put, List.setIfInBounds_toArray, List.set_cons_zero, List.set_cons_succ]))
            (refine Xr.take 3 (some 15) (v := ?_) rfl rfl (by decide +kernel) (by rfl) ?_ ?_; rotate_left; (focus (intro w' hk; go_simp; (try with_reducible rfl); done)); (try simp only [Act.put, List.setIfInBounds_toArray, List.set_cons_zero, List.set_cons_succ]))
            first | (refine Xr.take 4 (some 16) (v := ?_) rfl rfl (by decide +kernel) (by rfl) ?_ ?_; rotate_left; (focus (intro w' hk; go_simp; (try with_reducible rfl); done)); (try simp only [Act.put, List.setIfInBounds_toArray, List.set_cons_zero, List.set_cons_succ])) | (refine Xr.skip 4 (some 16) rfl rfl (by decide +kernel) (by rfl) ?_; (try simp only [Act.put, List.setIfInBounds_toArray, List.set_cons_zero, List.set_cons_succ]))
            first | (refine Xr.take 5 (some 17) (v := ?_) rfl rfl (by decide +kernel) (by rfl) ?_ ?_; rotate_left; (focus (intro w' hk; go_simp; (try with_reducible rfl); done)); (try simp only [Act.put, List.setIfInBounds_toArray, List.set_cons_zero, List.set_cons_succ])) | (refine Xr.skip 5 (some 17) rfl rfl (by decide +kernel) (by rfl) ?_; (try simp only [Act.put, List.setIfInBounds_toArray, List.set_cons_zero, List.set_cons_succ]))
            first | (refine Xr.take 6 (some 18) (v := ?_) rfl rfl (by decide +kernel) (by rfl) ?_ ?_; rotate_left; (focus (intro w' hk; go_simp; (try with_reducible rfl); done)); (try simp only [Act.put, List.setIfInBounds_toArray, List.set_cons_zero, List.set_cons_succ])) | (refine Xr.skip 6 (some 18) rfl rfl (by decide +kernel) (by rfl) ?_; (try simp only [Act.put, List.setIfInBounds_toArray, List.set_cons_zero, List.set_cons_succ]))
            first | (refine Xr.take 7 (some 19) (v := ?_) rfl rfl (by decide +kernel) (by rfl) ?_ ?_; rotate_left; (focus (intro w' hk; go_simp; (try with_reducible rfl); done)); (try simp only [Act.put, List.setIfInBounds_toArray, List.set_cons_zero, List.set_cons_succ])) | (refine Xr.skip 7 (some 19) rfl rfl (by decide +kernel) (by rfl) ?_; (try simp only [Act.put, List.setIfInBounds_toArray, List.set_cons_zero, List.set_cons_succ]))
            first | (refine Xr.take 8 (some 20) (v := ?_) rfl rfl (by decide +kernel) (by rfl) ?_ ?_; rotate_left; (focus (intro w' hk; go_simp; (try with_reducible rfl); done)); (try simp only [Act.put, List.setIfInBounds_toArray, List.set_cons_zero, List.set_cons_succ])) | (refine Xr.skip 8 (some 20) rfl rfl (by decide +kernel) (by rfl) ?_; (try simp only [Act.put, List.setIfInBounds_toArray, List.set_cons_zero, List.set_cons_succ]))
            first | (refine Xr.take 9 (some 21) (v := ?_) rfl rfl (by decide +kernel) (by rfl) ?_ ?_; rotate_left; (focus (intro w' hk; go_simp; (try with_reducible rfl); done)); (try simp only [Act.put, List.setIfInBounds_toArray, List.set_cons_zero, List.set_cons_succ])) | (refine Xr.skip 9 (some 21) rfl rfl (by decide +kernel) (by rfl) ?_; (try simp only [Act.put, List.setIfInBounds_toArray, List.set_cons_zero, List.set_cons_succ]))
            first | (refine Xr.take 10 (some 22) (v := ?_) rfl rfl (by decide +kernel) (by rfl) ?_ ?_; rotate_left; (focus (intro w' hk; go_simp; (try with_reducible rfl); done)); (try simp only [Act.put, List.setIfInBounds_toArray, List.set_cons_zero, List.set_cons_succ])) | (refine Xr.skip 10 (some 22) rfl rfl (by decide +kernel) (by rfl) ?_; (try simp only [Act.put, List.setIfInBounds_toArray, List.set_cons_zero, List.set_cons_succ]))
            first | (refine Xr.take 11 (some 23) (v := ?_) rfl rfl (by decide +kernel) (by rfl) ?_ ?_; rotate_left; (focus (intro w' hk; go_simp; (try with_reducible rfl); done)); (try simp only [Act.put, List.setIfInBounds_toArray, List.set_cons_zero, List.set_cons_succ])) | (refine Xr.skip 11 (some 23) rfl rfl (by decide +kernel) (by rfl) ?_; (try simp only [Act.put, List.setIfInBounds_toArray, List.set_cons_zero, List.set_cons_succ]))
            first | (refine Xr.take 12 (some 24) (v := ?_) rfl rfl (by decide +kernel) (by rfl) ?_ ?_; rotate_left; (focus (intro w' hk; go_simp; (try with_reducible rfl); done)); (try simp only [Act.put, List.setIfInBounds_toArray, List.set_cons_zero, List.set_cons_succ])) | (refine Xr.skip 12 (some 24) rfl rfl (by decide +kernel) (by rfl) ?_; (try simp only [Act.put, List.setIfInBounds_toArray, List.set_cons_zero, List.set_cons_succ]))
            first | (refine Xr.take 13 (some 25) (v := ?_) rfl rfl (by decide +kernel) (by rfl) ?_ ?_; rotate_left; (focus (intro w' hk; go_simp; (try with_reducible rfl); done)); (try simp only [Act.put, List.setIfInBounds_toArray, List.set_cons_zero, List.set_cons_succ])) | (refine Xr.skip 13 (some 25) rfl rfl (by decide +kernel) (by rfl) ?_; (try simp only [Act.put, List.setIfInBounds_toArray, List.set_cons_zero, List.set_cons_succ]))
            first | (refine Xr.take 14 (some 26) (v := ?_) rfl rfl (by decide +kernel) (by rfl) ?_ ?_; rotate_left; (focus (intro w' hk; go_simp; (try with_reducible rfl); done)); (try simp only [Act.put, List.setIfInBounds_toArray, List.set_cons_zero, List.set_cons_succ])) | (refine Xr.skip 14 (some 26) rfl rfl (by decide +kernel) (by rfl) ?_; (try simp only [Act.put, List.setIfInBounds_toArray, List.set_cons_zero, List.set_cons_succ]))
            first | (refine Xr.take 15 (some 27) (v := ?_) rfl rfl (by decide +kernel) (by rfl) ?_ ?_; rotate_left; (focus (intro w' hk; go_simp; (try with_reducible rfl); done)); (try simp only [Act.put, List.setIfInBounds_toArray, List.set_cons_zero, List.set_cons_succ])) | (refine Xr.skip 15 (some 27) rfl rfl (by decide +kernel) (by rfl) ?_; (try simp only [Act.put, List.setIfInBounds_toArray, List.set_cons_zero, List.set_cons_succ]))
            first | (refine Xr.take 16 (some 28) (v := ?_) rfl rfl (by decide +kernel) (by rfl) ?_ ?_; rotate_left; (focus (intro w' hk; go_simp; (try with_reducible rfl); done)); (try simp only [Act.put, List.setIfInBounds_toArray, List.set_cons_zero, List.set_cons_succ])) | (refine Xr.skip 16 (some 28) rfl rfl (by decide +kernel) (by rfl) ?_; (try simp only [Act.put, List.setIfInBounds_toArray, List.set_cons_zero, List.set_cons_succ]))
            first | (refine Xr.take 17 (some 29) (v := ?_) rfl rfl (by decide +kernel) (by rfl) ?_ ?_; rotate_left; (focus (intro w' hk; go_simp; (try with_reducible rfl); done)); (try simp only [Act.put, List.setIfInBounds_toArray, List.set_cons_zero, List.set_cons_succ])) | (refine Xr.skip 17 (some 29) rfl rfl (by decide +kernel) (by rfl) ?_; (try simp only [Act.put, List.setIfInBounds_toArray, List.set_cons_zero, List.set_cons_succ]))
            (refine Xr.take 18 (some 30) (v := ?_) rfl rfl (by decide +kernel) (by rfl) ?_ ?_; rotate_left; (focus (intro w' hk; go_simp; (try with_reducible rfl); done)); (try simp only [Act.put, List.setIfInBounds_toArray, List.set_cons_zero, List.set_cons_succ]))
            refine Xr.done (by decide +kernel) (fun w4 hE4 hK4 => ?_)
            have x4 := x2.trans hK4.nil
            clear k0 k1 k3 p0 p1 g1 g2 g3 g3a hd hE2 hK2 x3 hE4 hK4 b1
            go_wp2_with fail
            go_roundw
            case rel => exact ⟨k + 1 + 1, by go_num, by omega, HE, x4⟩
            case measure => simp [intOf]; omega
          · have hd : lo < phi + 2 := by omega
            have HE := HB2 (s5 (by omega))
            clear s3 s4 s5 HB2 HM HK hp
            refine Xr.start [] (by kernel_rfl) ?_
            (refine Xr.take 0 (some 12) (v := ?_) rfl rfl (by decide +kernel) (by rfl) ?_ ?_; rotate_left; (focus (intro w' hk; go_simp; (try with_reducible rfl); done)); (try simp only [Act.put, List.setIfInBounds_toArray, List.set_cons_zero, List.set_cons_succ]))
            refine Xr.call 1 rfl (by decide +kernel) (by rfl) (fun w2 hE2 hK2 K hKK => ?_)
            go_simp
            refine (hG _).out.mono ?_
            rintro e w3 ⟨rfl, x3⟩
            refine hKK _ _ x3 ?_
            clear hKK hG
            (try simp only [Act.put, List.setIfInBounds_toArray, List.set_cons_zero, List.set_cons_succ])
            (refine Xr.take 2 (some 14) (v := ?_) rfl rfl (by decide +kernel) (by rfl) ?_ ?_; rotate_left; (focus (intro w' hk; go_simp; (try with_reducible rfl); done)); (try simp only [Act.put, List.setIfInBounds_toArray, List.set_cons_zero, List.set_cons_succ]))
            (refine Xr.take 3 (some 15) (v := ?_) rfl rfl (by decide +kernel) (by rfl) ?_ ?_; rotate_left; (focus (intro w' hk; go_simp; (try with_reducible rfl); done)); (try simp only [Act.put, List.setIfInBounds_toArray, List.set_cons_zero, List.set_cons_succ]))
            first | (refine Xr.take 4 (some 16) (v := ?_) rfl rfl (by decide +kernel) (by rfl) ?_ ?_; rotate_left; (focus (intro w' hk; go_simp; (try with_reducible rfl); done)); (try simp only [Act.put, List.setIfInBounds_toArray, List.set_cons_zero, List.set_cons_succ])) | (refine Xr.skip 4 (some 16) rfl rfl (by decide +kernel) (by rfl) ?_; (try simp only [Act.put, List.setIfInBounds_toArray, List.set_cons_zero, List.set_cons_succ]))
            first | (refine Xr.take 5 (some 17) (v := ?_) rfl rfl (by decide +kernel) (by rfl) ?_ ?_; rotate_left; (focus (intro w' hk; go_simp; (try with_reducible rfl); done)); (try simp only [Act.put, List.setIfInBounds_toArray, List.set_cons_zero, List.set_cons_succ])) | (refine Xr.skip 5 (some 17) rfl rfl (by decide +kernel) (by rfl) ?_; (try simp only [Act.put, List.setIfInBounds_toArray, List.set_cons_zero, List.set_cons_succ]))
            first | (refine Xr.take 6 (some 18) (v := ?_) rfl rfl (by decide +kernel) (by rfl) ?_ ?_; rotate_left; (focus (intro w' hk; go_simp; (try with_reducible rfl); done)); (try simp only [Act.put, List.setIfInBounds_toArray, List.set_cons_zero, List.set_cons_succ])) | (refine Xr.skip 6 (some 18) rfl rfl (by decide +kernel) (by rfl) ?_; (try simp only [Act.put, List.setIfInBounds_toArray, List.set_cons_zero, List.set_cons_succ]))
            first | (refine Xr.take 7 (some 19) (v := ?_) rfl rfl (by decide +kernel) (by rfl) ?_ ?_; rotate_left; (focus (intro w' hk; go_simp; (try with_reducible rfl); done)); (try simp only [Act.put, List.setIfInBounds_toArray, List.set_cons_zero, List.set_cons_succ])) | (refine Xr.skip 7 (some 19) rfl rfl (by decide +kernel) (by rfl) ?_; (try simp only [Act.put, List.setIfInBounds_toArray, List.set_cons_zero, List.set_cons_succ]))
            first | (refine Xr.take 8 (some 20) (v := ?_) rfl rfl (by decide +kernel) (by rfl) ?_ ?_; rotate_left; (focus (intro w' hk; go_simp; (try with_reducible rfl); done)); (try simp only [Act.put, List.setIfInBounds_toArray, List.set_cons_zero, List.set_cons_succ])) | (refine Xr.skip 8 (some 20) rfl rfl (by decide +kernel) (by rfl) ?_; (try simp only [Act.put, List.setIfInBounds_toArray, List.set_cons_zero, List.set_cons_succ]))
            first | (refine Xr.take 9 (some 21) (v := ?_) rfl rfl (by decide +kernel) (by rfl) ?_ ?_; rotate_left; (focus (intro w' hk; go_simp; (try with_reducible rfl); done)); (try simp only [Act.put, List.setIfInBounds_toArray, List.set_cons_zero, List.set_cons_succ])) | (refine Xr.skip 9 (some 21) rfl rfl (by decide +kernel) (by rfl) ?_; (try simp only [Act.put, List.setIfInBounds_toArray, List.set_cons_zero, List.set_cons_succ]))
            first | (refine Xr.take 10 (some 22) (v := ?_) rfl rfl (by decide +kernel) (by rfl) ?_ ?_; rotate_left; (focus (intro w' hk; go_simp; (try with_reducible rfl); done)); (try simp only [Act.put, List.setIfInBounds_toArray, List.set_cons_zero, List.set_cons_succ])) | (refine Xr.skip 10 (some 22) rfl rfl (by decide +kernel) (by rfl) ?_; (try simp only [Act.put, List.setIfInBounds_toArray, List.set_cons_zero, List.set_cons_succ]))
            first | (refine Xr.take 11 (some 23) (v := ?_) rfl rfl (by decide +kernel) (by rfl) ?_ ?_; rotate_left; (focus (intro w' hk; go_simp; (try with_reducible rfl); done)); (try simp only [Act.put, List.setIfInBounds_toArray, List.set_cons_zero, List.set_cons_succ])) | (refine Xr.skip 11 (some 23) rfl rfl (by decide +kernel) (by rfl) ?_; (try simp only [Act.put, List.setIfInBounds_toArray, List.set_cons_zero, List.set_cons_succ]))
            first | (refine Xr.take 12 (some 24) (v := ?_) rfl rfl (by decide +kernel) (by rfl) ?_ ?_; rotate_left; (focus (intro w' hk; go_simp; (try with_reducible rfl); done)); (try simp only [Act.put, List.setIfInBounds_toArray, List.set_cons_zero, List.set_cons_succ])) | (refine Xr.skip 12 (some 24) rfl rfl (by decide +kernel) (by rfl) ?_; (try simp only [Act.put, List.setIfInBounds_toArray, List.set_cons_zero, List.set_cons_succ]))
            first | (refine Xr.take 13 (some 25) (v := ?_) rfl rfl (by decide +kernel) (by rfl) ?_ ?_; rotate_left; (focus (intro w' hk; go_simp; (try with_reducible rfl); done)); (try simp only [Act.put, List.setIfInBounds_toArray, List.set_cons_zero, List.set_cons_succ])) | (refine Xr.skip 13 (some 25) rfl rfl (by decide +kernel) (by rfl) ?_; (try simp only [Act.put, List.setIfInBounds_toArray, List.set_cons_zero, List.set_cons_succ]))
            first | (refine Xr.take 14 (some 26) (v := ?_) rfl rfl (by decide +kernel) (by rfl) ?_ ?_; rotate_left; (focus (intro w' hk; go_simp; (try with_reducible rfl); done)); (try simp only [Act.put, List.setIfInBounds_toArray, List.set_cons_zero, List.set_cons_succ])) | (refine Xr.skip 14 (some 26) rfl rfl (by decide +kernel) (by rfl) ?_; (try simp only [Act.put, List.setIfInBounds_toArray, List.set_cons_zero, List.set_cons_succ]))
            first | (refine Xr.take 15 (some 27) (v := ?_) rfl rfl (by decide +kernel) (by rfl) ?_ ?_; rotate_left; (focus (intro w' hk; go_simp; (try with_reducible rfl); done)); (try simp only [Act.put, List.setIfInBounds_toArray, List.set_cons_zero, List.set_cons_succ])) | (refine Xr.skip 15 (some 27) rfl rfl (by decide +kernel) (by rfl) ?_; (try simp only [Act.put, List.setIfInBounds_toArray, List.set_cons_zero, List.set_cons_succ]))
            first | (refine Xr.take 16 (some 28) (v := ?_) rfl rfl (by decide +kernel) (by rfl) ?_ ?_; rotate_left; (focus (intro w' hk; go_simp; (try with_reducible rfl); done)); (try simp only [Act.put, List.setIfInBounds_toArray, List.set_cons_zero, List.set_cons_succ])) | (refine Xr.skip 16 (some 28) rfl rfl (by decide +kernel) (by rfl) ?_; (try simp only [Act.put, List.setIfInBounds_toArray, List.set_cons_zero, List.set_cons_succ]))
            first | (refine Xr.take 17 (some 29) (v := ?_) rfl rfl (by decide +kernel) (by rfl) ?_ ?_; rotate_left; (focus (intro w' hk; go_simp; (try with_reducible rfl); done)); (try simp only [Act.put, List.setIfInBounds_toArray, List.set_cons_zero, List.set_cons_succ])) | (refine Xr.skip 17 (some 29) rfl rfl (by decide +kernel) (by rfl) ?_; (try simp only [Act.put, List.setIfInBounds_toArray, List.set_cons_zero, List.set_cons_succ]))
            (refine Xr.take 18 (some 30) (v := ?_) rfl rfl (by decide +kernel) (by rfl) ?_ ?_; rotate_left; (focus (intro w' hk; go_simp; (try with_reducible rfl); done)); (try simp only [Act.put, List.setIfInBounds_toArray, List.set_cons_zero, List.set_cons_succ]))
            refine Xr.done (by decide +kernel) (fun w4 hE4 hK4 => ?_)
            have x4 := x2.trans hK4.nil
            clear k0 k1 k3 p0 p1 g1 g2 g3 g3a hd hE2 hK2 x3 hE4 hK4 b1
            go_wp2_with fail
            go_ret
            exact ⟨by rw [HE.out]; rfl, x4⟩
        · have hgB : goodB (lo, hi2) = false := decide_eq_false hg
          rw [hgB] at hG
          have HE := HB2 (s3 hg)
          clear s3 s4 s5 HB2 HM HK
          refine Xr.start [] (by kernel_rfl) ?_
          (refine Xr.take 0 (some 12) (v := ?_) rfl rfl (by decide +kernel) (by rfl) ?_ ?_; rotate_left; (focus (intro w' hk; go_simp; (try with_reducible rfl); done)); (try simp only [Act.put, List.setIfInBounds_toArray, List.set_cons_zero, List.set_cons_succ]))
          refine Xr.call 1 rfl (by decide +kernel) (by rfl) (fun w2 hE2 hK2 K hKK => ?_)
          go_simp
          refine (hG _).out.mono ?_
          rintro e w3 ⟨rfl, x3⟩
          refine hKK _ _ x3 ?_
          clear hKK hG
          (try simp only [Act.put, List.setIfInBounds_toArray, List.set_cons_zero, List.set_cons_succ])
          (refine Xr.take 2 (some 14) (v := ?_) rfl rfl (by decide +kernel) (by rfl) ?_ ?_; rotate_left; (focus (intro w' hk; go_simp; (try with_reducible rfl); done)); (try simp only [Act.put, List.setIfInBounds_toArray, List.set_cons_zero, List.set_cons_succ]))
          (refine Xr.take 3 (some 15) (v := ?_) rfl rfl (by decide +kernel) (by rfl) ?_ ?_; rotate_left; (focus (intro w' hk; go_simp; (try with_reducible rfl); done)); (try simp only [Act.put, List.setIfInBounds_toArray, List.set_cons_zero, List.set_cons_succ]))
          first | (refine Xr.take 4 (some 16) (v := ?_) rfl rfl (by decide +kernel) (by rfl) ?_ ?_; rotate_left; (focus (intro w' hk; go_simp; (try with_reducible rfl); done)); (try simp only [Act.put, List.setIfInBounds_toArray, List.set_cons_zero, List.set_cons_succ])) | (refine Xr.skip 4 (some 16) rfl rfl (by decide +kernel) (by rfl) ?_; (try simp only [Act.put, List.setIfInBounds_toArray, List.set_cons_zero, List.set_cons_succ]))
          first | (refine Xr.take 5 (some 17) (v := ?_) rfl rfl (by decide +kernel) (by rfl) ?_ ?_; rotate_left; (focus (intro w' hk; go_simp; (try with_reducible rfl); done)); (try simp only [Act.put, List.setIfInBounds_toArray, List.set_cons_zero, List.set_cons_succ])) | (refine Xr.skip 5 (some 17) rfl rfl (by decide +kernel) (by rfl) ?_; (try simp only [Act.put, List.setIfInBounds_toArray, List.set_cons_zero, List.set_cons_succ]))
          first | (refine Xr.take 6 (some 18) (v := ?_) rfl rfl (by decide +kernel) (by rfl) ?_ ?_; rotate_left; (focus (intro w' hk; go_simp; (try with_reducible rfl); done)); (try simp only [Act.put, List.setIfInBounds_toArray, List.set_cons_zero, List.set_cons_succ])) | (refine Xr.skip 6 (some 18) rfl rfl (by decide +kernel) (by rfl) ?_; (try simp only [Act.put, List.setIfInBounds_toArray, List.set_cons_zero, List.set_cons_succ]))
          first | (refine Xr.take 7 (some 19) (v := ?_) rfl rfl (by decide +kernel) (by rfl) ?_ ?_; rotate_left; (focus (intro w' hk; go_simp; (try with_reducible rfl); done)); (try simp only [Act.put, List.setIfInBounds_toArray, List.set_cons_zero, List.set_cons_succ])) | (refine Xr.skip 7 (some 19) rfl rfl (by decide +kernel) (by rfl) ?_; (try simp only [Act.put, List.setIfInBounds_toArray, List.set_cons_zero, List.set_cons_succ]))
          first | (refine Xr.take 8 (some 20) (v := ?_) rfl rfl (by decide +kernel) (by rfl) ?_ ?_; rotate_left; (focus (intro w' hk; go_simp; (try with_reducible rfl); done)); (try simp only [Act.put, List.setIfInBounds_toArray, List.set_cons_zero, List.set_cons_succ])) | (refine Xr.skip 8 (some 20) rfl rfl (by decide +kernel) (by rfl) ?_; (try simp only [Act.put, List.setIfInBounds_toArray, List.set_cons_zero, List.set_cons_succ]))
          first | (refine Xr.take 9 (some 21) (v := ?_) rfl rfl (by decide +kernel) (by rfl) ?_ ?_; rotate_left; (focus (intro w' hk; go_simp; (try with_reducible rfl); done)); (try simp only [Act.put, List.setIfInBounds_toArray, List.set_cons_zero, List.set_cons_succ])) | (refine Xr.skip 9 (some 21) rfl rfl (by decide +kernel) (by rfl) ?_; (try simp only [Act.put, List.setIfInBounds_toArray, List.set_cons_zero, List.set_cons_succ]))
          first | (refine Xr.take 10 (some 22) (v := ?_) rfl rfl (by decide +kernel) (by rfl) ?_ ?_; rotate_left; (focus (intro w' hk; go_simp; (try with_reducible rfl); done)); (try simp only [Act.put, List.setIfInBounds_toArray, List.set_cons_zero, List.set_cons_succ])) | (refine Xr.skip 10 (some 22) rfl rfl (by decide +kernel) (by rfl) ?_; (try simp only [Act.put, List.setIfInBounds_toArray, List.set_cons_zero, List.set_cons_succ]))
          first | (refine Xr.take 11 (some 23) (v := ?_) rfl rfl (by decide +kernel) (by rfl) ?_ ?_; rotate_left; (focus (intro w' hk; go_simp; (try with_reducible rfl); done)); (try simp only [Act.put, List.setIfInBounds_toArray, List.set_cons_zero, List.set_cons_succ])) | (refine Xr.skip 11 (some 23) rfl rfl (by decide +kernel) (by rfl) ?_; (try simp only [Act.put, List.setIfInBounds_toArray, List.set_cons_zero, List.set_cons_succ]))
          first | (refine Xr.take 12 (some 24) (v := ?_) rfl rfl (by decide +kernel) (by rfl) ?_ ?_; rotate_left; (focus (intro w' hk; go_simp; (try with_reducible rfl); done)); (try simp only [Act.put, List.setIfInBounds_toArray, List.set_cons_zero, List.set_cons_succ])) | (refine Xr.skip 12 (some 24) rfl rfl (by decide +kernel) (by rfl) ?_; (try simp only [Act.put, List.setIfInBounds_toArray, List.set_cons_zero, List.set_cons_succ]))
          first | (refine Xr.take 13 (some 25) (v := ?_) rfl rfl (by decide +kernel) (by rfl) ?_ ?_; rotate_left; (focus (intro w' hk; go_simp; (try with_reducible rfl); done)); (try simp only [Act.put, List.setIfInBounds_toArray, List.set_cons_zero, List.set_cons_succ])) | (refine Xr.skip 13 (some 25) rfl rfl (by decide +kernel) (by rfl) ?_; (try simp only [Act.put, List.setIfInBounds_toArray, List.set_cons_zero, List.set_cons_succ]))
          first | (refine Xr.take 14 (some 26) (v := ?_) rfl rfl (by decide +kernel) (by rfl) ?_ ?_; rotate_left; (focus (intro w' hk; go_simp; (try with_reducible rfl); done)); (try simp only [Act.put, List.setIfInBounds_toArray, List.set_cons_zero, List.set_cons_succ])) | (refine Xr.skip 14 (some 26) rfl rfl (by decide +kernel) (by rfl) ?_; (try simp only [Act.put, List.setIfInBounds_toArray, List.set_cons_zero, List.set_cons_succ]))
          first | (refine Xr.take 15 (some 27) (v := ?_) rfl rfl (by decide +kernel) (by rfl) ?_ ?_; rotate_left; (focus (intro w' hk; go_simp; (try with_reducible rfl); done)); (try simp only [Act.put, List.setIfInBounds_toArray, List.set_cons_zero, List.set_cons_succ])) | (refine Xr.skip 15 (some 27) rfl rfl (by decide +kernel) (by rfl) ?_; (try simp only [Act.put, List.setIfInBounds_toArray, List.set_cons_zero, List.set_cons_succ]))
          first | (refine Xr.take 16 (some 28) (v := ?_) rfl rfl (by decide +kernel) (by rfl) ?_ ?_; rotate_left; (focus (intro w' hk; go_simp; (try with_reducible rfl); done)); (try simp only [Act.put, List.setIfInBounds_toArray, List.set_cons_zero, List.set_cons_succ])) | (refine Xr.skip 16 (some 28) rfl rfl (by decide +kernel) (by rfl) ?_; (try simp only [Act.put, List.setIfInBounds_toArray, List.set_cons_zero, List.set_cons_succ]))
          first | (refine Xr.take 17 (some 29) (v := ?_) rfl rfl (by decide +kernel) (by rfl) ?_ ?_; rotate_left; (focus (intro w' hk; go_simp; (try with_reducible rfl); done)); (try simp only [Act.put, List.setIfInBounds_toArray, List.set_cons_zero, List.set_cons_succ])) | (refine Xr.skip 17 (some 29) rfl rfl (by decide +kernel) (by rfl) ?_; (try simp only [Act.put, List.setIfInBounds_toArray, List.set_cons_zero, List.set_cons_succ]))
          (refine Xr.take 18 (some 30) (v := ?_) rfl rfl (by decide +kernel) (by rfl) ?_ ?_; rotate_left; (focus (intro w' hk; go_simp; (try with_reducible rfl); done)); (try simp only [Act.put, List.setIfInBounds_toArray, List.set_cons_zero, List.set_cons_succ]))
          refine Xr.done (by decide +kernel) (fun w4 hE4 hK4 => ?_)
          have x4 := x2.trans hK4.nil
          clear k0 k1 k3 p0 p1 g1 g2 g3 g3a hE2 hK2 x3 hE4 hK4 b1
          go_wp2_with fail
          go_ret
          exact ⟨by rw [HE.out]; rfl, x4⟩
      · obtain rfl : i = 0 := by omega
        clear s2 HI HB
        generalize l[0] = s at *
        obtain ⟨lo, hi2⟩ := s
        simp only [Nat.zero_mul, Nat.add_zero] at g1 g2 s1 s3
        have hG := fun (W' : World) => Lib.hid (right_any (lo, hi2) W')
        unfold spV at hG
        simp only at hG
        obtain ⟨b1, xa⟩ := alloc1 wr 48 #[.int .i64 lo, .int .i64 hi2]
        have x2 := x1.trans xa
        obtain ⟨p0, p1, _, _, pz⟩ := b1.c2
        go_upto_region 4 with fail
        obtain ⟨gs, hgs⟩ : ∃ gs, gs = wr.heap.size := ⟨_, rfl⟩
        rw [← hgs] at b1 p0 p1 pz ⊢
        generalize wr.alloc (.cells #[.int .i64 lo, .int .i64 hi2] 48) = wa at *
        have k0 := fun (w' : World) (h : Kp [] wa w') => h.cell p0 (by simp)
        have k1 := fun (w' : World) (h : Kp [] wa w') => h.cell p1 (by simp)
        clear xa hgs
        by_cases hg : goodS (lo, hi2)
        · have hgB : goodB (lo, hi2) = true := decide_eq_true hg
          rw [hgB] at hG
          have HE := HM (s1 trivial hg)
          clear HB2 HM HK s1 s3
          refine Xr.start [] (by kernel_rfl) ?_
          (refine Xr.take 0 (some 12) (v := ?_) rfl rfl (by decide +kernel) (by rfl) ?_ ?_; rotate_left; (focus (intro w' hk; go_simp; (try with_reducible rfl); done)); (try simp only [Act.put, List.setIfInBounds_toArray, List.set_cons_zero, List.set_cons_succ]))
          refine Xr.call 1 rfl (by decide +kernel) (by rfl) (fun w2 hE2 hK2 K hKK => ?_)
          go_simp
          refine (hG _).out.mono ?_
          rintro e w3 ⟨rfl, x3⟩
          refine hKK _ _ x3 ?_
          clear hKK hG
          (try simp only [Act.put, List.setIfInBounds_toArray, List.set_cons_zero, List.set_cons_succ])
          (refine Xr.take 2 (some 14) (v := ?_) rfl rfl (by decide +kernel) (by rfl) ?_ ?_; rotate_left; (focus (intro w' hk; go_simp; (try with_reducible rfl); done)); (try simp only [Act.put, List.setIfInBounds_toArray, List.set_cons_zero, List.set_cons_succ]))
          (refine Xr.take 3 (some 15) (v := ?_) rfl rfl (by decide +kernel) (by rfl) ?_ ?_; rotate_left; (focus (intro w' hk; go_simp; (try with_reducible rfl); done)); (try simp only [Act.put, List.setIfInBounds_toArray, List.set_cons_zero, List.set_cons_succ]))
          first | (refine Xr.take 4 (some 16) (v := ?_) rfl rfl (by decide +kernel) (by rfl) ?_ ?_; rotate_left; (focus (intro w' hk; go_simp; (try with_reducible rfl); done)); (try simp only [Act.put, List.setIfInBounds_toArray, List.set_cons_zero, List.set_cons_succ])) | (refine Xr.skip 4 (some 16) rfl rfl (by decide +kernel) (by rfl) ?_; (try simp only [Act.put, List.setIfInBounds_toArray, List.set_cons_zero, List.set_cons_succ]))
          first | (refine Xr.take 5 (some 17) (v := ?_) rfl rfl (by decide +kernel) (by rfl) ?_ ?_; rotate_left; (focus (intro w' hk; go_simp; (try with_reducible rfl); done)); (try simp only [Act.put, List.setIfInBounds_toArray, List.set_cons_zero, List.set_cons_succ])) | (refine Xr.skip 5 (some 17) rfl rfl (by decide +kernel) (by rfl) ?_; (try simp only [Act.put, List.setIfInBounds_toArray, List.set_cons_zero, List.set_cons_succ]))
          first | (refine Xr.take 6 (some 18) (v := ?_) rfl rfl (by decide +kernel) (by rfl) ?_ ?_; rotate_left; (focus (intro w' hk; go_simp; (try with_reducible rfl); done)); (try simp only [Act.put, List.setIfInBounds_toArray, List.set_cons_zero, List.set_cons_succ])) | (refine Xr.skip 6 (some 18) rfl rfl (by decide +kernel) (by rfl) ?_; (try simp only [Act.put, List.setIfInBounds_toArray, List.set_cons_zero, List.set_cons_succ]))
          first | (refine Xr.take 7 (some 19) (v := ?_) rfl rfl (by decide +kernel) (by rfl) ?_ ?_; rotate_left; (focus (intro w' hk; go_simp; (try with_reducible rfl); done)); (try simp only [Act.put, List.setIfInBounds_toArray, List.set_cons_zero, List.set_cons_succ])) | (refine Xr.skip 7 (some 19) rfl rfl (by decide +kernel) (by rfl) ?_; (try simp only [Act.put, List.setIfInBounds_toArray, List.set_cons_zero, List.set_cons_succ]))
          first | (refine Xr.take 8 (some 20) (v := ?_) rfl rfl (by decide +kernel) (by rfl) ?_ ?_; rotate_left; (focus (intro w' hk; go_simp; (try with_reducible rfl); done)); (try simp only [Act.put, List.setIfInBounds_toArray, List.set_cons_zero, List.set_cons_succ])) | (refine Xr.skip 8 (some 20) rfl rfl (by decide +kernel) (by rfl) ?_; (try simp only [Act.put, List.setIfInBounds_toArray, List.set_cons_zero, List.set_cons_succ]))
          first | (refine Xr.take 9 (some 21) (v := ?_) rfl rfl (by decide +kernel) (by rfl) ?_ ?_; rotate_left; (focus (intro w' hk; go_simp; (try with_reducible rfl); done)); (try simp only [Act.put, List.setIfInBounds_toArray, List.set_cons_zero, List.set_cons_succ])) | (refine Xr.skip 9 (some 21) rfl rfl (by decide +kernel) (by rfl) ?_; (try simp only [Act.put, List.setIfInBounds_toArray, List.set_cons_zero, List.set_cons_succ]))
          first | (refine Xr.take 10 (some 22) (v := ?_) rfl rfl (by decide +kernel) (by rfl) ?_ ?_; rotate_left; (focus (intro w' hk; go_simp; (try with_reducible rfl); done)); (try simp only [Act.put, List.setIfInBounds_toArray, List.set_cons_zero, List.set_cons_succ])) | (refine Xr.skip 10 (some 22) rfl rfl (by decide +kernel) (by rfl) ?_; (try simp only [Act.put, List.setIfInBounds_toArray, List.set_cons_zero, List.set_cons_succ]))
          first | (refine Xr.take 11 (some 23) (v := ?_) rfl rfl (by decide +kernel) (by rfl) ?_ ?_; rotate_left; (focus (intro w' hk; go_simp; (try with_reducible rfl); done)); (try simp only [Act.put, List.setIfInBounds_toArray, List.set_cons_zero, List.set_cons_succ])) | (refine Xr.skip 11 (some 23) rfl rfl (by decide +kernel) (by rfl) ?_; (try simp only [Act.put, List.setIfInBounds_toArray, List.set_cons_zero, List.set_cons_succ]))
          first | (refine Xr.take 12 (some 24) (v := ?_) rfl rfl (by decide +kernel) (by rfl) ?_ ?_; rotate_left; (focus (intro w' hk; go_simp; (try with_reducible rfl); done)); (try simp only [Act.put, List.setIfInBounds_toArray, List.set_cons_zero, List.set_cons_succ])) | (refine Xr.skip 12 (some 24) rfl rfl (by decide +kernel) (by rfl) ?_; (try simp only [Act.put, List.setIfInBounds_toArray, List.set_cons_zero, List.set_cons_succ]))
          first | (refine Xr.take 13 (some 25) (v := ?_) rfl rfl (by decide +kernel) (by rfl) ?_ ?_; rotate_left; (focus (intro w' hk; go_simp; (try with_reducible rfl); done)); (try simp only [Act.put, List.setIfInBounds_toArray, List.set_cons_zero, List.set_cons_succ])) | (refine Xr.skip 13 (some 25) rfl rfl (by decide +kernel) (by rfl) ?_; (try simp only [Act.put, List.setIfInBounds_toArray, List.set_cons_zero, List.set_cons_succ]))
          first | (refine Xr.take 14 (some 26) (v := ?_) rfl rfl (by decide +kernel) (by rfl) ?_ ?_; rotate_left; (focus (intro w' hk; go_simp; (try with_reducible rfl); done)); (try simp only [Act.put, List.setIfInBounds_toArray, List.set_cons_zero, List.set_cons_succ])) | (refine Xr.skip 14 (some 26) rfl rfl (by decide +kernel) (by rfl) ?_; (try simp only [Act.put, List.setIfInBounds_toArray, List.set_cons_zero, List.set_cons_succ]))
          first | (refine Xr.take 15 (some 27) (v := ?_) rfl rfl (by decide +kernel) (by rfl) ?_ ?_; rotate_left; (focus (intro w' hk; go_simp; (try with_reducible rfl); done)); (try simp only [Act.put, List.setIfInBounds_toArray, List.set_cons_zero, List.set_cons_succ])) | (refine Xr.skip 15 (some 27) rfl rfl (by decide +kernel) (by rfl) ?_; (try simp only [Act.put, List.setIfInBounds_toArray, List.set_cons_zero, List.set_cons_succ]))
          first | (refine Xr.take 16 (some 28) (v := ?_) rfl rfl (by decide +kernel) (by rfl) ?_ ?_; rotate_left; (focus (intro w' hk; go_simp; (try with_reducible rfl); done)); (try simp only [Act.put, List.setIfInBounds_toArray, List.set_cons_zero, List.set_cons_succ])) | (refine Xr.skip 16 (some 28) rfl rfl (by decide +kernel) (by rfl) ?_; (try simp only [Act.put, List.setIfInBounds_toArray, List.set_cons_zero, List.set_cons_succ]))
          first | (refine Xr.take 17 (some 29) (v := ?_) rfl rfl (by decide +kernel) (by rfl) ?_ ?_; rotate_left; (focus (intro w' hk; go_simp; (try with_reducible rfl); done)); (try simp only [Act.put, List.setIfInBounds_toArray, List.set_cons_zero, List.set_cons_succ])) | (refine Xr.skip 17 (some 29) rfl rfl (by decide +kernel) (by rfl) ?_; (try simp only [Act.put, List.setIfInBounds_toArray, List.set_cons_zero, List.set_cons_succ]))
          (refine Xr.take 18 (some 30) (v := ?_) rfl rfl (by decide +kernel) (by rfl) ?_ ?_; rotate_left; (focus (intro w' hk; go_simp; (try with_reducible rfl); done)); (try simp only [Act.put, List.setIfInBounds_toArray, List.set_cons_zero, List.set_cons_succ]))
          refine Xr.done (by decide +kernel) (fun w4 hE4 hK4 => ?_)
          have x4 := x2.trans hK4.nil
          clear k0 k1 p0 p1 g1 g2 hE2 hK2 x3 hE4 hK4 b1
          go_wp2_with fail
          go_roundw
          case rel => exact ⟨1, by go_num, by omega, HE, x4⟩
          case measure => simp [intOf]; omega
        · have hgB : goodB (lo, hi2) = false := decide_eq_false hg
          rw [hgB] at hG
          have HE := HB2 (s3 hg)
          clear HB2 HM HK s1 s3
          refine Xr.start [] (by kernel_rfl) ?_
          (refine Xr.take 0 (some 12) (v := ?_) rfl rfl (by decide +kernel) (by rfl) ?_ ?_; rotate_left; (focus (intro w' hk; go_simp; (try with_reducible rfl); done)); (try simp only [Act.put, List.setIfInBounds_toArray, List.set_cons_zero, List.set_cons_succ]))
          refine Xr.call 1 rfl (by decide +kernel) (by rfl) (fun w2 hE2 hK2 K hKK => ?_)
          go_simp
          refine (hG _).out.mono ?_
          rintro e w3 ⟨rfl, x3⟩
          refine hKK _ _ x3 ?_
          clear hKK hG
          (try simp only [Act.put, List.setIfInBounds_toArray, List.set_cons_zero, List.set_cons_succ])
          (refine Xr.take 2 (some 14) (v := ?_) rfl rfl (by decide +kernel) (by rfl) ?_ ?_; rotate_left; (focus (intro w' hk; go_simp; (try with_reducible rfl); done)); (try simp only [Act.put, List.setIfInBounds_toArray, List.set_cons_zero, List.set_cons_succ]))
          (refine Xr.take 3 (some 15) (v := ?_) rfl rfl (by decide +kernel) (by rfl) ?_ ?_; rotate_left; (focus (intro w' hk; go_simp; (try with_reducible rfl); done)); (try simp only [Act.put, List.setIfInBounds_toArray, List.set_cons_zero, List.set_cons_succ]))
          first | (refine Xr.take 4 (some 16) (v := ?_) rfl rfl (by decide +kernel) (by rfl) ?_ ?_; rotate_left; (focus (intro w' hk; go_simp; (try with_reducible rfl); done)); (try simp only [Act.put, List.setIfInBounds_toArray, List.set_cons_zero, List.set_cons_succ])) | (refine Xr.skip 4 (some 16) rfl rfl (by decide +kernel) (by rfl) ?_; (try simp only [Act.put, List.setIfInBounds_toArray, List.set_cons_zero, List.set_cons_succ]))
          first | (refine Xr.take 5 (some 17) (v := ?_) rfl rfl (by decide +kernel) (by rfl) ?_ ?_; rotate_left; (focus (intro w' hk; go_simp; (try with_reducible rfl); done)); (try simp only [Act.put, List.setIfInBounds_toArray, List.set_cons_zero, List.set_cons_succ])) | (refine Xr.skip 5 (some 17) rfl rfl (by decide +kernel) (by rfl) ?_; (try simp only [Act.put, List.setIfInBounds_toArray, List.set_cons_zero, List.set_cons_succ]))
          first | (refine Xr.take 6 (some 18) (v := ?_) rfl rfl (by decide +kernel) (by rfl) ?_ ?_; rotate_left; (focus (intro w' hk; go_simp; (try with_reducible rfl); done)); (try simp only [Act.put, List.setIfInBounds_toArray, List.set_cons_zero, List.set_cons_succ])) | (refine Xr.skip 6 (some 18) rfl rfl (by decide +kernel) (by rfl) ?_; (try simp only [Act.put, List.setIfInBounds_toArray, List.set_cons_zero, List.set_cons_succ]))
          first | (refine Xr.take 7 (some 19) (v := ?_) rfl rfl (by decide +kernel) (by rfl) ?_ ?_; rotate_left; (focus (intro w' hk; go_simp; (try with_reducible rfl); done)); (try simp only [Act.put, List.setIfInBounds_toArray, List.set_cons_zero, List.set_cons_succ])) | (refine Xr.skip 7 (some 19) rfl rfl (by decide +kernel) (by rfl) ?_; (try simp only [Act.put, List.setIfInBounds_toArray, List.set_cons_zero, List.set_cons_succ]))
          first | (refine Xr.take 8 (some 20) (v := ?_) rfl rfl (by decide +kernel) (by rfl) ?_ ?_; rotate_left; (focus (intro w' hk; go_simp; (try with_reducible rfl); done)); (try simp only [Act.put, List.setIfInBounds_toArray, List.set_cons_zero, List.set_cons_succ])) | (refine Xr.skip 8 (some 20) rfl rfl (by decide +kernel) (by rfl) ?_; (try simp only [Act.put, List.setIfInBounds_toArray, List.set_cons_zero, List.set_cons_succ]))
          first | (refine Xr.take 9 (some 21) (v := ?_) rfl rfl (by decide +kernel) (by rfl) ?_ ?_; rotate_left; (focus (intro w' hk; go_simp; (try with_reducible rfl); done)); (try simp only [Act.put, List.setIfInBounds_toArray, List.set_cons_zero, List.set_cons_succ])) | (refine Xr.skip 9 (some 21) rfl rfl (by decide +kernel) (by rfl) ?_; (try simp only [Act.put, List.setIfInBounds_toArray, List.set_cons_zero, List.set_cons_succ]))
          first | (refine Xr.take 10 (some 22) (v := ?_) rfl rfl (by decide +kernel) (by rfl) ?_ ?_; rotate_left; (focus (intro w' hk; go_simp; (try with_reducible rfl); done)); (try simp only [Act.put, List.setIfInBounds_toArray, List.set_cons_zero, List.set_cons_succ])) | (refine Xr.skip 10 (some 22) rfl rfl (by decide +kernel) (by rfl) ?_; (try simp only [Act.put, List.setIfInBounds_toArray, List.set_cons_zero, List.set_cons_succ]))
          first | (refine Xr.take 11 (some 23) (v := ?_) rfl rfl (by decide +kernel) (by rfl) ?_ ?_; rotate_left; (focus (intro w' hk; go_simp; (try with_reducible rfl); done)); (try simp only [Act.put, List.setIfInBounds_toArray, List.set_cons_zero, List.set_cons_succ])) | (refine Xr.skip 11 (some 23) rfl rfl (by decide +kernel) (by rfl) ?_; (try simp only [Act.put, List.setIfInBounds_toArray, List.set_cons_zero, List.set_cons_succ]))
          first | (refine Xr.take 12 (some 24) (v := ?_) rfl rfl (by decide +kernel) (by rfl) ?_ ?_; rotate_left; (focus (intro w' hk; go_simp; (try with_reducible rfl); done)); (try simp only [Act.put, List.setIfInBounds_toArray, List.set_cons_zero, List.set_cons_succ])) | (refine Xr.skip 12 (some 24) rfl rfl (by decide +kernel) (by rfl) ?_; (try simp only [Act.put, List.setIfInBounds_toArray, List.set_cons_zero, List.set_cons_succ]))
          first | (refine Xr.take 13 (some 25) (v := ?_) rfl rfl (by decide +kernel) (by rfl) ?_ ?_; rotate_left; (focus (intro w' hk; go_simp; (try with_reducible rfl); done)); (try simp only [Act.put, List.setIfInBounds_toArray, List.set_cons_zero, List.set_cons_succ])) | (refine Xr.skip 13 (some 25) rfl rfl (by decide +kernel) (by rfl) ?_; (try simp only [Act.put, List.setIfInBounds_toArray, List.set_cons_zero, List.set_cons_succ]))
          first | (refine Xr.take 14 (some 26) (v := ?_) rfl rfl (by decide +kernel) (by rfl) ?_ ?_; rotate_left; (focus (intro w' hk; go_simp; (try with_reducible rfl); done)); (try simp only [Act.put, List.setIfInBounds_toArray, List.set_cons_zero, List.set_cons_succ])) | (refine Xr.skip 14 (some 26) rfl rfl (by decide +kernel) (by rfl) ?_; (try simp only [Act.put, List.setIfInBounds_toArray, List.set_cons_zero, List.set_cons_succ]))
          first | (refine Xr.take 15 (some 27) (v := ?_) rfl rfl (by decide +kernel) (by rfl) ?_ ?_; rotate_left; (focus (intro w' hk; go_simp; (try with_reducible rfl); done)); (try simp only [Act.put, List.setIfInBounds_toArray, List.set_cons_zero, List.set_cons_succ])) | (refine Xr.skip 15 (some 27) rfl rfl (by decide +kernel) (by rfl) ?_; (try simp only [Act.put, List.setIfInBounds_toArray, List.set_cons_zero, List.set_cons_succ]))
          first | (refine Xr.take 16 (some 28) (v := ?_) rfl rfl (by decide +kernel) (by rfl) ?_ ?_; rotate_left; (focus (intro w' hk; go_simp; (try with_reducible rfl); done)); (try simp only [Act.put, List.setIfInBounds_toArray, List.set_cons_zero, List.set_cons_succ])) | (refine Xr.skip 16 (some 28) rfl rfl (by decide +kernel) (by rfl) ?_; (try simp only [Act.put, List.setIfInBounds_toArray, List.set_cons_zero, List.set_cons_succ]))
          first | (refine Xr.take 17 (some 29) (v := ?_) rfl rfl (by decide +kernel) (by rfl) ?_ ?_; rotate_left; (focus (intro w' hk; go_simp; (try with_reducible rfl); done)); (try simp only [Act.put, List.setIfInBounds_toArray, List.set_cons_zero, List.set_cons_succ])) | (refine Xr.skip 17 (some 29) rfl rfl (by decide +kernel) (by rfl) ?_; (try simp only [Act.put, List.setIfInBounds_toArray, List.set_cons_zero, List.set_cons_succ]))
          (refine Xr.take 18 (some 30) (v := ?_) rfl rfl (by decide +kernel) (by rfl) ?_ ?_; rotate_left; (focus (intro w' hk; go_simp; (try with_reducible rfl); done)); (try simp only [Act.put, List.setIfInBounds_toArray, List.set_cons_zero, List.set_cons_succ]))
          refine Xr.done (by decide +kernel) (fun w4 hE4 hK4 => ?_)
          have x4 := x2.trans hK4.nil
          clear k0 k1 p0 p1 g1 g2 hE2 hK2 x3 hE4 hK4 b1
          go_wp2_with fail
          go_ret
          exact ⟨by rw [HE.out]; rfl, x4⟩
    · have hI : ¬ (i : Int) < l.length := by omega
      have HR := HK (fun j hj => HI.out j (by omega))
      clear HK HB HI
      by_cases h64 : 64 < l.length
      · have HR2 : Hid (r = 4) := by show _ = _; rw [HR.out, if_pos h64]
        have hI64 : (64 : Int) < l.length := by omega
        clear HR
        go_wp2
        go_ret
        exact ⟨by rw [HR2.out]; rfl, x1⟩
      · have HR2 : Hid (r = 0) := by show _ = _; rw [HR.out, if_neg h64]
        have hI64 : ¬ (64 : Int) < l.length := by omega
        clear HR
        go_wp2
        go_ret
        exact ⟨by rw [HR2.out]; rfl, x1⟩
end Go.Proofs.Ytlbdjnbcoldjhaa
