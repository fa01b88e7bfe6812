/- Walks of Equal of package sets and of its reference. -/
import Derived.Test.YtlbdjnbcoldjhaaG3
import Derived.Test.YtlbdjnbcoldjhaaMp
namespace Go.Proofs.Ytlbdjnbcoldjhaa
open Go.RowKit

theorem eqSpan (a b c d : Int) (w : World) : (Op.equalIn 10000 48 (.agg #[.int .i64 a, .int .i64 b]) (.agg #[.int .i64 c, .int .i64 d])).run Try.prog w = .ok (a == c && b == d) w := by
  have u3 := Try.underlying3
  have hS : Try.prog.underlying 48 = some (.struct (Try.prog.fieldsOf 48)) := by kernel_rfl
  have hp : Try.prog.stoodInHeld 48 = false := by kernel_rfl
  rw [show (10000 : Nat) = 9999 + 1 from rfl, run_equalIn_agg w 9999 48 _ _ hS hp]
  simp only [Program.fieldsOf, Try.underlying48]
  go_simp
  by_cases h1 : a = c <;> by_cases h2 : b = d <;> simp [h1, h2]

theorem eq_of_all {a b : List Sp} (hl : a.length = b.length) (h : ∀ j (h1 : j < a.length) (h2 : j < b.length), a[j] = b[j]) : decide (a = b) = true := decide_eq_true (List.ext_getElem hl h)
theorem ne_of_one {a b : List Sp} {j : Nat} (h1 : j < a.length) (h2 : j < b.length) (h : a[j] ≠ b[j]) : decide (a = b) = false := decide_eq_false (fun e => by subst e; exact h rfl)
theorem ne_of_len {a b : List Sp} (h : a.length ≠ b.length) : decide (a = b) = false := decide_eq_false (fun e => h (congrArg _ e))

set_option maxRecDepth 100000 in
set_option maxHeartbeats 4000000 in
theorem gEqual_any (A B : Option Addr) (c d : Nat) (a b : List Sp) (w : World) (ha : SL w A c a) (hb : SL w B d b) : Calls Try.prog 15 #[.slice A a.length c, .slice B b.length d] w (RetV (.bool (decide (a = b))) w) := by
  have hla := ha.len
  have hlb := hb.len
  have HQ := fun (x y z u : Int) (W : World) => eqSpan x y z u W
  by_cases hl : a.length = b.length
  · have HT := fun h => Lib.hid (eq_of_all hl h)
    have HF := fun j h1 h2 h => Lib.hid (ne_of_one (a := a) (b := b) (j := j) h1 h2 h)
    generalize decide (a = b) = r at *
    have hne : ((a.length : Int) != (b.length : Int)) = false := by simp [hl]
    have HL := Lib.hid hl
    clear hl
    go_enter Try.func15, Try.ntmps15
    go_wp2_with fail
    go_loopw [5] (fun v wr => ∃ i : Nat, v = .int .i64 i ∧ i ≤ a.length ∧ Hid (∀ j (h1 : j < a.length) (h2 : j < b.length), j < i → a[j] = b[j]) ∧ Ext w wr) (fun v _ => a.length - (intOf v).toNat)
    case atStart => exact ⟨0, rfl, by omega, fun j _ _ hj => absurd hj (Nat.not_lt_zero _), Ext.rfl' _⟩
    case round =>
      obtain ⟨i, rfl, hi, HI, x1⟩ := hrel
      by_cases hlt : i < a.length
      · have hlt2 : i < b.length := by have := HL.out; omega
        obtain ⟨b1, o1, rfl, g1, g2⟩ := (ha.ext x1).get hlt
        obtain ⟨b2, o2, rfl, g3, g4⟩ := (hb.ext x1).get hlt2
        have hI : (i : Int) < a.length := by omega
        have hI2 : (i : Int) < b.length := by omega
        have HI2 := Lib.hid (show a[i] = b[i] → ∀ j (h1 : j < a.length) (h2 : j < b.length), j < i + 1 → a[j] = b[j] from fun hn j h1 h2 hji => by
          rcases Nat.lt_or_ge j i with h3 | h3
          · exact HI.out j h1 h2 h3
          · have : j = i := by omega
            subst this; exact hn)
        have HF2 := HF i hlt hlt2
        generalize a[i] = s at *
        generalize b[i] = t at *
        obtain ⟨s1, s2⟩ := s
        obtain ⟨t1, t2⟩ := t
        simp only at g1 g2 g3 g4 HI2 HF2
        have k1 := fun (w' : World) (h : Kp [] wr w') => h.cell g1 (by simp)
        have k2 := fun (w' : World) (h : Kp [] wr w') => h.cell g2 (by simp)
        have k3 := fun (w' : World) (h : Kp [] wr w') => h.cell g3 (by simp)
        have k4 := fun (w' : World) (h : Kp [] wr w') => h.cell g4 (by simp)
        have HEQ := eqSpan s1 s2 t1 t2
        by_cases he : s1 = t1 ∧ s2 = t2
        · obtain ⟨rfl, rfl⟩ := he
          have HI3 := Lib.hid (HI2.out rfl)
          simp only [beq_self_eq_true, Bool.and_self] at HEQ
          clear HI2 HF2 HI HT HF HQ
          go_upto_region 6 with fail
          refine Xr.start [] (by kernel_rfl) ?_
          (refine Xr.take 0 (some 17) (v := ?_) rfl rfl (by decide +kernel) (by rfl) ?_ ?_; rotate_left; (focus (intro w' hk; go_simp; (try with_reducible rfl); done)); (try simp only [Act.put, List.setIfInBounds_toArray, List.set_cons_zero, List.set_cons_succ]))
          (refine Xr.take 1 (some 18) (v := ?_) rfl rfl (by decide +kernel) (by rfl) ?_ ?_; rotate_left; (focus (intro w' hk; go_simp; (try with_reducible rfl); done)); (try simp only [Act.put, List.setIfInBounds_toArray, List.set_cons_zero, List.set_cons_succ]))
          (refine Xr.take 2 (some 19) (v := ?_) rfl rfl (by decide +kernel) (by rfl) ?_ ?_; rotate_left; (focus (intro w' hk; go_simp; (try with_reducible rfl); done)); (try simp only [Act.put, List.setIfInBounds_toArray, List.set_cons_zero, List.set_cons_succ]))
          (refine Xr.take 3 (some 20) (v := ?_) rfl rfl (by decide +kernel) (by rfl) ?_ ?_; rotate_left; (focus (intro w' hk; go_simp; (try with_reducible rfl); done)); (try simp only [Act.put, List.setIfInBounds_toArray, List.set_cons_zero, List.set_cons_succ]))
          (refine Xr.take 4 (some 21) (v := ?_) rfl rfl (by decide +kernel) (by rfl) ?_ ?_; rotate_left; (focus (intro w' hk; go_simp; (try with_reducible rfl); done)); (try simp only [Act.put, List.setIfInBounds_toArray, List.set_cons_zero, List.set_cons_succ]))
          (refine Xr.take 5 (some 22) (v := ?_) rfl rfl (by decide +kernel) (by rfl) ?_ ?_; rotate_left; (focus (intro w' hk; go_simp; (try with_reducible rfl); done)); (try simp only [Act.put, List.setIfInBounds_toArray, List.set_cons_zero, List.set_cons_succ]))
          (refine Xr.take 6 (some 23) (v := ?_) rfl rfl (by decide +kernel) (by rfl) ?_ ?_; rotate_left; (focus (intro w' hk; go_simp; (try with_reducible rfl); done)); (try simp only [Act.put, List.setIfInBounds_toArray, List.set_cons_zero, List.set_cons_succ]))
          (refine Xr.take 7 (some 24) (v := ?_) rfl rfl (by decide +kernel) (by rfl) ?_ ?_; rotate_left; (focus (intro w' hk; go_simp; (try with_reducible rfl); done)); (try simp only [Act.put, List.setIfInBounds_toArray, List.set_cons_zero, List.set_cons_succ]))
          (refine Xr.take 8 (some 25) (v := ?_) rfl rfl (by decide +kernel) (by rfl) ?_ ?_; rotate_left; (focus (intro w' hk; go_simp; (try with_reducible rfl); done)); (try simp only [Act.put, List.setIfInBounds_toArray, List.set_cons_zero, List.set_cons_succ]))
          refine Xr.done (by decide +kernel) (fun w2 hE2 hK2 => ?_)
          have x3 := x1.trans hK2.nil
          clear k1 k2 k3 k4 hE2 hK2 HEQ g1 g2 g3 g4
          go_wp2_with fail
          go_roundw
          case rel => exact ⟨i + 1, by go_num, by omega, HI3, x3⟩
          case measure => simp [intOf]; omega
        · have HR := HF2 (fun e => he (by injection e with e1 e2; exact ⟨e1, e2⟩))
          have hbe : (s1 == t1 && s2 == t2) = false := by
            rw [Bool.eq_false_iff]; intro h; simp at h; exact he h
          rw [hbe] at HEQ
          clear HI2 HF2 HI HT HF HQ hbe he
          go_upto_region 6 with fail
          refine Xr.start [] (by kernel_rfl) ?_
          (refine Xr.take 0 (some 17) (v := ?_) rfl rfl (by decide +kernel) (by rfl) ?_ ?_; rotate_left; (focus (intro w' hk; go_simp; (try with_reducible rfl); done)); (try simp only [Act.put, List.setIfInBounds_toArray, List.set_cons_zero, List.set_cons_succ]))
          (refine Xr.take 1 (some 18) (v := ?_) rfl rfl (by decide +kernel) (by rfl) ?_ ?_; rotate_left; (focus (intro w' hk; go_simp; (try with_reducible rfl); done)); (try simp only [Act.put, List.setIfInBounds_toArray, List.set_cons_zero, List.set_cons_succ]))
          (refine Xr.take 2 (some 19) (v := ?_) rfl rfl (by decide +kernel) (by rfl) ?_ ?_; rotate_left; (focus (intro w' hk; go_simp; (try with_reducible rfl); done)); (try simp only [Act.put, List.setIfInBounds_toArray, List.set_cons_zero, List.set_cons_succ]))
          (refine Xr.take 3 (some 20) (v := ?_) rfl rfl (by decide +kernel) (by rfl) ?_ ?_; rotate_left; (focus (intro w' hk; go_simp; (try with_reducible rfl); done)); (try simp only [Act.put, List.setIfInBounds_toArray, List.set_cons_zero, List.set_cons_succ]))
          (refine Xr.take 4 (some 21) (v := ?_) rfl rfl (by decide +kernel) (by rfl) ?_ ?_; rotate_left; (focus (intro w' hk; go_simp; (try with_reducible rfl); done)); (try simp only [Act.put, List.setIfInBounds_toArray, List.set_cons_zero, List.set_cons_succ]))
          (refine Xr.take 5 (some 22) (v := ?_) rfl rfl (by decide +kernel) (by rfl) ?_ ?_; rotate_left; (focus (intro w' hk; go_simp; (try with_reducible rfl); done)); (try simp only [Act.put, List.setIfInBounds_toArray, List.set_cons_zero, List.set_cons_succ]))
          (refine Xr.take 6 (some 23) (v := ?_) rfl rfl (by decide +kernel) (by rfl) ?_ ?_; rotate_left; (focus (intro w' hk; go_simp; (try with_reducible rfl); done)); (try simp only [Act.put, List.setIfInBounds_toArray, List.set_cons_zero, List.set_cons_succ]))
          (refine Xr.take 7 (some 24) (v := ?_) rfl rfl (by decide +kernel) (by rfl) ?_ ?_; rotate_left; (focus (intro w' hk; go_simp; (try with_reducible rfl); done)); (try simp only [Act.put, List.setIfInBounds_toArray, List.set_cons_zero, List.set_cons_succ]))
          (refine Xr.take 8 (some 25) (v := ?_) rfl rfl (by decide +kernel) (by rfl) ?_ ?_; rotate_left; (focus (intro w' hk; go_simp; (try with_reducible rfl); done)); (try simp only [Act.put, List.setIfInBounds_toArray, List.set_cons_zero, List.set_cons_succ]))
          refine Xr.done (by decide +kernel) (fun w2 hE2 hK2 => ?_)
          have x3 := x1.trans hK2.nil
          clear k1 k2 k3 k4 hE2 hK2 HEQ g1 g2 g3 g4
          go_wp2_with fail
          go_ret
          exact ⟨by rw [HR.out]; rfl, x3⟩
      · have hI : ¬ (i : Int) < a.length := by omega
        have HR := HT (fun j h1 h2 => HI.out j h1 h2 (by omega))
        clear HT HF HI HQ
        go_wp2_with fail
        go_ret
        exact ⟨by rw [HR.out]; rfl, x1⟩
  · have HR := Lib.hid (ne_of_len hl)
    generalize decide (a = b) = r at *
    have hne : ((a.length : Int) != (b.length : Int)) = true := by simp; omega
    clear hl HQ
    go_enter Try.func15, Try.ntmps15
    go_wp2_with fail
    go_ret
    exact ⟨by rw [HR.out]; rfl, Ext.rfl' _⟩

set_option maxRecDepth 100000 in
set_option maxHeartbeats 4000000 in
theorem sEqual_any (A B : Option Addr) (c d : Nat) (a b : List Sp) (w : World) (ha : SL w A c a) (hb : SL w B d b) : Calls Try.prog 24 #[.slice A a.length c, .slice B b.length d] w (RetV (.bool (decide (a = b))) w) := by
  have hla := ha.len
  have hlb := hb.len
  have HQ := fun (x y z u : Int) (W : World) => eqSpan x y z u W
  by_cases hl : a.length = b.length
  · have HT := fun h => Lib.hid (eq_of_all hl h)
    have HF := fun j h1 h2 h => Lib.hid (ne_of_one (a := a) (b := b) (j := j) h1 h2 h)
    generalize decide (a = b) = r at *
    have hne : ((a.length : Int) != (b.length : Int)) = false := by simp [hl]
    have HL := Lib.hid hl
    clear hl
    go_enter Try.func24, Try.ntmps24
    go_wp2_with fail
    go_loopw [14] (fun v wr => ∃ i : Nat, v = .int .i64 i ∧ i ≤ a.length ∧ Hid (∀ j (h1 : j < a.length) (h2 : j < b.length), j < i → a[j] = b[j]) ∧ Ext w wr) (fun v _ => a.length - (intOf v).toNat)
    case atStart => exact ⟨0, rfl, by omega, fun j _ _ hj => absurd hj (Nat.not_lt_zero _), Ext.rfl' _⟩
    case round =>
      obtain ⟨i, rfl, hi, HI, x1⟩ := hrel
      by_cases hlt : i < a.length
      · have hlt2 : i < b.length := by have := HL.out; omega
        obtain ⟨b1, o1, rfl, g1, g2⟩ := (ha.ext x1).get hlt
        obtain ⟨b2, o2, rfl, g3, g4⟩ := (hb.ext x1).get hlt2
        have hI : (i : Int) < a.length := by omega
        have hI2 : (i : Int) < b.length := by omega
        have HI2 := Lib.hid (show a[i] = b[i] → ∀ j (h1 : j < a.length) (h2 : j < b.length), j < i + 1 → a[j] = b[j] from fun hn j h1 h2 hji => by
          rcases Nat.lt_or_ge j i with h3 | h3
          · exact HI.out j h1 h2 h3
          · have : j = i := by omega
            subst this; exact hn)
        have HF2 := HF i hlt hlt2
        generalize a[i] = s at *
        generalize b[i] = t at *
        obtain ⟨s1, s2⟩ := s
        obtain ⟨t1, t2⟩ := t
        simp only at g1 g2 g3 g4 HI2 HF2
        obtain ⟨bs, xa⟩ := alloc1 wr 48 #[.int .i64 s1, .int .i64 s2]
        replace g3 := xa.cell g3
        replace g4 := xa.cell g4
        replace x1 := x1.trans xa
        obtain ⟨p0, p1, _, _, pz⟩ := bs.c2
        go_upto_region 6 with fail
        obtain ⟨gs, hgs⟩ : ∃ gs, gs = wr.heap.size := ⟨_, rfl⟩
        rw [← hgs] at bs p0 p1 pz ⊢
        generalize wr.alloc (.cells #[.int .i64 s1, .int .i64 s2] 48) = wa at *
        clear xa hgs
        have k1 := fun (w' : World) (h : Kp [] wa w') => h.cell p0 (by simp)
        have k2 := fun (w' : World) (h : Kp [] wa w') => h.cell p1 (by simp)
        have k3 := fun (w' : World) (h : Kp [] wa w') => h.cell g3 (by simp)
        have k4 := fun (w' : World) (h : Kp [] wa w') => h.cell g4 (by simp)
        have HEQ := eqSpan s1 s2 t1 t2
        by_cases he : s1 = t1 ∧ s2 = t2
        · obtain ⟨rfl, rfl⟩ := he
          have HI3 := Lib.hid (HI2.out rfl)
          simp only [beq_self_eq_true, Bool.and_self] at HEQ
          clear HI2 HF2 HI HT HF HQ
          refine Xr.start [] (by kernel_rfl) ?_
          (refine Xr.take 0 (some 19) (v := ?_) rfl rfl (by decide +kernel) (by rfl) ?_ ?_; rotate_left; (focus (intro w' hk; go_simp; (try with_reducible rfl); done)); (try simp only [Act.put, List.setIfInBounds_toArray, List.set_cons_zero, List.set_cons_succ]))
          (refine Xr.take 1 (some 20) (v := ?_) rfl rfl (by decide +kernel) (by rfl) ?_ ?_; rotate_left; (focus (intro w' hk; go_simp; (try with_reducible rfl); done)); (try simp only [Act.put, List.setIfInBounds_toArray, List.set_cons_zero, List.set_cons_succ]))
          (refine Xr.take 2 (some 21) (v := ?_) rfl rfl (by decide +kernel) (by rfl) ?_ ?_; rotate_left; (focus (intro w' hk; go_simp; (try with_reducible rfl); done)); (try simp only [Act.put, List.setIfInBounds_toArray, List.set_cons_zero, List.set_cons_succ]))
          (refine Xr.take 3 (some 22) (v := ?_) rfl rfl (by decide +kernel) (by rfl) ?_ ?_; rotate_left; (focus (intro w' hk; go_simp; (try with_reducible rfl); done)); (try simp only [Act.put, List.setIfInBounds_toArray, List.set_cons_zero, List.set_cons_succ]))
          (refine Xr.take 4 (some 23) (v := ?_) rfl rfl (by decide +kernel) (by rfl) ?_ ?_; rotate_left; (focus (intro w' hk; go_simp; (try with_reducible rfl); done)); (try simp only [Act.put, List.setIfInBounds_toArray, List.set_cons_zero, List.set_cons_succ]))
          (refine Xr.take 5 (some 24) (v := ?_) rfl rfl (by decide +kernel) (by rfl) ?_ ?_; rotate_left; (focus (intro w' hk; go_simp; (try with_reducible rfl); done)); (try simp only [Act.put, List.setIfInBounds_toArray, List.set_cons_zero, List.set_cons_succ]))
          refine Xr.done (by decide +kernel) (fun w2 hE2 hK2 => ?_)
          have x3 := x1.trans hK2.nil
          clear k1 k2 k3 k4 p0 p1 bs hE2 hK2 HEQ g1 g2 g3 g4
          go_wp2_with fail
          go_roundw
          case rel => exact ⟨i + 1, by go_num, by omega, HI3, x3⟩
          case measure => simp [intOf]; omega
        · have HR := HF2 (fun e => he (by injection e with e1 e2; exact ⟨e1, e2⟩))
          have hbe : (s1 == t1 && s2 == t2) = false := by
            rw [Bool.eq_false_iff]; intro h; simp at h; exact he h
          rw [hbe] at HEQ
          clear HI2 HF2 HI HT HF HQ hbe he
          refine Xr.start [] (by kernel_rfl) ?_
          (refine Xr.take 0 (some 19) (v := ?_) rfl rfl (by decide +kernel) (by rfl) ?_ ?_; rotate_left; (focus (intro w' hk; go_simp; (try with_reducible rfl); done)); (try simp only [Act.put, List.setIfInBounds_toArray, List.set_cons_zero, List.set_cons_succ]))
          (refine Xr.take 1 (some 20) (v := ?_) rfl rfl (by decide +kernel) (by rfl) ?_ ?_; rotate_left; (focus (intro w' hk; go_simp; (try with_reducible rfl); done)); (try simp only [Act.put, List.setIfInBounds_toArray, List.set_cons_zero, List.set_cons_succ]))
          (refine Xr.take 2 (some 21) (v := ?_) rfl rfl (by decide +kernel) (by rfl) ?_ ?_; rotate_left; (focus (intro w' hk; go_simp; (try with_reducible rfl); done)); (try simp only [Act.put, List.setIfInBounds_toArray, List.set_cons_zero, List.set_cons_succ]))
          (refine Xr.take 3 (some 22) (v := ?_) rfl rfl (by decide +kernel) (by rfl) ?_ ?_; rotate_left; (focus (intro w' hk; go_simp; (try with_reducible rfl); done)); (try simp only [Act.put, List.setIfInBounds_toArray, List.set_cons_zero, List.set_cons_succ]))
          (refine Xr.take 4 (some 23) (v := ?_) rfl rfl (by decide +kernel) (by rfl) ?_ ?_; rotate_left; (focus (intro w' hk; go_simp; (try with_reducible rfl); done)); (try simp only [Act.put, List.setIfInBounds_toArray, List.set_cons_zero, List.set_cons_succ]))
          (refine Xr.take 5 (some 24) (v := ?_) rfl rfl (by decide +kernel) (by rfl) ?_ ?_; rotate_left; (focus (intro w' hk; go_simp; (try with_reducible rfl); done)); (try simp only [Act.put, List.setIfInBounds_toArray, List.set_cons_zero, List.set_cons_succ]))
          refine Xr.done (by decide +kernel) (fun w2 hE2 hK2 => ?_)
          have x3 := x1.trans hK2.nil
          clear k1 k2 k3 k4 p0 p1 bs hE2 hK2 HEQ g1 g2 g3 g4
          go_wp2_with fail
          go_ret
          exact ⟨by rw [HR.out]; rfl, x3⟩
      · have hI : ¬ (i : Int) < a.length := by omega
        have HR := HT (fun j h1 h2 => HI.out j h1 h2 (by omega))
        clear HT HF HI HQ
        go_wp2_with fail
        go_ret
        exact ⟨by rw [HR.out]; rfl, x1⟩
  · have HR := Lib.hid (ne_of_len hl)
    generalize decide (a = b) = r at *
    have hne : ((a.length : Int) != (b.length : Int)) = true := by simp; omega
    clear hl HQ
    go_enter Try.func24, Try.ntmps24
    go_wp2_with fail
    go_ret
    exact ⟨by rw [HR.out]; rfl, Ext.rfl' _⟩
end Go.Proofs.Ytlbdjnbcoldjhaa
