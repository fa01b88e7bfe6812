/- The plain law of comparing: the edit leads from one text to the other, and no shorter one does. -/
import Derived.Test.YthhfjomjjhenkaaE18
import Derived.Test.YthhfjomjjhenkaaE19
namespace Go.Proofs.Ythhfjomjjhenkaa
open Go.RowKit

theorem lcpm_le : ∀ (m : Nat) (a b : List Int), lcpm m a b ≤ m
  | 0, _, _ => Nat.le_refl _
  | m + 1, [], _ => by simp [lcpm]
  | m + 1, _ :: _, [] => by simp [lcpm]
  | m + 1, x :: xs, y :: ys => by
    have := lcpm_le m xs ys
    simp only [lcpm]; split <;> omega
theorem lcpm_take : ∀ (m : Nat) (a b : List Int), a.take (lcpm m a b) = b.take (lcpm m a b)
  | 0, _, _ => by simp [lcpm]
  | m + 1, [], _ => by simp [lcpm]
  | m + 1, _ :: _, [] => by simp [lcpm]
  | m + 1, x :: xs, y :: ys => by
    have := lcpm_take m xs ys
    simp only [lcpm]; split
    · next h => subst h; simp [this]
    · simp
theorem lcpm_ge : ∀ (k m : Nat) (a b : List Int), k ≤ m → k ≤ a.length → k ≤ b.length → a.take k = b.take k → k ≤ lcpm m a b
  | 0, _, _, _, _, _, _, _ => Nat.zero_le _
  | k + 1, m, a, b, hm, ha, hb, h => by
    match m, a, b, hm, ha, hb, h with
    | m + 1, x :: xs, y :: ys, hm, ha, hb, h =>
      simp only [List.take_succ_cons, List.cons.injEq] at h
      simp only [List.length_cons] at ha hb
      have := lcpm_ge k m xs ys (by omega) (by omega) (by omega) h.2
      simp only [lcpm, h.1, if_pos]
      omega

theorem rev_take_drop (a b : List Int) (s : Nat) (ha : s ≤ a.length) (hb : s ≤ b.length) : a.reverse.take s = b.reverse.take s ↔ a.drop (a.length - s) = b.drop (b.length - s) := by
  rw [List.take_reverse, List.take_reverse, List.reverse_inj]

theorem diffAt_le (a b : List Int) : diffAt a b ≤ min a.length b.length := lcpm_le _ _ _
theorem diffStay_le (a b : List Int) : diffStay a b ≤ min a.length b.length - diffAt a b := lcpm_le _ _ _

theorem diff_splice (a b : List Int) : spliceE a (diffE a b) = b := by
  have h1 := diffAt_le a b
  have h2 := diffStay_le a b
  have t1 : a.take (diffAt a b) = b.take (diffAt a b) := lcpm_take _ _ _
  have t2 := (rev_take_drop a b (diffStay a b) (by omega) (by omega)).1 (lcpm_take _ _ _)
  simp only [spliceE, diffE, spliceL]
  generalize diffAt a b = p at *
  generalize diffStay a b = s at *
  have e1 : ((p : Int)).toNat = p := by omega
  have e2 : ((p : Int) + ((a.length : Int) - s - p)).toNat = a.length - s := by omega
  rw [e1, e2, t1, t2]
  have e3 : b.length - s - p + p = b.length - s := by omega
  have h3 : b.take p ++ (b.drop p).take (b.length - s - p) = b.take (b.length - s) := by
    conv => rhs; rw [show b.length - s = p + (b.length - s - p) by omega, List.take_add]
  rw [h3, List.take_append_drop]

theorem diff_of (a b : List Int) (hb : b.all symOk = true) : EdOf a.length (diffE a b) := by
  have h1 := diffAt_le a b
  have h2 := diffStay_le a b
  refine ⟨by simp [diffE], by simp only [diffE]; omega, by simp only [diffE]; omega, ?_⟩
  rw [List.all_eq_true] at hb ⊢
  intro x hx
  exact hb x (List.mem_of_mem_drop (List.mem_of_mem_take hx))

theorem diff_ins_len (a b : List Int) : (diffE a b).del = a.length - diffStay a b - diffAt a b ∧ ((diffE a b).ins.length : Int) = b.length - diffStay a b - diffAt a b := by
  have h1 := diffAt_le a b
  have h2 := diffStay_le a b
  refine ⟨rfl, ?_⟩
  simp only [diffE, List.length_take, List.length_drop]; omega

/-- no shorter edit leads there -/
theorem diff_min (a b : List Int) (at_ del many : Nat) (h1 : at_ + del ≤ a.length) (h2 : at_ + many ≤ b.length) (h3 : (many : Int) = b.length - a.length + del)
    (h : spliceL a at_ del ((b.drop at_).take many) = b) : (diffE a b).del + (diffE a b).ins.length ≤ (del : Int) + many := by
  have g1 := diffAt_le a b
  have g2 := diffStay_le a b
  obtain ⟨e1, e2⟩ := diff_ins_len a b
  rw [e1, e2]
  have k1 : a.take at_ = b.take at_ := by
    have := congrArg (List.take at_) h
    rw [← this]
    simp only [spliceL, Int.toNat_natCast]
    rw [List.append_assoc, List.take_append_of_le_length (by simp; omega), List.take_take]
    simp
  have k2 : a.drop (at_ + del) = b.drop (at_ + many) := by
    have := congrArg (List.drop (at_ + many)) h
    rw [← this]
    have e3 : ((at_ : Int) + (del : Int)).toNat = at_ + del := by omega
    have e4 : (a.take at_ ++ (b.drop at_).take many).length = at_ + many := by simp; omega
    simp only [spliceL, Int.toNat_natCast, e3]
    rw [List.drop_append_of_le_length (by omega), ← e4, List.drop_length, List.nil_append]
  have p1 : at_ ≤ diffAt a b := lcpm_ge _ _ _ _ (by omega) (by omega) (by omega) k1
  have s1 : a.length - (at_ + del) = b.length - (at_ + many) := by omega
  have k3 := (rev_take_drop a b (a.length - (at_ + del)) (by omega) (by omega)).2 (by
    rw [show a.length - (a.length - (at_ + del)) = at_ + del by omega, show b.length - (a.length - (at_ + del)) = at_ + many by omega]; exact k2)
  by_cases hs : a.length - (at_ + del) ≤ min a.length b.length - diffAt a b
  · have q1 : a.length - (at_ + del) ≤ diffStay a b := lcpm_ge _ _ _ _ hs (by rw [List.length_reverse]; omega) (by rw [List.length_reverse]; omega) k3
    omega
  · have q1 : min a.length b.length - diffAt a b ≤ diffStay a b := lcpm_ge _ _ _ _ (Nat.le_refl _) (by rw [List.length_reverse]; omega) (by rw [List.length_reverse]; omega) (by
      have := congrArg (List.take (min a.length b.length - diffAt a b)) k3
      rwa [List.take_take, List.take_take, Nat.min_eq_left (by omega)] at this)
    omega

theorem spliceL_sym {t : List Int} {a d : Int} {l : List Int} (h1 : t.all symOk = true) (h2 : l.all symOk = true) : (spliceL t a d l).all symOk = true := by
  rw [List.all_eq_true] at *
  intro x hx
  simp only [spliceL, List.mem_append] at hx
  rcases hx with (hx | hx) | hx
  · exact h1 x (List.mem_of_mem_take hx)
  · exact h2 x hx
  · exact h1 x (List.mem_of_mem_drop hx)
end Go.Proofs.Ythhfjomjjhenkaa
