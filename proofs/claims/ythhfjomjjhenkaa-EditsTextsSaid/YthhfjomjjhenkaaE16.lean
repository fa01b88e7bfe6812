/- The plain law of moving: an edit moved over another one is an edit of the text after that; apart, both orders lead to the same text. -/
import Derived.Test.YthhfjomjjhenkaaE9
import Derived.Test.YthhfjomjjhenkaaE15
namespace Go.Proofs.Ythhfjomjjhenkaa
open Go.RowKit

theorem rtext_sym (l : List Int) (m : Nat) : (rtext l m).all symOk = true := by
  rw [List.all_eq_true]
  intro x hx
  have := rtext_bd l m x hx
  exact symOk_mk (by omega) (by omega)
theorem redit_ins (size n m : Int) : (redit size n m).ins.all symOk = true ∧ (redit size n m).ins.length ≤ 3 := by
  refine ⟨rtext_sym _ _, ?_⟩
  have h := rtext_len [around m 1048576, around m 1048576 / 12, around m 1048576 / 144] (around m 1048576 % 4).toNat
  have h2 : around m 1048576 % 4 < 4 := Int.emod_lt_of_pos _ (by omega)
  have h3 : (redit size n m).ins.length = (rtext [around m 1048576, around m 1048576 / 12, around m 1048576 / 144] (around m 1048576 % 4).toNat).length := rfl
  omega

/-- e is an edit of a text of n symbols -/
def EdOf (n : Nat) (e : Ed) : Prop := 0 ≤ e.at_ ∧ 0 ≤ e.del ∧ e.at_ + e.del ≤ n ∧ e.ins.all symOk = true
theorem editErr_zero {n : Nat} {e : Ed} (h : EdOf n e) (hn : n + e.ins.length ≤ 65536) : editErr n e.at_ e.del e.ins = 0 := by
  obtain ⟨h1, h2, h3, h4⟩ := h
  unfold editErr
  rw [if_pos (by omega), if_pos h4, if_neg (by omega)]
theorem formed_of {n : Nat} {e : Ed} (h : EdOf n e) (hn : n ≤ 60000) (hl : e.ins.length ≤ 60000) : formed e.at_ e.del e.ins = true := by
  obtain ⟨h1, h2, h3, h4⟩ := h
  simp only [formed, formedN, Bool.and_eq_true, decide_eq_true_eq]
  exact ⟨by omega, h4⟩
def spliceE (t : List Int) (e : Ed) : List Int := spliceL t e.at_ e.del e.ins
theorem spliceL_len {t : List Int} {a d : Int} {l : List Int} (h1 : 0 ≤ a) (h2 : 0 ≤ d) (h3 : a + d ≤ t.length) : ((spliceL t a d l).length : Int) = t.length - d + l.length := by
  simp [spliceL]; omega
theorem spliceE_len {t : List Int} {e : Ed} (h : EdOf t.length e) : ((spliceE t e).length : Int) = t.length - e.del + e.ins.length := spliceL_len h.1 h.2.1 h.2.2.1

theorem moved_of {n m : Nat} {e o : Ed} (he : EdOf n e) (ho : EdOf n o) (hm : (m : Int) = n - o.del + o.ins.length) : EdOf m (movedE e o) := by
  obtain ⟨h1, h2, h3, h4⟩ := he
  obtain ⟨g1, g2, g3, g4⟩ := ho
  refine ⟨?_, ?_, ?_, h4⟩
  · simp only [movedE, overOne, beginM]
    split <;> (try split) <;> omega
  · simp only [movedE, overOne]
    split
    · split <;> omega
    · omega
  · simp only [movedE, overOne, beginM, endM]
    split <;> split <;> (try split) <;> (try split) <;> (try split) <;> omega

theorem cut_at (t : List Int) (k : Nat) (h : k ≤ t.length) : ∃ u v, t = u ++ v ∧ u.length = k :=
  ⟨t.take k, t.drop k, (List.take_append_drop k t).symm, by simp; omega⟩
theorem spl (u v x l : List Int) (a d : Int) (ha : a = u.length) (hd : d = v.length) : spliceL (u ++ (v ++ x)) a d l = u ++ (l ++ x) := by
  subst ha hd
  have e1 : ((u.length : Int) + v.length).toNat = u.length + v.length := by omega
  simp [spliceL, e1, List.drop_append]
theorem apart_same {t : List Int} {e o : Ed} (he : EdOf t.length e) (ho : EdOf t.length o) (h : e.at_ + e.del < o.at_) :
    spliceE (spliceE t o) (movedE e o) = spliceE (spliceE t e) (movedE o e) := by
  obtain ⟨p, q, A⟩ := e
  obtain ⟨r, s, B⟩ := o
  obtain ⟨h1, h2, h3, _⟩ := he
  obtain ⟨g1, g2, g3, _⟩ := ho
  simp only at *
  obtain ⟨u, t1, rfl, hu⟩ := cut_at t p.toNat (by omega)
  simp only [List.length_append] at *
  obtain ⟨v, t2, rfl, hv⟩ := cut_at t1 q.toNat (by omega)
  simp only [List.length_append] at *
  obtain ⟨m, t3, rfl, hm⟩ := cut_at t2 (r - p - q).toNat (by omega)
  simp only [List.length_append] at *
  obtain ⟨n, z, rfl, hn⟩ := cut_at t3 s.toNat (by omega)
  have b1 : beginM p r s B.length = p := beginM1 (by omega)
  have b2 : endM (p + q) r s B.length = p + q := endM1 (by omega)
  have b3 : beginM r p q A.length = r - q + A.length := beginM2 (by omega) (by omega)
  have b4 : endM (r + s) p q A.length = r + s - q + A.length := endM2 (by omega) (by omega)
  have k1 : (if 0 < q then (if p + q - p < 0 then 0 else p + q - p) else 0) = q := by
    split
    · rw [if_neg (by omega)]; omega
    · omega
  have k2 : (if 0 < s then (if r + s - q + (A.length : Int) - (r - q + A.length) < 0 then 0 else r + s - q + (A.length : Int) - (r - q + A.length)) else 0) = s := by
    split
    · rw [if_neg (by omega)]; omega
    · omega
  have m1 : movedE ⟨p, q, A⟩ ⟨r, s, B⟩ = ⟨p, q, A⟩ := by
    simp only [movedE, overOne, b1, b2, k1]
  have m2 : movedE ⟨r, s, B⟩ ⟨p, q, A⟩ = ⟨r - q + A.length, s, B⟩ := by
    simp only [movedE, overOne, b3, b4, k2]
  rw [m1, m2]
  simp only [spliceE]
  have e1 : spliceL (u ++ (v ++ (m ++ (n ++ z)))) r s B = u ++ (v ++ (m ++ (B ++ z))) := by
    have := spl (u ++ (v ++ m)) n z B r s (by simp; omega) (by omega)
    simpa using this
  have e2 : spliceL (u ++ (v ++ (m ++ (n ++ z)))) p q A = u ++ (A ++ (m ++ (n ++ z))) := spl u v _ A p q (by omega) (by omega)
  rw [e1, e2, spl u v _ A p q (by omega) (by omega)]
  have := spl (u ++ (A ++ m)) n z B (r - q + A.length) s (by simp; omega) (by omega)
  simpa using this.symm
end Go.Proofs.Ythhfjomjjhenkaa
