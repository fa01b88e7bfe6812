/- Walks of package sets: combine: first part: the ends, sorted and each once. -/
import Derived.Test.YtlbdjnbcoldjhaaG11
namespace Go.Proofs.Ytlbdjnbcoldjhaa
open Go.RowKit

def prE (s : Sp) : List Int := [s.1, s.2 + 1]
def eUpto (ls : List Hs) (i k : Nat) : List Int := (((ls.take i).map (·.l)).flatten ++ ((ls[i]?.map (·.l)).getD []).take k).flatMap prE
theorem eUpto_zero (ls : List Hs) (i : Nat) : eUpto ls i 0 = (((ls.take i).map (·.l)).flatten).flatMap prE := by simp [eUpto]
theorem eUpto_next {ls : List Hs} {i : Nat} (hi : i < ls.length) : eUpto ls i ls[i].l.length = eUpto ls (i + 1) 0 := by
  rw [eUpto_zero]
  unfold eUpto
  rw [List.getElem?_eq_getElem hi, List.take_succ_eq_append_getElem hi, List.map_append, List.flatten_append]
  simp only [Option.map_some, Option.getD_some, List.take_length, List.map_cons, List.map_nil, List.flatten_cons, List.flatten_nil, List.append_nil]
theorem eUpto_step {ls : List Hs} {i k : Nat} (hi : i < ls.length) (hk : k < ls[i].l.length) : eUpto ls i (k + 1) = eUpto ls i k ++ [ls[i].l[k].1, ls[i].l[k].2 + 1] := by
  unfold eUpto
  rw [List.getElem?_eq_getElem hi]
  simp only [Option.map_some, Option.getD_some]
  rw [List.take_succ_eq_append_getElem hk, ← List.append_assoc, List.flatMap_append]
  rfl
theorem eUpto_all (ls : List Hs) : eUpto ls ls.length 0 = ((ls.map (·.l)).flatten).flatMap prE := by
  rw [eUpto_zero, List.take_length]
theorem flat_part {ls : List Hs} {i k : Nat} : (((ls.take i).map (·.l)).flatten ++ ((ls[i]?.map (·.l)).getD []).take k).length ≤ ((ls.map (·.l)).flatten).length := by
  rcases Nat.lt_or_ge i ls.length with hi | hi
  · rw [List.getElem?_eq_getElem hi]
    have e : ls = ls.take i ++ ls[i] :: ls.drop (i + 1) := by
      conv => lhs; rw [← List.take_append_drop i ls, List.drop_eq_getElem_cons hi]
    have e2 : ((ls.map (·.l)).flatten).length = ((ls.take i).map (·.l)).flatten.length + (ls[i].l.length + ((ls.drop (i + 1)).map (·.l)).flatten.length) := by
      conv => lhs; rw [e]
      rw [List.map_append, List.flatten_append, List.length_append, List.map_cons, List.flatten_cons, List.length_append]
    rw [List.length_append, e2]
    simp only [Option.map_some, Option.getD_some, List.length_take]
    omega
  · rw [List.getElem?_eq_none hi, List.take_of_length_le hi]
    simp
theorem prE_len (l : List Sp) : (l.flatMap prE).length = 2 * l.length := by
  induction l with
  | nil => rfl
  | cons s l ih => simp only [List.flatMap_cons, List.length_append, ih, prE, List.length_cons, List.length_nil]; omega
theorem eUpto_len {ls : List Hs} {i k : Nat} : (eUpto ls i k).length ≤ 2 * ((ls.map (·.l)).flatten.length) := by
  unfold eUpto
  rw [prE_len]
  have := flat_part (ls := ls) (i := i) (k := k)
  omega

/-- from a test on spans to the pointer: p spans end before x -/
theorem has_ptr {l : List Sp} (h : Canon l) {x : Int} {p : Nat} (h1 : ∀ i (hi : i < l.length), i < p → l[i].2 < x) (h2 : ∀ h : p < l.length, ¬ l[p].2 < x) :
    has l x = true ↔ ∃ h : p < l.length, l[p].1 ≤ x := by
  rw [has_iff]
  constructor
  · rintro ⟨s, hs, h3, h4⟩
    obtain ⟨i, hi, rfl⟩ := List.getElem_of_mem hs
    have hip : p ≤ i := by
      rcases Nat.lt_or_ge i p with hh | hh
      · have := h1 i hi hh; omega
      · exact hh
    have hp : p < l.length := by omega
    refine ⟨hp, ?_⟩
    rcases Nat.lt_or_ge p i with hh | hh
    · have h5 := List.pairwise_iff_getElem.1 h.2 p i hp hi hh
      have h6 := h.1 _ (List.getElem_mem hp)
      omega
    · have : i = p := by omega
      subst this; exact h3
  · rintro ⟨hp, h3⟩
    have := h2 hp
    exact ⟨l[p], List.getElem_mem hp, h3, by omega⟩

theorem okL_canon {l : List Sp} (h : OkL l) : Canon l ∧ ∀ s ∈ l, goodS s := by
  have hg : ∀ i (hi : i < l.length), goodS l[i] := fun i hi => (h i hi hi).1
  have hadj : ∀ i (hi : i + 1 < l.length), l[i].2 + 2 ≤ l[i + 1].1 := fun i hi => by
    have := (h (i + 1) hi hi).2 (by omega)
    simp only [Nat.add_sub_cancel] at this
    rwa [List.getD_eq_getElem?_getD, List.getElem?_eq_getElem (by omega)] at this
  have hall : ∀ d i (hi : i + d + 1 < l.length), l[i].2 + 2 ≤ (l[i + d + 1]'hi).1 := by
    intro d
    induction d with
    | zero => exact fun i hi => hadj i hi
    | succ d ih =>
      intro i hi
      have h1 := ih i (by omega)
      have h2 := hg (i + d + 1) (by omega)
      have h3 := hadj (i + d + 1) (by omega)
      unfold goodS at h2
      have e : i + (d + 1) + 1 = i + d + 1 + 1 := by omega
      simp only [e]
      omega
  refine ⟨⟨fun s hs => ?_, List.pairwise_iff_getElem.2 (fun i j hi hj hij => ?_)⟩, fun s hs => ?_⟩
  · obtain ⟨i, hi, rfl⟩ := List.getElem_of_mem hs
    exact (hg i hi).2.1
  · obtain ⟨d, rfl⟩ : ∃ d, j = i + d + 1 := ⟨j - i - 1, by omega⟩
    exact hall d i hj
  · obtain ⟨i, hi, rfl⟩ := List.getElem_of_mem hs
    exact hg i hi
end Go.Proofs.Ytlbdjnbcoldjhaa
