/- The plain law of the pieces between ends: what is put together of pieces is the set of the symbols that a test picks. No program in sight. -/
import Derived.Test.YtlbdjnbcoldjhaaS1
namespace Go.Proofs.Ytlbdjnbcoldjhaa
open Go.RowKit

/-- the pieces between ends, the last one up to a greatest symbol -/
def segsT : List Int → Int → List Sp
  | [], _ => []
  | [a], top => [(a, top)]
  | a :: b :: r, top => (a, b - 1) :: segsT (b :: r) top

theorem segsT_cons (a b : Int) (r : List Int) (top : Int) : segsT (a :: b :: r) top = (a, b - 1) :: segsT (b :: r) top := rfl
theorem segsT_len : ∀ (l : List Int) (top : Int), (segsT l top).length = l.length
  | [], _ => rfl
  | [_], _ => rfl
  | a :: b :: r, top => by rw [segsT_cons, List.length_cons, segsT_len (b :: r) top]; rfl
theorem segsT_fst : ∀ (l : List Int) (top : Int), (segsT l top).map (·.1) = l
  | [], _ => rfl
  | [_], _ => rfl
  | a :: b :: r, top => by rw [segsT_cons, List.map_cons, segsT_fst (b :: r) top]

structure Ends (l : List Int) (top : Int) : Prop where
  inc : l.Pairwise (· < ·)
  le : ∀ x ∈ l, x ≤ top
theorem Ends.tail {a : Int} {l : List Int} {top : Int} (h : Ends (a :: l) top) : Ends l top := ⟨(List.pairwise_cons.1 h.inc).2, fun x hx => h.le x (by simp [hx])⟩

theorem segsT_mem : ∀ {l : List Int} {top : Int}, Ends l top → ∀ s ∈ segsT l top, s.1 ∈ l ∧ s.1 ≤ s.2 ∧ s.2 ≤ top ∧ ∀ e ∈ l, ¬ (s.1 < e ∧ e ≤ s.2)
  | [], _, _, s, hs => by simp [segsT] at hs
  | [a], top, h, s, hs => by
    obtain rfl := List.mem_singleton.1 hs
    have := h.le a (by simp)
    refine ⟨by simp, this, Int.le_refl _, fun e he => ?_⟩
    obtain rfl := List.mem_singleton.1 he
    simp only; omega
  | a :: b :: r, top, h, s, hs => by
    have hp := List.pairwise_cons.1 h.inc
    have hab := hp.1 b (by simp)
    have hb := h.le b (by simp)
    rw [segsT_cons] at hs
    rcases List.mem_cons.1 hs with rfl | hs
    · refine ⟨by simp, by simp only; omega, by simp only; omega, fun e he => ?_⟩
      simp only
      rcases List.mem_cons.1 he with rfl | he
      · omega
      · rcases List.mem_cons.1 he with rfl | he
        · omega
        · have := (List.pairwise_cons.1 hp.2).1 e he
          omega
    · obtain ⟨h1, h2, h3, h4⟩ := segsT_mem h.tail s hs
      refine ⟨List.mem_cons_of_mem _ h1, h2, h3, fun e he => ?_⟩
      rcases List.mem_cons.1 he with rfl | he
      · have := hp.1 s.1 h1; omega
      · exact h4 e he
theorem segsT_pair : ∀ {l : List Int} {top : Int}, Ends l top → (segsT l top).Pairwise (fun s t => s.2 < t.1)
  | [], _, _ => List.Pairwise.nil
  | [a], _, _ => by simp [segsT]
  | a :: b :: r, top, h => by
    rw [segsT_cons]
    refine List.pairwise_cons.2 ⟨fun t ht => ?_, segsT_pair h.tail⟩
    have h1 := (segsT_mem h.tail t ht).1
    simp only
    rcases List.mem_cons.1 h1 with h2 | h2
    · omega
    · have := (List.pairwise_cons.1 h.tail.inc).1 t.1 h2; omega
theorem segsT_has : ∀ {l : List Int} {top : Int}, Ends l top → ∀ a, l.head? = some a → ∀ x, a ≤ x → x ≤ top → ∃ s ∈ segsT l top, s.1 ≤ x ∧ x ≤ s.2
  | [], _, _, a, ha, _, _, _ => by simp at ha
  | [b], top, _, a, ha, x, h1, h2 => by
    simp at ha; subst ha
    exact ⟨(b, top), by simp [segsT], h1, h2⟩
  | b :: c :: r, top, h, a, ha, x, h1, h2 => by
    simp at ha; subst ha
    rw [segsT_cons]
    by_cases hc : x < c
    · exact ⟨(b, c - 1), by simp, h1, by simp only; omega⟩
    · obtain ⟨s, hs, h3⟩ := segsT_has h.tail c rfl x (by omega) h2
      exact ⟨s, List.mem_cons_of_mem _ hs, h3⟩

/-- the pieces that p picks, put together -/
def cls (l : List Int) (top : Int) (p : Int → Bool) : List Sp := ((segsT l top).filter (fun s => p s.1)).foldl addS []

theorem cls_canon {l : List Int} {top : Int} (h : Ends l top) (p : Int → Bool) : Canon (cls l top p) ∧ ∀ x, has (cls l top p) x = true ↔ ∃ s ∈ segsT l top, p s.1 = true ∧ s.1 ≤ x ∧ x ≤ s.2 := by
  have hm := segsT_mem h
  have hp : ((segsT l top).filter (fun s => p s.1)).Pairwise (fun s t => s.1 ≤ t.1) := by
    refine List.Pairwise.filter _ ((segsT_pair h).imp_of_mem (fun {s t} hs ht hst => ?_))
    have := (hm s hs).2.1
    omega
  obtain ⟨h1, h2⟩ := addAll_law ((segsT l top).filter (fun s => p s.1)) [] Canon.nil (fun s hs => (hm s (List.mem_filter.1 hs).1).2.1) hp (by simp)
  refine ⟨h1, fun x => ?_⟩
  unfold cls
  rw [h2, has_nil, Bool.false_or, has_iff]
  constructor
  · rintro ⟨s, hs, h3⟩
    obtain ⟨h4, h5⟩ := List.mem_filter.1 hs
    exact ⟨s, h4, h5, h3⟩
  · rintro ⟨s, hs, h3, h4⟩
    exact ⟨s, List.mem_filter.2 ⟨hs, h3⟩, h4⟩

/-- a test that does not change within a piece -/
def Steady (l : List Int) (top : Int) (p : Int → Bool) : Prop := ∀ e x, e ≤ x → x ≤ top → (∀ y ∈ l, ¬ (e < y ∧ y ≤ x)) → p x = p e
theorem cls_has {l : List Int} {top : Int} (h : Ends l top) {p : Int → Bool} (hp : Steady l top p) {a : Int} (ha : l.head? = some a) (x : Int) : has (cls l top p) x = (p x && decide (a ≤ x ∧ x ≤ top)) := by
  rw [Bool.eq_iff_iff, (cls_canon h p).2]
  simp only [Bool.and_eq_true, decide_eq_true_eq]
  constructor
  · rintro ⟨s, hs, h1, h2, h3⟩
    obtain ⟨h4, h5, h6, h7⟩ := segsT_mem h s hs
    refine ⟨?_, ?_, by omega⟩
    · rw [hp s.1 x h2 (by omega) (fun y hy hc => h7 y hy ⟨hc.1, by omega⟩)]; exact h1
    · have : a ≤ s.1 := by
        rcases l with _ | ⟨b, l⟩
        · simp at ha
        · simp at ha; subst ha
          rcases List.mem_cons.1 h4 with e | e
          · omega
          · have := (List.pairwise_cons.1 h.inc).1 s.1 e; omega
      omega
  · rintro ⟨h1, h2, h3⟩
    obtain ⟨s, hs, h4, h5⟩ := segsT_has h a ha x h2 h3
    obtain ⟨_, _, h6, h7⟩ := segsT_mem h s hs
    exact ⟨s, hs, by rw [← hp s.1 x h4 h3 (fun y hy hc => h7 y hy ⟨hc.1, by omega⟩)]; exact h1, h4, h5⟩

/-- the ends of a list are among those of l -/
def EndsIn (a : List Sp) (l : List Int) (top : Int) : Prop := ∀ s ∈ a, (s.1 ≤ top → s.1 ∈ l) ∧ (s.2 + 1 ≤ top → s.2 + 1 ∈ l)
theorem has_steady {a : List Sp} {l : List Int} {top : Int} (h : EndsIn a l top) (e x : Int) (hx : e ≤ x) (ht : x ≤ top) (hg : ∀ y ∈ l, ¬ (e < y ∧ y ≤ x)) : has a x = has a e := by
  rw [Bool.eq_iff_iff, has_iff, has_iff]
  constructor
  · rintro ⟨s, hs, h1, h2⟩
    refine ⟨s, hs, ?_, by omega⟩
    rcases Int.lt_or_le e s.1 with h3 | h3
    · exact absurd ⟨h3, h1⟩ (hg s.1 ((h s hs).1 (by omega)))
    · exact h3
  · rintro ⟨s, hs, h1, h2⟩
    refine ⟨s, hs, by omega, ?_⟩
    rcases Int.lt_or_le s.2 x with h3 | h3
    · exact absurd ⟨by omega, by omega⟩ (hg (s.2 + 1) ((h s hs).2 (by omega)))
    · exact h3
end Go.Proofs.Ytlbdjnbcoldjhaa
