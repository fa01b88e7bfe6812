/- The plain law of sets of symbols: canonical lists of spans are told apart by their symbols; adding spans in order keeps them canonical. No program in sight. -/
import Derived.Test.YtlbdjnbcoldjhaaBase
namespace Go.Proofs.Ytlbdjnbcoldjhaa
open Go.RowKit

abbrev Sp := Int × Int
def has (l : List Sp) (x : Int) : Bool := l.any fun s => decide (s.1 ≤ x) && decide (x ≤ s.2)
theorem has_iff {l : List Sp} {x : Int} : has l x = true ↔ ∃ s ∈ l, s.1 ≤ x ∧ x ≤ s.2 := by
  unfold has; simp [List.any_eq_true]
theorem has_nil (x : Int) : has [] x = false := rfl
theorem has_cons (s : Sp) (l : List Sp) (x : Int) : has (s :: l) x = (decide (s.1 ≤ x ∧ x ≤ s.2) || has l x) := by
  simp [has]
theorem has_append (l m : List Sp) (x : Int) : has (l ++ m) x = (has l x || has m x) := by simp [has]

/-- sorted, apart, none empty -/
def Canon (l : List Sp) : Prop := (∀ s ∈ l, s.1 ≤ s.2) ∧ l.Pairwise (fun s t => s.2 + 2 ≤ t.1)
theorem Canon.nil : Canon [] := ⟨by simp, List.Pairwise.nil⟩
theorem Canon.tail {s : Sp} {l : List Sp} (h : Canon (s :: l)) : Canon l := ⟨fun t ht => h.1 t (by simp [ht]), (List.pairwise_cons.1 h.2).2⟩
theorem Canon.far {s : Sp} {l : List Sp} (h : Canon (s :: l)) {x : Int} (hx : has l x = true) : s.2 + 2 ≤ x := by
  obtain ⟨t, ht, h1, _⟩ := has_iff.1 hx
  have := (List.pairwise_cons.1 h.2).1 t ht
  omega

theorem canon_ext : ∀ {a b : List Sp}, Canon a → Canon b → (∀ x, has a x = has b x) → a = b
  | [], [], _, _, _ => rfl
  | [], t :: b, _, hb, h => by
    have h1 := h t.1
    have h2 := hb.1 t (by simp)
    rw [has_nil, has_cons, decide_eq_true (by omega)] at h1
    simp at h1
  | s :: a, [], ha, _, h => by
    have h1 := h s.1
    have h2 := ha.1 s (by simp)
    rw [has_nil, has_cons, decide_eq_true (by omega)] at h1
    simp at h1
  | s :: a, t :: b, ha, hb, h => by
    have hs := ha.1 s (by simp)
    have ht := hb.1 t (by simp)
    have in_a : ∀ x, has (s :: a) x = true ↔ (s.1 ≤ x ∧ x ≤ s.2) ∨ has a x = true := fun x => by rw [has_cons]; simp
    have in_b : ∀ x, has (t :: b) x = true ↔ (t.1 ≤ x ∧ x ≤ t.2) ∨ has b x = true := fun x => by rw [has_cons]; simp
    have hh : ∀ x, ((s.1 ≤ x ∧ x ≤ s.2) ∨ has a x = true) ↔ ((t.1 ≤ x ∧ x ≤ t.2) ∨ has b x = true) := fun x => by
      rw [← in_a, ← in_b, h x]
    have fa := fun x (hx : has a x = true) => ha.far hx
    have fb := fun x (hx : has b x = true) => hb.far hx
    have e1 : s.1 = t.1 := by
      rcases (hh s.1).1 (.inl ⟨by omega, hs⟩) with h1 | h1
      · rcases (hh t.1).2 (.inl ⟨by omega, ht⟩) with h2 | h2
        · omega
        · have := fa _ h2; omega
      · have := fb _ h1
        rcases (hh t.1).2 (.inl ⟨by omega, ht⟩) with h2 | h2
        · omega
        · have := fa _ h2; omega
    have e2 : s.2 = t.2 := by
      rcases Int.lt_trichotomy s.2 t.2 with h1 | h1 | h1
      · rcases (hh (s.2 + 1)).2 (.inl ⟨by omega, by omega⟩) with h2 | h2
        · omega
        · have := fa _ h2; omega
      · exact h1
      · rcases (hh (t.2 + 1)).1 (.inl ⟨by omega, by omega⟩) with h2 | h2
        · omega
        · have := fb _ h2; omega
    have e : s = t := Prod.ext e1 e2
    subst e
    have : a = b := canon_ext ha.tail hb.tail (fun x => by
      have h1 := hh x
      cases hax : has a x <;> cases hbx : has b x
      · rfl
      · have := fb x hbx
        rw [hax, hbx] at h1; simp at h1; omega
      · have := fa x hax
        rw [hax, hbx] at h1; simp at h1; omega
      · rfl)
    rw [this]

/-- append a span that does not begin before the last one -/
def addS (l : List Sp) (s : Sp) : List Sp := match l.getLast? with
  | some t => if s.1 ≤ t.2 + 1 then l.dropLast ++ [(t.1, max t.2 s.2)] else l ++ [s]
  | none => [s]
theorem addS_nil (s : Sp) : addS [] s = [s] := rfl
theorem addS_snoc (l : List Sp) (t s : Sp) : addS (l ++ [t]) s = if s.1 ≤ t.2 + 1 then l ++ [(t.1, max t.2 s.2)] else l ++ [t] ++ [s] := by
  unfold addS; simp
theorem addS_len (l : List Sp) (s : Sp) : l.length ≤ (addS l s).length ∧ (addS l s).length ≤ l.length + 1 := by
  rcases List.eq_nil_or_concat l with rfl | ⟨l, t, rfl⟩
  · simp [addS_nil]
  · rw [List.concat_eq_append, addS_snoc]; split <;> simp

theorem addS_law {l : List Sp} {s : Sp} (h : Canon l) (hs : s.1 ≤ s.2) (hl : ∀ t ∈ l, t.1 ≤ s.1) :
    Canon (addS l s) ∧ (∀ x, has (addS l s) x = (has l x || decide (s.1 ≤ x ∧ x ≤ s.2))) ∧ (∀ t ∈ addS l s, t.1 ≤ s.1) := by
  rcases List.eq_nil_or_concat l with rfl | ⟨l, t, rfl⟩
  · rw [addS_nil]
    refine ⟨⟨by simpa using hs, by simp⟩, fun x => by simp [has], by simp⟩
  · rw [List.concat_eq_append] at *
    rw [addS_snoc]
    have hts := hl t (by simp)
    have ht := h.1 t (by simp)
    have hp := List.pairwise_append.1 h.2
    split
    · rename_i hle
      refine ⟨⟨fun u hu => ?_, List.pairwise_append.2 ⟨hp.1, by simp, fun u hu v hv => ?_⟩⟩, fun x => ?_, fun u hu => ?_⟩
      · rcases List.mem_append.1 hu with hu | hu
        · exact h.1 u (by simp [hu])
        · obtain rfl := List.mem_singleton.1 hu
          simp only; omega
      · obtain rfl := List.mem_singleton.1 hv
        exact hp.2.2 u hu t (by simp)
      · rw [has_append, has_append]
        simp only [has, List.any_cons, List.any_nil, Bool.or_false, Bool.or_assoc]
        congr 1
        rw [Bool.eq_iff_iff]
        simp only [Bool.and_eq_true, decide_eq_true_eq, Bool.or_eq_true]
        omega
      · rcases List.mem_append.1 hu with hu | hu
        · exact hl u (by simp [hu])
        · obtain rfl := List.mem_singleton.1 hu
          exact hts
    · rename_i hgt
      refine ⟨⟨fun u hu => ?_, List.pairwise_append.2 ⟨h.2, by simp, fun u hu v hv => ?_⟩⟩, fun x => ?_, fun u hu => ?_⟩
      · rcases List.mem_append.1 hu with hu | hu
        · exact h.1 u hu
        · obtain rfl := List.mem_singleton.1 hu
          exact hs
      · obtain rfl := List.mem_singleton.1 hv
        rcases List.mem_append.1 hu with hu | hu
        · have := hp.2.2 u hu t (by simp); omega
        · obtain rfl := List.mem_singleton.1 hu
          omega
      · rw [has_append]
        congr 1
        simp [has]
      · rcases List.mem_append.1 hu with hu | hu
        · exact hl u hu
        · obtain rfl := List.mem_singleton.1 hu
          exact Int.le_refl _

/-- spans in the order of their first symbols, added one after the other -/
theorem addAll_law : ∀ (l acc : List Sp), Canon acc → (∀ s ∈ l, s.1 ≤ s.2) → l.Pairwise (fun s t => s.1 ≤ t.1) → (∀ t ∈ acc, ∀ s ∈ l, t.1 ≤ s.1) →
    Canon (l.foldl addS acc) ∧ ∀ x, has (l.foldl addS acc) x = (has acc x || has l x)
  | [], acc, h, _, _, _ => ⟨h, fun x => by simp [has]⟩
  | s :: l, acc, h, hs, hp, hl => by
    obtain ⟨h1, h2, h3⟩ := addS_law h (hs s (by simp)) (fun t ht => hl t ht s (by simp))
    have hp' := List.pairwise_cons.1 hp
    obtain ⟨h4, h5⟩ := addAll_law l (addS acc s) h1 (fun t ht => hs t (by simp [ht])) hp'.2 (fun t ht u hu => Int.le_trans (h3 t ht) (hp'.1 u hu))
    refine ⟨h4, fun x => ?_⟩
    rw [List.foldl_cons, h5, h2, has_cons, Bool.or_assoc]
end Go.Proofs.Ytlbdjnbcoldjhaa
