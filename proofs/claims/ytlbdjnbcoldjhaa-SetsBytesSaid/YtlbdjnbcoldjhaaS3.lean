/- The reference's Of: what it puts together of pieces is what adding the picked pieces gives. No program in sight. -/
import Derived.Test.YtlbdjnbcoldjhaaS2
namespace Go.Proofs.Ytlbdjnbcoldjhaa
open Go.RowKit

/-- one round of Of: the spans, and whether the piece before was picked -/
def ofStep (st : List Sp × Bool) (s : Sp) (b : Bool) : List Sp × Bool :=
  (if b then (match st.2, st.1.getLast? with
    | true, some t => st.1.dropLast ++ [(t.1, s.2)]
    | _, _ => st.1 ++ [s]) else st.1, b)

/-- what Of holds after the pieces of l: bits by p -/
def ofAll (p : Int → Bool) (l : List Sp) (st : List Sp × Bool) : List Sp × Bool := l.foldl (fun st s => ofStep st s (p s.1)) st

/-- the state of Of beside that of adding -/
def OfI (st : List Sp × Bool) (acc : List Sp) (nxt : Int) : Prop := st.1 = acc ∧ (st.2 = true → ∃ t, acc.getLast? = some t ∧ t.2 + 1 = nxt) ∧ (st.2 = false → ∀ t, acc.getLast? = some t → t.2 + 1 < nxt)

theorem ofStep_law {st : List Sp × Bool} {acc : List Sp} {s : Sp} {b : Bool} (h : OfI st acc s.1) (hs : s.1 ≤ s.2) :
    OfI (ofStep st s b) (if b then addS acc s else acc) (s.2 + 1) := by
  obtain ⟨h1, h2, h3⟩ := h
  obtain ⟨l, f⟩ := st
  simp only at h1 h2 h3
  subst h1
  cases b with
  | false =>
    refine ⟨rfl, fun hf => by simp [ofStep] at hf, fun _ t ht => ?_⟩
    have ht' : l.getLast? = some t := by simpa using ht
    cases f with
    | false => have := h3 rfl t ht'; omega
    | true =>
      obtain ⟨u, hu, hu2⟩ := h2 rfl
      rw [hu] at ht'
      injection ht' with ht'
      subst ht'; omega
  | true =>
    cases f with
    | false =>
      have e1 : addS l s = l ++ [s] := by
        unfold addS
        cases hl : l.getLast? with
        | none => rw [List.getLast?_eq_none_iff] at hl; subst hl; rfl
        | some t =>
          have := h3 rfl t hl
          simp only
          rw [if_neg (by omega)]
      refine ⟨by simp [ofStep, e1], fun _ => ⟨s, by simp [e1], rfl⟩, fun hf => by simp [ofStep] at hf⟩
    | true =>
      obtain ⟨t, hl, ht⟩ := h2 rfl
      have e1 : addS l s = l.dropLast ++ [(t.1, s.2)] := by
        unfold addS
        rw [hl]
        simp only
        rw [if_pos (by omega), Int.max_eq_right (by omega)]
      refine ⟨by simp [ofStep, e1, hl], fun _ => ⟨(t.1, s.2), by simp [e1], rfl⟩, fun hf => by simp [ofStep] at hf⟩

theorem ofAll_law (p : Int → Bool) : ∀ (l : List Int) (a top : Int) (st : List Sp × Bool) (acc : List Sp), Ends (a :: l) top → OfI st acc a → (ofAll p (segsT (a :: l) top) st).1 = ((segsT (a :: l) top).filter (fun s => p s.1)).foldl addS acc
  | [], a, top, st, acc, hE, h => by
    have := (ofStep_law (s := (a, top)) (b := p a) h (hE.le a (by simp))).1
    simp only [ofAll, segsT, List.foldl_cons, List.foldl_nil, List.filter_cons, List.filter_nil]
    rw [this]
    cases p a <;> rfl
  | b :: r, a, top, st, acc, hE, h => by
    have hab := (List.pairwise_cons.1 hE.inc).1 b (by simp)
    have h2 := ofStep_law (s := (a, b - 1)) (b := p a) h (by simp only; omega)
    have e : b - 1 + 1 = b := by omega
    simp only [e] at h2
    have h3 := ofAll_law p r b top _ _ hE.tail h2
    rw [segsT_cons]
    unfold ofAll at h3 ⊢
    rw [List.foldl_cons, h3, List.filter_cons]
    cases p a <;> simp

/-- Of from the start -/
theorem of_cls {l : List Int} {top : Int} (hE : Ends l top) (p : Int → Bool) : (ofAll p (segsT l top) ([], false)).1 = cls l top p := by
  rcases l with _ | ⟨a, l⟩
  · rfl
  · exact ofAll_law p l a top _ _ hE ⟨rfl, fun h => by simp at h, fun _ t ht => by simp at ht⟩
end Go.Proofs.Ytlbdjnbcoldjhaa
