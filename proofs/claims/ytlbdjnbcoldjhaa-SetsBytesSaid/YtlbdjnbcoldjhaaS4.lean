/- The reference's ends of sets: in order, each once, and all of them. No program in sight. -/
import Derived.Test.YtlbdjnbcoldjhaaS3
namespace Go.Proofs.Ytlbdjnbcoldjhaa
open Go.RowKit

/-- how many stand before n -/
def upto (l : List Int) (n : Int) : Nat := (l.takeWhile (fun x => decide (x < n))).length
theorem upto_le (l : List Int) (n : Int) : upto l n ≤ l.length := by
  unfold upto
  induction l with
  | nil => simp
  | cons a l ih => rw [List.takeWhile_cons]; split <;> simp <;> omega
theorem upto_lt : ∀ (l : List Int) (n : Int) (i : Nat) (h : i < l.length), i < upto l n → l[i] < n
  | a :: l, n, i, h, hi => by
    unfold upto at hi
    rw [List.takeWhile_cons] at hi
    by_cases ha : a < n
    · simp only [ha, decide_true, if_true, List.length_cons] at hi
      rcases i with _ | i
      · exact ha
      · exact upto_lt l n i (by simpa using h) (by unfold upto; omega)
    · simp [ha] at hi
theorem upto_at : ∀ (l : List Int) (n : Int) (h : upto l n < l.length), ¬ l[upto l n] < n
  | a :: l, n, h => by
    by_cases ha : a < n
    · have e : upto (a :: l) n = upto l n + 1 := by simp [upto, ha]
      have h2 : upto l n < l.length := by rw [e] at h; simpa using h
      have := upto_at l n h2
      simp only [e, List.getElem_cons_succ]
      exact this
    · have e : upto (a :: l) n = 0 := by simp [upto, ha]
      simp only [e, List.getElem_cons_zero]
      exact ha
/-- the first that is not below n stands at k -/
theorem upto_eq {l : List Int} {n : Int} {k : Nat} (h1 : ∀ i (h : i < l.length), i < k → l[i] < n) (hk : k ≤ l.length) (h2 : ∀ h : k < l.length, ¬ l[k] < n) : upto l n = k := by
  rcases Nat.lt_trichotomy (upto l n) k with h | h | h
  · exact absurd (h1 _ (by omega) h) (upto_at l n (by omega))
  · exact h
  · have := upto_le l n
    exact absurd (upto_lt l n k (by omega) h) (h2 (by omega))

def putE (l : List Int) (n top : Int) : List Int := if top < n ∨ l[upto l n]? = some n then l else l.take (upto l n) ++ n :: l.drop (upto l n)

theorem putE_mem {l : List Int} {n top x : Int} (_h : Ends l top) : x ∈ putE l n top ↔ x ∈ l ∨ (x = n ∧ n ≤ top) := by
  unfold putE
  split
  · rename_i hc
    constructor
    · exact fun hx => .inl hx
    · rintro (hx | ⟨rfl, hx⟩)
      · exact hx
      · rcases hc with hc | hc
        · omega
        · exact List.mem_of_getElem? hc
  · rename_i hc
    rw [not_or] at hc
    rw [List.mem_append, List.mem_cons]
    constructor
    · rintro (hx | hx | hx)
      · exact .inl (List.mem_of_mem_take hx)
      · exact .inr ⟨hx, by omega⟩
      · exact .inl (List.mem_of_mem_drop hx)
    · rintro (hx | ⟨hx, _⟩)
      · rw [← List.take_append_drop (upto l n) l] at hx
        rcases List.mem_append.1 hx with hx | hx
        · exact .inl hx
        · exact .inr (.inr hx)
      · exact .inr (.inl hx)

theorem putE_ends {l : List Int} {n top : Int} (h : Ends l top) : Ends (putE l n top) top := by
  refine ⟨?_, fun x hx => ?_⟩
  · unfold putE
    split
    · exact h.inc
    · rename_i hc
      rw [not_or] at hc
      refine List.pairwise_append.2 ⟨h.inc.sublist (List.take_sublist _ _), List.pairwise_cons.2 ⟨fun y hy => ?_, h.inc.sublist (List.drop_sublist _ _)⟩, fun x hx y hy => ?_⟩
      · have hlt : upto l n < l.length := by
          rcases Nat.lt_or_ge (upto l n) l.length with h1 | h1
          · exact h1
          · rw [List.drop_eq_nil_of_le h1] at hy; simp at hy
        have h1 := upto_at l n hlt
        have h2 : l[upto l n] ≠ n := fun e => hc.2 (by rw [List.getElem?_eq_getElem hlt, e])
        rw [List.drop_eq_getElem_cons hlt] at hy
        rcases List.mem_cons.1 hy with rfl | hy
        · omega
        · have h3 := h.inc.sublist (List.drop_sublist (upto l n) l)
          rw [List.drop_eq_getElem_cons hlt] at h3
          have := (List.pairwise_cons.1 h3).1 y hy
          omega
      · have hxn : x < n := by
          obtain ⟨i, hi, rfl⟩ := List.getElem_of_mem hx
          rw [List.length_take] at hi
          rw [List.getElem_take]
          exact upto_lt l n i (by omega) (by omega)
        rcases List.mem_cons.1 hy with rfl | hy
        · exact hxn
        · have h3 := h.inc
          rw [← List.take_append_drop (upto l n) l] at h3
          exact (List.pairwise_append.1 h3).2.2 x hx y hy
  · rcases (putE_mem h).1 hx with hx | ⟨rfl, hx⟩
    · exact h.le x hx
    · exact hx
theorem putE_head {l : List Int} {n top : Int} (h : l.head? = some 0) (hn : 0 ≤ n) : (putE l n top).head? = some 0 := by
  rcases l with _ | ⟨a, l⟩
  · simp at h
  · obtain rfl : a = 0 := by simpa using h
    unfold putE
    split
    · rfl
    · rename_i hc
      rw [not_or] at hc
      by_cases h0 : (0 : Int) < n
      · have e : upto (0 :: l) n = upto l n + 1 := by simp [upto, h0]
        rw [e]; simp
      · have e : upto (0 :: l) n = 0 := by simp [upto, h0]
        obtain rfl : n = 0 := by omega
        rw [e] at hc; simp at hc
theorem putE_len (l : List Int) (n top : Int) : (putE l n top).length ≤ l.length + 1 := by
  unfold putE
  have := upto_le l n
  split
  · omega
  · simp; omega

/-- both ends of a span -/
def putS (top : Int) (l : List Int) (s : Sp) : List Int := putE (putE l s.1 top) (s.2 + 1) top
/-- the ends of the sets -/
def endsT (top : Int) (ls : List (List Sp)) : List Int := ls.flatten.foldl (putS top) [0]

structure EndsOk (l : List Int) (top : Int) (a : List Sp) : Prop where
  ends : Ends l top
  head : l.head? = some 0
  inn : EndsIn a l top
  only : ∀ x ∈ l, x = 0 ∨ ∃ s ∈ a, x = s.1 ∨ x = s.2 + 1

theorem EndsOk.put {l : List Int} {top : Int} {a : List Sp} (h : EndsOk l top a) {s : Sp} (hs : 0 ≤ s.1 ∧ s.1 ≤ s.2) : EndsOk (putS top l s) top (a ++ [s]) := by
  have h1 := putE_ends (n := s.1) h.ends
  refine ⟨putE_ends h1, putE_head (putE_head h.head hs.1) (by omega), fun t ht => ?_, fun x hx => ?_⟩
  · unfold putS
    rcases List.mem_append.1 ht with ht | ht
    · have := h.inn t ht
      exact ⟨fun hx => (putE_mem h1).2 (.inl ((putE_mem h.ends).2 (.inl (this.1 hx)))), fun hx => (putE_mem h1).2 (.inl ((putE_mem h.ends).2 (.inl (this.2 hx))))⟩
    · obtain rfl := List.mem_singleton.1 ht
      exact ⟨fun hx => (putE_mem h1).2 (.inl ((putE_mem h.ends).2 (.inr ⟨rfl, hx⟩))), fun hx => (putE_mem h1).2 (.inr ⟨rfl, hx⟩)⟩
  · unfold putS at hx
    rcases (putE_mem h1).1 hx with hx | ⟨hx, _⟩
    · rcases (putE_mem h.ends).1 hx with hx | ⟨hx, _⟩
      · rcases h.only x hx with h2 | ⟨t, ht, h2⟩
        · exact .inl h2
        · exact .inr ⟨t, List.mem_append_left _ ht, h2⟩
      · exact .inr ⟨s, by simp, .inl hx⟩
    · exact .inr ⟨s, by simp, .inr hx⟩
theorem EndsOk.all : ∀ (b : List Sp) {l : List Int} {top : Int} {a : List Sp}, EndsOk l top a → (∀ s ∈ b, 0 ≤ s.1 ∧ s.1 ≤ s.2) → EndsOk (b.foldl (putS top) l) top (a ++ b)
  | [], l, top, a, h, _ => by simpa using h
  | s :: b, l, top, a, h, hb => by
    have := EndsOk.all b (h.put (hb s (by simp))) (fun t ht => hb t (by simp [ht]))
    simpa using this
theorem endsT_ok {top : Int} (h0 : 0 ≤ top) {ls : List (List Sp)} (hb : ∀ s ∈ ls.flatten, 0 ≤ s.1 ∧ s.1 ≤ s.2) : EndsOk (endsT top ls) top ls.flatten := by
  have h : EndsOk [0] top [] := ⟨⟨by simp, by simpa using h0⟩, rfl, fun s hs => by simp at hs, by simp⟩
  have := h.all ls.flatten hb
  simpa [endsT] using this
theorem foldl_putS_len (top : Int) : ∀ (b : List Sp) (l : List Int), (b.foldl (putS top) l).length ≤ l.length + 2 * b.length
  | [], l => by simp
  | s :: b, l => by
    have h1 := foldl_putS_len top b (putS top l s)
    have h2 := putE_len l s.1 top
    have h3 := putE_len (putE l s.1 top) (s.2 + 1) top
    rw [List.foldl_cons, List.length_cons]
    unfold putS at *
    omega
end Go.Proofs.Ytlbdjnbcoldjhaa
