/- The plain law of the algebra of sets: lists of spans as sets of symbols, and how many symbols they have. -/
import Derived.Test.YtlbdjnbcoldjhaaNR
namespace Go.Proofs.Ytlbdjnbcoldjhaa
open Go.RowKit

def cnt (p : Int → Bool) (L : List Nat) : Nat := L.countP (fun (i : Nat) => p (i : Int))
theorem cnt_or_and (p q : Int → Bool) : ∀ L : List Nat, cnt (fun x => p x || q x) L + cnt (fun x => p x && q x) L = cnt p L + cnt q L
  | [] => rfl
  | i :: L => by
    have ih := cnt_or_and p q L
    simp only [cnt, List.countP_cons] at ih ⊢
    cases p i <;> cases q i <;> simp <;> omega
theorem cnt_diff (p q : Int → Bool) : ∀ L : List Nat, cnt (fun x => p x && !q x) L + cnt (fun x => p x && q x) L = cnt p L
  | [] => rfl
  | i :: L => by
    have ih := cnt_diff p q L
    simp only [cnt, List.countP_cons] at ih ⊢
    cases p i <;> cases q i <;> simp <;> omega
theorem cnt_congr {p q : Int → Bool} : ∀ {L : List Nat}, (∀ i ∈ L, p (i : Int) = q (i : Int)) → cnt p L = cnt q L
  | [], _ => rfl
  | i :: L, h => by
    have ih := cnt_congr (L := L) (fun j hj => h j (List.mem_cons_of_mem _ hj))
    unfold cnt at *
    simp only [List.countP_cons, ih, h i List.mem_cons_self]
theorem cnt_all : ∀ L : List Nat, cnt (fun _ => true) L = L.length
  | [] => rfl
  | i :: L => by
    have ih := cnt_all L
    unfold cnt at *
    simp only [List.countP_cons, ih]; simp
theorem cnt_none : ∀ L : List Nat, cnt (fun _ => false) L = 0
  | [] => rfl
  | i :: L => by
    have ih := cnt_none L
    unfold cnt at *
    simp only [List.countP_cons, ih]; simp
theorem cnt_seg (a b : Nat) (h : a ≤ b) : ∀ N : Nat, cnt (fun x => decide ((a : Int) ≤ x ∧ x ≤ (b : Int))) (List.range N) = min (b + 1) N - min a N
  | 0 => by simp [cnt]
  | N + 1 => by
    have ih := cnt_seg a b h N
    unfold cnt at *
    rw [List.range_succ, List.countP_append, ih]
    simp only [List.countP_cons, List.countP_nil, Nat.zero_add, decide_eq_true_eq]
    split <;> omega
def symN (N : Nat) (p : Int → Bool) : Nat := cnt p (List.range N)
theorem symN_congr {N : Nat} {p q : Int → Bool} (h : ∀ x, p x = q x) : symN N p = symN N q := cnt_congr (fun i _ => h i)
/-- the number of symbols of a set -/
theorem cntS_symN {N : Nat} : ∀ {l : List Sp}, Canon l → (∀ s ∈ l, 0 ≤ s.1 ∧ s.1 ≤ s.2 ∧ s.2 < N) → cntS l = symN N (has l)
  | [], _, _ => by
    have := cnt_none (List.range N)
    have e : symN N (has []) = 0 := (symN_congr (fun x => has_nil x)).trans this
    rw [e]; rfl
  | s :: l, hc, hg => by
    have ih := cntS_symN hc.tail (fun t ht => hg t (List.mem_cons_of_mem _ ht))
    have h1 := hg s List.mem_cons_self
    obtain ⟨a, ha⟩ : ∃ a : Nat, s.1 = a := ⟨s.1.toNat, by omega⟩
    obtain ⟨b, hb⟩ : ∃ b : Nat, s.2 = b := ⟨s.2.toNat, by omega⟩
    have e1 : cntS (s :: l) = (s.2 - s.1 + 1) + cntS l := by simp [cntS]
    have e2 : symN N (has (s :: l)) = symN N (fun x => decide ((a : Int) ≤ x ∧ x ≤ (b : Int)) || has l x) := symN_congr (fun x => by rw [has_cons, ha, hb])
    have e3 := cnt_or_and (fun x => decide ((a : Int) ≤ x ∧ x ≤ (b : Int))) (has l) (List.range N)
    have e4 : cnt (fun x => decide ((a : Int) ≤ x ∧ x ≤ (b : Int)) && has l x) (List.range N) = 0 := by
      rw [← cnt_none (List.range N)]
      refine cnt_congr (fun i _ => ?_)
      cases h : has l (i : Int)
      · simp
      · have := hc.far h
        simp only [Bool.and_true, decide_eq_false_iff_not]
        omega
    have e5 := cnt_seg a b (by omega) N
    unfold symN at *
    omega

/-- a set: valid -/
theorem okl_set {l : List Sp} (h : OkL l) (hn : l.length ≤ 64) : validE l = 0 := by rw [validE_ok h, if_neg (by omega)]
theorem canon_valid {l : List Sp} (h : Canon l) (hg : ∀ s ∈ l, goodS s) (hn : l.length ≤ 64) : validE l = 0 := okl_set (canon_okL h hg) hn

theorem two_law {a b : List Sp} {k : List Bool → Bool} (h0 : k [false, false] = false) (ha : OkL a) (hb : OkL b) :
    Canon (combo k [a, b]) ∧ (∀ s ∈ combo k [a, b], goodS s) ∧ (∀ x, has (combo k [a, b]) x = k [has a x, has b x]) ∧ (combo k [a, b]).length ≤ 2 * (a.length + b.length) := by
  have h := combo_law (k := k) (ls := [a, b]) (lv_g2 a b (okL_good ha) (okL_good hb)) h0
  refine ⟨h.1, combo_good (lv_g2 a b (okL_good ha) (okL_good hb)) h0, h.2, ?_⟩
  have := combo_len k [a, b]
  simpa using this
theorem or_len {a b : List Sp} (ha : OkL a) (hb : OkL b) : (combo kOr [a, b]).length ≤ a.length + b.length := by
  have h := two_law (k := kOr) rfl ha hb
  have hg : AllG (a ++ b) := fun s hs => by
    rcases List.mem_append.1 hs with h | h
    · exact okL_good ha s h
    · exact okL_good hb s h
  have hn := nrm_law hg
  have e : combo kOr [a, b] = nrm (a ++ b) := canon_ext h.1 hn.1 (fun x => by rw [h.2.2.1, hn.2.1, has_append]; rfl)
  rw [e]
  have := hn.2.2.1
  rw [List.length_append] at this
  exact this
theorem or_has {a b : List Sp} (ha : OkL a) (hb : OkL b) (x : Int) : has (combo kOr [a, b]) x = (has a x || has b x) := (two_law (k := kOr) rfl ha hb).2.2.1 x
theorem and_has {a b : List Sp} (ha : OkL a) (hb : OkL b) (x : Int) : has (combo kAnd [a, b]) x = (has a x && has b x) := (two_law (k := kAnd) rfl ha hb).2.2.1 x
theorem minus_has {a b : List Sp} (ha : OkL a) (hb : OkL b) (x : Int) : has (combo kMinus [a, b]) x = (has a x && !has b x) := (two_law (k := kMinus) rfl ha hb).2.2.1 x
theorem two_okl {a b : List Sp} {k : List Bool → Bool} (h0 : k [false, false] = false) (ha : OkL a) (hb : OkL b) : OkL (combo k [a, b]) := by
  have h := two_law h0 ha hb
  exact canon_okL h.1 h.2.1
theorem top_okl {t : Int} (h : 0 ≤ t ∧ t ≤ 1114111) : OkL [(0, t)] := canon_okL (lv_canon1 0 t h.1) (lv_g1 0 t (by omega) h.1 h.2)
theorem not_okl {a : List Sp} {t : Int} (ha : OkL a) (h : 0 ≤ t ∧ t ≤ 1114111) : OkL (notL a t) := two_okl rfl (top_okl h) ha
theorem not_has {a : List Sp} {t : Int} (ha : OkL a) (h : 0 ≤ t ∧ t ≤ 1114111) (x : Int) : has (notL a t) x = (decide (0 ≤ x ∧ x ≤ t) && !has a x) := by
  unfold notL
  rw [minus_has (top_okl h) ha, has_cons, has_nil, Bool.or_false]
theorem not_len {a : List Sp} {t : Int} (ha : OkL a) (h : 0 ≤ t ∧ t ≤ 1114111) : (notL a t).length ≤ 2 * (1 + a.length) := by
  have := (two_law (k := kMinus) rfl (top_okl h) ha).2.2.2
  simpa [notL] using this
theorem okl_canon {l : List Sp} (h : OkL l) : Canon l := (okL_canon h).1
theorem okl_in {l : List Sp} (h : OkL l) {x : Int} (hx : has l x = true) : 0 ≤ x ∧ x ≤ 1114111 := has_in (okL_good h) hx

theorem alg_comm {a b : List Sp} {k : List Bool → Bool} (h0 : k [false, false] = false) (hk : ∀ x y, k [x, y] = k [y, x]) (ha : OkL a) (hb : OkL b) : combo k [a, b] = combo k [b, a] :=
  canon_ext (two_law h0 ha hb).1 (two_law h0 hb ha).1 (fun x => by rw [(two_law h0 ha hb).2.2.1, (two_law h0 hb ha).2.2.1, hk])
theorem alg_minus {a b : List Sp} (ha : OkL a) (hb : OkL b) : combo kAnd [a, notL b 1114111] = combo kMinus [a, b] :=
  canon_ext (two_law (k := kAnd) rfl ha (not_okl hb (by omega))).1 (two_law (k := kMinus) rfl ha hb).1 (fun x => by
    rw [and_has ha (not_okl hb (by omega)), minus_has ha hb, not_has hb (by omega)]
    cases h : has a x
    · simp
    · have := okl_in ha h
      simp [this])
theorem alg_back {b : List Sp} (hb : OkL b) : notL (notL b 1114111) 1114111 = b :=
  canon_ext (okl_canon (not_okl (not_okl hb (by omega)) (by omega))) (okl_canon hb) (fun x => by
    rw [not_has (not_okl hb (by omega)) (by omega), not_has hb (by omega)]
    cases h : has b x
    · by_cases hx : 0 ≤ x ∧ x ≤ 1114111 <;> simp [hx]
    · have := okl_in hb h
      simp [this])
theorem alg_assoc {a b c : List Sp} (ha : OkL a) (hb : OkL b) (hc : OkL c) : combo kOr [combo kOr [a, b], c] = combo kOr [a, combo kOr [b, c]] :=
  canon_ext (two_law (k := kOr) rfl (two_okl rfl ha hb) hc).1 (two_law (k := kOr) rfl ha (two_okl rfl hb hc)).1 (fun x => by
    rw [or_has (two_okl rfl ha hb) hc, or_has ha hb, or_has ha (two_okl rfl hb hc), or_has hb hc, Bool.or_assoc])
theorem cnt_okl {N : Nat} (hN : N = 1114112) {l : List Sp} (h : OkL l) : cntS l = symN N (has l) := cntS_symN (okl_canon h) (fun s hs => by
  have := okL_good h s hs
  unfold goodS at this
  omega)
theorem alg_cnt {a b : List Sp} (ha : OkL a) (hb : OkL b) : cntS (combo kOr [a, b]) + cntS (combo kAnd [a, b]) = cntS a + cntS b := by
  obtain ⟨N, hN⟩ : ∃ N : Nat, N = 1114112 := ⟨_, rfl⟩
  rw [cnt_okl hN (two_okl (k := kOr) rfl ha hb), cnt_okl hN (two_okl (k := kAnd) rfl ha hb), cnt_okl hN ha, cnt_okl hN hb]
  have h1 := symN_congr (N := N) (or_has ha hb)
  have h2 := symN_congr (N := N) (and_has ha hb)
  have := cnt_or_and (has a) (has b) (List.range N)
  unfold symN at *
  omega
theorem alg_cntM {a b : List Sp} (ha : OkL a) (hb : OkL b) : cntS (combo kMinus [a, b]) + cntS (combo kAnd [a, b]) = cntS a := by
  obtain ⟨N, hN⟩ : ∃ N : Nat, N = 1114112 := ⟨_, rfl⟩
  rw [cnt_okl hN (two_okl (k := kMinus) rfl ha hb), cnt_okl hN (two_okl (k := kAnd) rfl ha hb), cnt_okl hN ha]
  have h1 := symN_congr (N := N) (minus_has ha hb)
  have h2 := symN_congr (N := N) (and_has ha hb)
  have := cnt_diff (has a) (has b) (List.range N)
  unfold symN at *
  omega
theorem alg_cntN {b : List Sp} (hb : OkL b) : cntS (notL b 1114111) + cntS b = 1114112 := by
  obtain ⟨N, hN⟩ : ∃ N : Nat, N = 1114112 := ⟨_, rfl⟩
  rw [cnt_okl hN (not_okl hb (by omega)), cnt_okl hN hb]
  have h1 : symN N (has (notL b 1114111)) = cnt (fun x => true && !has b x) (List.range N) := cnt_congr (fun i hi => by
    have := List.mem_range.1 hi
    rw [not_has hb (by omega), decide_eq_true (by omega)])
  have h2 : symN N (has b) = cnt (fun x => true && has b x) (List.range N) := cnt_congr (fun i hi => by simp)
  have h4 := cnt_diff (fun _ => true) (has b) (List.range N)
  have h3 := cnt_all (List.range N)
  rw [List.length_range] at h3
  rw [h1, h2]
  omega
end Go.Proofs.Ytlbdjnbcoldjhaa
