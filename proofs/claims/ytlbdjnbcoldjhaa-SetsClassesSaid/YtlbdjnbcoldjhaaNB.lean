/- The plain law of the classes of Split: every symbol is in one of them, and a set is the union of those of its symbols. -/
import Derived.Test.YtlbdjnbcoldjhaaNR
namespace Go.Proofs.Ytlbdjnbcoldjhaa
open Go.RowKit

def cnt (p : Int → Bool) (L : List Nat) : Nat := L.countP (fun (i : Nat) => p (i : Int))
theorem cnt_or_and (p q : Int → Bool) : ∀ L : List Nat, cnt (fun x => p x || q x) L + cnt (fun x => p x && q x) L = cnt p L + cnt q L
  | [] => rfl
  | i :: L => by
    have ih := cnt_or_and p q L
    simp only [cnt, List.countP_cons] at ih ⊢
    cases p i <;> cases q i <;> simp <;> omega
theorem cnt_diff (p q : Int → Bool) : ∀ L : List Nat, cnt (fun x => p x && !q x) L + cnt (fun x => p x && q x) L = cnt p L
  | [] => rfl
  | i :: L => by
    have ih := cnt_diff p q L
    simp only [cnt, List.countP_cons] at ih ⊢
    cases p i <;> cases q i <;> simp <;> omega
theorem cnt_congr {p q : Int → Bool} : ∀ {L : List Nat}, (∀ i ∈ L, p (i : Int) = q (i : Int)) → cnt p L = cnt q L
  | [], _ => rfl
  | i :: L, h => by
    have ih := cnt_congr (L := L) (fun j hj => h j (List.mem_cons_of_mem _ hj))
    unfold cnt at *
    simp only [List.countP_cons, ih, h i List.mem_cons_self]
theorem cnt_all : ∀ L : List Nat, cnt (fun _ => true) L = L.length
  | [] => rfl
  | i :: L => by
    have ih := cnt_all L
    unfold cnt at *
    simp only [List.countP_cons, ih]; simp
theorem cnt_none : ∀ L : List Nat, cnt (fun _ => false) L = 0
  | [] => rfl
  | i :: L => by
    have ih := cnt_none L
    unfold cnt at *
    simp only [List.countP_cons, ih]; simp
theorem cnt_seg (a b : Nat) (h : a ≤ b) : ∀ N : Nat, cnt (fun x => decide ((a : Int) ≤ x ∧ x ≤ (b : Int))) (List.range N) = min (b + 1) N - min a N
  | 0 => by simp [cnt]
  | N + 1 => by
    have ih := cnt_seg a b h N
    unfold cnt at *
    rw [List.range_succ, List.countP_append, ih]
    simp only [List.countP_cons, List.countP_nil, Nat.zero_add, decide_eq_true_eq]
    split <;> omega
def symN (N : Nat) (p : Int → Bool) : Nat := cnt p (List.range N)
theorem symN_congr {N : Nat} {p q : Int → Bool} (h : ∀ x, p x = q x) : symN N p = symN N q := cnt_congr (fun i _ => h i)
/-- the number of symbols of a set -/
theorem cntS_symN {N : Nat} : ∀ {l : List Sp}, Canon l → (∀ s ∈ l, 0 ≤ s.1 ∧ s.1 ≤ s.2 ∧ s.2 < N) → cntS l = symN N (has l)
  | [], _, _ => by
    have := cnt_none (List.range N)
    have e : symN N (has []) = 0 := (symN_congr (fun x => has_nil x)).trans this
    rw [e]; rfl
  | s :: l, hc, hg => by
    have ih := cntS_symN hc.tail (fun t ht => hg t (List.mem_cons_of_mem _ ht))
    have h1 := hg s List.mem_cons_self
    obtain ⟨a, ha⟩ : ∃ a : Nat, s.1 = a := ⟨s.1.toNat, by omega⟩
    obtain ⟨b, hb⟩ : ∃ b : Nat, s.2 = b := ⟨s.2.toNat, by omega⟩
    have e1 : cntS (s :: l) = (s.2 - s.1 + 1) + cntS l := by simp [cntS]
    have e2 : symN N (has (s :: l)) = symN N (fun x => decide ((a : Int) ≤ x ∧ x ≤ (b : Int)) || has l x) := symN_congr (fun x => by rw [has_cons, ha, hb])
    have e3 := cnt_or_and (fun x => decide ((a : Int) ≤ x ∧ x ≤ (b : Int))) (has l) (List.range N)
    have e4 : cnt (fun x => decide ((a : Int) ≤ x ∧ x ≤ (b : Int)) && has l x) (List.range N) = 0 := by
      rw [← cnt_none (List.range N)]
      refine cnt_congr (fun i _ => ?_)
      cases h : has l (i : Int)
      · simp
      · have := hc.far h
        simp only [Bool.and_true, decide_eq_false_iff_not]
        omega
    have e5 := cnt_seg a b (by omega) N
    unfold symN at *
    omega

/-- a set: valid -/
theorem okl_set {l : List Sp} (h : OkL l) (hn : l.length ≤ 64) : validE l = 0 := by rw [validE_ok h, if_neg (by omega)]
theorem canon_valid {l : List Sp} (h : Canon l) (hg : ∀ s ∈ l, goodS s) (hn : l.length ≤ 64) : validE l = 0 := okl_set (canon_okL h hg) hn

theorem two_law {a b : List Sp} {k : List Bool → Bool} (h0 : k [false, false] = false) (ha : OkL a) (hb : OkL b) :
    Canon (combo k [a, b]) ∧ (∀ s ∈ combo k [a, b], goodS s) ∧ (∀ x, has (combo k [a, b]) x = k [has a x, has b x]) ∧ (combo k [a, b]).length ≤ 2 * (a.length + b.length) := by
  have h := combo_law (k := k) (ls := [a, b]) (lv_g2 a b (okL_good ha) (okL_good hb)) h0
  refine ⟨h.1, combo_good (lv_g2 a b (okL_good ha) (okL_good hb)) h0, h.2, ?_⟩
  have := combo_len k [a, b]
  simpa using this
theorem or_len {a b : List Sp} (ha : OkL a) (hb : OkL b) : (combo kOr [a, b]).length ≤ a.length + b.length := by
  have h := two_law (k := kOr) rfl ha hb
  have hg : AllG (a ++ b) := fun s hs => by
    rcases List.mem_append.1 hs with h | h
    · exact okL_good ha s h
    · exact okL_good hb s h
  have hn := nrm_law hg
  have e : combo kOr [a, b] = nrm (a ++ b) := canon_ext h.1 hn.1 (fun x => by rw [h.2.2.1, hn.2.1, has_append]; rfl)
  rw [e]
  have := hn.2.2.1
  rw [List.length_append] at this
  exact this
theorem or_has {a b : List Sp} (ha : OkL a) (hb : OkL b) (x : Int) : has (combo kOr [a, b]) x = (has a x || has b x) := (two_law (k := kOr) rfl ha hb).2.2.1 x
theorem and_has {a b : List Sp} (ha : OkL a) (hb : OkL b) (x : Int) : has (combo kAnd [a, b]) x = (has a x && has b x) := (two_law (k := kAnd) rfl ha hb).2.2.1 x
theorem minus_has {a b : List Sp} (ha : OkL a) (hb : OkL b) (x : Int) : has (combo kMinus [a, b]) x = (has a x && !has b x) := (two_law (k := kMinus) rfl ha hb).2.2.1 x
theorem two_okl {a b : List Sp} {k : List Bool → Bool} (h0 : k [false, false] = false) (ha : OkL a) (hb : OkL b) : OkL (combo k [a, b]) := by
  have h := two_law h0 ha hb
  exact canon_okL h.1 h.2.1
theorem top_okl {t : Int} (h : 0 ≤ t ∧ t ≤ 1114111) : OkL [(0, t)] := canon_okL (lv_canon1 0 t h.1) (lv_g1 0 t (by omega) h.1 h.2)
theorem not_okl {a : List Sp} {t : Int} (ha : OkL a) (h : 0 ≤ t ∧ t ≤ 1114111) : OkL (notL a t) := two_okl rfl (top_okl h) ha
theorem not_has {a : List Sp} {t : Int} (ha : OkL a) (h : 0 ≤ t ∧ t ≤ 1114111) (x : Int) : has (notL a t) x = (decide (0 ≤ x ∧ x ≤ t) && !has a x) := by
  unfold notL
  rw [minus_has (top_okl h) ha, has_cons, has_nil, Bool.or_false]
theorem not_len {a : List Sp} {t : Int} (ha : OkL a) (h : 0 ≤ t ∧ t ≤ 1114111) : (notL a t).length ≤ 2 * (1 + a.length) := by
  have := (two_law (k := kMinus) rfl (top_okl h) ha).2.2.2
  simpa [notL] using this
theorem okl_canon {l : List Sp} (h : OkL l) : Canon l := (okL_canon h).1
theorem okl_in {l : List Sp} (h : OkL l) {x : Int} (hx : has l x = true) : 0 ≤ x ∧ x ≤ 1114111 := has_in (okL_good h) hx

theorem alg_comm {a b : List Sp} {k : List Bool → Bool} (h0 : k [false, false] = false) (hk : ∀ x y, k [x, y] = k [y, x]) (ha : OkL a) (hb : OkL b) : combo k [a, b] = combo k [b, a] :=
  canon_ext (two_law h0 ha hb).1 (two_law h0 hb ha).1 (fun x => by rw [(two_law h0 ha hb).2.2.1, (two_law h0 hb ha).2.2.1, hk])
theorem alg_minus {a b : List Sp} (ha : OkL a) (hb : OkL b) : combo kAnd [a, notL b 1114111] = combo kMinus [a, b] :=
  canon_ext (two_law (k := kAnd) rfl ha (not_okl hb (by omega))).1 (two_law (k := kMinus) rfl ha hb).1 (fun x => by
    rw [and_has ha (not_okl hb (by omega)), minus_has ha hb, not_has hb (by omega)]
    cases h : has a x
    · simp
    · have := okl_in ha h
      simp [this])
theorem alg_back {b : List Sp} (hb : OkL b) : notL (notL b 1114111) 1114111 = b :=
  canon_ext (okl_canon (not_okl (not_okl hb (by omega)) (by omega))) (okl_canon hb) (fun x => by
    rw [not_has (not_okl hb (by omega)) (by omega), not_has hb (by omega)]
    cases h : has b x
    · by_cases hx : 0 ≤ x ∧ x ≤ 1114111 <;> simp [hx]
    · have := okl_in hb h
      simp [this])
theorem alg_assoc {a b c : List Sp} (ha : OkL a) (hb : OkL b) (hc : OkL c) : combo kOr [combo kOr [a, b], c] = combo kOr [a, combo kOr [b, c]] :=
  canon_ext (two_law (k := kOr) rfl (two_okl rfl ha hb) hc).1 (two_law (k := kOr) rfl ha (two_okl rfl hb hc)).1 (fun x => by
    rw [or_has (two_okl rfl ha hb) hc, or_has ha hb, or_has ha (two_okl rfl hb hc), or_has hb hc, Bool.or_assoc])
theorem cnt_okl {N : Nat} (hN : N = 1114112) {l : List Sp} (h : OkL l) : cntS l = symN N (has l) := cntS_symN (okl_canon h) (fun s hs => by
  have := okL_good h s hs
  unfold goodS at this
  omega)
theorem alg_cnt {a b : List Sp} (ha : OkL a) (hb : OkL b) : cntS (combo kOr [a, b]) + cntS (combo kAnd [a, b]) = cntS a + cntS b := by
  obtain ⟨N, hN⟩ : ∃ N : Nat, N = 1114112 := ⟨_, rfl⟩
  rw [cnt_okl hN (two_okl (k := kOr) rfl ha hb), cnt_okl hN (two_okl (k := kAnd) rfl ha hb), cnt_okl hN ha, cnt_okl hN hb]
  have h1 := symN_congr (N := N) (or_has ha hb)
  have h2 := symN_congr (N := N) (and_has ha hb)
  have := cnt_or_and (has a) (has b) (List.range N)
  unfold symN at *
  omega
theorem alg_cntM {a b : List Sp} (ha : OkL a) (hb : OkL b) : cntS (combo kMinus [a, b]) + cntS (combo kAnd [a, b]) = cntS a := by
  obtain ⟨N, hN⟩ : ∃ N : Nat, N = 1114112 := ⟨_, rfl⟩
  rw [cnt_okl hN (two_okl (k := kMinus) rfl ha hb), cnt_okl hN (two_okl (k := kAnd) rfl ha hb), cnt_okl hN ha]
  have h1 := symN_congr (N := N) (minus_has ha hb)
  have h2 := symN_congr (N := N) (and_has ha hb)
  have := cnt_diff (has a) (has b) (List.range N)
  unfold symN at *
  omega
theorem alg_cntN {b : List Sp} (hb : OkL b) : cntS (notL b 1114111) + cntS b = 1114112 := by
  obtain ⟨N, hN⟩ : ∃ N : Nat, N = 1114112 := ⟨_, rfl⟩
  rw [cnt_okl hN (not_okl hb (by omega)), cnt_okl hN hb]
  have h1 : symN N (has (notL b 1114111)) = cnt (fun x => true && !has b x) (List.range N) := cnt_congr (fun i hi => by
    have := List.mem_range.1 hi
    rw [not_has hb (by omega), decide_eq_true (by omega)])
  have h2 : symN N (has b) = cnt (fun x => true && has b x) (List.range N) := cnt_congr (fun i hi => by simp)
  have h4 := cnt_diff (fun _ => true) (has b) (List.range N)
  have h3 := cnt_all (List.range N)
  rw [List.length_range] at h3
  rw [h1, h2]
  omega

theorem keysU_in2 {ls : List (List Sp)} {E : List Int} {k : Nat} : ∀ i, k < i → vec ls (E.getD k 0) ∈ keysU ls E i
  | 0, h => absurd h (Nat.not_lt_zero _)
  | i + 1, h => by
    unfold keysU
    by_cases hk : k = i
    · subst hk
      split
      · assumption
      · simp
    · have ih := keysU_in2 (ls := ls) (E := E) (k := k) i (by omega)
      split
      · exact ih
      · exact List.mem_append_left _ ih
theorem getD_in2 {E : List Int} {i : Nat} (h : i < E.length) : E.getD i 0 = E[i] := by simp [List.getD_eq_getElem?_getD, h]
theorem keysU_of {ls : List (List Sp)} {E : List Int} {v : List Bool} : ∀ i, v ∈ keysU ls E i → ∃ j, j < i ∧ vec ls (E.getD j 0) = v
  | 0, h => by simp [keysU] at h
  | i + 1, h => by
    unfold keysU at h
    split at h
    · obtain ⟨j, h1, h2⟩ := keysU_of i h
      exact ⟨j, by omega, h2⟩
    · rcases List.mem_append.1 h with h | h
      · obtain ⟨j, h1, h2⟩ := keysU_of i h
        exact ⟨j, by omega, h2⟩
      · obtain rfl := List.mem_singleton.1 h
        exact ⟨i, by omega, rfl⟩

/-- sets and a greatest symbol, as Split takes them -/
structure ClOk (LS : List (List Sp)) (t : Int) : Prop where
  ok : ∀ a ∈ LS, OkL a
  top : 0 ≤ t ∧ t ≤ 1114111
namespace ClOk
variable {LS : List (List Sp)} {t : Int}
theorem eok (h : ClOk LS t) : EndsOk (endsT t LS) t LS.flatten := endsT_ok h.top.1 (fun s hs => by
  obtain ⟨a, ha, hs⟩ := List.mem_flatten.1 hs
  have := okL_good (h.ok a ha) s hs
  unfold goodS at this
  omega)
theorem einn (h : ClOk LS t) : ∀ a ∈ LS, EndsIn a (endsT t LS) t := fun a ha s hs => h.eok.inn s (List.mem_flatten.2 ⟨a, ha, hs⟩)
theorem ege (h : ClOk LS t) {i : Nat} (hi : i < (endsT t LS).length) : 0 ≤ (endsT t LS)[i] ∧ (endsT t LS)[i] ≤ t := by
  refine ⟨?_, h.eok.ends.le _ (List.getElem_mem hi)⟩
  have h0 := h.eok.head
  rcases h.eok.only _ (List.getElem_mem hi) with e | ⟨s, hs, e⟩
  · omega
  · obtain ⟨a, ha, hs⟩ := List.mem_flatten.1 hs
    have := okL_good (h.ok a ha) s hs
    unfold goodS at this
    omega
theorem mem (h : ClOk LS t) (v : List Bool) (x : Int) : has (Go.Proofs.Ytlbdjnbcoldjhaa.cls (endsT t LS) t (fun y => decide (vec LS y = v))) x = (decide (vec LS x = v) && decide (0 ≤ x ∧ x ≤ t)) := by
  have hs : Steady (endsT t LS) t (fun y => decide (vec LS y = v)) := steady_of h.einn (fun bs => decide (bs = v))
  exact ref_has h.top.1 (fun s hs => by
    obtain ⟨a, ha, hs⟩ := List.mem_flatten.1 hs
    have := okL_good (h.ok a ha) s hs
    unfold goodS at this
    omega) hs x
theorem canon (h : ClOk LS t) (p : Int → Bool) : Canon (Go.Proofs.Ytlbdjnbcoldjhaa.cls (endsT t LS) t p) := (cls_canon h.eok.ends p).1
theorem okl (h : ClOk LS t) (p : Int → Bool) : OkL (Go.Proofs.Ytlbdjnbcoldjhaa.cls (endsT t LS) t p) := canon_okL (h.canon p) (cls_good h.eok.ends h.eok.head (by have := h.top; omega) p)
/-- the key of a symbol -/
theorem key (h : ClOk LS t) {x : Int} (hx : 0 ≤ x ∧ x ≤ t) : ∃ j, ∃ hj : j < (endsT t LS).length, (endsT t LS)[j] ≤ x ∧ vec LS (endsT t LS)[j] = vec LS x := by
  obtain ⟨s, hs, h1, h2⟩ := segsT_has h.eok.ends 0 h.eok.head x hx.1 hx.2
  obtain ⟨h3, _, h5, h6⟩ := segsT_mem h.eok.ends s hs
  obtain ⟨j, hj, e⟩ := List.getElem_of_mem h3
  refine ⟨j, hj, by omega, ?_⟩
  rw [e]
  unfold vec
  refine List.map_congr_left (fun a ha => ?_)
  exact (has_steady (h.einn a ha) s.1 x h1 hx.2 (fun y hy hh => h6 y hy ⟨hh.1, by omega⟩)).symm
theorem key_in (h : ClOk LS t) {x : Int} (hx : 0 ≤ x ∧ x ≤ t) : vec LS x ∈ keysU LS (endsT t LS) (endsT t LS).length := by
  obtain ⟨j, hj, _, e⟩ := h.key hx
  have := keysU_in2 (ls := LS) (E := endsT t LS) (k := j) (endsT t LS).length hj
  rw [getD_in2 hj, e] at this
  exact this
/-- keys come up in the order of their first symbols -/
theorem order (h : ClOk LS t) : ∀ n, n ≤ (endsT t LS).length → ∀ i k, k < i → ∀ (hi : i < (keysU LS (endsT t LS) n).length) (hk : k < (keysU LS (endsT t LS) n).length), ∀ x, 0 ≤ x → x ≤ t → vec LS x = (keysU LS (endsT t LS) n)[i] → ∃ y, 0 ≤ y ∧ y < x ∧ vec LS y = (keysU LS (endsT t LS) n)[k]
  | 0, _, i, k, _, hi, _, _, _, _, _ => by simp [keysU] at hi
  | n + 1, hn, i, k, hki, hi, hk, x, hx0, hxt, hv => by
    have hnl : n < (endsT t LS).length := by omega
    by_cases hm : vec LS (endsT t LS)[n] ∈ keysU LS (endsT t LS) n
    · have e := keys_old hnl hm
      simp only [e] at hi hk hv ⊢
      exact order h n (by omega) i k hki hi hk x hx0 hxt hv
    · have e := keys_new hnl hm
      simp only [e] at hi hk hv ⊢
      have hl : (keysU LS (endsT t LS) n ++ [vec LS (endsT t LS)[n]]).length = (keysU LS (endsT t LS) n).length + 1 := by simp
      rcases Nat.lt_or_ge i (keysU LS (endsT t LS) n).length with h1 | h1
      · rw [List.getElem_append_left h1] at hv
        rw [List.getElem_append_left (by omega)]
        exact order h n (by omega) i k hki h1 (by omega) x hx0 hxt hv
      · have h2 : k < (keysU LS (endsT t LS) n).length := by omega
        have h3 : i = (keysU LS (endsT t LS) n).length := by omega
        rw [List.getElem_append_left h2]
        have hv2 : vec LS x = vec LS (endsT t LS)[n] := by
          rw [hv, List.getElem_append_right (by omega)]
          simp
        obtain ⟨j, hj, hjx, hjv⟩ := h.key ⟨hx0, hxt⟩
        have hjn : n ≤ j := by
          rcases Nat.lt_or_ge j n with h4 | h4
          · exfalso
            refine hm ?_
            have := keysU_in2 (ls := LS) (E := endsT t LS) (k := j) n h4
            rw [getD_in2 hj, hjv, hv2] at this
            exact this
          · exact h4
        obtain ⟨q, hq, hqv⟩ := keysU_of n (List.getElem_mem h2)
        have hql : q < (endsT t LS).length := by omega
        rw [getD_in2 hql] at hqv
        have hlt : (endsT t LS)[q] < (endsT t LS)[n] := List.pairwise_iff_getElem.1 h.eok.ends.inc q n hql hnl hq
        have hle : (endsT t LS)[n] ≤ (endsT t LS)[j] := by
          rcases Nat.lt_or_ge n j with h5 | h5
          · have := List.pairwise_iff_getElem.1 h.eok.ends.inc n j hnl hj h5
            omega
          · have : n = j := by omega
            subst this; omega
        exact ⟨(endsT t LS)[q], (h.ege hql).1, by omega, hqv⟩
theorem len_keys : (classes LS t).length = (keysU LS (endsT t LS) (endsT t LS).length).length := by unfold classes; simp
theorem get {i : Nat} (hi : i < (classes LS t).length) : (classes LS t)[i] = Go.Proofs.Ytlbdjnbcoldjhaa.cls (endsT t LS) t (fun y => decide (vec LS y = (keysU LS (endsT t LS) (endsT t LS).length)[i]'(by rw [← len_keys]; exact hi))) := by
  have hk : i < (keysU LS (endsT t LS) (endsT t LS).length).length := by rw [← len_keys]; exact hi
  exact List.getElem_map (l := keysU LS (endsT t LS) (endsT t LS).length) (fun v => Go.Proofs.Ytlbdjnbcoldjhaa.cls (endsT t LS) t (fun y => decide (vec LS y = v))) (h := by rw [List.length_map]; exact hk)
theorem cmem (h : ClOk LS t) {i : Nat} (hi : i < (classes LS t).length) (x : Int) : has (classes LS t)[i] x = (decide (vec LS x = (keysU LS (endsT t LS) (endsT t LS).length)[i]'(by rw [← len_keys]; exact hi)) && decide (0 ≤ x ∧ x ≤ t)) := by
  rw [ClOk.get hi, h.mem]
theorem cok (h : ClOk LS t) {i : Nat} (hi : i < (classes LS t).length) : OkL (classes LS t)[i] := by rw [ClOk.get hi]; exact h.okl _
theorem clen {i : Nat} (hi : i < (classes LS t).length) : (classes LS t)[i].length ≤ (endsT t LS).length := by
  rw [ClOk.get hi, ← clsU_all]
  exact clsU_len
/-- a class has a first symbol -/
theorem first (h : ClOk LS t) {i : Nat} (hi : i < (classes LS t).length) : ∃ hp : 0 < (classes LS t)[i].length, has (classes LS t)[i] ((classes LS t)[i][0]).1 = true ∧ (∀ x, has (classes LS t)[i] x = true → ((classes LS t)[i][0]).1 ≤ x) ∧
    vec LS ((classes LS t)[i][0]).1 = (keysU LS (endsT t LS) (endsT t LS).length)[i]'(by rw [← len_keys]; exact hi) ∧ 0 ≤ ((classes LS t)[i][0]).1 ∧ ((classes LS t)[i][0]).1 ≤ t := by
  obtain ⟨j, hj, e⟩ := keysU_of _ (List.getElem_mem (show i < (keysU LS (endsT t LS) (endsT t LS).length).length by rw [← len_keys]; exact hi))
  rw [getD_in2 hj] at e
  have hm : has (classes LS t)[i] (endsT t LS)[j] = true := by
    rw [h.cmem hi, e, decide_eq_true rfl, decide_eq_true (h.ege hj)]; rfl
  have hp : 0 < (classes LS t)[i].length := by
    rcases Nat.eq_zero_or_pos (classes LS t)[i].length with h0 | h0
    · rw [List.length_eq_zero_iff.1 h0, has_nil] at hm; cases hm
    · exact h0
  have hc := okl_canon (h.cok hi)
  have hf : has (classes LS t)[i] ((classes LS t)[i][0]).1 = true := has_iff.2 ⟨_, List.getElem_mem hp, Int.le_refl _, hc.1 _ (List.getElem_mem hp)⟩
  have hv := hf
  rw [h.cmem hi, Bool.and_eq_true, decide_eq_true_iff, decide_eq_true_iff] at hv
  refine ⟨hp, hf, fun x hx => ?_, hv.1, hv.2.1, hv.2.2⟩
  obtain ⟨s, hs, h1, h2⟩ := has_iff.1 hx
  obtain ⟨q, hq, rfl⟩ := List.getElem_of_mem hs
  rcases Nat.eq_zero_or_pos q with h0 | h0
  · subst h0; omega
  · have h3 := List.pairwise_iff_getElem.1 hc.2 0 q hp hq h0
    have h4 := hc.1 _ (List.getElem_mem hp)
    omega
theorem first_lt (h : ClOk LS t) {i k : Nat} (hki : k < i) (hi : i < (classes LS t).length) (hk : k < (classes LS t).length) : (((classes LS t)[k]'hk)[0]'(h.first hk).1).1 < (((classes LS t)[i]'hi)[0]'(h.first hi).1).1 := by
  obtain ⟨p1, a1, b1, c1, d1, e1⟩ := h.first hi
  obtain ⟨p2, a2, b2, c2, d2, e2⟩ := h.first hk
  obtain ⟨y, y0, y1, y2⟩ := h.order _ (Nat.le_refl _) i k hki (by rw [← len_keys]; exact hi) (by rw [← len_keys]; exact hk) _ d1 e1 c1
  have := b2 y (by rw [h.cmem hk, y2, decide_eq_true rfl, decide_eq_true (by omega)]; rfl)
  omega
theorem keys_ne {i k : Nat} (hki : k < i) (hi : i < (classes LS t).length) (hk : k < (classes LS t).length) : (keysU LS (endsT t LS) (endsT t LS).length)[i]'(by rw [← len_keys]; exact hi) ≠ (keysU LS (endsT t LS) (endsT t LS).length)[k]'(by rw [← len_keys]; exact hk) := by
  have hn := keysU_nodup LS (endsT t LS) (endsT t LS).length
  intro e
  have := List.pairwise_iff_getElem.1 hn k i (by rw [← len_keys]; exact hk) (by rw [← len_keys]; exact hi) hki
  exact this e.symm
theorem meet_nil (h : ClOk LS t) {i k : Nat} (hki : k < i) (hi : i < (classes LS t).length) (hk : k < (classes LS t).length) : combo kAnd [(classes LS t)[i], (classes LS t)[k]] = [] := by
  refine canon_ext (two_law (k := kAnd) rfl (h.cok hi) (h.cok hk)).1 Canon.nil (fun x => ?_)
  rw [and_has (h.cok hi) (h.cok hk), h.cmem hi, h.cmem hk, has_nil]
  by_cases e : vec LS x = (keysU LS (endsT t LS) (endsT t LS).length)[i]'(by rw [← len_keys]; exact hi)
  · have := ClOk.keys_ne hki hi hk
    rw [decide_eq_false (show ¬ vec LS x = (keysU LS (endsT t LS) (endsT t LS).length)[k]'(by rw [← len_keys]; exact hk) from fun e2 => this (e.symm.trans e2))]
    simp
  · rw [decide_eq_false e]; simp
end ClOk

theorem vec_has {LS : List (List Sp)} {x y : Int} (h : vec LS x = vec LS y) : ∀ a ∈ LS, has a x = has a y := fun a ha => List.map_inj_left.1 h a ha
/-- two classes are told apart by a set -/
theorem ClOk.apart {LS : List (List Sp)} {t : Int} (h : ClOk LS t) {i k : Nat} (hki : k < i) (hi : i < (classes LS t).length) (hk : k < (classes LS t).length) :
    ∃ j, ∃ hj : j < LS.length, has LS[j] (((classes LS t)[i]'hi)[0]'(h.first hi).1).1 ≠ has LS[j] (((classes LS t)[k]'hk)[0]'(h.first hk).1).1 := by
  obtain ⟨p1, a1, b1, c1, d1, e1⟩ := h.first hi
  obtain ⟨p2, a2, b2, c2, d2, e2⟩ := h.first hk
  by_cases hc : ∃ j, ∃ hj : j < LS.length, has LS[j] (((classes LS t)[i]'hi)[0]'p1).1 ≠ has LS[j] (((classes LS t)[k]'hk)[0]'p2).1
  · exact hc
  · exfalso
    have he : vec LS (((classes LS t)[i]'hi)[0]'p1).1 = vec LS (((classes LS t)[k]'hk)[0]'p2).1 := by
      unfold vec
      refine List.map_congr_left (fun a ha => ?_)
      obtain ⟨j, hj, rfl⟩ := List.getElem_of_mem ha
      by_cases hq : has LS[j] (((classes LS t)[i]'hi)[0]'p1).1 = has LS[j] (((classes LS t)[k]'hk)[0]'p2).1
      · exact hq
      · exact absurd ⟨j, hj, hq⟩ hc
    rw [c1, c2] at he
    exact ClOk.keys_ne hki hi hk he

theorem cnt_keys {α : Type} [DecidableEq α] (f : Int → α) (p : Int → Bool) (L : List Nat) : ∀ (K : List α), K.Nodup → (K.map (fun v => cnt (fun x => decide (f x = v) && p x) L)).sum = cnt (fun x => decide (f x ∈ K) && p x) L
  | [], _ => by
    have := cnt_none L
    simpa using this.symm
  | v :: K, hn => by
    have ih := cnt_keys f p L K (List.nodup_cons.1 hn).2
    have hv := (List.nodup_cons.1 hn).1
    rw [List.map_cons, List.sum_cons, ih]
    have h1 := cnt_or_and (fun x => decide (f x = v) && p x) (fun x => decide (f x ∈ K) && p x) L
    have h2 : cnt (fun x => (decide (f x = v) && p x) && (decide (f x ∈ K) && p x)) L = 0 := by
      rw [← cnt_none L]
      refine cnt_congr (fun i _ => ?_)
      by_cases e : f (i : Int) = v
      · rw [e, decide_eq_false hv]; simp
      · rw [decide_eq_false e]; simp
    have h3 : cnt (fun x => decide (f x ∈ v :: K) && p x) L = cnt (fun x => (decide (f x = v) && p x) || (decide (f x ∈ K) && p x)) L := cnt_congr (fun i _ => by
      by_cases e : f (i : Int) = v
      · rw [e]; simp
      · by_cases e2 : f (i : Int) ∈ K
        · simp [e, e2]
        · simp [e, e2])
    omega
theorem sum_cast {α : Type} (f : α → Nat) (g : α → Int) : ∀ (K : List α), (∀ v ∈ K, g v = (f v : Int)) → (K.map g).sum = ((K.map f).sum : Nat)
  | [], _ => rfl
  | v :: K, h => by
    rw [List.map_cons, List.map_cons, List.sum_cons, List.sum_cons, sum_cast f g K (fun u hu => h u (List.mem_cons_of_mem _ hu)), h v List.mem_cons_self]
    push_cast
    rfl
/-- the numbers of symbols of the classes add up -/
theorem ClOk.total {LS : List (List Sp)} {t : Int} (h : ClOk LS t) : ((classes LS t).map cntS).sum = t + 1 := by
  obtain ⟨N, hN⟩ : ∃ N : Nat, N = 1114112 := ⟨_, rfl⟩
  have ht := h.top
  unfold classes
  rw [List.map_map, sum_cast (fun v => cnt (fun x => decide (vec LS x = v) && decide (0 ≤ x ∧ x ≤ t)) (List.range N)) _ _ (fun v _ => by
    show cntS _ = _
    rw [cnt_okl hN (h.okl _)]
    have := symN_congr (N := N) (h.mem v)
    unfold symN at *
    rw [this]), cnt_keys _ _ _ _ (keysU_nodup _ _ _)]
  have e : ((t.toNat : Nat) : Int) = t := Int.toNat_of_nonneg ht.1
  refine (congrArg Int.ofNat (cnt_congr (q := fun x => decide (((0 : Nat) : Int) ≤ x ∧ x ≤ ((t.toNat : Nat) : Int))) (fun i _ => ?_))).trans ?_
  · simp only [e]
    by_cases hx : (0 : Int) ≤ (i : Int) ∧ (i : Int) ≤ t
    · have hk := h.key_in hx
      simp only [hk, decide_true, Bool.true_and]
      simp
    · have hx' : ¬ (((0 : Nat) : Int) ≤ (i : Int) ∧ (i : Int) ≤ t) := by simpa using hx
      rw [decide_eq_false hx, decide_eq_false hx', Bool.and_false]
  · rw [cnt_seg 0 t.toNat (Nat.zero_le _) N]
    show ((min (t.toNat + 1) N - min 0 N : Nat) : Int) = t + 1
    omega

/-- the classes whose first symbol a set has, one behind the other -/
def pickS (a : List Sp) (cs : List (List Sp)) : List Sp := (cs.filter (fun cl => has a ((cl.head?.getD (0, 0)).1))).flatten
theorem pickS_step {a : List Sp} {cs : List (List Sp)} {i : Nat} (hi : i < cs.length) (hp : 0 < cs[i].length) : pickS a (cs.take (i + 1)) = if has a (cs[i][0]).1 = true then pickS a (cs.take i) ++ cs[i] else pickS a (cs.take i) := by
  have e : cs[i].head?.getD (0, 0) = cs[i][0] := by rw [List.head?_eq_getElem?, List.getElem?_eq_getElem hp]; rfl
  unfold pickS
  rw [List.take_succ_eq_append_getElem hi, List.filter_append]
  split
  · rename_i h
    rw [List.filter_cons_of_pos (by rw [e]; exact h)]
    simp
  · rename_i h
    rw [List.filter_cons_of_neg (by rw [e]; exact h)]
    simp
theorem pickS_has {a : List Sp} {cs : List (List Sp)} {x : Int} : has (pickS a cs) x = true ↔ ∃ cl ∈ cs, has a ((cl.head?.getD (0, 0)).1) = true ∧ has cl x = true := by
  unfold pickS
  rw [has_iff]
  constructor
  · rintro ⟨s, hs, h1⟩
    obtain ⟨cl, hc, hs⟩ := List.mem_flatten.1 hs
    obtain ⟨hc, hf⟩ := List.mem_filter.1 hc
    exact ⟨cl, hc, hf, has_iff.2 ⟨s, hs, h1⟩⟩
  · rintro ⟨cl, hc, hf, hx⟩
    obtain ⟨s, hs, h1⟩ := has_iff.1 hx
    exact ⟨s, List.mem_flatten.2 ⟨cl, List.mem_filter.2 ⟨hc, hf⟩, hs⟩, h1⟩
theorem pickS_len (a : List Sp) (cs : List (List Sp)) (n : Nat) (h : ∀ c ∈ cs, c.length ≤ n) : (pickS a cs).length ≤ cs.length * n := by
  induction cs with
  | nil => simp [pickS]
  | cons c cs ih =>
    have h1 := ih (fun d hd => h d (List.mem_cons_of_mem _ hd))
    have h2 := h c List.mem_cons_self
    unfold pickS at *
    rw [List.filter_cons, List.length_cons, Nat.succ_mul]
    split
    · rw [List.flatten_cons, List.length_append]; omega
    · omega
theorem ClOk.pick_good {LS : List (List Sp)} {t : Int} (h : ClOk LS t) (a : List Sp) : AllG (pickS a (classes LS t)) := fun s hs => by
  unfold pickS at hs
  obtain ⟨cl, hc, hs⟩ := List.mem_flatten.1 hs
  obtain ⟨hc, _⟩ := List.mem_filter.1 hc
  obtain ⟨i, hi, rfl⟩ := List.getElem_of_mem hc
  exact okL_good (h.cok hi) s hs
/-- a set, cut off at the greatest symbol, is the union of the classes of its symbols -/
theorem ClOk.union {LS : List (List Sp)} {t : Int} (h : ClOk LS t) {a : List Sp} (ha : a ∈ LS) : nrm (pickS a (classes LS t)) = combo kAnd [a, [(0, t)]] := by
  have h1 := nrm_law (h.pick_good a)
  refine canon_ext h1.1 (two_law (k := kAnd) rfl (h.ok a ha) (top_okl h.top)).1 (fun x => ?_)
  rw [h1.2.1, and_has (h.ok a ha) (top_okl h.top), has_cons, has_nil, Bool.or_false, Bool.eq_iff_iff, pickS_has]
  simp only [Bool.and_eq_true, decide_eq_true_eq]
  constructor
  · rintro ⟨cl, hc, hf, hx⟩
    obtain ⟨i, hi, rfl⟩ := List.getElem_of_mem hc
    obtain ⟨hp, f1, f2, f3, f4, f5⟩ := h.first hi
    have e : ((classes LS t)[i]).head?.getD (0, 0) = (classes LS t)[i][0] := by rw [List.head?_eq_getElem?, List.getElem?_eq_getElem hp]; rfl
    rw [e] at hf
    rw [h.cmem hi, Bool.and_eq_true, decide_eq_true_iff, decide_eq_true_iff] at hx
    refine ⟨?_, hx.2⟩
    rw [vec_has (hx.1.trans f3.symm) a ha]; exact hf
  · rintro ⟨h2, h3⟩
    obtain ⟨i, hi, e⟩ := List.getElem_of_mem (h.key_in h3)
    have hic : i < (classes LS t).length := by rw [ClOk.len_keys]; exact hi
    obtain ⟨hp, f1, f2, f3, f4, f5⟩ := h.first hic
    refine ⟨_, List.getElem_mem hic, ?_, ?_⟩
    · have e2 : ((classes LS t)[i]).head?.getD (0, 0) = (classes LS t)[i][0] := by rw [List.head?_eq_getElem?, List.getElem?_eq_getElem hp]; rfl
      rw [e2, vec_has (f3.trans e) a ha]; exact h2
    · rw [h.cmem hic, ← e, decide_eq_true rfl, decide_eq_true h3]; rfl
/-- Class of the classes -/
theorem ClOk.cls {LS : List (List Sp)} {t : Int} (h : ClOk LS t) (x : Int) : ((clsN (classes LS t) x).isSome = true ↔ 0 ≤ x ∧ x ≤ t) ∧ ∀ c, clsN (classes LS t) x = some c → ∃ hc : c < (classes LS t).length, has (classes LS t)[c] x = true := by
  have hs : ∀ c, clsN (classes LS t) x = some c → ∃ hc : c < (classes LS t).length, has (classes LS t)[c] x = true := fun c hc => by
    unfold clsN at hc
    rw [List.findIdx?_eq_some_iff_getElem] at hc
    obtain ⟨h1, h2, _⟩ := hc
    exact ⟨h1, h2⟩
  refine ⟨⟨fun h1 => ?_, fun h1 => ?_⟩, hs⟩
  · obtain ⟨c, hc⟩ := Option.isSome_iff_exists.1 h1
    obtain ⟨hl, hx⟩ := hs c hc
    rw [h.cmem hl, Bool.and_eq_true, decide_eq_true_iff, decide_eq_true_iff] at hx
    exact hx.2
  · cases hc : clsN (classes LS t) x with
    | some c => rfl
    | none =>
      exfalso
      unfold clsN at hc
      rw [List.findIdx?_eq_none_iff] at hc
      obtain ⟨i, hi, e⟩ := List.getElem_of_mem (h.key_in h1)
      have hic : i < (classes LS t).length := by rw [ClOk.len_keys]; exact hi
      have := hc _ (List.getElem_mem hic)
      rw [h.cmem hic, ← e, decide_eq_true rfl, decide_eq_true h1] at this
      cases this
theorem ClOk.ne {LS : List (List Sp)} {t : Int} (h : ClOk LS t) : 0 < (classes LS t).length := by
  have := h.key_in (x := 0) ⟨Int.le_refl _, h.top.1⟩
  obtain ⟨i, hi, _⟩ := List.getElem_of_mem this
  rw [ClOk.len_keys]; omega

/-- the first symbol of a list -/
def fstS (l : List Sp) : Int := (l.getD 0 (0, 0)).1
theorem fstS_get {l : List Sp} (h : 0 < l.length) : l[0].1 = fstS l := by
  unfold fstS
  rw [List.getD_eq_getElem?_getD, List.getElem?_eq_getElem h]; rfl
/-- what the walk needs of the classes -/
structure SpF (os : List Hs) (LS : List (List Sp)) (t : Int) : Prop where
  ne : 0 < os.length
  le : os.length ≤ 49
  ok : ∀ i (hi : i < os.length), OkL os[i].l ∧ os[i].l.length ≤ 49 ∧ 0 < os[i].l.length ∧ 1 ≤ cntS os[i].l
  lt : ∀ i k (hi : i < os.length) (hki : k < i), fstS (os[k]'(by omega)).l < fstS os[i].l
  meet : ∀ i k (hi : i < os.length) (hki : k < i), combo kAnd [os[i].l, (os[k]'(by omega)).l] = []
  apart : ∀ i k (hi : i < os.length) (hki : k < i), ∃ j, ∃ hj : j < LS.length, has LS[j] (fstS os[i].l) ≠ has LS[j] (fstS (os[k]'(by omega)).l)
  total : ((os.map (·.l)).map cntS).sum = t + 1
  good : ∀ a, AllG (pickS a (os.map (·.l)))
  union : ∀ a ∈ LS, nrm (pickS a (os.map (·.l))) = combo kAnd [a, [(0, t)]]
  cls : ∀ x, ((clsN (os.map (·.l)) x).isSome = true ↔ 0 ≤ x ∧ x ≤ t) ∧ ∀ c, clsN (os.map (·.l)) x = some c → ∃ hc : c < os.length, has os[c].l x = true
theorem cnt_pos {l : List Sp} (h : OkL l) (hp : 0 < l.length) : 1 ≤ cntS l := by
  obtain ⟨s, l, rfl⟩ : ∃ s m, l = s :: m := by
    cases l with
    | nil => simp at hp
    | cons s m => exact ⟨s, m, rfl⟩
  have hg := okL_good h
  have h1 := hg s List.mem_cons_self
  have h2 := (cntS_bound l (fun t ht => hg t (List.mem_cons_of_mem _ ht))).1
  unfold goodS at h1
  have e : cntS (s :: l) = (s.2 - s.1 + 1) + cntS l := by simp [cntS]
  omega
theorem SpF.of {os : List Hs} {LS : List (List Sp)} {t : Int} (h : ClOk LS t) (ho : os.map (·.l) = classes LS t) (hn : (endsT t LS).length ≤ 49) : SpF os LS t := by
  have hl : os.length = (classes LS t).length := by
    have := congrArg List.length ho
    simpa using this
  have hg : ∀ i (hi : i < os.length), os[i].l = (classes LS t)[i]'(by omega) := fun i hi => by
    have : (os.map (·.l))[i]'(by simpa using hi) = (classes LS t)[i]'(by omega) := by simp only [ho]
    simpa using this
  have hk : (classes LS t).length ≤ 49 := by
    rw [ClOk.len_keys]
    have := keysU_len LS (endsT t LS) (endsT t LS).length
    omega
  refine ⟨by have := h.ne; omega, by omega, fun i hi => ?_, fun i k hi hki => ?_, fun i k hi hki => ?_, fun i k hi hki => ?_, by rw [ho]; exact h.total, fun a => by rw [ho]; exact h.pick_good a, fun a ha => by rw [ho]; exact h.union ha, fun x => ?_⟩
  · rw [hg i hi]
    have h1 := h.cok (show i < (classes LS t).length by omega)
    obtain ⟨hp, _⟩ := h.first (show i < (classes LS t).length by omega)
    have h2 := ClOk.clen (show i < (classes LS t).length by omega)
    exact ⟨h1, by omega, hp, cnt_pos h1 hp⟩
  · rw [hg i hi, hg k (by omega)]
    have h1 := h.first_lt hki (show i < (classes LS t).length by omega) (show k < (classes LS t).length by omega)
    rw [← fstS_get (h.first (show i < (classes LS t).length by omega)).1, ← fstS_get (h.first (show k < (classes LS t).length by omega)).1]
    exact h1
  · rw [hg i hi, hg k (by omega)]
    exact h.meet_nil hki (show i < (classes LS t).length by omega) (show k < (classes LS t).length by omega)
  · obtain ⟨j, hj, h1⟩ := h.apart hki (show i < (classes LS t).length by omega) (show k < (classes LS t).length by omega)
    rw [fstS_get, fstS_get] at h1
    refine ⟨j, hj, ?_⟩
    rw [hg i hi, hg k (by omega)]
    exact h1
  · rw [ho]
    have h1 := h.cls x
    refine ⟨h1.1, fun c hc => ?_⟩
    obtain ⟨h2, h3⟩ := h1.2 c hc
    refine ⟨by omega, ?_⟩
    rw [hg c (by omega)]; exact h3
/-- few sets are split without an error -/
theorem splitE_zero {LS : List (List Sp)} {t : Int} (h : ClOk LS t) (h64 : ∀ a ∈ LS, a.length ≤ 64) (hn : (endsT t LS).length ≤ 49) : splitE LS t = 0 := by
  have hv : vErr LS = 0 := vErr_ok (fun j hj => okl_set (h.ok _ (List.getElem_mem hj)) (h64 _ (List.getElem_mem hj)))
  unfold splitE
  rw [if_neg (by simp [hv]), if_neg (by have := h.top; omega), if_neg]
  intro hh
  rw [List.any_eq_true] at hh
  obtain ⟨a, ha, hh⟩ := hh
  obtain ⟨i, hi, rfl⟩ := List.getElem_of_mem ha
  have h1 := ClOk.clen hi
  have := of_decide_eq_true hh
  omega
theorem pick_take {a : List Sp} {os : List Hs} {i : Nat} (hi : i < os.length) (hp : 0 < os[i].l.length) : pickS a ((os.map (·.l)).take (i + 1)) = if has a (fstS os[i].l) = true then pickS a ((os.map (·.l)).take i) ++ os[i].l else pickS a ((os.map (·.l)).take i) := by
  have h1 : i < (os.map (·.l)).length := by simpa using hi
  have e : (os.map (·.l))[i] = os[i].l := by simp
  have h2 := pickS_step (a := a) h1 (by rw [e]; exact hp)
  simp only [e] at h2
  rw [h2, fstS_get hp]
theorem sum_take {os : List Hs} {i : Nat} (hi : i < os.length) : (((os.map (·.l)).take (i + 1)).map cntS).sum = (((os.map (·.l)).take i).map cntS).sum + cntS os[i].l := by
  have h1 : i < (os.map (·.l)).length := by simpa using hi
  rw [List.take_succ_eq_append_getElem h1, List.map_append, List.sum_append]
  simp
end Go.Proofs.Ytlbdjnbcoldjhaa
