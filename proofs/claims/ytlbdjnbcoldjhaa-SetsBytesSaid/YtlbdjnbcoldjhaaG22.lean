/- Split, the plain law: bits in words; which sets have a symbol, from the ends up to it. No program in sight. -/
import Derived.Test.YtlbdjnbcoldjhaaG20
namespace Go.Proofs.Ytlbdjnbcoldjhaa
open Go.RowKit

/-- words that hold bits -/
def WRep (ws : List Int) (f : Nat → Bool) : Prop := ws.length = 16 ∧ ∀ j, j < 16 → ∃ n : Nat, ws[j]? = some (n : Int) ∧ n < 2 ^ 64 ∧ ∀ r, r < 64 → n.testBit r = f (64 * j + r)
theorem WRep.zero : WRep (List.replicate 16 0) (fun _ => false) :=
  ⟨List.length_replicate, fun j hj => ⟨0, by rw [List.getElem?_replicate, if_pos hj]; rfl, by decide, fun r _ => by simp⟩⟩
theorem WRep.toggle {ws : List Int} {f : Nat → Bool} (h : WRep ws f) {q : Nat} (_hq : q < 1024) {n : Nat} (hn : ws[q / 64]? = some (n : Int)) :
    WRep (ws.set (q / 64) ((n ^^^ 2 ^ (q % 64) : Nat) : Int)) (fun x => if x = q then !f q else f x) := by
  refine ⟨by rw [List.length_set]; exact h.1, fun j hj => ?_⟩
  by_cases hjq : j = q / 64
  · subst hjq
    obtain ⟨n', h1, h2, h3⟩ := h.2 (q / 64) hj
    rw [hn] at h1
    injection h1 with h1
    have : n = n' := by omega
    subst this
    have hr : q % 64 < 64 := Nat.mod_lt _ (by decide)
    refine ⟨n ^^^ 2 ^ (q % 64), by rw [List.getElem?_set_self (by rw [h.1]; exact hj)], Nat.xor_lt_two_pow h2 (Nat.pow_lt_pow_right (by decide) hr), fun r hr2 => ?_⟩
    rw [Nat.testBit_xor, h3 r hr2, Nat.testBit_two_pow]
    by_cases e : q % 64 = r
    · have e2 : 64 * (q / 64) + r = q := by omega
      rw [e2]
      simp [e]
    · have e2 : ¬ 64 * (q / 64) + r = q := by omega
      simp [e, e2]
  · obtain ⟨n', h1, h2, h3⟩ := h.2 j hj
    refine ⟨n', by rw [List.getElem?_set_ne (fun e => hjq e.symm)]; exact h1, h2, fun r hr => ?_⟩
    have : ¬ 64 * j + r = q := by omega
    rw [h3 r hr]
    simp only [if_neg this]
theorem WRep.inj {ws vs : List Int} {f g : Nat → Bool} (h : WRep ws f) (k : WRep vs g) : ws = vs ↔ ∀ q, q < 1024 → f q = g q := by
  constructor
  · rintro rfl q hq
    obtain ⟨n, h1, _, h3⟩ := h.2 (q / 64) (by omega)
    obtain ⟨m, k1, _, k3⟩ := k.2 (q / 64) (by omega)
    rw [h1] at k1
    injection k1 with k1
    have : n = m := by omega
    subst this
    have e : 64 * (q / 64) + q % 64 = q := by omega
    have := (h3 (q % 64) (Nat.mod_lt _ (by decide))).symm.trans (k3 (q % 64) (Nat.mod_lt _ (by decide)))
    rwa [e] at this
  · intro hfg
    refine List.ext_getElem? (fun j => ?_)
    rcases Nat.lt_or_ge j 16 with hj | hj
    · obtain ⟨n, h1, h2, h3⟩ := h.2 j hj
      obtain ⟨m, k1, k2, k3⟩ := k.2 j hj
      have : n = m := Nat.eq_of_testBit_eq (fun r => by
        rcases Nat.lt_or_ge r 64 with hr | hr
        · rw [h3 r hr, k3 r hr, hfg _ (by omega)]
        · rw [Nat.testBit_lt_two_pow (Nat.lt_of_lt_of_le h2 (Nat.pow_le_pow_right (by decide) hr)), Nat.testBit_lt_two_pow (Nat.lt_of_lt_of_le k2 (Nat.pow_le_pow_right (by decide) hr))])
      rw [h1, k1, this]
    · rw [List.getElem?_eq_none (by rw [h.1]; exact hj), List.getElem?_eq_none (by rw [k.1]; exact hj)]
theorem WRep.congr {ws : List Int} {f g : Nat → Bool} (h : WRep ws f) (hfg : ∀ q, f q = g q) : WRep ws g := by
  have : f = g := funext hfg
  rw [← this]; exact h

/-- how often set q stands in a list of ends: odd -/
def par (es : List Sp) (q : Nat) : Bool := decide ((es.countP (fun p => p.2 == (q : Int))) % 2 = 1)
theorem par_nil (q : Nat) : par [] q = false := rfl
theorem par_snoc (es : List Sp) (p : Sp) (q : Nat) : par (es ++ [p]) q = if p.2 = q then !par es q else par es q := by
  unfold par
  rw [List.countP_append]
  by_cases h : p.2 = q
  · rw [if_pos h]
    simp only [List.countP_cons, List.countP_nil, h, beq_self_eq_true, if_true]
    generalize List.countP (fun p => p.2 == (q : Int)) es = n
    rw [Bool.eq_iff_iff]
    simp
    omega
  · rw [if_neg h]
    simp [h]
theorem par_perm {es fs : List Sp} (h : es.Perm fs) (q : Nat) : par es q = par fs q := by
  unfold par; rw [h.countP_eq]

theorem cnt_span (top e : Int) (q : Nat) (he : e ≤ top) (s : Sp) (hs : s.1 ≤ s.2) : ((evS q top s).filter (fun p => decide (p.1 ≤ e))).countP (fun p => p.2 == (q : Int)) = (if s.1 ≤ e then 1 else 0) + (if s.2 + 1 ≤ e then 1 else 0) := by
  unfold evS
  by_cases h1 : s.1 ≤ e
  · by_cases h2 : s.2 + 1 ≤ e
    · rw [if_pos (by omega), if_pos (by omega)]
      simp [h1, h2]
    · rw [if_pos (by omega)]
      by_cases h3 : s.2 + 1 ≤ top
      · rw [if_pos h3]; simp [h1, h2]
      · rw [if_neg h3]; simp [h1, h2]
  · have h2 : ¬ s.2 + 1 ≤ e := by omega
    by_cases h4 : s.1 ≤ top
    · rw [if_pos h4]
      by_cases h3 : s.2 + 1 ≤ top
      · rw [if_pos h3]; simp [h1, h2]
      · rw [if_neg h3]; simp [h1, h2]
    · rw [if_neg h4]
      by_cases h3 : s.2 + 1 ≤ top
      · rw [if_pos h3]; simp [h1, h2]
      · rw [if_neg h3]; simp [h1, h2]
/-- of one set: the ends up to e are odd if it has e -/
theorem cnt_set (top e : Int) (q : Nat) (he : e ≤ top) : ∀ (l : List Sp), Canon l → (((evL top q l).filter (fun p => decide (p.1 ≤ e))).countP (fun p => p.2 == (q : Int))) % 2 = if has l e = true then 1 else 0
  | [], _ => by simp [evL, has_nil]
  | s :: l, hc => by
    have ih := cnt_set top e q he l hc.tail
    have hs := hc.1 s (by simp)
    have hfar : has l e = true → s.2 + 2 ≤ e := fun h => hc.far h
    unfold evL at ih ⊢
    rw [List.flatMap_cons, List.filter_append, List.countP_append, cnt_span top e q he s hs, has_cons]
    by_cases hl : has l e = true
    · have := hfar hl
      rw [if_pos hl] at ih
      rw [hl, Bool.or_true, if_pos rfl, if_pos (by omega), if_pos (by omega)]
      omega
    · rw [if_neg hl] at ih
      have hlf : has l e = false := by simpa using hl
      rw [hlf, Bool.or_false]
      by_cases h1 : s.1 ≤ e
      · by_cases h2 : e ≤ s.2
        · rw [if_pos h1, if_neg (by omega), if_pos (by simp [h1, h2])]
          omega
        · rw [if_pos h1, if_pos (by omega), if_neg (by simp [h2])]
          omega
      · rw [if_neg h1, if_neg (by omega), if_neg (by simp [h1])]
        omega
theorem cnt_other (top e : Int) (q i : Nat) (hqi : i ≠ q) (l : List Sp) : ((evL top i l).filter (fun p => decide (p.1 ≤ e))).countP (fun p => p.2 == (q : Int)) = 0 := by
  rw [List.countP_eq_zero]
  intro p hp
  obtain ⟨hp, _⟩ := List.mem_filter.1 hp
  unfold evL at hp
  obtain ⟨s, _, hp⟩ := List.mem_flatMap.1 hp
  unfold evS at hp
  have : p.2 = (i : Int) := by
    rcases List.mem_append.1 hp with hp | hp
    · split at hp
      · obtain rfl := List.mem_singleton.1 hp; rfl
      · simp at hp
    · split at hp
      · obtain rfl := List.mem_singleton.1 hp; rfl
      · simp at hp
  rw [this]
  simp; omega
/-- the ends up to e tell which sets have e -/
theorem par_has (top e : Int) (he : e ≤ top) (ls : List (List Sp)) (hc : ∀ a ∈ ls, Canon a) (q : Nat) : par ((evs top ls).filter (fun p => decide (p.1 ≤ e))) q = (if q < ls.length then has (ls.getD q []) e else false) := by
  have key : ∀ n, n ≤ ls.length → ((((List.range n).flatMap (fun i => evL top i (ls.getD i []))).filter (fun p => decide (p.1 ≤ e))).countP (fun p => p.2 == (q : Int))) % 2 = if q < n ∧ has (ls.getD q []) e = true then 1 else 0 := by
    intro n
    induction n with
    | zero => intro _; simp
    | succ n ih =>
      intro hn
      rw [List.range_succ, List.flatMap_append, List.filter_append, List.countP_append]
      have h1 := ih (by omega)
      simp only [List.flatMap_cons, List.flatMap_nil, List.append_nil]
      by_cases hq : n = q
      · subst hq
        have h2 := cnt_set top e n he (ls.getD n []) (by
          have : ls.getD n [] = ls[n] := by simp [List.getD_eq_getElem?_getD, show n < ls.length by omega]
          rw [this]; exact hc _ (List.getElem_mem _))
        rw [if_neg (by omega)] at h1
        by_cases hh : has (ls.getD n []) e = true
        · rw [if_pos hh] at h2
          rw [if_pos ⟨by omega, hh⟩]; omega
        · rw [if_neg hh] at h2
          rw [if_neg (fun h => hh h.2)]; omega
      · rw [cnt_other top e q n hq, Nat.add_zero, h1]
        have : (q < n + 1) ↔ (q < n) := by omega
        simp only [this]
  have h := key ls.length (Nat.le_refl _)
  unfold par evs
  by_cases hq : q < ls.length
  · rw [if_pos hq]
    cases hh : has (ls.getD q []) e
    · rw [if_neg (fun x => by rw [hh] at x; cases x.2)] at h
      rw [h]; rfl
    · rw [if_pos ⟨hq, hh⟩] at h
      rw [h]; rfl
  · rw [if_neg hq]
    rw [if_neg (fun x => hq x.1)] at h
    rw [h]; rfl
end Go.Proofs.Ytlbdjnbcoldjhaa
