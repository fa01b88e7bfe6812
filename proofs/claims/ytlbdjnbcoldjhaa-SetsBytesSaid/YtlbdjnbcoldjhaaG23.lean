/- Split, the plain law: the ends one after the other are those of the reference; the classes. No program in sight. -/
import Derived.Test.YtlbdjnbcoldjhaaG22
namespace Go.Proofs.Ytlbdjnbcoldjhaa
open Go.RowKit

theorem evs_mem {top : Int} {ls : List (List Sp)} {p : Sp} : p ∈ evs top ls ↔ ∃ q, ∃ h : q < ls.length, ∃ s ∈ ls[q], p.2 = (q : Int) ∧ p.1 ≤ top ∧ (p.1 = s.1 ∨ p.1 = s.2 + 1) := by
  unfold evs evL evS
  simp only [List.mem_flatMap, List.mem_range, List.mem_append]
  constructor
  · rintro ⟨q, hq, s, hs, hp⟩
    have e : ls.getD q [] = ls[q] := by simp [List.getD_eq_getElem?_getD, hq]
    rw [e] at hs
    refine ⟨q, hq, s, hs, ?_⟩
    rcases hp with hp | hp
    · split at hp
      · obtain rfl := List.mem_singleton.1 hp
        exact ⟨rfl, by assumption, .inl rfl⟩
      · simp at hp
    · split at hp
      · obtain rfl := List.mem_singleton.1 hp
        exact ⟨rfl, by assumption, .inr rfl⟩
      · simp at hp
  · rintro ⟨q, hq, s, hs, h2, h1, h3⟩
    have e : ls.getD q [] = ls[q] := by simp [List.getD_eq_getElem?_getD, hq]
    refine ⟨q, hq, s, by rw [e]; exact hs, ?_⟩
    obtain ⟨a, b⟩ := p
    simp only at h1 h2 h3
    rcases h3 with h3 | h3
    · left; rw [if_pos (by omega)]; simp [h2, h3]
    · right; rw [if_pos (by omega)]; simp [h2, h3]

/-- the ends of the reference and those with their sets' numbers -/
structure EvOk (E : List Int) (m : List Sp) (top : Int) : Prop where
  ends : Ends E top
  head : E.head? = some 0
  mem : ∀ p ∈ m, p.1 ∈ E
  all : ∀ x ∈ E, x = 0 ∨ ∃ p ∈ m, p.1 = x
  srt : m.Pairwise (fun s t => s.1 ≤ t.1)
theorem EvOk.of {top : Int} (ht : 0 ≤ top) {ls : List (List Sp)} (hg : ∀ a ∈ ls, ∀ s ∈ a, goodS s) {m : List Sp} (hp : (evs top ls).Perm m) (hs : m.Pairwise (fun s t => s.1 ≤ t.1)) : EvOk (endsT top ls) m top := by
  have hg2 : ∀ s ∈ ls.flatten, 0 ≤ s.1 ∧ s.1 ≤ s.2 := fun s hs => by
    obtain ⟨a, ha, hs⟩ := List.mem_flatten.1 hs
    have := hg a ha s hs
    unfold goodS at this; omega
  have h := endsT_ok ht hg2
  refine ⟨h.ends, h.head, fun p hpm => ?_, fun x hx => ?_, hs⟩
  · obtain ⟨q, hq, s, hs, _, h1, h2⟩ := evs_mem.1 (hp.mem_iff.2 hpm)
    have hin := h.inn s (List.mem_flatten.2 ⟨_, List.getElem_mem hq, hs⟩)
    rcases h2 with h2 | h2
    · rw [h2] at h1 ⊢; exact hin.1 h1
    · rw [h2] at h1 ⊢; exact hin.2 h1
  · rcases h.only x hx with h1 | ⟨s, hs, h1⟩
    · exact .inl h1
    · obtain ⟨a, ha, hsa⟩ := List.mem_flatten.1 hs
      obtain ⟨q, hq, rfl⟩ := List.getElem_of_mem ha
      exact .inr ⟨(x, (q : Int)), hp.mem_iff.1 (evs_mem.2 ⟨q, hq, s, hsa, rfl, h.ends.le x hx, h1⟩), rfl⟩

/-- the ends are read up to x -/
def Cut (m pre rem : List Sp) (x : Int) : Prop := m = pre ++ rem ∧ (∀ p ∈ pre, p.1 ≤ x) ∧ ∀ p ∈ rem, x < p.1
theorem EvOk.next {E : List Int} {m pre rem : List Sp} {top : Int} (h : EvOk E m top) {i : Nat} (hi : i < E.length) (hc : Cut m pre rem E[i]) :
    (if h : i + 1 < E.length then E[i + 1] - 1 else top) = (match rem with | [] => top | p :: _ => p.1 - 1) := by
  obtain ⟨hm, hpre, hrem⟩ := hc
  have hinc := List.pairwise_iff_getElem.1 h.ends.inc
  by_cases hn : i + 1 < E.length
  · rw [dif_pos hn]
    have hgt := hinc i (i + 1) hi hn (by omega)
    have h0 : 0 ≤ E[i] := by
      have he : E[0]'(by omega) = 0 := by
        have := h.head
        rw [List.head?_eq_getElem?, List.getElem?_eq_getElem (by omega)] at this
        injection this
      rcases Nat.eq_zero_or_pos i with rfl | hp
      · omega
      · have := hinc 0 i (by omega) hi hp
        omega
    rcases h.all E[i + 1] (List.getElem_mem hn) with h1 | ⟨p, hp, h1⟩
    · omega
    · have hpr : p ∈ rem := by
        rw [hm] at hp
        rcases List.mem_append.1 hp with h2 | h2
        · have := hpre p h2; omega
        · exact h2
      cases rem with
      | nil => simp at hpr
      | cons r rem =>
        simp only
        have hr := hrem r (by simp)
        have hrE := h.mem r (by rw [hm]; simp)
        obtain ⟨j, hj, hje⟩ := List.getElem_of_mem hrE
        have hle : r.1 ≤ p.1 := by
          have hs := h.srt
          rw [hm] at hs
          have h2 := (List.pairwise_append.1 hs).2.1
          rcases List.mem_cons.1 hpr with rfl | h3
          · exact Int.le_refl _
          · exact (List.pairwise_cons.1 h2).1 p h3
        have hij : i < j := by
          rcases Nat.lt_or_ge i j with h2 | h2
          · exact h2
          · rcases Nat.lt_or_ge j i with h3 | h3
            · have := hinc j i hj hi h3; omega
            · have : i = j := by omega
              subst this; omega
        have : E[i + 1] ≤ r.1 := by
          rcases Nat.lt_or_ge (i + 1) j with h2 | h2
          · have := hinc (i + 1) j hn hj h2; omega
          · have : j = i + 1 := by omega
            subst this; omega
        omega
  · rw [dif_neg hn]
    cases rem with
    | nil => rfl
    | cons r rem =>
      exfalso
      have hr := hrem r (by simp)
      obtain ⟨j, hj, hje⟩ := List.getElem_of_mem (h.mem r (by rw [hm]; simp))
      rcases Nat.lt_or_ge j i with h3 | h3
      · have := hinc j i hj hi h3; omega
      · have : j = i := by omega
        subst this; omega
theorem Cut.filter {m pre rem : List Sp} {x : Int} (h : Cut m pre rem x) : m.filter (fun p => decide (p.1 ≤ x)) = pre := by
  obtain ⟨hm, h1, h2⟩ := h
  rw [hm, List.filter_append, List.filter_eq_self.2 (fun p hp => by simpa using h1 p hp), List.filter_eq_nil_iff.2 (fun p hp => by have := h2 p hp; simp; omega), List.append_nil]

/-- which sets have x -/
def vec (ls : List (List Sp)) (x : Int) : List Bool := ls.map (fun a => has a x)
/-- the keys in the order in which they come up -/
def keysU (ls : List (List Sp)) (E : List Int) : Nat → List (List Bool)
  | 0 => []
  | i + 1 => if vec ls (E.getD i 0) ∈ keysU ls E i then keysU ls E i else keysU ls E i ++ [vec ls (E.getD i 0)]
/-- the classes -/
def classes (ls : List (List Sp)) (top : Int) : List (List Sp) := (keysU ls (endsT top ls) (endsT top ls).length).map (fun v => cls (endsT top ls) top (fun x => decide (vec ls x = v)))
theorem keysU_nodup (ls : List (List Sp)) (E : List Int) : ∀ i, (keysU ls E i).Nodup
  | 0 => List.nodup_nil
  | i + 1 => by
    unfold keysU
    split
    · exact keysU_nodup ls E i
    · rename_i h
      refine List.nodup_append.2 ⟨keysU_nodup ls E i, by simp, fun a ha b hb => ?_⟩
      obtain rfl := List.mem_singleton.1 hb
      rintro rfl
      exact h ha
theorem keysU_len (ls : List (List Sp)) (E : List Int) : ∀ i, (keysU ls E i).length ≤ i
  | 0 => Nat.le_refl _
  | i + 1 => by
    have := keysU_len ls E i
    unfold keysU
    split
    · omega
    · simp; omega
/-- class v of the first i pieces -/
def clsU (ls : List (List Sp)) (E : List Int) (top : Int) (v : List Bool) (i : Nat) : List Sp := (((segsT E top).take i).filter (fun s => decide (vec ls s.1 = v))).foldl addS []
theorem clsU_all (ls : List (List Sp)) (E : List Int) (top : Int) (v : List Bool) : clsU ls E top v E.length = cls E top (fun x => decide (vec ls x = v)) := by
  unfold clsU
  rw [List.take_of_length_le (by rw [segsT_len]; exact Nat.le_refl _)]
  rfl
theorem clsU_succ {ls : List (List Sp)} {E : List Int} {top : Int} {v : List Bool} {i : Nat} (hi : i < E.length) :
    clsU ls E top v (i + 1) = if vec ls E[i] = v then addS (clsU ls E top v i) (E[i], if h : i + 1 < E.length then E[i + 1] - 1 else top) else clsU ls E top v i := by
  unfold clsU
  rw [List.take_succ_eq_append_getElem (by rw [segsT_len]; exact hi), segsT_get hi, List.filter_append, List.foldl_append]
  by_cases h : vec ls E[i] = v <;> simp [h]
theorem clsU_new {ls : List (List Sp)} {E : List Int} {top : Int} {v : List Bool} : ∀ {i : Nat}, i ≤ E.length → v ∉ keysU ls E i → clsU ls E top v i = []
  | 0, _, _ => rfl
  | i + 1, hi, h => by
    have hi' : i < E.length := by omega
    have hd : E.getD i 0 = E[i] := by simp [List.getD_eq_getElem?_getD, hi']
    unfold keysU at h
    rw [hd] at h
    have h2 : v ∉ keysU ls E i := fun hm => by
      split at h
      · exact h hm
      · exact h (List.mem_append_left _ hm)
    have h3 : vec ls E[i] ≠ v := fun e => by
      rw [e] at h
      split at h
      · exact h (by assumption)
      · exact h (by simp)
    rw [clsU_succ hi', if_neg h3]
    exact clsU_new (by omega) h2
end Go.Proofs.Ytlbdjnbcoldjhaa
