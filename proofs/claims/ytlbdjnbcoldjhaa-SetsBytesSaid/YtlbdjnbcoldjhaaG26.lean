/- Split: the keys in the map: a key is there exactly if its class is. No program in sight. -/
import Derived.Test.YtlbdjnbcoldjhaaG24
namespace Go.Proofs.Ytlbdjnbcoldjhaa
open Go.RowKit

theorem list16 {α : Type} : ∀ {l : List α}, l.length = 16 → ∃ a0 a1 a2 a3 a4 a5 a6 a7 a8 a9 a10 a11 a12 a13 a14 a15, l = [a0, a1, a2, a3, a4, a5, a6, a7, a8, a9, a10, a11, a12, a13, a14, a15] := by
  intro l h
  iterate 16 (rcases l with _ | ⟨_, l⟩; · simp at h)
  simp only [List.length_cons] at h
  obtain rfl := List.length_eq_zero_iff.1 (by omega : l.length = 0)
  exact ⟨_, _, _, _, _, _, _, _, _, _, _, _, _, _, _, _, rfl⟩

theorem vec_len (ls : List (List Sp)) (x : Int) : (vec ls x).length = ls.length := by unfold vec; simp
theorem keysU_all (ls : List (List Sp)) (E : List Int) : ∀ i, ∀ v ∈ keysU ls E i, v.length = ls.length
  | 0, v, h => by simp [keysU] at h
  | i + 1, v, h => by
    unfold keysU at h
    split at h
    · exact keysU_all ls E i v h
    · rcases List.mem_append.1 h with h | h
      · exact keysU_all ls E i v h
      · obtain rfl := List.mem_singleton.1 h
        exact vec_len _ _
theorem vec_bits {ls : List (List Sp)} {x : Int} {q : Nat} : (vec ls x).getD q false = (if q < ls.length then has (ls.getD q []) x else false) := by
  unfold vec
  by_cases h : q < ls.length
  · simp [List.getD_eq_getElem?_getD, h]
  · simp [List.getD_eq_getElem?_getD, h]

theorem at_none' {α β : Type} [DecidableEq α] {l : List (α × β)} {x : α} (h : ∀ p ∈ l, p.1 ≠ x) : at? l x = none := by
  unfold at?
  rw [List.find?_eq_none.2 (fun p hp hc => h p hp (beq_iff_eq.1 hc))]
  rfl
theorem at_some' {α β : Type} [DecidableEq α] {l : List (α × β)} {x : α} {y : β} {p : α × β} (hp : p ∈ l) (hx : p.1 = x) (h : ∀ q ∈ l, q.1 = x → q.2 = y) : at? l x = some y := by
  unfold at?
  cases hf : l.find? (fun p => p.1 == x) with
  | none => exact absurd (beq_iff_eq.2 hx) (List.find?_eq_none.1 hf p hp)
  | some q => rw [Option.map_some, h q (List.mem_of_find?_eq_some hf) (beq_iff_eq.1 (show (q.1 == x) = true from by have := List.find?_some (p := fun (p : α × β) => p.1 == x) hf; exact this))]
theorem keys_at {ents : List (K16 × Int)} {K : List (List Bool)} {v : List Bool} {ws : List Int} {L : Nat} (hw : ws.length = 16) (hr : WRep ws (fun q => v.getD q false)) (hL : L ≤ 1024) (hv : v.length = L) (hK : ∀ k ∈ K, k.length = L)
    (hl : ents.length = K.length) (he : ∀ n (h : n < ents.length), ents[n].2 = (n : Int) ∧ WRep ents[n].1.1 (fun q => (K.getD n []).getD q false)) :
    (v ∉ K → at? ents ⟨ws, hw⟩ = none) ∧ (∀ n (hn : n < K.length), K.Nodup → K[n] = v → at? ents ⟨ws, hw⟩ = some (n : Int)) := by
  have key : ∀ n (h : n < ents.length), ents[n].1 = ⟨ws, hw⟩ ↔ K[n]'(by omega) = v := by
    intro n h
    have h1 := (he n h).2.inj hr
    have hkn : K.getD n [] = K[n]'(by omega) := by simp [List.getD_eq_getElem?_getD, show n < K.length by omega]
    rw [hkn] at h1
    rw [Subtype.ext_iff]
    refine h1.trans ⟨fun hq => ?_, fun e => by rw [e]; intros; rfl⟩
    have hln := hK _ (List.getElem_mem (show n < K.length by omega))
    refine List.ext_getElem (by omega) (fun q h2 h3 => ?_)
    have := hq q (by omega)
    simpa [List.getD_eq_getElem?_getD, h2, h3] using this
  constructor
  · intro hn
    refine at_none' (fun p hp hc => ?_)
    obtain ⟨n, h, rfl⟩ := List.getElem_of_mem hp
    exact hn (by rw [← (key n h).1 hc]; exact List.getElem_mem _)
  · intro n hn hd hkn
    refine at_some' (List.getElem_mem (show n < ents.length by omega)) ((key n (by omega)).2 hkn) (fun p hp hc => ?_)
    obtain ⟨m, hm, rfl⟩ := List.getElem_of_mem hp
    have h2 := (key m hm).1 hc
    have h3 : m = n := (List.getElem_inj hd (h₀ := by omega) (h₁ := hn)).1 (h2.trans hkn.symm)
    subst h3
    exact (he m hm).1
theorem putL_new {α β : Type} [DecidableEq α] {l : List (α × β)} {x : α} (h : at? l x = none) (v : β) : putL l x v = l ++ [(x, v)] := by
  unfold putL
  have : l.any (fun p => p.1 == x) = false := by
    unfold at? at h
    rw [Option.map_eq_none_iff, List.find?_eq_none] at h
    rw [List.any_eq_false]; exact h
  rw [this]; simp
theorem clsU_good {ls : List (List Sp)} {E : List Int} {top : Int} {v : List Bool} {i : Nat} (hE : Ends E top) (h0 : E.head? = some 0) (ht : top ≤ 1114111) : ∀ s ∈ clsU ls E top v i, goodS s := by
  refine addAll_good (by simp) (fun u hu => ?_)
  have hu2 := List.mem_of_mem_take (List.mem_filter.1 hu).1
  have h8 := segsT_mem hE u hu2
  have h10 : 0 ≤ u.1 := by
    rcases E with _ | ⟨a, l⟩
    · simp at h0
    · obtain rfl : a = 0 := by simpa using h0
      rcases List.mem_cons.1 h8.1 with e | e
      · omega
      · have := (List.pairwise_cons.1 hE.inc).1 _ e
        omega
  unfold goodS
  omega
theorem seg_good {E : List Int} {top : Int} {i : Nat} (hi : i < E.length) (hE : Ends E top) (h0 : E.head? = some 0) (ht : top ≤ 1114111) : goodS (E[i], if h : i + 1 < E.length then E[i + 1] - 1 else top) := by
  have hm : (E[i], if h : i + 1 < E.length then E[i + 1] - 1 else top) ∈ segsT E top := by
    rw [← segsT_get hi]
    exact List.getElem_mem _
  have h8 := segsT_mem hE _ hm
  have h10 : 0 ≤ E[i] := by
    rcases E with _ | ⟨a, l⟩
    · simp at h0
    · obtain rfl : a = 0 := by simpa using h0
      rcases List.mem_cons.1 h8.1 with e | e
      · simp only at e; omega
      · have := (List.pairwise_cons.1 hE.inc).1 _ e
        simp only at this; omega
  unfold goodS
  simp only at h8 ⊢
  omega
theorem clsU_len {ls : List (List Sp)} {E : List Int} {top : Int} {v : List Bool} {i : Nat} : (clsU ls E top v i).length ≤ i := by
  have h1 := addAll_len (((segsT E top).take i).filter (fun s => decide (vec ls s.1 = v))) []
  have h2 := List.length_filter_le (fun s : Sp => decide (vec ls s.1 = v)) ((segsT E top).take i)
  have h3 := List.length_take_le i (segsT E top)
  unfold clsU
  simp only [List.length_nil] at h1
  omega
/-- the next piece: which class it is of -/
theorem keys_old {ls : List (List Sp)} {E : List Int} {i : Nat} (hi : i < E.length) (h : vec ls E[i] ∈ keysU ls E i) : keysU ls E (i + 1) = keysU ls E i := by
  have hd : E.getD i 0 = E[i] := by simp [List.getD_eq_getElem?_getD, hi]
  rw [keysU, hd, if_pos h]
theorem keys_new {ls : List (List Sp)} {E : List Int} {i : Nat} (hi : i < E.length) (h : vec ls E[i] ∉ keysU ls E i) : keysU ls E (i + 1) = keysU ls E i ++ [vec ls E[i]] := by
  have hd : E.getD i 0 = E[i] := by simp [List.getD_eq_getElem?_getD, hi]
  rw [keysU, hd, if_neg h]
/-- an old class: its slice is added to, the others stay -/
theorem step_old {ls : List (List Sp)} {E : List Int} {top : Int} {i n : Nat} {hs : List Hs} {A' : Option Addr} {c' : Nat} (hi : i < E.length) (hl : hs.length = (keysU ls E i).length) (hn : n < hs.length)
    (hk : (keysU ls E i)[n]'(by omega) = vec ls E[i]) (hc : ∀ k (h : k < hs.length), hs[k].l = clsU ls E top ((keysU ls E i).getD k []) i) :
    ∀ k (h : k < (hs.set n ⟨A', c', addS (clsU ls E top (vec ls E[i]) i) (E[i], if h : i + 1 < E.length then E[i + 1] - 1 else top)⟩).length), (hs.set n ⟨A', c', addS (clsU ls E top (vec ls E[i]) i) (E[i], if h : i + 1 < E.length then E[i + 1] - 1 else top)⟩)[k].l = clsU ls E top ((keysU ls E (i + 1)).getD k []) (i + 1) := by
  intro k h
  rw [List.length_set] at h
  have hmem : vec ls E[i] ∈ keysU ls E i := by rw [← hk]; exact List.getElem_mem _
  have hkd : (keysU ls E i).getD k [] = (keysU ls E i)[k]'(by omega) := by simp [List.getD_eq_getElem?_getD, show k < (keysU ls E i).length by omega]
  rw [keys_old hi hmem, clsU_succ hi, List.getElem_set, hkd]
  by_cases hkn : n = k
  · subst hkn
    rw [if_pos rfl, hk, if_pos rfl]
  · rw [if_neg hkn, if_neg, hc k h, hkd]
    intro e
    have := (List.getElem_inj (keysU_nodup ls E i) (h₀ := by omega) (h₁ := by omega)).1 (hk.trans e)
    exact hkn this
/-- a new class: at the end -/
theorem step_new {ls : List (List Sp)} {E : List Int} {top : Int} {i : Nat} {hs : List Hs} {A' : Option Addr} {c' : Nat} (hi : i < E.length) (hl : hs.length = (keysU ls E i).length)
    (hk : vec ls E[i] ∉ keysU ls E i) (hc : ∀ k (h : k < hs.length), hs[k].l = clsU ls E top ((keysU ls E i).getD k []) i) :
    ∀ k (h : k < (hs ++ [(⟨A', c', addS [] (E[i], if h : i + 1 < E.length then E[i + 1] - 1 else top)⟩ : Hs)]).length), (hs ++ [(⟨A', c', addS [] (E[i], if h : i + 1 < E.length then E[i + 1] - 1 else top)⟩ : Hs)])[k].l = clsU ls E top ((keysU ls E (i + 1)).getD k []) (i + 1) := by
  intro k h
  rw [List.length_append, List.length_singleton] at h
  rw [keys_new hi hk, clsU_succ hi]
  by_cases hkn : k < hs.length
  · have hkd : (keysU ls E i).getD k [] = (keysU ls E i)[k]'(by omega) := by simp [List.getD_eq_getElem?_getD, show k < (keysU ls E i).length by omega]
    have hkd2 : (keysU ls E i ++ [vec ls E[i]]).getD k [] = (keysU ls E i)[k]'(by omega) := by
      rw [List.getD_eq_getElem?_getD, List.getElem?_append_left (by omega)]
      simp [show k < (keysU ls E i).length by omega]
    rw [hkd2, List.getElem_append_left hkn, hc k hkn, hkd, if_neg]
    intro e
    exact hk (by rw [e]; exact List.getElem_mem _)
  · have hke : k = hs.length := by omega
    subst hke
    have hkd2 : (keysU ls E i ++ [vec ls E[i]]).getD hs.length [] = vec ls E[i] := by
      rw [List.getD_eq_getElem?_getD, List.getElem?_append_right (by omega), hl]
      simp
    rw [hkd2, if_pos rfl, clsU_new (by omega) hk]
    simp
end Go.Proofs.Ytlbdjnbcoldjhaa
