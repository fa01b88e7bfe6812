/- Walks of package sets: Split: what it holds in memory. -/
import Derived.Test.YtlbdjnbcoldjhaaG23
import Derived.Test.YtlbdjnbcoldjhaaG21
namespace Go.Proofs.Ytlbdjnbcoldjhaa
open Go.RowKit

/-- the first set that is none -/
noncomputable def vErr : List (List Sp) → Int
  | [] => 0
  | a :: r => if validE a = 0 then vErr r else validE a
theorem vErr_bad : ∀ {ls : List (List Sp)} {i : Nat} (hi : i < ls.length), (∀ j (hj : j < ls.length), j < i → validE ls[j] = 0) → validE ls[i] ≠ 0 → vErr ls = validE ls[i]
  | a :: r, 0, _, _, h => by
    have h' : validE a ≠ 0 := h
    unfold vErr
    rw [if_neg h']; rfl
  | a :: r, i + 1, hi, h0, h => by
    have ha := h0 0 (by simp) (by omega)
    simp only [List.getElem_cons_zero] at ha
    unfold vErr
    rw [if_pos ha]
    exact vErr_bad (by simpa using hi) (fun j hj hji => h0 (j + 1) (by simpa using hj) (by omega)) h
theorem vErr_ok : ∀ {ls : List (List Sp)}, (∀ j (hj : j < ls.length), validE ls[j] = 0) → vErr ls = 0
  | [], _ => rfl
  | a :: r, h => by
    have ha := h 0 (by simp)
    simp only [List.getElem_cons_zero] at ha
    unfold vErr
    rw [if_pos ha]
    exact vErr_ok (fun j hj => h (j + 1) (by simpa using hj))
theorem validE_zero {a : List Sp} (h : validE a = 0) : OkL a ∧ a.length ≤ 64 := by
  unfold validE at h
  by_cases hk : OkL a
  · rw [if_pos hk] at h
    refine ⟨hk, ?_⟩
    by_cases h64 : 64 < a.length
    · rw [if_pos h64] at h; omega
    · omega
  · rw [if_neg hk] at h; omega
theorem vErr_zero : ∀ {ls : List (List Sp)}, vErr ls = 0 → ∀ a ∈ ls, validE a = 0
  | [], _, a, ha => by simp at ha
  | b :: r, h, a, ha => by
    unfold vErr at h
    by_cases hb : validE b = 0
    · rw [if_pos hb] at h
      rcases List.mem_cons.1 ha with rfl | ha
      · exact hb
      · exact vErr_zero h a ha
    · rw [if_neg hb] at h; exact absurd h hb

noncomputable def splitE (ls : List (List Sp)) (top : Int) : Int :=
  if vErr ls ≠ 0 then vErr ls else if top < 0 ∨ 1114111 < top then 5 else if (classes ls top).any (fun a => decide (64 < a.length)) = true then 4 else 0
/-- what Split leaves -/
def RetSplit (ls : List (List Sp)) (top : Int) (w : World) (e : Ending) (w' : World) : Prop :=
  ∃ (O : Option Addr) (cO : Nat) (hs : List Hs), e = .returned (.tuple #[.slice O hs.length cO, .int .i64 (splitE ls top)]) ∧ LLS w' O cO hs ∧ hs.map (·.l) = (if splitE ls top = 0 then classes ls top else []) ∧ Ext w w'
theorem LLS.nil (w : World) : LLS w none 0 [] := ⟨Nat.le_refl _, Nat.zero_le _, by simp, fun h => absurd rfl h⟩

theorem SL.drop1 {w : World} {b o c : Nat} {p : Sp} {l : List Sp} (h : SL w (some ⟨b, o, none⟩) c (p :: l)) : SL w (some ⟨b, o + 2, none⟩) (c - 1) l := by
  refine ⟨by have := h.le; simp at this; omega, by have := h.cap; omega, fun s hs => h.rng s (by simp [hs]), fun _ => ?_⟩
  obtain ⟨b', o', he, hc⟩ := h.at_ (by simp)
  injection he with he; injection he with e1 e2 _
  subst e1; subst e2
  refine ⟨b, o + 2, rfl, fun i hi => ?_⟩
  have := hc (i + 1) (by simpa using hi)
  have e : o + (i + 1) * 2 = o + 2 + i * 2 := by omega
  rw [e] at this
  simpa using this

/-- the classes in memory: each in a block of its own -/
def flatH (hs : List Hs) : List Value := hs.map fun h => .slice h.A h.l.length h.c
theorem flatH_one (l : List Hs) : ∀ u ∈ flatH l, u.oneCell' = true := by
  intro u hu
  obtain ⟨t, _, rfl⟩ := List.mem_map.1 hu
  rfl
theorem infoSl : (Try.prog.info? 24).map (fun i => (i.zero, i.size, i.bytes)) = some (some (.slice none 0 0), 1, 24) := by kernel_rfl
structure SO (w : World) (base : Nat) (O : Option Addr) (cO : Nat) (hs : List Hs) : Prop where
  own : OwnS w base 24 1 O hs.length cO (flatH hs)
  each : ∀ h ∈ hs, OwnP w base h.A h.c h.l
  apart : ∀ i j (hi : i < hs.length) (hj : j < hs.length), i ≠ j → ∀ b, hs[i].A.map (·.block) = some b → hs[j].A.map (·.block) ≠ some b
namespace SO
variable {w w' : World} {base cO : Nat} {O : Option Addr} {hs : List Hs}
theorem nil (w : World) (base : Nat) : SO w base none 0 [] := ⟨OwnS.nil _ _ _ _, by simp, fun i j hi => by simp at hi⟩
theorem ext (h : SO w base O cO hs) (x : Ext w w') : SO w' base O cO hs := ⟨OwnS.ext h.own x, fun z hz => (h.each z hz).ext x, h.apart⟩
/-- what writes into no block of a slice of slices or of spans -/
theorem kp (h : SO w base O cO hs) {g T : Nat} {cs : Array Value} (hb : Blk w g T cs) (hT : T ≠ 24) (hT2 : T ≠ 48) (k : KpP (· = g) w w') : SO w' base O cO hs :=
  ⟨OwnS.kp h.own k (fun b hA e => own_blk h.own hb (fun e2 => hT e2.symm) (by rw [hA, e])), fun z hz => (h.each z hz).kp k (fun b hA e => own_blk (h.each z hz) hb (fun e2 => hT2 e2.symm) (by rw [hA, e])), h.apart⟩
theorem sl (h : SO w base O cO hs) (hg : ∀ z ∈ hs, ∀ s ∈ z.l, goodS s) : LLS w O cO hs := by
  have hc := OwnS.caps h.own
  refine ⟨hc.1, by unfold maxLen; omega, fun z hz => (h.each z hz).sl (hg z hz), fun hn => ?_⟩
  obtain ⟨b, o, hA, hcell⟩ := OwnS.cells h.own (by intro e; exact hn (List.map_eq_nil_iff.1 e))
  refine ⟨b, o, hA, fun i hi => ?_⟩
  have := hcell i (by simpa [flatH] using hi)
  simpa [flatH] using this
/-- out = append(out, nil) -/
theorem add (h : SO w base O cO hs) {O' : Option Addr} {cO' : Nat} (hg : w.grownBy w' (O.map (·.block))) (ho : OwnS w' base 24 1 O' (hs.length + 1) cO' (flatH hs ++ [.slice none 0 0])) : SO w' base O' cO' (hs ++ [⟨none, 0, []⟩]) := by
  have hk := KpP.of_grown hg
  refine ⟨by rw [List.length_append]; unfold flatH at ho ⊢; rw [List.map_append]; exact ho, fun z hz => ?_, fun i j hi hj hij b hb hb2 => ?_⟩
  · rcases List.mem_append.1 hz with hz | hz
    · exact (h.each z hz).kp hk (fun b hA e => own_ne (h.each z hz) h.own (by decide) hA e)
    · obtain rfl := List.mem_singleton.1 hz
      exact OwnP.nil _ _
  · rw [List.length_append, List.length_singleton] at hi hj
    have hi' : i < hs.length := by
      rcases Nat.lt_or_ge i hs.length with hh | hh
      · exact hh
      · have : i = hs.length := by omega
        subst this
        simp at hb
    have hj' : j < hs.length := by
      rcases Nat.lt_or_ge j hs.length with hh | hh
      · exact hh
      · have : j = hs.length := by omega
        subst this
        simp at hb2
    rw [List.getElem_append_left hi'] at hb
    rw [List.getElem_append_left hj'] at hb2
    exact h.apart i j hi' hj' hij b hb hb2
/-- out[n] = add(out[n], ..): the block of class n was written, or is new -/
theorem put (h : SO w base O cO hs) {n : Nat} (hn : n < hs.length) {A' : Option Addr} {c' : Nat} {l' : List Sp} (k : KpP (fun b => hs[n].A.map (·.block) = some b) w w') (ho : OwnP w' base A' c' l')
    (hat : A'.map (·.block) = hs[n].A.map (·.block) ∨ ∃ b, A'.map (·.block) = some b ∧ w.heap.size ≤ b) :
    ∃ g, O = some ⟨g, 0, none⟩ ∧ base ≤ g ∧ w'.cell? ⟨g, n, none⟩ = some (.slice hs[n].A hs[n].l.length hs[n].c) ∧ w'.frozen? ⟨g, n, none⟩ = false ∧ SO (w'.setCell ⟨g, n, none⟩ (.slice A' l'.length c')) base O cO (hs.set n ⟨A', c', l'⟩) := by
  have hmem := List.getElem_mem hn
  have hO' := OwnS.kp h.own k (fun b hA e => own_ne (h.each _ hmem) h.own (by decide) e hA)
  have hfl : n < (flatH hs).length := by simpa [flatH] using hn
  obtain ⟨g, hOe, hgb, c1, z1, glt, st⟩ := OwnS.store hO' hfl
  have hset : (flatH hs).set n (.slice A' l'.length c') = flatH (hs.set n ⟨A', c', l'⟩) := by
    unfold flatH
    rw [List.map_set]
  have hst := st (.slice A' l'.length c')
  rw [hset] at hst
  have hgO : ∀ {A : Option Addr} {c : Nat} {l : List Sp}, OwnP w' base A c l → A.map (·.block) ≠ some g := fun {A c l} hp => by
    intro e
    exact own_ne hp hO' (by decide) e (by rw [hOe]; rfl)
  refine ⟨g, hOe, hgb, by rw [c1]; simp [flatH], z1, ⟨by rw [List.length_set]; exact hst, fun z hz => ?_, fun i j hi hj hij b hb hb2 => ?_⟩⟩
  · obtain ⟨i, hi, rfl⟩ := List.getElem_of_mem hz
    rw [List.length_set] at hi
    rw [List.getElem_set]
    split
    · exact OwnS.far ho (hgO ho) _
    · rename_i hne
      have hei := h.each _ (List.getElem_mem hi)
      have := hei.kp k (fun b hA e => h.apart i n hi hn (fun x => hne x.symm) b hA e)
      exact OwnS.far this (hgO this) _
  · rw [List.length_set] at hi hj
    have hlt : ∀ q (hq : q < hs.length) b, hs[q].A.map (·.block) = some b → b < w.heap.size := fun q hq b hb => OwnP.blt (h.each _ (List.getElem_mem hq)) hb
    rw [List.getElem_set] at hb hb2
    split at hb
    · rename_i e1
      subst e1
      split at hb2
      · rename_i e2; exact hij e2
      · rename_i e2
        rcases hat with h1 | ⟨b', h1, h2⟩
        · exact h.apart n j hn hj e2 b (h1.symm.trans hb) hb2
        · have : b' = b := by simpa using h1.symm.trans hb
          subst this
          have := hlt j hj b' hb2
          omega
    · rename_i e1
      split at hb2
      · rename_i e2
        subst e2
        rcases hat with h1 | ⟨b', h1, h2⟩
        · exact h.apart i n hi hn (fun x => e1 x.symm) b hb (h1.symm.trans hb2)
        · have : b' = b := by simpa using h1.symm.trans hb2
          subst this
          have := hlt i hi b' hb
          omega
      · exact h.apart i j hi hj hij b hb hb2
end SO
end Go.Proofs.Ytlbdjnbcoldjhaa
