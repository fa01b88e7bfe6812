/- Split of the reference: its lists of truth values, and the memory between its rounds. -/
import Derived.Test.YtlbdjnbcoldjhaaG25
import Derived.Test.YtlbdjnbcoldjhaaH3

namespace Go.Proofs.Ytlbdjnbcoldjhaa
open Go.RowKit

theorem alikeB_vec (ls : List Hs) (x y : Int) : alikeB ls x y = decide (vec (ls.map (·.l)) x = vec (ls.map (·.l)) y) := by
  unfold alikeB vec
  rw [decide_eq_decide]
  constructor
  · intro h
    refine List.ext_getElem (by simp) (fun j h1 h2 => ?_)
    have hj : j < ls.length := by simpa using h1
    simpa using h j hj
  · intro h j hj
    have h1 : (List.map (fun a => has a x) (ls.map (·.l)))[j]'(by simpa using hj) = (List.map (fun a => has a y) (ls.map (·.l)))[j]'(by simpa using hj) := by simp only [h]
    simpa using h1

/-- the first k of a list of truth values are as f says, the others as g says -/
def mixB (f g : Nat → Bool) (n k : Nat) : List Bool := (List.range n).map (fun j => if j < k then f j else g j)
theorem mixB_len (f g : Nat → Bool) (n k : Nat) : (mixB f g n k).length = n := by simp [mixB]
theorem mixB_get {f g : Nat → Bool} {n k j : Nat} (h : j < n) : (mixB f g n k)[j]'(by rw [mixB_len]; exact h) = if j < k then f j else g j := by simp [mixB]
theorem mixB_set {f g : Nat → Bool} {n k : Nat} (h : k < n) : (mixB f g n k).set k (f k) = mixB f g n (k + 1) := by
  refine List.ext_getElem (by simp [mixB_len]) (fun j h1 h2 => ?_)
  have hj : j < n := by rw [mixB_len] at h2; exact h2
  rw [List.getElem_set, mixB_get hj]
  by_cases e : k = j
  · subst e; rw [if_pos rfl, mixB_get hj, if_pos (by omega)]
  · rw [if_neg e, mixB_get hj]
    by_cases h3 : j < k
    · rw [if_pos h3, if_pos (by omega)]
    · rw [if_neg h3, if_neg (by omega)]

/-- is the end j alike the end i? -/
def alE (ls : List (List Sp)) (E : List Int) (i j : Nat) : Bool := decide (vec ls (E.getD i 0) = vec ls (E.getD j 0))
/-- is the end j in one of the first classes? -/
def dnE (ls : List (List Sp)) (E : List Int) (i j : Nat) : Bool := decide (vec ls (E.getD j 0) ∈ keysU ls E i)
theorem keysU_in {ls : List (List Sp)} {E : List Int} {k : Nat} : ∀ i, k < i → vec ls (E.getD k 0) ∈ keysU ls E i
  | 0, h => absurd h (Nat.not_lt_zero _)
  | i + 1, h => by
    unfold keysU
    by_cases hk : k = i
    · subst hk
      split
      · assumption
      · simp
    · have ih := keysU_in (ls := ls) (E := E) (k := k) i (by omega)
      split
      · exact ih
      · exact List.mem_append_left _ ih
theorem getD_in {E : List Int} {i : Nat} (h : i < E.length) : E.getD i 0 = E[i] := by simp [List.getD_eq_getElem?_getD, h]
/-- in of class i, done before and behind it -/
def inF (ls : List (List Sp)) (E : List Int) (i : Nat) : Nat → Bool := fun j => decide (i ≤ j) && alE ls E i j
def dnF (ls : List (List Sp)) (E : List Int) (i : Nat) : Nat → Bool := fun j => dnE ls E i j || inF ls E i j
theorem mixB_ext {f g f' g' : Nat → Bool} {n k k' : Nat} (h : ∀ j, j < n → (if j < k then f j else g j) = (if j < k' then f' j else g' j)) : mixB f g n k = mixB f' g' n k' := by
  refine List.ext_getElem (by simp [mixB_len]) (fun j h1 h2 => ?_)
  have hj : j < n := by rw [mixB_len] at h2; exact h2
  rw [mixB_get hj, mixB_get hj, h j hj]
theorem in_start (ls : List (List Sp)) (E : List Int) (i : Nat) : List.replicate E.length false = mixB (inF ls E i) (fun _ => false) E.length i := by
  refine List.ext_getElem (by simp [mixB_len]) (fun j h1 h2 => ?_)
  have hj : j < E.length := by simpa using h1
  rw [mixB_get hj, List.getElem_replicate]
  by_cases h : j < i
  · rw [if_pos h]
    unfold inF
    rw [decide_eq_false (by omega)]; rfl
  · rw [if_neg h]
theorem in_end {ls : List (List Sp)} {E : List Int} {i : Nat} (hi : i < E.length) (h : vec ls E[i] ∉ keysU ls E i) : mixB (inF ls E i) (fun _ => false) E.length E.length = E.map (fun x => decide (vec ls x = vec ls E[i])) := by
  refine List.ext_getElem (by simp [mixB_len]) (fun j h1 h2 => ?_)
  have hj : j < E.length := by rw [mixB_len] at h1; exact h1
  rw [mixB_get hj, if_pos hj, List.getElem_map]
  unfold inF alE
  rw [getD_in hi, getD_in hj]
  by_cases h3 : i ≤ j
  · rw [decide_eq_true h3, Bool.true_and, decide_eq_decide]
    exact ⟨Eq.symm, Eq.symm⟩
  · rw [decide_eq_false h3, Bool.false_and]
    symm
    rw [decide_eq_false_iff_not]
    intro e
    refine h ?_
    have := keysU_in (ls := ls) (E := E) (k := j) i (by omega)
    rw [getD_in hj, e] at this
    exact this
theorem dn_zero (ls : List (List Sp)) (E : List Int) : List.replicate E.length false = mixB (dnE ls E 0) (dnE ls E 0) E.length 0 := by
  refine List.ext_getElem (by simp [mixB_len]) (fun j h1 h2 => ?_)
  have hj : j < E.length := by simpa using h1
  rw [mixB_get hj, List.getElem_replicate]
  simp [dnE, keysU]
theorem dn_start (ls : List (List Sp)) (E : List Int) (i : Nat) : mixB (dnE ls E i) (dnE ls E i) E.length 0 = mixB (dnF ls E i) (dnE ls E i) E.length i := mixB_ext (fun j hj => by
  rw [if_neg (Nat.not_lt_zero _)]
  by_cases h : j < i
  · rw [if_pos h]
    unfold dnF inF
    rw [decide_eq_false (by omega), Bool.false_and, Bool.or_false]
  · rw [if_neg h])
theorem dn_end {ls : List (List Sp)} {E : List Int} {i : Nat} (hi : i < E.length) (h : vec ls E[i] ∉ keysU ls E i) : mixB (dnF ls E i) (dnE ls E i) E.length E.length = mixB (dnE ls E (i + 1)) (dnE ls E (i + 1)) E.length 0 := mixB_ext (fun j hj => by
  rw [if_pos hj, if_neg (Nat.not_lt_zero _)]
  unfold dnF inF alE dnE
  rw [keys_new hi h, getD_in hi, getD_in hj]
  by_cases h1 : vec ls E[j] ∈ keysU ls E i
  · simp [h1]
  · by_cases h2 : vec ls E[j] = vec ls E[i]
    · have h3 : i ≤ j := by
        rcases Nat.lt_or_ge j i with h4 | h4
        · have := keysU_in (ls := ls) (E := E) (k := j) i h4
          rw [getD_in hj] at this
          exact absurd this h1
        · exact h4
      simp [h2, h3]
    · have h2' : ¬ vec ls E[i] = vec ls E[j] := fun e => h2 e.symm
      simp [h1, h2, h2'])
theorem dn_same {ls : List (List Sp)} {E : List Int} {i : Nat} (hi : i < E.length) (h : vec ls E[i] ∈ keysU ls E i) : dnE ls E (i + 1) = dnE ls E i := by
  funext j
  unfold dnE
  rw [keys_old hi h]

/-- a slice of spans does not lie in a block of truth values -/
theorem SL.ne_bool {w : World} {A : Option Addr} {c : Nat} {l : List Sp} {g T : Nat} {bs : List Bool} (h : SL w A c l) (b : Blk w g T (bs.map Value.bool).toArray) : l ≠ [] → ∀ k, A.map (·.block) = Option.some k → ¬ k = g := by
  rintro hn k hk rfl
  obtain ⟨b', o, rfl, hc⟩ := h.at_ hn
  have e : b' = k := by simpa using hk
  subst e
  have h0 := (hc 0 (List.length_pos_iff.2 hn)).1
  rw [b.cell] at h0
  simp only [List.getElem?_toArray, List.getElem?_map] at h0
  cases hq : bs[o + 0 * 2]? with
  | none => rw [hq] at h0; cases h0
  | some v => rw [hq] at h0; cases h0

/-- the memory between two rounds -/
structure RsI (wr : World) (base gD : Nat) (ls : List (List Sp)) (E : List Int) (top : Int) (i : Nat) (O : Option Addr) (cO : Nat) (hs : List Hs) : Prop where
  dn : Blk wr gD 4 ((mixB (dnE ls E i) (dnE ls E i) E.length 0).map Value.bool).toArray
  own : OwnS wr base 24 1 O hs.length cO (flatH hs)
  sl : ∀ z ∈ hs, SL wr z.A z.c z.l
  cls : hs.map (·.l) = (keysU ls E i).map (fun v => cls E top (fun x => decide (vec ls x = v)))
  ok : ∀ z ∈ hs, z.l.length ≤ 64
  apart : ∀ z ∈ hs, z.l ≠ [] → ∀ b, z.A.map (·.block) = Option.some b → O.map (·.block) ≠ Option.some b
theorem RsI.len {wr : World} {base gD : Nat} {ls : List (List Sp)} {E : List Int} {top : Int} {i : Nat} {O : Option Addr} {cO : Nat} {hs : List Hs} (h : RsI wr base gD ls E top i O cO hs) : hs.length ≤ i := by
  have := congrArg List.length h.cls
  rw [List.length_map, List.length_map] at this
  have := keysU_len ls E i
  omega
theorem RsI.lls {wr : World} {base gD : Nat} {ls : List (List Sp)} {E : List Int} {top : Int} {i : Nat} {O : Option Addr} {cO : Nat} {hs : List Hs} (h : RsI wr base gD ls E top i O cO hs) : LLS wr O cO hs := by
  have hc := OwnS.caps h.own
  refine ⟨hc.1, by unfold maxLen; omega, h.sl, fun hn => ?_⟩
  obtain ⟨b, o, hA, hcell⟩ := OwnS.cells h.own (by intro e; unfold flatH at e; exact hn (List.map_eq_nil_iff.1 e))
  refine ⟨b, o, hA, fun k hk => ?_⟩
  have := hcell k (by unfold flatH; simpa using hk)
  simpa [flatH] using this
theorem blkB_get {w : World} {g T : Nat} {bs : List Bool} (h : Blk w g T (bs.map Value.bool).toArray) {k : Nat} (hk : k < bs.length) : w.cell? ⟨g, k, none⟩ = some (.bool bs[k]) ∧ w.frozen? ⟨g, k, none⟩ = false := by
  refine ⟨by rw [h.cell]; simp [hk], ?_⟩
  exact h.frz k
theorem blkB_set {w : World} {g T : Nat} {bs : List Bool} (h : Blk w g T (bs.map Value.bool).toArray) (k : Nat) (b : Bool) : Blk (w.setCell ⟨g, k, none⟩ (.bool b)) g T ((bs.set k b).map Value.bool).toArray := by
  have := h.set k (.bool b)
  rwa [List.setIfInBounds_toArray, ← List.map_set] at this
theorem blkB_ib {w : World} {g T : Nat} {bs : List Bool} (h : Blk w g T (bs.map Value.bool).toArray) (hl : bs.length ≤ maxLen) : IB w (some ⟨g, 0, none⟩) bs.length bs :=
  ⟨Nat.le_refl _, hl, fun _ => ⟨g, 0, rfl, fun i hi => by rw [h.cell]; simp [hi]⟩⟩

/-- a class is added -/
theorem RsI.push {wr w5 w6 w8 : World} {base gD : Nat} {ls : List (List Sp)} {E : List Int} {top : Int} {i : Nat} {O : Option Addr} {cO : Nat} {hs : List Hs} (h : RsI wr base gD ls E top i O cO hs)
    (hi : i < E.length) (hk : vec ls E[i] ∉ keysU ls E i) (k : KpP (· = gD) wr w5) (dn : Blk w5 gD 4 ((mixB (dnE ls E (i + 1)) (dnE ls E (i + 1)) E.length 0).map Value.bool).toArray) (x : Ext w5 w6)
    {S : Option Addr} {cS : Nat} {out : List Sp} (hS : SL w6 S cS out) (hf : Fr w5 S) (ho : out = Go.Proofs.Ytlbdjnbcoldjhaa.cls E top (fun y => decide (vec ls y = vec ls E[i]))) (h64 : out.length ≤ 64) {cs : Array Value} {T : Nat}
    {O' : Option Addr} {cO' : Nat} (hg : (w6.alloc (.cells cs T)).grownBy w8 (O.map (·.block))) (how : OwnS w8 base 24 1 O' (hs.length + 1) cO' (flatH hs ++ [.slice S out.length cS]))
    (hat : O'.map (·.block) = O.map (·.block) ∨ O'.map (·.block) = Option.some (w6.alloc (.cells cs T)).heap.size) : RsI w8 base gD ls E top (i + 1) O' cO' (hs ++ [⟨S, cS, out⟩]) := by
  have own5 : OwnS w5 base 24 1 O hs.length cO (flatH hs) := OwnS.kp h.own k (fun b hb hbd => own_blk h.own h.dn (by decide) (by rw [hb, hbd]))
  have x6 := x.trans (Ext.alloc w6 (.cells cs T))
  have own6 := OwnS.ext own5 x6
  have kg := KpP.of_grown hg
  have sl6 : ∀ z ∈ hs, SL (w6.alloc (.cells cs T)) z.A z.c z.l := fun z hz => (SL.kp (h.sl z hz) k (SL.ne_bool (h.sl z hz) h.dn)).ext x6
  refine ⟨kg.blk (dn.ext x6) (own_blk own6 (dn.ext x6) (by decide)), ?_, ?_, ?_, ?_, ?_⟩
  · rw [List.length_append, List.length_singleton]
    have e : flatH (hs ++ [⟨S, cS, out⟩]) = flatH hs ++ [.slice S out.length cS] := by simp [flatH]
    rw [e]; exact how
  · intro z hz
    rcases List.mem_append.1 hz with hz | hz
    · exact SL.kp (sl6 z hz) kg (fun hn b hb => h.apart z hz hn b hb)
    · obtain rfl := List.mem_singleton.1 hz
      refine SL.kp (hS.ext (Ext.alloc _ _)) kg (fun hn b hb hob => ?_)
      have h1 := hf b hb
      have h2 := (OwnS.blt own5 hob).1
      omega
  · rw [keys_new hi hk, List.map_append, List.map_append, h.cls, ho]; rfl
  · intro z hz
    rcases List.mem_append.1 hz with hz | hz
    · exact h.ok z hz
    · obtain rfl := List.mem_singleton.1 hz
      exact h64
  · intro z hz hn b hb
    rcases hat with hat | hat
    · rw [hat]
      rcases List.mem_append.1 hz with hz | hz
      · exact h.apart z hz hn b hb
      · obtain rfl := List.mem_singleton.1 hz
        intro hob
        have h1 := hf b hb
        have h2 := (OwnS.blt own5 hob).1
        omega
    · rw [hat]
      intro he
      have he2 : (w6.alloc (.cells cs T)).heap.size = b := by injection he
      rcases List.mem_append.1 hz with hz | hz
      · have := SL.blt (sl6 z hz) hn hb
        omega
      · obtain rfl := List.mem_singleton.1 hz
        have := SL.blt (hS.ext (Ext.alloc w6 (.cells cs T))) hn hb
        omega
end Go.Proofs.Ytlbdjnbcoldjhaa
