/- What is kept where other blocks are written: laws that serve at every seat. No program in sight. -/
import Derived.Test.YtlbdjnbcoldjhaaApp
import Derived.Test.YtlbdjnbcoldjhaaFs
namespace Go.Proofs.Ytlbdjnbcoldjhaa
open Go.RowKit

def blkL (A : Option Addr) : List Nat := (A.map (·.block)).toList
theorem mem_blkL {A : Option Addr} {b : Nat} : b ∈ blkL A ↔ A.map (·.block) = some b := by
  unfold blkL; cases A.map (·.block) <;> simp [eq_comm]
theorem KpP.of_grown {w w' : World} {A : Option Addr} (h : w.grownBy w' (A.map (·.block))) : KpP (fun b => A.map (·.block) = some b) w w' :=
  ⟨h.os, h.tape, h.output, h.size, fun k hk hn => h.block k hk (fun e => hn e.symm)⟩
theorem IL.kp {w w' : World} {A : Option Addr} {c : Nat} {xs : List Int} {p : Nat → Prop} (h : IL w A c xs) (k : KpP p w w') (hn : xs ≠ [] → ∀ b, A.map (·.block) = some b → ¬ p b) : IL w' A c xs := by
  refine ⟨h.le, h.cap, h.rng, fun hx => ?_⟩
  obtain ⟨b, o, rfl, hc⟩ := h.at_ hx
  refine ⟨b, o, rfl, fun i hi => ?_⟩
  have h1 := hc i hi
  rw [World.cell?_of_block (w := w) (k.block b (World.block_lt_of_cell? _ _ h1) (hn hx b rfl))]; exact h1
theorem IL.blt {w : World} {A : Option Addr} {c : Nat} {xs : List Int} (h : IL w A c xs) (hx : xs ≠ []) {b : Nat} (hb : A.map (·.block) = some b) : b < w.heap.size := by
  obtain ⟨b', o, rfl, hc⟩ := h.at_ hx
  have : b' = b := by simpa using hb
  subst this
  exact World.block_lt_of_cell? _ _ (hc 0 (List.length_pos_iff.2 hx))
theorem OwnS.blt {w : World} {base e size n c : Nat} {A : Option Addr} {xs : List Value} (h : OwnS w base e size A n c xs) {b : Nat} (hb : A.map (·.block) = some b) : b < w.heap.size ∧ ∃ cur, w.heap[b]? = some (.cells cur e (0, 0)) := by
  rcases h.form with ⟨rfl, _⟩ | ⟨g, cur, rfl, _, hh, _⟩
  · simp at hb
  · have : g = b := by simpa using hb
    subst this
    exact ⟨(Array.getElem?_eq_some_iff.1 hh).1, cur, hh⟩
theorem OwnS.kp {w w' : World} {base e size n c : Nat} {A : Option Addr} {xs : List Value} {p : Nat → Prop} (h : OwnS w base e size A n c xs) (k : KpP p w w') (hn : ∀ b, A.map (·.block) = some b → ¬ p b) : OwnS w' base e size A n c xs := by
  refine ⟨h.1, ?_⟩
  rcases h.2 with h2 | ⟨g, cap, cur, hv, hg, hh, r⟩
  · exact Or.inl h2
  · refine Or.inr ⟨g, cap, cur, hv, hg, ?_, r⟩
    injection hv with e1 _ _
    subst e1
    exact (k.block g (Array.getElem?_eq_some_iff.1 hh).1 (hn g rfl)).trans hh
theorem KpP.kp {p : Nat → Prop} {a b : World} {L : List Nat} (h : Kp L a b) (hp : ∀ i ∈ L, p i) : KpP p a b := ⟨h.os, h.tape, h.output, h.size, fun k hk hn => h.block k hk (fun hm => hn (hp k hm))⟩
theorem WI_kp {L : List Nat} {I : List (Nat × Nat)} {a b : World} {p : Nat → Prop} (h : KpP p a b) (hp : ∀ i, p i → i ∈ L) : WI L I a b := KpP.mono h (fun k hk => .inl (hp k hk))
theorem Kp.kpP {L : List Nat} {a b c : World} {p : Nat → Prop} (h : Kp L a b) (k : KpP p b c) (hp : ∀ i, p i → i ∈ L) : Kp L a c :=
  ⟨k.os.trans h.os, k.tape.trans h.tape, k.output.trans h.output, Nat.le_trans h.size k.size, fun i hi hn => (k.block i (Nat.lt_of_lt_of_le hi h.size) (fun hq => hn (hp i hq))).trans (h.block i hi hn)⟩
theorem blk_cells {w : World} {g T : Nat} {cs : List Value} (h : Blk w g T cs.toArray) : CellsAt w (some ⟨g, 0, none⟩) cs := fun _ => ⟨g, 0, rfl, fun i hi => by rw [h.cell]; simp [hi]⟩
theorem KpP.thenKp {p : Nat → Prop} {a b c : World} {L : List Nat} (h : KpP p a b) (k : Kp L b c) (hp : ∀ i ∈ L, p i ∨ a.heap.size ≤ i) : KpP p a c :=
  ⟨k.os.trans h.os, k.tape.trans h.tape, k.output.trans h.output, Nat.le_trans h.size k.size, fun i hi hn => (k.block i (Nat.lt_of_lt_of_le hi h.size) (fun hm => (hp i hm).elim hn (fun e => by omega))).trans (h.block i hi hn)⟩
theorem KpP.thenGrown {p : Nat → Prop} {a b c : World} {A : Option Addr} (h : KpP p a b) (k : b.grownBy c (A.map (·.block))) (hp : ∀ i, A.map (·.block) = some i → a.heap.size ≤ i) : KpP p a c := by
  have kk := KpP.of_grown k
  exact ⟨kk.os.trans h.os, kk.tape.trans h.tape, kk.output.trans h.output, Nat.le_trans h.size kk.size, fun i hi hn => (kk.block i (Nat.lt_of_lt_of_le hi h.size) (fun hm => by have := hp i hm; omega)).trans (h.block i hi hn)⟩
theorem Ext.kp {p : Nat → Prop} {a b c : World} (h : Ext a b) (k : KpP p b c) (hp : ∀ i, p i → a.heap.size ≤ i) : Ext a c :=
  ⟨k.os.trans h.os, k.tape.trans h.tape, k.output.trans h.output, Nat.le_trans h.size k.size, fun i hi => (k.block i (Nat.lt_of_lt_of_le hi h.size) (fun hq => by have := hp i hq; omega)).trans (h.block i hi)⟩
theorem own_ne {w : World} {b1 b2 e1 e2 s1 s2 n1 n2 c1 c2 : Nat} {A B : Option Addr} {xs ys : List Value} (h : OwnS w b1 e1 s1 A n1 c1 xs) (k : OwnS w b2 e2 s2 B n2 c2 ys) (hne : e1 ≠ e2) {b : Nat} (hb : A.map (·.block) = some b) : B.map (·.block) ≠ some b := fun e => by
  obtain ⟨_, cur, hh⟩ := OwnS.blt h hb
  obtain ⟨_, cur2, hh2⟩ := OwnS.blt k e
  rw [hh] at hh2; injection hh2 with hh2; injection hh2 with _ h2
  exact hne h2
theorem own_blk {w : World} {b1 e1 s1 n1 c1 g T : Nat} {A : Option Addr} {xs : List Value} {cs : Array Value} (h : OwnS w b1 e1 s1 A n1 c1 xs) (k : Blk w g T cs) (hne : e1 ≠ T) : A.map (·.block) ≠ some g := fun e => by
  obtain ⟨_, cur, hh⟩ := OwnS.blt h e
  unfold Blk at k; rw [k] at hh; injection hh with hh; injection hh with _ h2
  exact hne h2.symm
theorem blk_blk {w : World} {g h T U : Nat} {cs ds : Array Value} (k : Blk w g T cs) (l : Blk w h U ds) (hne : T ≠ U) : g ≠ h := by
  rintro rfl
  unfold Blk at k l; rw [k] at l; injection l with l; injection l with _ h2
  exact hne h2
end Go.Proofs.Ytlbdjnbcoldjhaa
