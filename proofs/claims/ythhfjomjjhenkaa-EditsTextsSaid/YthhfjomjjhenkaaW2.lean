/- Package wire's Writer: the walks of Uint, Int, Ints, Raw, Done. -/
import Derived.Test.YthhfjomjjhenkaaW1
import Derived.Test.YthhfjomjjhenkaaD4
namespace Go.Proofs.Ythhfjomjjhenkaa
open Go.RowKit
attribute [local go_sem ↓] Go.wp_at_zero Go.wp_at_succ

/-- bytes in memory -/
structure BL (w : World) (A : Option Addr) (c : Nat) (bs : List Int) : Prop where
  le : bs.length ≤ c
  cap : c ≤ maxLen
  rng : ∀ x ∈ bs, U8 x
  at_ : bs ≠ [] → ∃ b o, A = some ⟨b, o, none⟩ ∧ ∀ i (h : i < bs.length), w.cell? ⟨b, o + i, none⟩ = some (.int .u8 bs[i])

namespace BL
variable {w w' : World} {A : Option Addr} {c : Nat} {bs : List Int}
theorem ext (h : BL w A c bs) (k : Ext w w') : BL w' A c bs := by
  refine ⟨h.le, h.cap, h.rng, fun hn => ?_⟩
  obtain ⟨b, o, rfl, hc⟩ := h.at_ hn
  exact ⟨b, o, rfl, fun i hi => k.cell (hc i hi)⟩
theorem kp {p : Nat → Prop} (h : BL w A c bs) (k : KpP p w w') (hn : bs ≠ [] → ∀ b, A.map (·.block) = some b → ¬ p b) : BL w' A c bs := by
  refine ⟨h.le, h.cap, h.rng, fun hx => ?_⟩
  obtain ⟨b, o, rfl, hc⟩ := h.at_ hx
  refine ⟨b, o, rfl, fun i hi => ?_⟩
  have h1 := hc i hi
  rw [World.cell?_of_block (w := w) (k.block b (World.block_lt_of_cell? _ _ h1) (hn hx b rfl))]; exact h1
theorem blt (h : BL w A c bs) (hx : bs ≠ []) {b : Nat} (hb : A.map (·.block) = some b) : b < w.heap.size := by
  obtain ⟨b', o, rfl, hc⟩ := h.at_ hx
  have : b' = b := by simpa using hb
  subst this
  exact World.block_lt_of_cell? _ _ (hc 0 (List.length_pos_iff.2 hx))
theorem len (h : BL w A c bs) : bs.length ≤ c ∧ c ≤ 9223372036854775807 := ⟨h.le, by have := h.cap; unfold maxLen at this; omega⟩
theorem nil (w : World) : BL w none 0 [] := ⟨Nat.le_refl _, Nat.zero_le _, by simp, fun h => absurd rfl h⟩
theorem get {k : Nat} (h : BL w A c bs) (hk : k < bs.length) : ∃ b o, A = some ⟨b, o, none⟩ ∧ w.cell? ⟨b, o + k, none⟩ = some (.int .u8 bs[k]) := by
  obtain ⟨b, o, rfl, hc⟩ := h.at_ (by intro h0; subst h0; simp at hk)
  exact ⟨b, o, rfl, hc k hk⟩
theorem cells (h : BL w A c bs) : CellsAt w A (bs.map (Value.int .u8)) := by
  intro hn
  obtain ⟨b, o, rfl, hc⟩ := h.at_ (by intro h0; subst h0; simp at hn)
  exact ⟨b, o, rfl, fun i hi => by simp only [List.getElem_map]; exact hc i (by simpa using hi)⟩
end BL

/-- a slice of bytes of the call's own -/
def OwnB (w : World) (base : Nat) (A : Option Addr) (c : Nat) (bs : List Int) : Prop := OwnS w base 5 1 A bs.length c (bs.map (Value.int .u8))
theorem bytes_one (xs : List Int) : ∀ u ∈ xs.map (Value.int .u8), u.oneCell' = true := by
  intro u hu
  obtain ⟨_, _, rfl⟩ := List.mem_map.1 hu
  rfl
theorem BL.of_own {w : World} {base : Nat} {A : Option Addr} {c : Nat} {bs : List Int} (h : OwnB w base A c bs) (hr : ∀ x ∈ bs, U8 x) : BL w A c bs := by
  refine ⟨(OwnS.caps h).1, ?_, hr, fun hn => ?_⟩
  · have := (OwnS.caps h).2; unfold maxLen; omega
  · obtain ⟨b, o, rfl, hc⟩ := OwnS.cells h (by simpa using hn)
    exact ⟨b, o, rfl, fun i hi => by have := hc i (by simpa using hi); simpa using this⟩

/-- 'xs = append(xs, v)', one cell, in a plain region -/
theorem wpList_app1V {P : Program} {w1 w : World} {ops : Array Oper} {rest : List Oper} {o : Oper} {a : Act} {Q : Exit → Act → World → Prop} (hgd : o.guard = none) (s x : Operand) (t : Nat)
    (ho : o.op = .call { callee := .builtin .append, args := #[s, x], argTypes := #[t, t] })
    (e : Nat) (i : TypeInfo) (z : Value) (bytes : Nat) (ht : P.underlying t = some (.slice e)) (hi : P.info? e = some i) (hz : i.zero = some z)
    (hsize : i.size = 1) (hby : i.bytes = bytes) (hb8 : bytes ≤ 8) (hzs : z.cells.size = 1)
    (base : Nat) (v : Value) (hv : v.oneCell' = true) (hw : w = w1.alloc (.cells #[v] e))
    (A : Option Addr) (n c : Nat) (xs : List Value) (hs : a.eval s = .slice A n c) (hown : OwnS w1 base e 1 A n c xs)
    (hx : a.eval x = .slice (some ⟨w1.heap.size, 0, none⟩) 1 1) (hb : n ≤ 1099511627776) (hbase : base ≤ w1.heap.size)
    (h : ∀ A' c' w', OwnS w' base e 1 A' (n + 1) c' (xs ++ [v]) → w1.grownBy w' (A.map (·.block)) → (A'.map (·.block) = A.map (·.block) ∨ (A'.map (·.block) = some (w1.heap.size + 1))) → wpList P ops Q rest (a.put o.dst (.slice A' (n + 1) c')) w') : wpList P ops Q (o :: rest) a w := by
  subst hw
  have e1 := Ext.alloc w1 (.cells #[v] e)
  have hc : CellsAt (w1.alloc (.cells #[v] e)) (some ⟨w1.heap.size, 0, none⟩) [v] := fun _ => ⟨_, 0, rfl, fun i hi => by
    have : i = 0 := by simpa using hi
    subst this; simp⟩
  refine wpList_app _ hgd s x t ho base e i z 1 bytes ht hi hz hsize hby hzs (by omega) A n c xs hs (OwnS.ext hown e1) _ 1 1 [v] hx rfl hc
    (by simpa using hv) (by unfold maxLen; omega) (Nat.le_trans (Nat.mul_le_mul_left _ hb8) (by omega)) (by simp; omega) ?_
  intro A' c' w' ho' hg hat
  have hg' : w1.grownBy w' (A.map (·.block)) := ⟨hg.os, hg.tape, hg.output, Nat.le_trans e1.size hg.size, fun k hk hne => (hg.block k (Nat.lt_of_lt_of_le hk e1.size) hne).trans (e1.block k hk)⟩
  exact h A' c' w' ho' hg' (by simpa using hat)

theorem infoB : (Try.prog.info? 5).map (fun i => (i.zero, i.size, i.bytes)) = some (some (.int .u8 0), 1, 1) := by kernel_rfl

/-- the writer in block g has written bs -/
structure WrAt (w : World) (base g : Nat) (A : Option Addr) (c : Nat) (bs : List Int) : Prop where
  blk : Blk w g 68 #[.slice A bs.length c]
  own : OwnB w base A c bs
  lo : base ≤ g
  rng : ∀ b ∈ bs, U8 b
theorem WrAt.ext {w w' : World} {base g : Nat} {A : Option Addr} {c : Nat} {bs : List Int} (h : WrAt w base g A c bs) (x : Ext w w') : WrAt w' base g A c bs := ⟨h.blk.ext x, OwnS.ext h.own x, h.lo, h.rng⟩
theorem WrAt.off {w : World} {base g : Nat} {A : Option Addr} {c : Nat} {bs : List Int} (h : WrAt w base g A c bs) : A.map (·.block) ≠ some g := fun e => by
  obtain ⟨_, cur, hh⟩ := OwnS.blt h.own e
  have := h.blk; unfold Blk at this; rw [this] at hh; injection hh with hh; injection hh with _ h2; revert h2; decide

def wrB (g : Nat) (A : Option Addr) (b : Nat) : Prop := b = g ∨ A.map (·.block) = some b
/-- what a call that writes 'new' leaves -/
def WrOut (base g : Nat) (A : Option Addr) (bs new : List Int) (w w' : World) : Prop :=
  ∃ A' c', WrAt w' base g A' c' (bs ++ new) ∧ KpP (wrB g A) w w' ∧ ∀ b, A'.map (·.block) = some b → A.map (·.block) = some b ∨ w.heap.size ≤ b
def RetWr (base g : Nat) (A : Option Addr) (bs new : List Int) (w : World) (e : Ending) (w' : World) : Prop := e = .returned (.tuple #[]) ∧ WrOut base g A bs new w w'

theorem WrOut.trans {base g : Nat} {A A' : Option Addr} {c' : Nat} {bs new new2 : List Int} {w w1 w2 : World} (hw : WrAt w1 base g A' c' (bs ++ new)) (hk : KpP (wrB g A) w w1) (ha : ∀ b, A'.map (·.block) = some b → A.map (·.block) = some b ∨ w.heap.size ≤ b)
    (h : WrOut base g A' (bs ++ new) new2 w1 w2) : WrOut base g A bs (new ++ new2) w w2 := by
  obtain ⟨A2, c2, h1, h2, h3⟩ := h
  refine ⟨A2, c2, by rw [← List.append_assoc]; exact h1, ⟨h2.os.trans hk.os, h2.tape.trans hk.tape, h2.output.trans hk.output, Nat.le_trans hk.size h2.size, fun k hkl hn => ?_⟩, fun b hb => ?_⟩
  · refine (h2.block k (Nat.lt_of_lt_of_le hkl hk.size) (fun hor => ?_)).trans (hk.block k hkl hn)
    rcases hor with e | e
    · exact hn (.inl e)
    · rcases ha k e with h4 | h4
      · exact hn (.inr h4)
      · omega
  · rcases h3 b hb with h4 | h4
    · exact ha b h4
    · right; have := hk.size; omega
theorem WrOut.extL {base g : Nat} {A : Option Addr} {bs new : List Int} {w w1 w2 : World} (x : Ext w w1) (h : WrOut base g A bs new w1 w2) : WrOut base g A bs new w w2 := by
  obtain ⟨A2, c2, h1, h2, h3⟩ := h
  exact ⟨A2, c2, h1, (KpP.of_ext x).trans h2, fun b hb => (h3 b hb).imp id (fun h => Nat.le_trans x.size h)⟩
theorem WrOut.extR {base g : Nat} {A : Option Addr} {bs new : List Int} {w w1 w2 : World} (h : WrOut base g A bs new w w1) (x : Ext w1 w2) : WrOut base g A bs new w w2 := by
  obtain ⟨A2, c2, h1, h2, h3⟩ := h
  exact ⟨A2, c2, h1.ext x, h2.trans (KpP.of_ext x), h3⟩
theorem WrOut.zero {base g : Nat} {A : Option Addr} {c : Nat} {bs : List Int} {w : World} (h : WrAt w base g A c bs) : WrOut base g A bs [] w w :=
  ⟨A, c, by rw [List.append_nil]; exact h, KpP.refl _ _, fun _ hb => .inl hb⟩

/-- the store behind an append -/
theorem WrAt.put {w w1 : World} {base g : Nat} {A : Option Addr} {c : Nat} {bs new : List Int} (h : WrAt w base g A c bs) {A' : Option Addr} {c' : Nat} (hg : w.grownBy w1 (A.map (·.block)))
    (ho : OwnS w1 base 5 1 A' (bs.length + new.length) c' (bs.map (Value.int .u8) ++ new.map (Value.int .u8))) (hat : A'.map (·.block) = A.map (·.block) ∨ ∃ n, w.heap.size ≤ n ∧ A'.map (·.block) = some n) (hn : ∀ b ∈ new, U8 b) :
    WrOut base g A bs new w (w1.setCell ⟨g, 0, none⟩ (.slice A' (bs.length + new.length) c')) := by
  have kg := KpP.of_grown hg
  have hb1 := kg.blk h.blk h.off
  have hgl := h.blk.lt
  have hA' : A'.map (·.block) ≠ some g := fun e => by
    rcases hat with e2 | ⟨n, hn2, e2⟩
    · exact h.off (e2.symm.trans e)
    · rw [e2] at e; injection e with e; omega
  refine ⟨A', c', ⟨?_, ?_, h.lo, fun b hb => ?_⟩, (kg.mono (fun b hb => .inr hb)).set (.inl (.inl rfl)) _, fun b hb => ?_⟩
  · have := hb1.set 0 (.slice A' (bs.length + new.length) c')
    simp only [List.setIfInBounds_toArray, List.set_cons_zero] at this
    simpa using this
  · have := OwnS.far ho (p := ⟨g, 0, none⟩) hA' (.slice A' (bs.length + new.length) c')
    unfold OwnB
    rw [List.length_append, List.map_append]; exact this
  · rcases List.mem_append.1 hb with hb | hb
    · exact h.rng b hb
    · exact hn b hb
  · rcases hat with e2 | ⟨n, hn2, e2⟩
    · exact .inl (e2.symm.trans hb)
    · rw [e2] at hb; injection hb with hb; right; omega
end Go.Proofs.Ythhfjomjjhenkaa
