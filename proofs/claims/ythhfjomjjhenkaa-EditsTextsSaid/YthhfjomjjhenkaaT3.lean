/- What the reference's desk holds in memory; slices of ints that nobody writes. No walk. -/
import Derived.Test.YthhfjomjjhenkaaT2
import Derived.Test.YthhfjomjjhenkaaFk
namespace Go.Proofs.Ythhfjomjjhenkaa
open Go.RowKit

/-- the blocks that are written later are among those of before, or new -/
def Later (p q : Nat → Prop) (n : Nat) : Prop := ∀ b, q b → p b ∨ n ≤ b
theorem IL.later {w w' : World} {p q : Nat → Prop} {X : Option Addr} {c : Nat} {xs : List Int} (h : IL w X c xs) (hn : xs ≠ [] → ∀ b, X.map (·.block) = some b → ¬ p b) (k : KpP p w w') (hl : Later p q w.heap.size) :
    IL w' X c xs ∧ (xs ≠ [] → ∀ b, X.map (·.block) = some b → ¬ q b) :=
  ⟨h.kp k hn, fun hx b hb hq => by
    rcases hl b hq with h1 | h1
    · exact hn hx b hb h1
    · have := h.blt hx hb; omega⟩

theorem infoRI : (Try.prog.info? 63).map (fun i => (i.zero, i.size, i.bytes)) = some (some (.agg #[.int .i64 0, .int .i64 0, .int .i64 0, .int .i64 0, .int .i64 0, .slice none 0 0]), 6, 64) := by kernel_rfl
theorem infoRN : (Try.prog.info? 3).map (fun i => (i.zero, i.size, i.bytes)) = some (some (.int .i64 0), 1, 8) := by kernel_rfl

/-- the blocks of the desk -/
def deskB (g : Nat) (A C : Option Addr) (b : Nat) : Prop := b = g ∨ A.map (·.block) = some b ∨ C.map (·.block) = some b

structure RdK (w : World) (base g : Nat) (A : Option Addr) (cA : Nat) (ap : List Oe) (C : Option Addr) (cC : Nat) (cl : List Int) (H : Value) : Prop where
  blk : Blk w g 99 #[.slice A ap.length cA, .slice C cl.length cC, H]
  apo : OwnS w base 25 3 A ap.length cA (flatE ap)
  clo : OwnI w base 3 C cC cl
  clr : ∀ x ∈ cl, I64 x
  lo : base ≤ g
  oil : ∀ o ∈ ap, IL w o.A o.c o.e.ins ∧ (o.e.ins ≠ [] → ∀ b, o.A.map (·.block) = some b → ¬ deskB g A C b)
namespace RdK
variable {w w' : World} {base g cA cC : Nat} {A C : Option Addr} {ap : List Oe} {cl : List Int} {H : Value}
theorem ext (h : RdK w base g A cA ap C cC cl H) (x : Ext w w') : RdK w' base g A cA ap C cC cl H :=
  ⟨h.blk.ext x, OwnS.ext h.apo x, OwnS.ext h.clo x, h.clr, h.lo, fun o ho => ⟨(h.oil o ho).1.ext x, (h.oil o ho).2⟩⟩
theorem low (h : RdK w base g A cA ap C cC cl H) {b : Nat} (hb : deskB g A C b) : base ≤ b := by
  rcases hb with rfl | hb | hb
  · exact h.lo
  · exact OwnS.row h.apo b hb
  · exact OwnS.row h.clo b hb
theorem nA (h : RdK w base g A cA ap C cC cl H) : A.map (·.block) ≠ some g := fun e => by
  obtain ⟨_, cur, hh⟩ := OwnS.blt h.apo e
  have := h.blk; unfold Blk at this; rw [this] at hh; injection hh with hh; injection hh with _ h2; revert h2; decide
theorem nC (h : RdK w base g A cA ap C cC cl H) : C.map (·.block) ≠ some g := fun e => by
  obtain ⟨_, cur, hh⟩ := OwnS.blt h.clo e
  have := h.blk; unfold Blk at this; rw [this] at hh; injection hh with hh; injection hh with _ h2; revert h2; decide
theorem nAC (h : RdK w base g A cA ap C cC cl H) {b : Nat} (hb : A.map (·.block) = some b) : C.map (·.block) ≠ some b := fun e => by
  obtain ⟨_, cur, hh⟩ := OwnS.blt h.apo hb
  obtain ⟨_, cur2, hh2⟩ := OwnS.blt h.clo e
  rw [hh] at hh2; injection hh2 with hh2; injection hh2 with _ h2; revert h2; decide
/-- the store of the held items -/
theorem setH (h : RdK w base g A cA ap C cC cl H) (v : Value) : RdK (w.setCell ⟨g, 2, none⟩ v) base g A cA ap C cC cl v ∧ KpP (· = g) w (w.setCell ⟨g, 2, none⟩ v) := by
  have kk : KpP (· = g) w (w.setCell ⟨g, 2, none⟩ v) := KpP.set (p := (· = g)) (KpP.refl _ _) (.inl rfl) _
  have h1 := h.blk.set 2 v
  simp only [List.setIfInBounds_toArray, List.set_cons_zero, List.set_cons_succ] at h1
  exact ⟨⟨h1, OwnS.kp h.apo kk (fun b hb e => h.nA (by rw [hb, e])), OwnS.kp h.clo kk (fun b hb e => h.nC (by rw [hb, e])), h.clr, h.lo, fun o ho => ⟨(h.oil o ho).1.kp kk (fun hx b hb e => (h.oil o ho).2 hx b hb (.inl e)), (h.oil o ho).2⟩⟩, kk⟩
/-- d.Applied = append(d.Applied, o) -/
theorem app (h : RdK w base g A cA ap C cC cl H) {w1 : World} {A' : Option Addr} {cA' : Nat} {o : Oe} (hg : w.grownBy w1 (A.map (·.block))) (ho : OwnS w1 base 25 3 A' (ap.length + 1) cA' (flatE ap ++ flatE [o]))
    (hat : A'.map (·.block) = A.map (·.block) ∨ A'.map (·.block) = some w.heap.size) (hx : Ext w1 w') (hi : IL w o.A o.c o.e.ins) (hn : o.e.ins ≠ [] → ∀ b, o.A.map (·.block) = some b → ¬ deskB g A C b) :
    RdK (w'.setCell ⟨g, 0, none⟩ (.slice A' (ap.length + 1) cA')) base g A' cA' (ap ++ [o]) C cC cl H ∧ KpP (deskB g A C) w (w'.setCell ⟨g, 0, none⟩ (.slice A' (ap.length + 1) cA')) ∧ Later (deskB g A C) (deskB g A' C) w.heap.size := by
  have kg := KpP.of_grown hg
  have kx : KpP (fun b => A.map (·.block) = some b) w w' := kg.trans (KpP.of_ext hx)
  have kk : KpP (deskB g A C) w (w'.setCell ⟨g, 0, none⟩ (.slice A' (ap.length + 1) cA')) := (kx.mono (fun b hb => .inr (.inl hb))).set (.inl (.inl rfl)) _
  have hla : Later (deskB g A C) (deskB g A' C) w.heap.size := fun b hb => by
    rcases hb with rfl | hb | hb
    · exact .inl (.inl rfl)
    · rcases hat with e | e
      · exact .inl (.inr (.inl (e.symm.trans hb)))
      · rw [e] at hb; injection hb with hb; right; omega
    · exact .inl (.inr (.inr hb))
  have hgl := h.blk.lt
  have hA' : A'.map (·.block) ≠ some g := fun e => by
    rcases hat with e2 | e2
    · exact h.nA (e2.symm.trans e)
    · rw [e2] at e; injection e with e; omega
  have hb1 := kx.blk h.blk (fun e => h.nA e)
  refine ⟨⟨?_, ?_, ?_, h.clr, h.lo, fun z hz => ?_⟩, kk, hla⟩
  · have := hb1.set 0 (.slice A' (ap.length + 1) cA')
    simp only [List.setIfInBounds_toArray, List.set_cons_zero] at this
    simpa using this
  · have := OwnS.far (OwnS.ext ho hx) (p := ⟨g, 0, none⟩) hA' (.slice A' (ap.length + 1) cA')
    rw [List.length_append, flatE_append]; exact this
  · refine OwnS.far (OwnS.kp h.clo kx (fun b hb e => h.nAC e hb)) (p := ⟨g, 0, none⟩) h.nC _
  · have h1 : IL w z.A z.c z.e.ins ∧ (z.e.ins ≠ [] → ∀ b, z.A.map (·.block) = some b → ¬ deskB g A C b) := by
      rcases List.mem_append.1 hz with hz | hz
      · exact h.oil z hz
      · obtain rfl := List.mem_singleton.1 hz
        exact ⟨hi, hn⟩
    exact h1.1.later h1.2 kk hla
/-- d.Clients = append(d.Clients, v) -/
theorem cli (h : RdK w base g A cA ap C cC cl H) {w1 : World} {C' : Option Addr} {cC' : Nat} {v : Int} (hg : w.grownBy w1 (C.map (·.block))) (ho : OwnS w1 base 3 1 C' (cl.length + 1) cC' (cl.map (Value.int .i64) ++ [.int .i64 v]))
    (hat : C'.map (·.block) = C.map (·.block) ∨ ∃ n, w.heap.size ≤ n ∧ C'.map (·.block) = some n) (hx : Ext w1 w') (hv : I64 v) :
    RdK (w'.setCell ⟨g, 1, none⟩ (.slice C' (cl.length + 1) cC')) base g A cA ap C' cC' (cl ++ [v]) H ∧ KpP (deskB g A C) w (w'.setCell ⟨g, 1, none⟩ (.slice C' (cl.length + 1) cC')) ∧ Later (deskB g A C) (deskB g A C') w.heap.size := by
  have kg := KpP.of_grown hg
  have kx : KpP (fun b => C.map (·.block) = some b) w w' := kg.trans (KpP.of_ext hx)
  have kk : KpP (deskB g A C) w (w'.setCell ⟨g, 1, none⟩ (.slice C' (cl.length + 1) cC')) := (kx.mono (fun b hb => .inr (.inr hb))).set (.inl (.inl rfl)) _
  have hla : Later (deskB g A C) (deskB g A C') w.heap.size := fun b hb => by
    rcases hb with rfl | hb | hb
    · exact .inl (.inl rfl)
    · exact .inl (.inr (.inl hb))
    · rcases hat with e | ⟨n, hn, e⟩
      · exact .inl (.inr (.inr (e.symm.trans hb)))
      · rw [e] at hb; injection hb with hb; right; omega
  have hgl := h.blk.lt
  have hC' : C'.map (·.block) ≠ some g := fun e => by
    rcases hat with e2 | ⟨n, hn, e2⟩
    · exact h.nC (e2.symm.trans e)
    · rw [e2] at e; injection e with e; omega
  have hb1 := kx.blk h.blk (fun e => h.nC e)
  refine ⟨⟨?_, ?_, ?_, fun y hy => ?_, h.lo, fun z hz => (h.oil z hz).1.later (h.oil z hz).2 kk hla⟩, kk, hla⟩
  · have := hb1.set 1 (.slice C' (cl.length + 1) cC')
    simp only [List.setIfInBounds_toArray, List.set_cons_zero, List.set_cons_succ] at this
    simpa using this
  · refine OwnS.far (OwnS.kp h.apo kx (fun b hb e => h.nAC hb e)) (p := ⟨g, 1, none⟩) h.nA _
  · have := OwnS.far (OwnS.ext ho hx) (p := ⟨g, 1, none⟩) hC' (.slice C' (cl.length + 1) cC')
    unfold OwnI
    rw [List.length_append, List.map_append]; exact this
  · rcases List.mem_append.1 hy with hy | hy
    · exact h.clr y hy
    · obtain rfl := List.mem_singleton.1 hy
      exact hv
end RdK
end Go.Proofs.Ythhfjomjjhenkaa
