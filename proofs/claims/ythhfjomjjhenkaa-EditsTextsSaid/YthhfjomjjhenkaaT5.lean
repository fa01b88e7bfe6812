/- What the reference's Make holds in memory, and how each of its writes keeps it. No walk. -/
import Derived.Test.YthhfjomjjhenkaaT3
namespace Go.Proofs.Ythhfjomjjhenkaa
open Go.RowKit

theorem infoRT : (Try.prog.info? 22).map (fun i => (i.zero, i.size, i.bytes)) = some (some (.slice none 0 0), 1, 24) := by kernel_rfl

/-- a text that is held -/
structure Tx where
  A : Option Addr
  c : Nat
  l : List Int
def flatT (l : List Tx) : List Value := l.map fun t => .slice t.A t.l.length t.c
theorem flatT_append (l m : List Tx) : flatT (l ++ m) = flatT l ++ flatT m := by simp [flatT]
theorem flatT_len (l : List Tx) : (flatT l).length = l.length * 1 := by simp [flatT]
theorem flatT_one (l : List Tx) : ∀ u ∈ flatT l, u.oneCell' = true := by
  intro u hu
  obtain ⟨t, _, rfl⟩ := List.mem_map.1 hu
  rfl

/-- the blocks that Make writes -/
def mkB (gm g : Nat) (A C I X : Option Addr) (b : Nat) : Prop := b = gm ∨ deskB g A C b ∨ I.map (·.block) = some b ∨ X.map (·.block) = some b

structure MkM (w : World) (base gm g : Nat) (A : Option Addr) (cA : Nat) (C : Option Addr) (cC : Nat) (I : Option Addr) (cI : Nat) (X : Option Addr) (cX : Nat) (its : List Hv) (es : List Oe) (cl : List Int) (txs : List Tx) : Prop where
  blk : Blk w gm 60 #[.slice I its.length cI, .slice X txs.length cX]
  desk : RdK w base g A cA es C cC cl (.slice none 0 0)
  ito : OwnS w base 63 6 I its.length cI (flatI its)
  txo : OwnS w base 22 1 X txs.length cX (flatT txs)
  lo : base ≤ gm
  il : ∀ h ∈ its, IL w h.A h.c h.it.e.ins ∧ (h.it.e.ins ≠ [] → ∀ b, h.A.map (·.block) = some b → ¬ mkB gm g A C I X b)
  el : ∀ o ∈ es, IL w o.A o.c o.e.ins ∧ (o.e.ins ≠ [] → ∀ b, o.A.map (·.block) = some b → ¬ mkB gm g A C I X b)
  tl : ∀ t ∈ txs, IL w t.A t.c t.l ∧ (t.l ≠ [] → ∀ b, t.A.map (·.block) = some b → ¬ mkB gm g A C I X b)

theorem own_ne {w : World} {b1 b2 e1 e2 s1 s2 n1 n2 c1 c2 : Nat} {A B : Option Addr} {xs ys : List Value} (h : OwnS w b1 e1 s1 A n1 c1 xs) (k : OwnS w b2 e2 s2 B n2 c2 ys) (hne : e1 ≠ e2) {b : Nat} (hb : A.map (·.block) = some b) : B.map (·.block) ≠ some b := fun e => by
  obtain ⟨_, cur, hh⟩ := OwnS.blt h hb
  obtain ⟨_, cur2, hh2⟩ := OwnS.blt k e
  rw [hh] at hh2; injection hh2 with hh2; injection hh2 with _ h2
  exact hne h2
theorem own_blk {w : World} {b1 e1 s1 n1 c1 g T : Nat} {A : Option Addr} {xs : List Value} {cs : Array Value} (h : OwnS w b1 e1 s1 A n1 c1 xs) (k : Blk w g T cs) (hne : e1 ≠ T) : A.map (·.block) ≠ some g := fun e => by
  obtain ⟨_, cur, hh⟩ := OwnS.blt h e
  unfold Blk at k; rw [k] at hh; injection hh with hh; injection hh with _ h2
  exact hne h2.symm
theorem blk_blk {w : World} {g h T U : Nat} {cs ds : Array Value} (k : Blk w g T cs) (l : Blk w h U ds) (hne : T ≠ U) : g ≠ h := by
  rintro rfl
  unfold Blk at k l; rw [k] at l; injection l with l; injection l with _ h2
  exact hne h2

namespace MkM
variable {w w' : World} {base gm g cA cC cI cX : Nat} {A C I X : Option Addr} {its : List Hv} {es : List Oe} {cl : List Int} {txs : List Tx}
theorem ext (h : MkM w base gm g A cA C cC I cI X cX its es cl txs) (x : Ext w w') : MkM w' base gm g A cA C cC I cI X cX its es cl txs :=
  ⟨h.blk.ext x, h.desk.ext x, OwnS.ext h.ito x, OwnS.ext h.txo x, h.lo, fun z hz => ⟨(h.il z hz).1.ext x, (h.il z hz).2⟩, fun z hz => ⟨(h.el z hz).1.ext x, (h.el z hz).2⟩, fun z hz => ⟨(h.tl z hz).1.ext x, (h.tl z hz).2⟩⟩
theorem low (h : MkM w base gm g A cA C cC I cI X cX its es cl txs) {b : Nat} (hb : mkB gm g A C I X b) : base ≤ b := by
  rcases hb with rfl | hb | hb | hb
  · exact h.lo
  · exact h.desk.low hb
  · exact OwnS.row h.ito b hb
  · exact OwnS.row h.txo b hb
theorem nGm (h : MkM w base gm g A cA C cC I cI X cX its es cl txs) : ¬ deskB g A C gm := by
  rintro (e | e | e)
  · exact blk_blk h.blk h.desk.blk (by decide) e
  · exact own_blk h.desk.apo h.blk (by decide) e
  · exact own_blk h.desk.clo h.blk (by decide) e
theorem nI (h : MkM w base gm g A cA C cC I cI X cX its es cl txs) {b : Nat} (hb : I.map (·.block) = some b) : ¬ deskB g A C b := by
  rintro (rfl | e | e)
  · exact own_blk h.ito h.desk.blk (by decide) hb
  · exact own_ne h.ito h.desk.apo (by decide) hb e
  · exact own_ne h.ito h.desk.clo (by decide) hb e
theorem nX (h : MkM w base gm g A cA C cC I cI X cX its es cl txs) {b : Nat} (hb : X.map (·.block) = some b) : ¬ deskB g A C b := by
  rintro (rfl | e | e)
  · exact own_blk h.txo h.desk.blk (by decide) hb
  · exact own_ne h.txo h.desk.apo (by decide) hb e
  · exact own_ne h.txo h.desk.clo (by decide) hb e

/-- the desk has taken an item -/
theorem take (h : MkM w base gm g A cA C cC I cI X cX its es cl txs) {A' C' : Option Addr} {cA' cC' : Nat} {o : Oe} {c : Int} (hD : RdK w' base g A' cA' (es ++ [o]) C' cC' (cl ++ [c]) (.slice none 0 0)) (k : KpP (deskB g A C) w w') (hl : Later (deskB g A C) (deskB g A' C') w.heap.size)
    (hi : IL w o.A o.c o.e.ins) (hn : o.e.ins ≠ [] → ∀ b, o.A.map (·.block) = some b → ¬ mkB gm g A C I X b) : MkM w' base gm g A' cA' C' cC' I cI X cX its (es ++ [o]) (cl ++ [c]) txs := by
  have kk : KpP (mkB gm g A C I X) w w' := k.mono (fun b hb => .inr (.inl hb))
  have hla : Later (mkB gm g A C I X) (mkB gm g A' C' I X) w.heap.size := fun b hb => by
    rcases hb with hb | hb | hb | hb
    · exact .inl (.inl hb)
    · exact (hl b hb).imp (fun h => .inr (.inl h)) id
    · exact .inl (.inr (.inr (.inl hb)))
    · exact .inl (.inr (.inr (.inr hb)))
  refine ⟨k.blk h.blk h.nGm, hD, OwnS.kp h.ito k (fun b hb => h.nI hb), OwnS.kp h.txo k (fun b hb => h.nX hb), h.lo, fun z hz => (h.il z hz).1.later (h.il z hz).2 kk hla, fun z hz => ?_, fun z hz => (h.tl z hz).1.later (h.tl z hz).2 kk hla⟩
  rcases List.mem_append.1 hz with hz | hz
  · exact (h.el z hz).1.later (h.el z hz).2 kk hla
  · obtain rfl := List.mem_singleton.1 hz
    exact hi.later hn kk hla

/-- a write beside the desk keeps the desk -/
theorem deskKp (h : MkM w base gm g A cA C cC I cI X cX its es cl txs) {p : Nat → Prop} (k : KpP p w w') (hp : ∀ b, p b → mkB gm g A C I X b ∧ ¬ deskB g A C b) : RdK w' base g A cA es C cC cl (.slice none 0 0) :=
  ⟨k.blk h.desk.blk (fun hb => (hp _ hb).2 (.inl rfl)), OwnS.kp h.desk.apo k (fun b hb hq => (hp _ hq).2 (.inr (.inl hb))), OwnS.kp h.desk.clo k (fun b hb hq => (hp _ hq).2 (.inr (.inr hb))), h.desk.clr, h.desk.lo,
    fun o ho => ⟨(h.el o ho).1.kp k (fun hx b hb hq => (h.el o ho).2 hx b hb (hp _ hq).1), (h.desk.oil o ho).2⟩⟩

/-- m.Items = append(m.Items, z) -/
theorem item (h : MkM w base gm g A cA C cC I cI X cX its es cl txs) {w1 : World} {I' : Option Addr} {cI' : Nat} {z : Hv} (hg : w.grownBy w1 (I.map (·.block))) (ho : OwnS w1 base 63 6 I' (its.length + 1) cI' (flatI its ++ flatI [z]))
    (hat : I'.map (·.block) = I.map (·.block) ∨ I'.map (·.block) = some w.heap.size) (hx : Ext w1 w') (hi : IL w z.A z.c z.it.e.ins) (hn : z.it.e.ins ≠ [] → ∀ b, z.A.map (·.block) = some b → ¬ mkB gm g A C I X b) :
    MkM (w'.setCell ⟨gm, 0, none⟩ (.slice I' (its.length + 1) cI')) base gm g A cA C cC I' cI' X cX (its ++ [z]) es cl txs := by
  have kx : KpP (fun b => I.map (·.block) = some b) w w' := (KpP.of_grown hg).trans (KpP.of_ext hx)
  have k2 : KpP (fun b => b = gm ∨ I.map (·.block) = some b) w (w'.setCell ⟨gm, 0, none⟩ (.slice I' (its.length + 1) cI')) := (kx.mono (fun b hb => .inr hb)).set (.inl (.inl rfl)) _
  have kk : KpP (mkB gm g A C I X) w _ := k2.mono (fun b hb => hb.elim (fun e => .inl e) (fun e => .inr (.inr (.inl e))))
  have hla : Later (mkB gm g A C I X) (mkB gm g A C I' X) w.heap.size := fun b hb => by
    rcases hb with hb | hb | hb | hb
    · exact .inl (.inl hb)
    · exact .inl (.inr (.inl hb))
    · rcases hat with e | e
      · exact .inl (.inr (.inr (.inl (e.symm.trans hb))))
      · rw [e] at hb; injection hb with hb; right; omega
    · exact .inl (.inr (.inr (.inr hb)))
  have hgl := h.blk.lt
  have hIg : I.map (·.block) ≠ some gm := own_blk h.ito h.blk (by decide)
  have hI' : I'.map (·.block) ≠ some gm := fun e => by
    rcases hat with e2 | e2
    · exact hIg (e2.symm.trans e)
    · rw [e2] at e; injection e with e; omega
  have hb1 := kx.blk h.blk hIg
  refine ⟨?_, h.deskKp k2 (fun b hb => ?_), ?_, OwnS.kp h.txo k2 (fun b hb hor => ?_), h.lo, fun y hy => ?_, fun y hy => (h.el y hy).1.later (h.el y hy).2 kk hla, fun y hy => (h.tl y hy).1.later (h.tl y hy).2 kk hla⟩
  · have := hb1.set 0 (.slice I' (its.length + 1) cI')
    simp only [List.setIfInBounds_toArray, List.set_cons_zero] at this
    simpa using this
  · rcases hb with rfl | hb
    · exact ⟨.inl rfl, h.nGm⟩
    · exact ⟨.inr (.inr (.inl hb)), h.nI hb⟩
  · have := OwnS.far (OwnS.ext ho hx) (p := ⟨gm, 0, none⟩) hI' (.slice I' (its.length + 1) cI')
    rw [List.length_append, flatI_append]; exact this
  · rcases hor with rfl | hor
    · exact own_blk h.txo h.blk (by decide) hb
    · exact own_ne h.ito h.txo (by decide) hor hb
  · rcases List.mem_append.1 hy with hy | hy
    · exact (h.il y hy).1.later (h.il y hy).2 kk hla
    · obtain rfl := List.mem_singleton.1 hy
      exact hi.later hn kk hla

/-- m.Texts = append(m.Texts, t) -/
theorem text (h : MkM w base gm g A cA C cC I cI X cX its es cl txs) {w1 : World} {X' : Option Addr} {cX' : Nat} {t : Tx} (hg : w.grownBy w1 (X.map (·.block))) (ho : OwnS w1 base 22 1 X' (txs.length + 1) cX' (flatT txs ++ flatT [t]))
    (hat : X'.map (·.block) = X.map (·.block) ∨ X'.map (·.block) = some w.heap.size) (hx : Ext w1 w') (hi : IL w t.A t.c t.l) (hn : t.l ≠ [] → ∀ b, t.A.map (·.block) = some b → ¬ mkB gm g A C I X b) :
    MkM (w'.setCell ⟨gm, 1, none⟩ (.slice X' (txs.length + 1) cX')) base gm g A cA C cC I cI X' cX' its es cl (txs ++ [t]) := by
  have kx : KpP (fun b => X.map (·.block) = some b) w w' := (KpP.of_grown hg).trans (KpP.of_ext hx)
  have k2 : KpP (fun b => b = gm ∨ X.map (·.block) = some b) w (w'.setCell ⟨gm, 1, none⟩ (.slice X' (txs.length + 1) cX')) := (kx.mono (fun b hb => .inr hb)).set (.inl (.inl rfl)) _
  have kk : KpP (mkB gm g A C I X) w _ := k2.mono (fun b hb => hb.elim (fun e => .inl e) (fun e => .inr (.inr (.inr e))))
  have hla : Later (mkB gm g A C I X) (mkB gm g A C I X') w.heap.size := fun b hb => by
    rcases hb with hb | hb | hb | hb
    · exact .inl (.inl hb)
    · exact .inl (.inr (.inl hb))
    · exact .inl (.inr (.inr (.inl hb)))
    · rcases hat with e | e
      · exact .inl (.inr (.inr (.inr (e.symm.trans hb))))
      · rw [e] at hb; injection hb with hb; right; omega
  have hgl := h.blk.lt
  have hXg : X.map (·.block) ≠ some gm := own_blk h.txo h.blk (by decide)
  have hX' : X'.map (·.block) ≠ some gm := fun e => by
    rcases hat with e2 | e2
    · exact hXg (e2.symm.trans e)
    · rw [e2] at e; injection e with e; omega
  have hb1 := kx.blk h.blk hXg
  refine ⟨?_, h.deskKp k2 (fun b hb => ?_), OwnS.kp h.ito k2 (fun b hb hor => ?_), ?_, h.lo, fun y hy => (h.il y hy).1.later (h.il y hy).2 kk hla, fun y hy => (h.el y hy).1.later (h.el y hy).2 kk hla, fun y hy => ?_⟩
  · have := hb1.set 1 (.slice X' (txs.length + 1) cX')
    simp only [List.setIfInBounds_toArray, List.set_cons_zero, List.set_cons_succ] at this
    simpa using this
  · rcases hb with rfl | hb
    · exact ⟨.inl rfl, h.nGm⟩
    · exact ⟨.inr (.inr (.inr hb)), h.nX hb⟩
  · rcases hor with rfl | hor
    · exact own_blk h.ito h.blk (by decide) hb
    · exact own_ne h.ito h.txo (by decide) hb hor
  · have := OwnS.far (OwnS.ext ho hx) (p := ⟨gm, 1, none⟩) hX' (.slice X' (txs.length + 1) cX')
    rw [List.length_append, flatT_append]; exact this
  · rcases List.mem_append.1 hy with hy | hy
    · exact (h.tl y hy).1.later (h.tl y hy).2 kk hla
    · obtain rfl := List.mem_singleton.1 hy
      exact hi.later hn kk hla
end MkM
end Go.Proofs.Ythhfjomjjhenkaa
