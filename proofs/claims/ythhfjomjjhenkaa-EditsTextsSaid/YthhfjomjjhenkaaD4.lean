/- What the loop of (*Desk).Take keeps, and how each of its writes keeps it. No walk. -/
import Derived.Test.YthhfjomjjhenkaaD2
namespace Go.Proofs.Ythhfjomjjhenkaa
open Go.RowKit

def BdX (l : List (Int × Int × Int)) : Prop := ∀ y ∈ l, 0 ≤ y.1 ∧ 0 ≤ y.2.1 ∧ 0 ≤ y.2.2 ∧ y.1 + y.2.1 ≤ 1099511627776 ∧ y.2.2 ≤ 65536
def flatE (l : List Oe) : List Value := l.flatMap fun o => [.int .i64 o.e.at_, .int .i64 o.e.del, .slice o.A o.e.ins.length o.c]
theorem flatE_append (l m : List Oe) : flatE (l ++ m) = flatE l ++ flatE m := by simp [flatE]
theorem flatE_len (l : List Oe) : (flatE l).length = l.length * 3 := by
  induction l with
  | nil => rfl
  | cons y l ih => simp only [flatE, List.flatMap_cons, List.length_append] at *; simp only [List.length_cons, List.length_nil]; omega
theorem flatE_one (l : List Oe) : ∀ u ∈ flatE l, u.oneCell' = true := by
  intro u hu
  obtain ⟨o, _, hu⟩ := List.mem_flatMap.1 hu
  simp only [List.mem_cons, List.not_mem_nil, or_false] at hu
  rcases hu with rfl | rfl | rfl <;> rfl
theorem flat_one (l : List (Int × Int × Int)) : ∀ u ∈ flat l, u.oneCell' = true := by
  intro u hu
  obtain ⟨o, _, hu⟩ := List.mem_flatMap.1 hu
  simp only [List.mem_cons, List.not_mem_nil, or_false] at hu
  rcases hu with rfl | rfl | rfl <;> rfl

def blkL (A : Option Addr) : List Nat := (A.map (·.block)).toList
theorem mem_blkL {A : Option Addr} {b : Nat} : b ∈ blkL A ↔ A.map (·.block) = some b := by
  unfold blkL; cases A.map (·.block) <;> simp [eq_comm]

/-- the blocks that Take may write -/
def ownB (g m1 m2 : Nat) (A : Option Addr) (b : Nat) : Prop := b = g ∨ b = m1 ∨ b = m2 ∨ A.map (·.block) = some b

theorem KpP.of_grown {w w' : World} {A : Option Addr} (h : w.grownBy w' (A.map (·.block))) : KpP (fun b => A.map (·.block) = some b) w w' :=
  ⟨h.os, h.tape, h.output, h.size, fun k hk hn => h.block k hk (fun e => hn e.symm)⟩

theorem IL.kp {w w' : World} {A : Option Addr} {c : Nat} {xs : List Int} {p : Nat → Prop} (h : IL w A c xs) (k : KpP p w w') (hn : xs ≠ [] → ∀ b, A.map (·.block) = some b → ¬ p b) : IL w' A c xs := by
  refine ⟨h.le, h.cap, h.rng, fun hx => ?_⟩
  obtain ⟨b, o, rfl, hc⟩ := h.at_ hx
  refine ⟨b, o, rfl, fun i hi => ?_⟩
  have h1 := hc i hi
  rw [World.cell?_of_block (w := w) (k.block b (World.block_lt_of_cell? _ _ h1) (hn hx b rfl))]; exact h1
theorem IL.blt {w : World} {A : Option Addr} {c : Nat} {xs : List Int} (h : IL w A c xs) (hx : xs ≠ []) {b : Nat} (hb : A.map (·.block) = some b) : b < w.heap.size := by
  obtain ⟨b', o, rfl, hc⟩ := h.at_ hx
  have : b' = b := by simpa using hb
  subst this
  exact World.block_lt_of_cell? _ _ (hc 0 (List.length_pos_iff.2 hx))
theorem OwnS.blt {w : World} {base e size n c : Nat} {A : Option Addr} {xs : List Value} (h : OwnS w base e size A n c xs) {b : Nat} (hb : A.map (·.block) = some b) : b < w.heap.size ∧ ∃ cur, w.heap[b]? = some (.cells cur e (0, 0)) := by
  rcases h.form with ⟨rfl, _⟩ | ⟨g, cur, rfl, _, hh, _⟩
  · simp at hb
  · have : g = b := by simpa using hb
    subst this
    exact ⟨(Array.getElem?_eq_some_iff.1 hh).1, cur, hh⟩
theorem OwnS.kp {w w' : World} {base e size n c : Nat} {A : Option Addr} {xs : List Value} {p : Nat → Prop} (h : OwnS w base e size A n c xs) (k : KpP p w w') (hn : ∀ b, A.map (·.block) = some b → ¬ p b) : OwnS w' base e size A n c xs := by
  refine ⟨h.1, ?_⟩
  rcases h.2 with h2 | ⟨g, cap, cur, hv, hg, hh, r⟩
  · exact Or.inl h2
  · refine Or.inr ⟨g, cap, cur, hv, hg, ?_, r⟩
    injection hv with e1 _ _
    subst e1
    exact (k.block g (Array.getElem?_eq_some_iff.1 hh).1 (hn g rfl)).trans hh
theorem MapAt.ownNe {α β : Type} {w : World} {b : Nat} {kv : α → Value} {vv : β → Value} {l : List (α × β)} (h : MapAt w b kv vv l) {base e size n c : Nat} {A : Option Addr} {xs : List Value} (ho : OwnS w base e size A n c xs) : Off A b := by
  intro hb
  obtain ⟨_, cur, hh⟩ := ho.blt hb
  obtain ⟨es, clock, h, _⟩ := h
  rw [hh] at h; cases h

structure TkI (w : World) (base base2 g m1 m2 : Nat) (A : Option Addr) (c : Nat) (s : Ds) (L : Option Addr) (cl : Nat) (out : List Oe) : Prop where
  desk : DeskAt w base g m1 m2 A c s.ap s.nx s.hd
  ok : ∀ p ∈ s.hd, ItOk p.2.it
  bd : BdX s.ap
  sum : s.ap.length + s.hd.length ≤ 5000
  outs : OwnS w base2 25 3 L out.length cl (flatE out)
  oil : ∀ o ∈ out, IL w o.A o.c o.e.ins ∧ (o.e.ins ≠ [] → ∀ b, o.A.map (·.block) = some b → b ≠ g ∧ Off A b ∧ Off L b)
  hil : ∀ p ∈ s.hd, p.2.it.e.ins ≠ [] → ∀ b, p.2.A.map (·.block) = some b → Off L b
  lg : Off L g
  lA : ∀ b, L.map (·.block) = some b → Off A b

namespace TkI
variable {w w' : World} {base base2 g m1 m2 c cl : Nat} {A L : Option Addr} {s : Ds} {out : List Oe}
theorem ext (h : TkI w base base2 g m1 m2 A c s L cl out) (x : Ext w w') : TkI w' base base2 g m1 m2 A c s L cl out :=
  ⟨h.desk.ext x, h.ok, h.bd, h.sum, OwnS.ext h.outs x, fun o ho => ⟨(h.oil o ho).1.ext x, (h.oil o ho).2⟩, h.hil, h.lg, h.lA⟩

/-- a map's block that is written leaves all else -/
theorem keep (h : TkI w base base2 g m1 m2 A c s L cl out) {m : Nat} (k : KpP (· = m) w w') (hm : m = m1 ∨ m = m2) :
    Blk w' g 90 #[.slice A s.ap.length c, .map (some m1), .map (some m2)] ∧ OwnS w' base 81 3 A s.ap.length c (flat s.ap) ∧
    OwnS w' base2 25 3 L out.length cl (flatE out) ∧ (∀ o ∈ out, IL w' o.A o.c o.e.ins) ∧ (∀ p ∈ s.hd, IL w' p.2.A p.2.c p.2.it.e.ins) := by
  have hmm : ∃ l : List (Int × Int), MapAt w m1 (Value.int .i64) (Value.int .i64) l := ⟨_, h.desk.next⟩
  have hne : ∀ b, (∃ cur T, w.heap[b]? = some (.cells cur T (0, 0))) → b ≠ m := by
    rintro b ⟨cur, T, hb⟩ rfl
    rcases hm with rfl | rfl
    · obtain ⟨es, clock, h1, _⟩ := h.desk.next
      rw [hb] at h1; cases h1
    · obtain ⟨es, clock, h1, _⟩ := h.desk.held
      rw [hb] at h1; cases h1
  have hil : ∀ (A : Option Addr) (c : Nat) (xs : List Int), IL w A c xs → IL w' A c xs := fun A c xs hI => hI.kp k (fun hx b hb => by
    rintro rfl
    obtain ⟨b', o, rfl, hc⟩ := hI.at_ hx
    have : b' = b := by simpa using hb
    subst this
    have h0 := hc 0 (List.length_pos_iff.2 hx)
    rcases hm with rfl | rfl
    · exact h.desk.next.cellNe h0 rfl
    · exact h.desk.held.cellNe h0 rfl)
  refine ⟨k.blk h.desk.blk (hne g ⟨_, _, h.desk.blk⟩), OwnS.kp h.desk.own k (fun b hb => ?_), OwnS.kp h.outs k (fun b hb => ?_), fun o ho => hil _ _ _ (h.oil o ho).1, fun p hp => hil _ _ _ (h.desk.il p hp).2.1⟩
  · obtain ⟨_, cur, hh⟩ := OwnS.blt h.desk.own hb
    exact hne b ⟨_, _, hh⟩
  · obtain ⟨_, cur, hh⟩ := OwnS.blt h.outs hb
    exact hne b ⟨_, _, hh⟩

theorem putNx (h : TkI w base base2 g m1 m2 A c s L cl out) (k : KpP (· = m1) w w') {nx : List (Int × Int)} (hn : MapAt w' m1 (Value.int .i64) (Value.int .i64) nx) : TkI w' base base2 g m1 m2 A c ⟨s.ap, nx, s.hd⟩ L cl out := by
  obtain ⟨k1, k2, k3, k4, k5⟩ := h.keep k (.inl rfl)
  exact ⟨⟨k1, k2, hn, h.desk.held.kp k (fun e => h.desk.ne2 e.symm), h.desk.ne, h.desk.ne2, fun p hp => ⟨(h.desk.il p hp).1, k5 p hp, (h.desk.il p hp).2.2⟩, h.desk.lo⟩, h.ok, h.bd, h.sum, k3, fun o ho => ⟨k4 o ho, (h.oil o ho).2⟩, h.hil, h.lg, h.lA⟩

theorem del (h : TkI w base base2 g m1 m2 A c s L cl out) (k : KpP (· = m2) w w') {x : Int × Int} (hn : MapAt w' m2 keyV hvV (delL s.hd x)) : TkI w' base base2 g m1 m2 A c ⟨s.ap, s.nx, delL s.hd x⟩ L cl out := by
  obtain ⟨k1, k2, k3, k4, k5⟩ := h.keep k (.inr rfl)
  have hs : ∀ p ∈ delL s.hd x, p ∈ s.hd := fun p hp => (List.mem_filter.1 hp).1
  have hle : (delL s.hd x).length ≤ s.hd.length := List.length_filter_le _ _
  exact ⟨⟨k1, k2, h.desk.next.kp k h.desk.ne2, hn, h.desk.ne, h.desk.ne2, fun p hp => ⟨(h.desk.il p (hs p hp)).1, k5 p (hs p hp), (h.desk.il p (hs p hp)).2.2⟩, h.desk.lo⟩,
    fun p hp => h.ok p (hs p hp), h.bd, by have := h.sum; simp only; omega, k3, fun o ho => ⟨k4 o ho, (h.oil o ho).2⟩, fun p hp => h.hil p (hs p hp), h.lg, h.lA⟩

/-- d.applied = append(d.applied, y) -/
theorem app (h : TkI w base base2 g m1 m2 A c s L cl out) {w1 : World} {A' : Option Addr} {c' : Nat} {y : Int × Int × Int} (hg : w.grownBy w1 (A.map (·.block))) (ho : OwnS w1 base 81 3 A' (s.ap.length + 1) c' (flat s.ap ++ flat [y]))
    (hat : A'.map (·.block) = A.map (·.block) ∨ A'.map (·.block) = some w.heap.size) (hx : Ext w1 w')
    (hy : 0 ≤ y.1 ∧ 0 ≤ y.2.1 ∧ 0 ≤ y.2.2 ∧ y.1 + y.2.1 ≤ 1099511627776 ∧ y.2.2 ≤ 65536) (hs : s.ap.length + 1 + s.hd.length ≤ 5000) :
    TkI (w'.setCell ⟨g, 0, none⟩ (.slice A' (s.ap.length + 1) c')) base base2 g m1 m2 A' c' ⟨s.ap ++ [y], s.nx, s.hd⟩ L cl out := by
  have kg := KpP.of_grown hg
  have kx : KpP (fun b => A.map (·.block) = some b) w w' := kg.trans (KpP.of_ext hx)
  have kk : KpP (fun b => b = g ∨ A.map (·.block) = some b) w (w'.setCell ⟨g, 0, none⟩ (.slice A' (s.ap.length + 1) c')) := (kx.mono (fun b hb => .inr hb)).set (.inl (.inl rfl)) _
  have hgl := h.desk.blk.lt
  have ha' : ∀ b, b < w.heap.size → Off A b → Off A' b := fun b hb hoff he => by
    rcases hat with e | e
    · exact hoff (e.symm.trans he)
    · rw [e] at he; injection he with he; omega
  have hb1 : Blk w' g 90 #[.slice A s.ap.length c, .map (some m1), .map (some m2)] := kx.blk h.desk.blk h.desk.ne
  have hil : ∀ (X : Option Addr) (d : Nat) (xs : List Int), IL w X d xs → (xs ≠ [] → ∀ b, X.map (·.block) = some b → b ≠ g ∧ Off A b) → IL (w'.setCell ⟨g, 0, none⟩ (.slice A' (s.ap.length + 1) c')) X d xs :=
    fun X d xs hI hn => hI.kp kk (fun hxs b hb hor => hor.elim (hn hxs b hb).1 (hn hxs b hb).2)
  have hgA' := ha' g hgl h.desk.ne
  refine ⟨⟨?_, ?_, h.desk.next.kp kk ?_, h.desk.held.kp kk ?_, hgA', h.desk.ne2, fun p hp => ⟨(h.desk.il p hp).1, ?_, fun hn b hb => ?_⟩, h.desk.lo⟩, h.ok, ?_, ?_, ?_, fun o ho' => ⟨?_, fun hn b hb => ?_⟩, h.hil, h.lg, fun b hb => ?_⟩
  · have := hb1.set 0 (.slice A' (s.ap.length + 1) c')
    simp only [List.setIfInBounds_toArray, List.set_cons_zero] at this
    simpa using this
  · have := OwnS.far (OwnS.ext ho hx) (p := ⟨g, 0, none⟩) hgA' (.slice A' (s.ap.length + 1) c')
    simp only [List.length_append, List.length_cons, List.length_nil, flat_append]
    exact this
  · rintro (e | e)
    · exact h.desk.next.ne h.desk.blk e
    · exact h.desk.next.ownNe h.desk.own e
  · rintro (e | e)
    · exact h.desk.held.ne h.desk.blk e
    · exact h.desk.held.ownNe h.desk.own e
  · exact hil _ _ _ (h.desk.il p hp).2.1 (h.desk.il p hp).2.2
  · have h1 := (h.desk.il p hp).2.2 hn b hb
    exact ⟨h1.1, ha' b ((h.desk.il p hp).2.1.blt hn hb) h1.2⟩
  · intro z hz
    rcases List.mem_append.1 hz with hz | hz
    · exact h.bd z hz
    · have : z = y := by simpa using hz
      subst this; exact hy
  · simp only [List.length_append, List.length_cons, List.length_nil]; omega
  · refine OwnS.kp h.outs kk (fun b hb hor => hor.elim (fun e => h.lg (by rw [hb, e])) (fun e => h.lA b hb e))
  · exact hil _ _ _ (h.oil o ho').1 (fun hn b hb => ⟨((h.oil o ho').2 hn b hb).1, ((h.oil o ho').2 hn b hb).2.1⟩)
  · have h1 := (h.oil o ho').2 hn b hb
    exact ⟨h1.1, ha' b ((h.oil o ho').1.blt hn hb) h1.2.1, h1.2.2⟩
  · exact ha' b (OwnS.blt h.outs hb).1 (h.lA b hb)

/-- l = append(l, o) -/
theorem put (h : TkI w base base2 g m1 m2 A c s L cl out) {w1 : World} {L' : Option Addr} {cl' : Nat} {o : Oe} (hg : w.grownBy w1 (L.map (·.block))) (ho : OwnS w1 base2 25 3 L' (out.length + 1) cl' (flatE out ++ flatE [o]))
    (hat : L'.map (·.block) = L.map (·.block) ∨ ∃ n, w.heap.size ≤ n ∧ L'.map (·.block) = some n) (hA : ∀ b, A.map (·.block) = some b → b < w.heap.size)
    (hi : IL w o.A o.c o.e.ins) (hn : o.e.ins ≠ [] → ∀ b, o.A.map (·.block) = some b → b ≠ g ∧ Off A b ∧ Off L b) : TkI w1 base base2 g m1 m2 A c s L' cl' (out ++ [o]) := by
  have kk := KpP.of_grown hg
  have hl' : ∀ b, b < w.heap.size → Off L b → Off L' b := fun b hb hoff he => by
    rcases hat with e | ⟨n, hn, e⟩
    · exact hoff (e.symm.trans he)
    · rw [e] at he; injection he with he; omega
  have hd := h.desk
  refine ⟨⟨kk.blk hd.blk h.lg, OwnS.kp hd.own kk (fun b hb e => h.lA b e hb), hd.next.kp kk (hd.next.ownNe h.outs), hd.held.kp kk (hd.held.ownNe h.outs), hd.ne, hd.ne2,
    fun p hp => ⟨(hd.il p hp).1, (hd.il p hp).2.1.kp kk (fun hx b hb => h.hil p hp hx b hb), (hd.il p hp).2.2⟩, hd.lo⟩, h.ok, h.bd, h.sum, ?_, fun z hz => ?_, fun p hp hx b hb => ?_, ?_, fun b hb => ?_⟩
  · simp only [List.length_append, List.length_cons, List.length_nil, flatE_append]
    exact ho
  · rcases List.mem_append.1 hz with hz | hz
    · have h1 := h.oil z hz
      exact ⟨h1.1.kp kk (fun hx b hb => (h1.2 hx b hb).2.2), fun hx b hb => ⟨(h1.2 hx b hb).1, (h1.2 hx b hb).2.1, hl' b (h1.1.blt hx hb) (h1.2 hx b hb).2.2⟩⟩
    · have : z = o := by simpa using hz
      subst this
      exact ⟨hi.kp kk (fun hx b hb => (hn hx b hb).2.2), fun hx b hb => ⟨(hn hx b hb).1, (hn hx b hb).2.1, hl' b (hi.blt hx hb) (hn hx b hb).2.2⟩⟩
  · exact hl' b ((hd.il p hp).2.1.blt hx hb) (h.hil p hp hx b hb)
  · exact hl' g hd.blk.lt h.lg
  · rcases hat with e | ⟨n, hn', e⟩
    · exact h.lA b (e.symm.trans hb)
    · rw [e] at hb
      injection hb with hb
      intro e2
      have := hA b e2
      omega
end TkI
end Go.Proofs.Ythhfjomjjhenkaa
