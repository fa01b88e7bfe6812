/- One round of EditsOnce's later loops: Take of an item, then the append of what came out. No walk. -/
import Derived.Test.YthhfjomjjhenkaaD9
import Derived.Test.YthhfjomjjhenkaaD5
import Derived.Test.YthhfjomjjhenkaaD3
namespace Go.Proofs.Ythhfjomjjhenkaa
open Go.RowKit

theorem nodup_le {α : Type} [DecidableEq α] : ∀ (l m : List α), l.Nodup → (∀ x ∈ l, x ∈ m) → l.length ≤ m.length
  | [], _, _, _ => Nat.zero_le _
  | x :: l, m, hn, hs => by
    have hx := hs x (by simp)
    have h1 : l.length ≤ (m.erase x).length := nodup_le l (m.erase x) (List.nodup_cons.1 hn).2 (fun y hy => by
      have hne : y ≠ x := fun e => (List.nodup_cons.1 hn).1 (e ▸ hy)
      exact (List.mem_erase_of_ne hne).2 (hs y (by simp [hy])))
    have h2 := List.length_erase_of_mem hx
    have h3 := List.length_pos_of_mem hx
    simp only [List.length_cons]
    omega

/-- item i has come: it is applied, or held -/
def Dl (its : List It) (s : Ds) (p i : Nat) : Prop := i < p ∨ ∃ q ∈ s.hd, ∃ h : i < its.length, q.1 = (its[i].client, its[i].number)

theorem steps_sub {s s' : Ds} {out : List Oe} (h : Steps s out s') : (∀ q ∈ s'.hd, q ∈ s.hd) ∧ ∀ o ∈ out, ∃ q ∈ s.hd, o.A = q.2.A ∧ o.e.ins = q.2.it.e.ins := by
  induction h with
  | refl => exact ⟨fun q h => h, by simp⟩
  | snoc p hst hp hr _ ih =>
    refine ⟨fun q hq => ih.1 q (List.mem_filter.1 hq).1, fun o ho => ?_⟩
    rcases List.mem_append.1 ho with ho | ho
    · exact ih.2 o ho
    · obtain rfl := List.mem_singleton.1 ho
      exact ⟨p, ih.1 p hp, rfl, rfl⟩

theorem dl_steps {its : List It} (ho : OnceL its) {p i : Nat} {s s' : Ds} {out : List Oe} (h : OnceI its p s) (hst : Steps s out s') (hd : Dl its s p i) : Dl its s' (p + out.length) i := by
  induction hst with
  | refl => exact hd
  | snoc q hst hq hr _ ih =>
    obtain ⟨p1, _, h1, _, hpl⟩ := once_steps ho h hst
    subst hpl
    rw [List.length_append, List.length_singleton]
    rcases ih with hl | ⟨x, hx, hi, hk⟩
    · left; omega
    · obtain ⟨hp, hqk, _⟩ := once_ready ho h1 hq hr
      by_cases hxq : x.1 = q.1
      · left
        rw [hk, hqk] at hxq
        injection hxq with e1 e2
        have := key_inj ho hi hp e1 e2
        omega
      · right
        refine ⟨x, ?_, hi, hk⟩
        show x ∈ delL _ _
        exact List.mem_filter.2 ⟨hx, by simpa using hxq⟩

/-- all have come, and nothing is ready: all are applied -/
theorem dl_all {its : List It} (ho : OnceL its) {p : Nat} {s : Ds} (h : OnceI its p s) (hn : noRdy s) (hd : ∀ i, i < its.length → Dl its s p i) : p = its.length := by
  rcases Nat.lt_or_ge p its.length with hp | hp
  · rcases hd p hp with hl | ⟨q, hq, _, hk⟩
    · omega
    · exact absurd hk (once_stuck ho h hn hp q hq)
  · have := h.le; omega

structure Lp (w : World) (base g m1 m2 : Nat) (its : List It) (A : Option Addr) (c : Nat) (s : Ds) (p : Nat) (G : Option Addr) (cG : Nat) (got : List Oe) (tl : List Ed) : Prop where
  desk : DeskAt w base g m1 m2 A c s.ap s.nx s.hd
  lo : base ≤ m1 ∧ base ≤ m2
  ok : ∀ q ∈ s.hd, ItOk q.2.it
  bd : BdX s.ap
  one : OnceI its p s
  no : noRdy s
  own : OwnS w base 25 3 G got.length cG (flatE got)
  gil : ∀ o ∈ got, IL w o.A o.c o.e.ins ∧ (o.e.ins ≠ [] → ∀ b, o.A.map (·.block) = some b → b ≠ g ∧ Off A b ∧ Off G b)
  hil : ∀ q ∈ s.hd, q.2.it.e.ins ≠ [] → ∀ b, q.2.A.map (·.block) = some b → Off G b
  eq : got.map (·.e) ++ tl = (its.take p).map (·.e)

namespace Lp
variable {w w' : World} {base g m1 m2 c p cG : Nat} {its : List It} {A G : Option Addr} {s : Ds} {got : List Oe} {tl : List Ed}
theorem ext (h : Lp w base g m1 m2 its A c s p G cG got tl) (x : Ext w w') : Lp w' base g m1 m2 its A c s p G cG got tl :=
  ⟨h.desk.ext x, h.lo, h.ok, h.bd, h.one, h.no, OwnS.ext h.own x, fun o ho => ⟨(h.gil o ho).1.ext x, (h.gil o ho).2⟩, h.hil, h.eq⟩

/-- the blocks that Take writes are new since base -/
theorem owned (h : Lp w base g m1 m2 its A c s p G cG got tl) {b : Nat} (hb : ownB g m1 m2 A b) : base ≤ b := by
  rcases hb with rfl | rfl | rfl | hb
  · exact h.desk.lo
  · exact h.lo.1
  · exact h.lo.2
  · exact OwnS.row h.desk.own b hb
theorem gOff (h : Lp w base g m1 m2 its A c s p G cG got tl) {b : Nat} (hb : G.map (·.block) = some b) : ¬ ownB g m1 m2 A b := by
  obtain ⟨hlt, cur, hh⟩ := OwnS.blt h.own hb
  rintro (rfl | rfl | rfl | hA)
  · have := h.desk.blk; unfold Blk at this; rw [this] at hh; injection hh with hh; injection hh with _ h2; revert h2; decide
  · exact h.desk.next.ownNe h.own hb
  · exact h.desk.held.ownNe h.own hb
  · obtain ⟨_, cur2, hh2⟩ := OwnS.blt h.desk.own hA
    rw [hh] at hh2; injection hh2 with hh2; injection hh2 with _ h2; revert h2; decide
theorem ilOff (h : Lp w base g m1 m2 its A c s p G cG got tl) {X : Option Addr} {k : Nat} {xs : List Int} (hI : IL w X k xs) (hn : xs ≠ []) {b : Nat} (hb : X.map (·.block) = some b) (h1 : b ≠ g) (h2 : Off A b) : ¬ ownB g m1 m2 A b := by
  obtain ⟨b', o, rfl, hc⟩ := hI.at_ hn
  have hbb : b' = b := by simpa using hb
  subst hbb
  have h0 := hc 0 (List.length_pos_iff.2 hn)
  rintro (rfl | rfl | rfl | hA)
  · exact h1 rfl
  · exact h.desk.next.cellNe h0 rfl
  · exact h.desk.held.cellNe h0 rfl
  · exact h2 hA

/-- got = append(got, out...) -/
theorem app (h : Lp w base g m1 m2 its A c s p G cG got tl) {out : List Oe} (htl : tl = out.map (·.e)) {G' : Option Addr} {cG' : Nat} (hg : w.grownBy w' (G.map (·.block)))
    (ho : OwnS w' base 25 3 G' (got.length + out.length) cG' (flatE got ++ flatE out)) (hat : G'.map (·.block) = G.map (·.block) ∨ G'.map (·.block) = some w.heap.size)
    (oil : ∀ o ∈ out, IL w o.A o.c o.e.ins ∧ (o.e.ins ≠ [] → ∀ b, o.A.map (·.block) = some b → b ≠ g ∧ Off A b ∧ Off G b)) : Lp w' base g m1 m2 its A c s p G' cG' (got ++ out) [] := by
  have kk := KpP.of_grown hg
  have hg' : ∀ b, b < w.heap.size → Off G b → Off G' b := fun b hb hoff he => by
    rcases hat with e | e
    · exact hoff (e.symm.trans he)
    · rw [e] at he; injection he with he; omega
  have hD := h.desk
  refine ⟨⟨kk.blk hD.blk (fun e => h.gOff e (.inl rfl)), OwnS.kp hD.own kk (fun b hb e => h.gOff e (.inr (.inr (.inr hb)))), hD.next.kp kk (hD.next.ownNe h.own), hD.held.kp kk (hD.held.ownNe h.own), hD.ne, hD.ne2,
    fun q hq => ⟨(hD.il q hq).1, (hD.il q hq).2.1.kp kk (fun hx b hb => h.hil q hq hx b hb), (hD.il q hq).2.2⟩, hD.lo⟩, h.lo, h.ok, h.bd, h.one, h.no, ?_, fun o hoo => ?_, fun q hq hx b hb => ?_, ?_⟩
  · rw [List.length_append, flatE_append]; exact ho
  · have h1 : IL w o.A o.c o.e.ins ∧ (o.e.ins ≠ [] → ∀ b, o.A.map (·.block) = some b → b ≠ g ∧ Off A b ∧ Off G b) := by
      rcases List.mem_append.1 hoo with hoo | hoo
      · exact h.gil o hoo
      · exact oil o hoo
    exact ⟨h1.1.kp kk (fun hx b hb => (h1.2 hx b hb).2.2), fun hx b hb => ⟨(h1.2 hx b hb).1, (h1.2 hx b hb).2.1, hg' b (h1.1.blt hx hb) (h1.2 hx b hb).2.2⟩⟩
  · exact hg' b ((hD.il q hq).2.1.blt hx hb) (h.hil q hq hx b hb)
  · rw [List.append_nil, List.map_append, ← htl]; exact h.eq
end Lp

/-- what Take of item i leaves -/
def RetLp (w : World) (base g m1 m2 : Nat) (its : List It) (A : Option Addr) (s : Ds) (p : Nat) (G : Option Addr) (cG : Nat) (got : List Oe) (i : Nat) (e : Ending) (w' : World) : Prop :=
  ∃ (L : Option Addr) (cl : Nat) (out : List Oe) (A' : Option Addr) (c' : Nat) (s' : Ds), e = .returned (.tuple #[.slice L out.length cl, .int .i64 0]) ∧ out.length ≤ its.length ∧
    Lp w' base g m1 m2 its A' c' s' (p + out.length) G cG got (out.map (·.e)) ∧ OwnS w' w.heap.size 25 3 L out.length cl (flatE out) ∧
    (∀ o ∈ out, IL w' o.A o.c o.e.ins ∧ (o.e.ins ≠ [] → ∀ b, o.A.map (·.block) = some b → b ≠ g ∧ Off A' b ∧ Off G b)) ∧ KpP (fun b => base ≤ b) w w' ∧
    (∀ j, Dl its s p j → Dl its s' (p + out.length) j) ∧ Dl its s' (p + out.length) i

theorem take_item {w : World} {base g m1 m2 c p cG : Nat} {its : List It} {A G : Option Addr} {s : Ds} {got : List Oe} (ho : OnceL its) (hok : ∀ x ∈ its, ItOk x) (hlen : its.length ≤ 12) {i : Nat} (hi : i < its.length)
    (h : Lp w base g m1 m2 its A c s p G cG got []) (A0 : Option Addr) (c0 : Nat) (hl : IL w A0 c0 its[i].e.ins) :
    Calls Try.prog 19 #[.pointer (some ⟨g, 0, none⟩), itV its[i] A0 c0] w (RetLp w base g m1 m2 its A s p G cG got i) := by
  have hxi := hok _ (List.getElem_mem hi)
  by_cases ht : (at? s.hd (its[i].client, its[i].number)).isSome = true ∨ i < p
  · refine (take_there base g m1 m2 A c s.ap s.nx s.hd its[i] A0 c0 w h.desk hxi hl (ht.imp id (fun hp => once_old ho h.one hi hp))).mono ?_
    rintro e w' ⟨rfl, x⟩
    refine ⟨none, 0, [], A, c, s, rfl, Nat.zero_le _, h.ext x, OwnS.nil _ _ _ _, by simp, KpP.of_ext x, fun j hj => hj, ?_⟩
    rcases ht with ht | ht
    · right
      unfold at? at ht
      rw [Option.isSome_map] at ht
      obtain ⟨q, hq⟩ := Option.isSome_iff_exists.1 ht
      exact ⟨q, List.mem_of_find?_eq_some hq, hi, by simpa using List.find?_some hq⟩
    · left; simpa using ht
  · have hno : at? s.hd (its[i].client, its[i].number) = none := by
      cases hq : at? s.hd (its[i].client, its[i].number) with
      | none => rfl
      | some v => exact absurd (.inl (by rw [hq]; rfl)) ht
    have hp : p ≤ i := by
      rcases Nat.lt_or_ge i p with h1 | h1
      · exact absurd (.inr h1) ht
      · exact h1
    have hap : s.ap.length ≤ its.length := by rw [h.one.ap, List.length_map, List.length_take]; omega
    have hhd : s.hd.length ≤ its.length := by
      have h1 := nodup_le (s.hd.map (·.1)) (its.map (fun x => (x.client, x.number))) (by obtain ⟨es, clock, _, _, hn, _⟩ := h.desk.held; exact hn) (fun k hk => by
        obtain ⟨q, hq, rfl⟩ := List.mem_map.1 hk
        obtain ⟨j, hj, _, hk2, _⟩ := h.one.hd q hq
        rw [hk2]; exact List.mem_map.2 ⟨its[j], List.getElem_mem hj, rfl⟩)
      simpa using h1
    refine (take_new base g m1 m2 A c s.ap s.nx s.hd its[i] A0 c0 w h.desk hxi hl hno (once_new ho h.one hi hp) h.ok h.bd (by omega) (by omega)).mono ?_
    rintro e w' ⟨B, d, L, cl, out, A', c', s', rfl, hst, hnr, T, hkp, hA', hB⟩
    have h1 := once_add h.one hi hp B d
    obtain ⟨p', hle, h2, he, rfl⟩ := once_steps ho h1 hst
    obtain ⟨hs1, hs2⟩ := steps_sub hst
    have hil1 : ∀ q ∈ s.hd ++ [((its[i].client, its[i].number), ⟨its[i], B, d⟩)], q.2.it.e.ins ≠ [] → ∀ b, q.2.A.map (·.block) = some b → Off G b := fun q hq hx b hb => by
      rcases List.mem_append.1 hq with hq | hq
      · exact h.hil q hq hx b hb
      · obtain rfl := List.mem_singleton.1 hq
        intro hG
        have := hB b hb
        have := (OwnS.blt h.own hG).1
        omega
    have hA2 : ∀ b, b < w.heap.size → Off A b → Off A' b := fun b hb hoff hA => by
      rcases hA' b hA with h3 | h3
      · exact hoff h3
      · omega
    refine ⟨L, cl, out, A', c', s', rfl, by have := h2.le; omega, ⟨T.desk, h.lo, T.ok, T.bd, h2, hnr, OwnS.kp h.own hkp (fun b hb => h.gOff hb), fun o hoo => ?_, fun q hq hx b hb => hil1 q (hs1 q hq) hx b hb, ?_⟩, T.outs, fun o hoo => ?_, hkp.mono (fun b hb => h.owned hb), fun j hj => ?_, ?_⟩
    · have h3 := h.gil o hoo
      exact ⟨h3.1.kp hkp (fun hx b hb => h.ilOff h3.1 hx hb (h3.2 hx b hb).1 (h3.2 hx b hb).2.1), fun hx b hb => ⟨(h3.2 hx b hb).1, hA2 b (h3.1.blt hx hb) (h3.2 hx b hb).2.1, (h3.2 hx b hb).2.2⟩⟩
    · have h3 := h.eq
      rw [List.append_nil] at h3
      rw [h3]; exact he
    · obtain ⟨q, hq, e1, e2⟩ := hs2 o hoo
      have h3 := T.oil o hoo
      exact ⟨h3.1, fun hx b hb => ⟨(h3.2 hx b hb).1, (h3.2 hx b hb).2.1, hil1 q hq (e2 ▸ hx) b (e1 ▸ hb)⟩⟩
    · refine dl_steps ho h1 hst ?_
      rcases hj with hj | ⟨q, hq, hr⟩
      · exact .inl hj
      · exact .inr ⟨q, List.mem_append_left _ hq, hr⟩
    · exact dl_steps ho h1 hst (.inr ⟨_, List.mem_append_right _ (List.mem_singleton.2 rfl), hi, rfl⟩)
end Go.Proofs.Ythhfjomjjhenkaa
