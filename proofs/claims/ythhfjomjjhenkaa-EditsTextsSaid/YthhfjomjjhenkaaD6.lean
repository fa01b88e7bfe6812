/- The plain law of (Once.): items each made after all before it are applied in their order, in whatever order they come. No walk. -/
import Derived.Test.YthhfjomjjhenkaaD2
namespace Go.Proofs.Ythhfjomjjhenkaa
open Go.RowKit

def cntC (l : List It) (c : Int) : Nat := (l.filter (fun x => x.client == c)).length
/-- item j has base j, and its number is how many of its client stand before it -/
def OnceL (its : List It) : Prop := ∀ j (h : j < its.length), its[j].base = j ∧ its[j].number = cntC (its.take j) its[j].client
def exOf (x : It) : Int × Int × Int := (x.e.at_, x.e.del, (x.e.ins.length : Int))

theorem cntC_mono (l : List It) (c : Int) {a b : Nat} (h : a ≤ b) : cntC (l.take a) c ≤ cntC (l.take b) c := by
  unfold cntC
  have : (l.take a).Sublist (l.take b) := by
    have e : l.take a = (l.take b).take a := by rw [List.take_take, Nat.min_eq_left h]
    rw [e]; exact List.take_sublist _ _
  exact (List.Sublist.filter _ this).length_le
theorem cntC_succ (l : List It) (c : Int) (a : Nat) (h : a < l.length) : cntC (l.take (a + 1)) c = cntC (l.take a) c + if l[a].client = c then 1 else 0 := by
  unfold cntC
  rw [List.take_succ_eq_append_getElem h, List.filter_append, List.length_append]
  by_cases hc : l[a].client = c <;> simp [List.filter_cons, hc]
theorem cntC_lt (l : List It) {i j : Nat} (hi : i < l.length) (hij : i < j) : cntC (l.take i) l[i].client < cntC (l.take j) l[i].client := by
  have h1 := cntC_succ l l[i].client i hi
  have h2 := cntC_mono l l[i].client (show i + 1 ≤ j from hij)
  simp at h1
  omega
theorem key_inj {its : List It} (ho : OnceL its) {i j : Nat} (hi : i < its.length) (hj : j < its.length) (hc : its[i].client = its[j].client) (hn : its[i].number = its[j].number) : i = j := by
  have h1 := (ho i hi).2
  have h2 := (ho j hj).2
  rcases Nat.lt_trichotomy i j with h | h | h
  · have := cntC_lt its hi h
    rw [hc] at this h1
    omega
  · exact h
  · have := cntC_lt its hj h
    rw [← hc] at this h2
    omega

structure OnceI (its : List It) (p : Nat) (s : Ds) : Prop where
  le : p ≤ its.length
  ap : s.ap = (its.take p).map exOf
  nx : ∀ c, nxOf s.nx c = cntC (its.take p) c
  hd : ∀ q ∈ s.hd, ∃ j, ∃ h : j < its.length, p ≤ j ∧ q.1 = (its[j].client, its[j].number) ∧ q.2.it = its[j]

theorem at_putL {α β : Type} [DecidableEq α] (l : List (α × β)) (x y : α) (v : β) : at? (putL l x v) y = if y = x then some v else at? l y := by
  unfold putL at?
  by_cases ha : l.any (fun p => p.1 == x) = true
  · rw [if_pos ha]
    induction l with
    | nil => simp at ha
    | cons p l ih =>
      by_cases hp : p.1 = x
      · by_cases hy : y = x
        · subst hy; simp [hp]
        · have hxy : ¬ x = y := fun e => hy e.symm
          have hpy : ¬ p.1 = y := fun e => hxy (hp ▸ e)
          simp only [List.map_cons, hp, if_true, List.find?_cons, hy, if_false]
          have e1 : (x == y) = false := by simp [hxy]
          rw [e1]
          by_cases ha2 : l.any (fun p => p.1 == x) = true
          · have := ih ha2
            simp only [hy, if_false] at this
            exact this
          · have hall : ∀ q ∈ l, q.1 ≠ x := fun q hq e => ha2 (List.any_eq_true.2 ⟨q, hq, by simp [e]⟩)
            have : l.map (fun p => if p.1 = x then (x, v) else p) = l := by
              conv => rhs; rw [← List.map_id l]
              exact List.map_congr_left (fun q hq => by simp [hall q hq])
            rw [this]
      · have ha2 : l.any (fun p => p.1 == x) = true := by simpa [hp] using ha
        have := ih ha2
        simp only [List.map_cons, hp, if_false, List.find?_cons]
        by_cases hpy : p.1 = y
        · have hyx : ¬ y = x := fun e => hp (hpy.trans e)
          simp [hpy, hyx]
        · have e1 : (p.1 == y) = false := by simp [hpy]
          rw [e1]
          exact this
  · rw [if_neg ha]
    have hall : ∀ q ∈ l, q.1 ≠ x := fun q hq e => ha (List.any_eq_true.2 ⟨q, hq, by simp [e]⟩)
    rw [List.find?_append]
    by_cases hy : y = x
    · subst hy
      have : l.find? (fun p => p.1 == y) = none := List.find?_eq_none.2 (fun q hq => by simp [hall q hq])
      simp [this]
    · have hxy : ¬ x = y := fun e => hy e.symm
      simp [hy, hxy]

theorem nxOf_put (nx : List (Int × Int)) (c d : Int) (v : Int) : nxOf (putL nx c v) d = if d = c then v else nxOf nx d := by
  unfold nxOf; rw [at_putL]; split <;> rfl

/-- what is ready is the item that comes next -/
theorem once_ready {its : List It} (ho : OnceL its) {p : Nat} {s : Ds} (h : OnceI its p s) {q : (Int × Int) × Hv} (hq : q ∈ s.hd) (hr : isRdy s.nx s.ap.length q) : ∃ hp : p < its.length, q.1 = (its[p].client, its[p].number) ∧ q.2.it = its[p] := by
  obtain ⟨j, hj, hpj, hk, hit⟩ := h.hd q hq
  have hlen : s.ap.length = p := by rw [h.ap, List.length_map, List.length_take, Nat.min_eq_left h.le]
  have hb := hr.2
  rw [hit, (ho j hj).1, hlen] at hb
  have : j = p := by omega
  subst this
  exact ⟨hj, hk, hit⟩

theorem once_step {its : List It} (ho : OnceL its) {p : Nat} {s : Ds} (h : OnceI its p s) {q : (Int × Int) × Hv} (hq : q ∈ s.hd) (hr : isRdy s.nx s.ap.length q) :
    ∃ hp : p < its.length, OnceI its (p + 1) (stepOf s q) ∧ (outOf s q).e = its[p].e := by
  obtain ⟨hp, hk, hit⟩ := once_ready ho h hq hr
  have hlen : s.ap.length = p := by rw [h.ap, List.length_map, List.length_take, Nat.min_eq_left h.le]
  have hm : movedOf s q.2 = (its[p].e.at_, its[p].e.del) := by
    unfold movedOf
    rw [hit, (ho p hp).1]
    have : s.ap.drop ((p : Int)).toNat = [] := by rw [Int.toNat_natCast]; exact List.drop_eq_nil_of_le (by omega)
    rw [this]; rfl
  refine ⟨hp, ⟨hp, ?_, fun c => ?_, fun z hz => ?_⟩, ?_⟩
  · simp only [stepOf, hm, h.ap, hit]
    rw [List.take_succ_eq_append_getElem hp, List.map_append]; rfl
  · simp only [stepOf]
    rw [nxOf_put, cntC_succ its c p hp, hk]
    simp only
    by_cases hc : c = its[p].client
    · subst hc
      rw [if_pos rfl, if_pos rfl, h.nx]; simp
    · rw [if_neg hc, if_neg (fun e => hc e.symm), h.nx]; simp
  · have hz' : z ∈ s.hd ∧ z.1 ≠ q.1 := by
      have := List.mem_filter.1 hz
      exact ⟨this.1, by simpa using this.2⟩
    obtain ⟨j, hj, hpj, hk2, hit2⟩ := h.hd z hz'.1
    refine ⟨j, hj, ?_, hk2, hit2⟩
    rcases Nat.lt_or_ge p j with h1 | h1
    · exact h1
    · have : j = p := by omega
      subst this
      exact absurd (hk2.trans hk.symm) hz'.2
  · show (⟨(movedOf s q.2).1, (movedOf s q.2).2, q.2.it.e.ins⟩ : Ed) = _
    rw [hm, hit]

theorem once_steps {its : List It} (ho : OnceL its) {p : Nat} {s s' : Ds} {out : List Oe} (h : OnceI its p s) (hst : Steps s out s') :
    ∃ p', p ≤ p' ∧ OnceI its p' s' ∧ (its.take p).map (·.e) ++ out.map (·.e) = (its.take p').map (·.e) ∧ p' = p + out.length := by
  induction hst with
  | refl => exact ⟨p, Nat.le_refl _, h, by simp, by simp⟩
  | snoc q hst hq hr _ ih =>
    obtain ⟨p1, hp1, h1, he, hpl⟩ := ih
    obtain ⟨hp, h2, ho2⟩ := once_step ho h1 hq hr
    refine ⟨p1 + 1, by omega, h2, ?_, by simp; omega⟩
    rw [List.map_append, ← List.append_assoc, he, List.take_succ_eq_append_getElem hp, List.map_append]
    simp [ho2]

theorem once_start {its : List It} : OnceI its 0 ⟨[], [], []⟩ := ⟨Nat.zero_le _, by simp, fun c => by simp [nxOf, at?, cntC], by simp⟩
theorem once_add {its : List It} {p i : Nat} {s : Ds} (h : OnceI its p s) (hi : i < its.length) (hp : p ≤ i) (B : Option Addr) (d : Nat) : OnceI its p ⟨s.ap, s.nx, s.hd ++ [((its[i].client, its[i].number), ⟨its[i], B, d⟩)]⟩ :=
  ⟨h.le, h.ap, h.nx, fun q hq => by
    rcases List.mem_append.1 hq with hq | hq
    · exact h.hd q hq
    · obtain rfl : q = ((its[i].client, its[i].number), ⟨its[i], B, d⟩) := by simpa using hq
      exact ⟨i, hi, hp, rfl, rfl⟩⟩
/-- an item that was applied is known by its number -/
theorem once_old {its : List It} (ho : OnceL its) {p i : Nat} {s : Ds} (h : OnceI its p s) (hi : i < its.length) (hp : i < p) : its[i].number < nxOf s.nx its[i].client := by
  rw [h.nx, (ho i hi).2]
  have := cntC_lt its hi hp
  omega
theorem once_new {its : List It} (ho : OnceL its) {p i : Nat} {s : Ds} (h : OnceI its p s) (hi : i < its.length) (hp : p ≤ i) : nxOf s.nx its[i].client ≤ its[i].number := by
  rw [h.nx, (ho i hi).2]
  have := cntC_mono its its[i].client hp
  omega
/-- nothing is ready: the item that comes next is not held -/
theorem once_stuck {its : List It} (ho : OnceL its) {p : Nat} {s : Ds} (h : OnceI its p s) (hn : noRdy s) (hp : p < its.length) : ∀ q ∈ s.hd, q.1 ≠ (its[p].client, its[p].number) := by
  intro q hq he
  obtain ⟨j, hj, hpj, hk, hit⟩ := h.hd q hq
  have hjp : j = p := by
    rw [hk] at he
    injection he with e1 e2
    exact key_inj ho hj hp e1 e2
  subst hjp
  refine hn q hq ⟨?_, ?_⟩
  · rw [hk]; simp only; rw [h.nx, (ho j hj).2]
  · rw [hit, (ho j hj).1, h.ap]
    simp; omega
end Go.Proofs.Ythhfjomjjhenkaa
