/- What combine makes, by its symbols; the closures that it is told. -/
import Derived.Test.YtlbdjnbcoldjhaaG15
namespace Go.Proofs.Ytlbdjnbcoldjhaa
open Go.RowKit

theorem ends_of {ls : List (List Sp)} : AllEnds (incr (ls.flatten.flatMap prE)) ls := by
  obtain ⟨h1, h2, _⟩ := incr_law (ls.flatten.flatMap prE)
  refine ⟨h1, fun a ha s hs => ?_⟩
  have hf : s ∈ ls.flatten := List.mem_flatten.2 ⟨a, ha, hs⟩
  exact ⟨(h2 _).2 (List.mem_flatMap.2 ⟨s, hf, by simp [prE]⟩), (h2 _).2 (List.mem_flatMap.2 ⟨s, hf, by simp [prE]⟩)⟩

theorem combo_law {k : List Bool → Bool} {ls : List (List Sp)} (hg : ∀ a ∈ ls, ∀ s ∈ a, goodS s) (h0 : k (ls.map (fun _ => false)) = false) :
    Canon (combo k ls) ∧ ∀ x, has (combo k ls) x = k (ls.map (fun a => has a x)) := by
  by_cases hf : ls.flatten = []
  · have hns : incr (ls.flatten.flatMap prE) = [] := by
      have := (incr_law (ls.flatten.flatMap prE)).2.2
      rw [hf] at this ⊢
      exact List.length_eq_zero_iff.1 (by simpa using this)
    have hc : combo k ls = [] := by
      unfold combo
      rw [hns]; rfl
    rw [hc]
    refine ⟨Canon.nil, fun x => ?_⟩
    have : ls.map (fun a => has a x) = ls.map (fun _ => false) := List.map_congr_left (fun a ha => by
      cases hh : has a x
      · rfl
      · obtain ⟨s, hs, _⟩ := has_iff.1 hh
        have : s ∈ ls.flatten := List.mem_flatten.2 ⟨a, ha, hs⟩
        rw [hf] at this; simp at this)
    rw [this, h0, has_nil]
  · have hE := ends_of (ls := ls)
    obtain ⟨s, hs⟩ := List.exists_mem_of_ne_nil _ hf
    obtain ⟨a, ha, hsa⟩ := List.mem_flatten.1 hs
    have hgs := hg a ha s hsa
    obtain ⟨m1, m2⟩ := hE.inn a ha s hsa
    generalize hn : incr (ls.flatten.flatMap prE) = n at *
    have hnn : n ≠ [] := List.ne_nil_of_mem m1
    obtain ⟨r, z, hd⟩ : ∃ r z, n = r ++ [z] := by
      rcases List.eq_nil_or_concat n with h | ⟨r, z, h⟩
      · exact absurd h hnn
      · exact ⟨r, z, by rw [h, List.concat_eq_append]⟩
    have hr : r ≠ [] := by
      intro e
      rw [e, List.nil_append] at hd
      rw [hd] at m1 m2
      have e1 := List.mem_singleton.1 m1
      have e2 := List.mem_singleton.1 m2
      unfold goodS at hgs
      omega
    obtain ⟨p1, p2⟩ := pieces_has hE hd (fun a ha s hs => (hg a ha s hs).2.1) k h0 hr
    have e1 : n.dropLast = r := by rw [hd]; simp
    have e2 : n.getLast?.getD 0 = z := by rw [hd]; simp
    unfold combo
    rw [hn, e1, e2]
    exact ⟨(cls_canon p1 _).1, p2⟩

/-- combine and the reference make the same -/
theorem combo_eq {k : List Bool → Bool} {ls : List (List Sp)} (hg : ∀ a ∈ ls, ∀ s ∈ a, goodS s) (h0 : k (ls.map (fun _ => false)) = false) :
    combo k ls = cls (endsT 1114111 ls) 1114111 (fun x => k (ls.map (fun a => has a x))) := by
  have hg2 : ∀ s ∈ ls.flatten, 0 ≤ s.1 ∧ s.1 ≤ s.2 := fun s hs => by
    obtain ⟨a, ha, hs⟩ := List.mem_flatten.1 hs
    have := hg a ha s hs
    unfold goodS at this; omega
  have hE2 := endsT_ok (top := 1114111) (by omega) hg2
  have hI : ∀ a ∈ ls, EndsIn a (endsT 1114111 ls) 1114111 := fun a ha s hs => hE2.inn s (List.mem_flatten.2 ⟨a, ha, hs⟩)
  obtain ⟨c1, c2⟩ := combo_law hg h0
  refine canon_ext c1 (cls_canon hE2.ends _).1 (fun x => ?_)
  rw [c2, ref_has (by omega) hg2 (steady_of hI k)]
  by_cases hx : 0 ≤ x ∧ x ≤ 1114111
  · simp [hx]
  · have : ls.map (fun a => has a x) = ls.map (fun _ => false) := List.map_congr_left (fun a ha => by
      cases hh : has a x
      · rfl
      · exact absurd (has_in (hg a ha) hh) hx)
    simp [this, h0, hx]
theorem combo_good {k : List Bool → Bool} {ls : List (List Sp)} (hg : ∀ a ∈ ls, ∀ s ∈ a, goodS s) (h0 : k (ls.map (fun _ => false)) = false) : ∀ s ∈ combo k ls, goodS s := by
  obtain ⟨c1, c2⟩ := combo_law hg h0
  intro s hs
  have h1 := c1.1 s hs
  have hin : ∀ x, s.1 ≤ x → x ≤ s.2 → 0 ≤ x ∧ x ≤ 1114111 := fun x h2 h3 => by
    have h4 : has (combo k ls) x = true := has_iff.2 ⟨s, hs, h2, h3⟩
    rw [c2] at h4
    by_cases he : ∃ a ∈ ls, has a x = true
    · obtain ⟨a, ha, hh⟩ := he
      exact has_in (hg a ha) hh
    · have : ls.map (fun a => has a x) = ls.map (fun _ => false) := List.map_congr_left (fun a ha => by
        cases hh : has a x
        · rfl
        · exact absurd ⟨a, ha, hh⟩ he)
      rw [this, h0] at h4; cases h4
  have h5 := hin s.1 (Int.le_refl _) h1
  have h6 := hin s.2 h1 (Int.le_refl _)
  unfold goodS; omega

def kOr (bs : List Bool) : Bool := bs.getD 0 false || bs.getD 1 false
def kAnd (bs : List Bool) : Bool := bs.getD 0 false && bs.getD 1 false
def kMinus (bs : List Bool) : Bool := bs.getD 0 false && !bs.getD 1 false
def kOne (bs : List Bool) : Bool := bs.getD 0 false || bs.getD 1 false || bs.getD 2 false

theorem two_of {bs : List Bool} (h : bs.length = 2) : ∃ x y, bs = [x, y] := by
  match bs, h with
  | [x, y], _ => exact ⟨x, y, rfl⟩
theorem three_of {bs : List Bool} (h : bs.length = 3) : ∃ x y z, bs = [x, y, z] := by
  match bs, h with
  | [x, y, z], _ => exact ⟨x, y, z, rfl⟩

theorem either_any (W : World) (B : Option Addr) (cB : Nat) (bs : List Bool) (hb : IB W B cB bs) (hl : bs.length = 2) : Calls Try.prog 51 #[.slice B bs.length cB] W (RetV (.bool (kOr bs)) W) := by
  obtain ⟨x, y, rfl⟩ := two_of hl
  obtain ⟨b, o, rfl, g0⟩ := hb.get (k := 0) (by simp)
  obtain ⟨b2, o2, he, g1⟩ := hb.get (k := 1) (by simp)
  obtain ⟨rfl, rfl⟩ : b = b2 ∧ o = o2 := by injection he with h1; injection h1 with h2 h3 h4; exact ⟨h2, h3⟩
  simp only [List.getElem_cons_zero, List.getElem_cons_succ, Nat.add_zero] at g0 g1
  simp only [List.length_cons, List.length_nil, kOr, List.getD_cons_zero, List.getD_cons_succ]
  cases x
  · go_enter Try.func51, Try.ntmps51
    go_wp2
    go_ret
    exact ⟨rfl, Ext.rfl' _⟩
  · go_enter Try.func51, Try.ntmps51
    go_wp2
    go_ret
    exact ⟨rfl, Ext.rfl' _⟩
theorem both_any (W : World) (B : Option Addr) (cB : Nat) (bs : List Bool) (hb : IB W B cB bs) (hl : bs.length = 2) : Calls Try.prog 52 #[.slice B bs.length cB] W (RetV (.bool (kAnd bs)) W) := by
  obtain ⟨x, y, rfl⟩ := two_of hl
  obtain ⟨b, o, rfl, g0⟩ := hb.get (k := 0) (by simp)
  obtain ⟨b2, o2, he, g1⟩ := hb.get (k := 1) (by simp)
  obtain ⟨rfl, rfl⟩ : b = b2 ∧ o = o2 := by injection he with h1; injection h1 with h2 h3 h4; exact ⟨h2, h3⟩
  simp only [List.getElem_cons_zero, List.getElem_cons_succ, Nat.add_zero] at g0 g1
  simp only [List.length_cons, List.length_nil, kAnd, List.getD_cons_zero, List.getD_cons_succ]
  cases x
  · go_enter Try.func52, Try.ntmps52
    go_wp2
    go_ret
    exact ⟨rfl, Ext.rfl' _⟩
  · go_enter Try.func52, Try.ntmps52
    go_wp2
    go_ret
    exact ⟨rfl, Ext.rfl' _⟩
theorem minus_any (W : World) (B : Option Addr) (cB : Nat) (bs : List Bool) (hb : IB W B cB bs) (hl : bs.length = 2) : Calls Try.prog 53 #[.slice B bs.length cB] W (RetV (.bool (kMinus bs)) W) := by
  obtain ⟨x, y, rfl⟩ := two_of hl
  obtain ⟨b, o, rfl, g0⟩ := hb.get (k := 0) (by simp)
  obtain ⟨b2, o2, he, g1⟩ := hb.get (k := 1) (by simp)
  obtain ⟨rfl, rfl⟩ : b = b2 ∧ o = o2 := by injection he with h1; injection h1 with h2 h3 h4; exact ⟨h2, h3⟩
  simp only [List.getElem_cons_zero, List.getElem_cons_succ, Nat.add_zero] at g0 g1
  simp only [List.length_cons, List.length_nil, kMinus, List.getD_cons_zero, List.getD_cons_succ]
  cases x
  · go_enter Try.func53, Try.ntmps53
    go_wp2
    go_ret
    exact ⟨rfl, Ext.rfl' _⟩
  · cases y
    · go_enter Try.func53, Try.ntmps53
      go_wp2
      go_ret
      exact ⟨rfl, Ext.rfl' _⟩
    · go_enter Try.func53, Try.ntmps53
      go_wp2
      go_ret
      exact ⟨rfl, Ext.rfl' _⟩
theorem one_any (W : World) (B : Option Addr) (cB : Nat) (bs : List Bool) (hb : IB W B cB bs) (hl : bs.length = 3) : Calls Try.prog 65 #[.slice B bs.length cB] W (RetV (.bool (kOne bs)) W) := by
  obtain ⟨x, y, z, rfl⟩ := three_of hl
  obtain ⟨b, o, rfl, g0⟩ := hb.get (k := 0) (by simp)
  obtain ⟨b2, o2, he, g1⟩ := hb.get (k := 1) (by simp)
  obtain ⟨rfl, rfl⟩ : b = b2 ∧ o = o2 := by injection he with h1; injection h1 with h2 h3 h4; exact ⟨h2, h3⟩
  obtain ⟨b3, o3, he2, g2⟩ := hb.get (k := 2) (by simp)
  obtain ⟨rfl, rfl⟩ : b = b3 ∧ o = o3 := by injection he2 with h1; injection h1 with h2 h3 h4; exact ⟨h2, h3⟩
  simp only [List.getElem_cons_zero, List.getElem_cons_succ, Nat.add_zero] at g0 g1 g2
  simp only [List.length_cons, List.length_nil, kOne, List.getD_cons_zero, List.getD_cons_succ]
  cases x
  · cases y
    · go_enter Try.func65, Try.ntmps65
      go_wp2
      go_ret
      exact ⟨rfl, Ext.rfl' _⟩
    · go_enter Try.func65, Try.ntmps65
      go_wp2
      go_ret
      exact ⟨rfl, Ext.rfl' _⟩
  · go_enter Try.func65, Try.ntmps65
    go_wp2
    go_ret
    exact ⟨rfl, Ext.rfl' _⟩
end Go.Proofs.Ytlbdjnbcoldjhaa
