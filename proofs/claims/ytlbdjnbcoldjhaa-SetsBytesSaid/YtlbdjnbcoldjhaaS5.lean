/- Normal and the combined sets: both ways give the same spans. No program in sight. -/
import Derived.Test.YtlbdjnbcoldjhaaS4
namespace Go.Proofs.Ytlbdjnbcoldjhaa
open Go.RowKit

def topS : Int := 1114111
def goodS (s : Sp) : Prop := 0 ≤ s.1 ∧ s.1 ≤ s.2 ∧ s.2 ≤ 1114111

theorem has_perm {l m : List Sp} (h : l.Perm m) (x : Int) : has l x = has m x := by
  rw [Bool.eq_iff_iff, has_iff, has_iff]
  exact ⟨fun ⟨s, hs, h1⟩ => ⟨s, h.mem_iff.1 hs, h1⟩, fun ⟨s, hs, h1⟩ => ⟨s, h.mem_iff.2 hs, h1⟩⟩
theorem has_in {l : List Sp} (hg : ∀ s ∈ l, goodS s) {x : Int} (h : has l x = true) : 0 ≤ x ∧ x ≤ 1114111 := by
  obtain ⟨s, hs, h1, h2⟩ := has_iff.1 h
  have := hg s hs
  unfold goodS at this
  omega

/-- what the reference makes of a test that holds of no symbol out of range -/
theorem ref_has {ls : List (List Sp)} {top : Int} (h0 : 0 ≤ top) (hg : ∀ s ∈ ls.flatten, 0 ≤ s.1 ∧ s.1 ≤ s.2) {p : Int → Bool} (hp : Steady (endsT top ls) top p) (x : Int) :
    has (cls (endsT top ls) top p) x = (p x && decide (0 ≤ x ∧ x ≤ top)) := by
  have h := endsT_ok h0 hg
  exact cls_has h.ends hp h.head x

theorem normal_eq {l m : List Sp} (hg : ∀ s ∈ l, goodS s) (hpm : l.Perm m) (hs : m.Pairwise (fun s t => s.1 ≤ t.1)) : m.foldl addS [] = cls (endsT 1114111 [l]) 1114111 (has l) := by
  have hg2 : ∀ s ∈ [l].flatten, 0 ≤ s.1 ∧ s.1 ≤ s.2 := fun s hs => by
    have hs' : s ∈ l := by simpa using hs
    have := hg s hs'
    unfold goodS at this; omega
  have hE := endsT_ok (top := 1114111) (by omega) hg2
  obtain ⟨c1, c2⟩ := addAll_law m [] Canon.nil (fun s hs => by have := hg s (hpm.mem_iff.2 hs); unfold goodS at this; omega) hs (by simp)
  refine canon_ext c1 (cls_canon hE.ends _).1 (fun x => ?_)
  rw [c2, has_nil, Bool.false_or, ref_has (by omega) hg2 (fun e x h1 h2 h3 => has_steady (by simpa using hE.inn) e x h1 h2 h3), has_perm hpm.symm]
  cases hx : has l x
  · rfl
  · have := has_in hg hx
    simp [this]

theorem steady_of {n : List Int} {top : Int} {ls : List (List Sp)} (h : ∀ a ∈ ls, EndsIn a n top) (k : List Bool → Bool) : Steady n top (fun x => k (ls.map (fun a => has a x))) := by
  intro e x h1 h2 h3
  have : ls.map (fun a => has a x) = ls.map (fun a => has a e) := List.map_congr_left (fun a ha => has_steady (h a ha) e x h1 h2 h3)
  simp only [this]

/-- all ends of the sets, in order -/
structure AllEnds (n : List Int) (ls : List (List Sp)) : Prop where
  inc : n.Pairwise (· < ·)
  inn : ∀ a ∈ ls, ∀ s ∈ a, s.1 ∈ n ∧ s.2 + 1 ∈ n

/-- the pieces between the ends, without what follows the last one -/
theorem pieces_has {n : List Int} {ls : List (List Sp)} {z : Int} {r : List Int} (h : AllEnds n ls) (hn : n = r ++ [z]) (hok : ∀ a ∈ ls, ∀ s ∈ a, s.1 ≤ s.2) (k : List Bool → Bool) (h0 : k (ls.map (fun _ => false)) = false) (hr : r ≠ []) :
    Ends r (z - 1) ∧ ∀ x, has (cls r (z - 1) (fun x => k (ls.map (fun a => has a x)))) x = k (ls.map (fun a => has a x)) := by
  subst hn
  have hp := List.pairwise_append.1 h.inc
  have hrz : ∀ x ∈ r, x < z := fun x hx => hp.2.2 x hx z (by simp)
  have hE : Ends r (z - 1) := ⟨hp.1, fun x hx => by have := hrz x hx; omega⟩
  have hI : ∀ a ∈ ls, EndsIn a r (z - 1) := fun a ha s hs => by
    obtain ⟨h1, h2⟩ := h.inn a ha s hs
    refine ⟨fun hl => ?_, fun hl => ?_⟩
    · rcases List.mem_append.1 h1 with h1 | h1
      · exact h1
      · have := List.mem_singleton.1 h1; omega
    · rcases List.mem_append.1 h2 with h2 | h2
      · exact h2
      · have := List.mem_singleton.1 h2; omega
  refine ⟨hE, fun x => ?_⟩
  obtain ⟨a0, r0, rfl⟩ : ∃ a0 r0, r = a0 :: r0 := by
    cases r with
    | nil => exact absurd rfl hr
    | cons a0 r0 => exact ⟨a0, r0, rfl⟩
  rw [cls_has hE (steady_of hI k) rfl]
  by_cases hx : a0 ≤ x ∧ x ≤ z - 1
  · simp [hx]
  · have : ls.map (fun a => has a x) = ls.map (fun _ => false) := List.map_congr_left (fun a ha => by
      cases hh : has a x
      · rfl
      · exfalso
        obtain ⟨s, hs, h1, h2⟩ := has_iff.1 hh
        obtain ⟨h3, h4⟩ := h.inn a ha s hs
        have h5 := hok a ha s hs
        have h6 : ∀ y ∈ a0 :: r0 ++ [z], a0 ≤ y ∧ y ≤ z := fun y hy => by
          have hc := List.pairwise_cons.1 hp.1
          rcases List.mem_append.1 hy with hy | hy
          · have := hrz y hy
            rcases List.mem_cons.1 hy with rfl | hy
            · omega
            · have := hc.1 y (by simp [hy]); omega
          · have := List.mem_singleton.1 hy
            have := hrz a0 (by simp)
            omega
        have h7 := h6 s.1 h3
        have h8 := h6 (s.2 + 1) h4
        omega)
    simp [this, h0, hx]

/-- the two ways of combining sets -/
theorem combine_eq {n : List Int} {ls : List (List Sp)} {z : Int} {r : List Int} (h : AllEnds n ls) (hn : n = r ++ [z]) (hg : ∀ a ∈ ls, ∀ s ∈ a, goodS s) (k : List Bool → Bool) (h0 : k (ls.map (fun _ => false)) = false) (hr : r ≠ []) :
    cls r (z - 1) (fun x => k (ls.map (fun a => has a x))) = cls (endsT 1114111 ls) 1114111 (fun x => k (ls.map (fun a => has a x))) := by
  have hg2 : ∀ s ∈ ls.flatten, 0 ≤ s.1 ∧ s.1 ≤ s.2 := fun s hs => by
    obtain ⟨a, ha, hs⟩ := List.mem_flatten.1 hs
    have := hg a ha s hs
    unfold goodS at this; omega
  obtain ⟨hE, hh⟩ := pieces_has h hn (fun a ha s hs => (hg a ha s hs).2.1) k h0 hr
  have hE2 := endsT_ok (top := 1114111) (by omega) hg2
  have hI : ∀ a ∈ ls, EndsIn a (endsT 1114111 ls) 1114111 := fun a ha s hs => hE2.inn s (List.mem_flatten.2 ⟨a, ha, hs⟩)
  refine canon_ext (cls_canon hE _).1 (cls_canon hE2.ends _).1 (fun x => ?_)
  rw [hh, ref_has (by omega) hg2 (steady_of hI k)]
  by_cases hx : 0 ≤ x ∧ x ≤ 1114111
  · simp [hx]
  · have : ls.map (fun a => has a x) = ls.map (fun _ => false) := List.map_congr_left (fun a ha => by
      cases hh : has a x
      · rfl
      · exact absurd (has_in (hg a ha) hh) hx)
    simp [this, h0, hx]
end Go.Proofs.Ytlbdjnbcoldjhaa
