/- The walk of EditsOnce (first loop). -/
import Derived.Test.YthhfjomjjhenkaaD8
import Derived.Test.YthhfjomjjhenkaaE16
import Derived.Outline
namespace Go.Proofs.Ythhfjomjjhenkaa
open Go.RowKit
attribute [local go_sem ↓] Go.wp_at_zero Go.wp_at_succ

def toOe (h : Hv) : Oe := ⟨h.it.e, h.A, h.c⟩
/-- the plain facts of the items that were made -/
structure GenP (l : List Hv) (nb : List Int) : Prop where
  once : OnceL (l.map (·.it))
  ok : ∀ h ∈ l, ItOk h.it ∧ h.it.client < 3
  nlen : nb.length = 3
  cnt : ∀ i : Nat, i < 3 → nb[i]? = some (cntC (l.map (·.it)) i : Int)

theorem cntC_le (l : List It) (c : Int) : cntC l c ≤ l.length := List.length_filter_le _ _
theorem GenP.add {l : List Hv} {nb : List Int} (h : GenP l nb) {c : Nat} (hc : c < 3) (hl : l.length ≤ 100) {e : Ed} {X : Option Addr} {k : Nat} (he : formed e.at_ e.del e.ins = true) :
    GenP (l ++ [⟨⟨c, cntC (l.map (·.it)) c, l.length, e⟩, X, k⟩]) (nb.set c (cntC (l.map (·.it)) c + 1)) := by
  have hn := cntC_le (l.map (·.it)) c
  rw [List.length_map] at hn
  refine ⟨?_, fun z hz => ?_, by rw [List.length_set]; exact h.nlen, fun i hi => ?_⟩
  · rw [List.map_append]
    exact once_snoc h.once (by simp) rfl
  · rcases List.mem_append.1 hz with hz | hz
    · exact h.ok z hz
    · obtain rfl : z = ⟨⟨c, cntC (l.map (·.it)) c, l.length, e⟩, X, k⟩ := by simpa using hz
      exact ⟨⟨by simp, by simp only; omega, by simp, by simp only; omega, by simp, by simp only; omega, he⟩, by simp only; omega⟩
  · have e1 : cntC ((l ++ [(⟨⟨c, cntC (l.map (·.it)) c, l.length, e⟩, X, k⟩ : Hv)]).map (·.it)) (i : Int) = cntC (l.map (·.it)) i + if c = i then 1 else 0 := by
      unfold cntC
      rw [List.map_append, List.filter_append, List.length_append]
      by_cases hci : c = i
      · subst hci; simp
      · have : ¬ (c : Int) = (i : Int) := by omega
        simp [hci, this]
    rw [e1, List.getElem?_set]
    by_cases hci : c = i
    · subst hci
      rw [if_pos rfl, if_pos (by rw [h.nlen]; exact hc), if_pos rfl]; simp
    · rw [if_neg hci, if_neg hci, h.cnt i hi]; simp

theorem redit_formed (n m : Int) : formed (redit 9 n m).at_ (redit 9 n m).del (redit 9 n m).ins = true :=
  formed_of (n := 9) ⟨(redit_bd 9 n m (by omega)).1, (redit_bd 9 n m (by omega)).2.1, (redit_bd 9 n m (by omega)).2.2, (redit_ins 9 n m).1⟩ (by omega) (by have := (redit_ins 9 n m).2; omega)

theorem infoE2 : (Try.prog.info? 25).map (fun i => (i.zero, i.size, i.bytes)) = some (some (.agg #[.int .i64 0, .int .i64 0, .slice none 0 0]), 3, 40) := by kernel_rfl
theorem infoI : (Try.prog.info? 39).map (fun i => (i.zero, i.size, i.bytes)) = some (some (.agg #[.int .i64 0, .int .i64 0, .int .i64 0, .int .i64 0, .int .i64 0, .slice none 0 0]), 6, 64) := by kernel_rfl
end Go.Proofs.Ythhfjomjjhenkaa
