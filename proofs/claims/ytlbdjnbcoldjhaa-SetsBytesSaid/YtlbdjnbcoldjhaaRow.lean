/- What came in, as the walks want it: a row of ints is a list. -/
import Derived.Test.YtlbdjnbcoldjhaaBase
import Derived.DataReads
import Derived.OpenShut
namespace Go.Proofs.Ytlbdjnbcoldjhaa
open Go.RowKit Go.ChangeShapes

theorem I64.of_wf {n : Int} (h : (Lit.int .i64 n).wf = true) : I64 n := bounds_i64 h

theorem IL.of_row {w : World} {a : Option Addr} {len cap : Nat} {zs : List Int}
    (h : (a = none ∧ len = 0 ∧ cap = 0 ∧ zs = []) ∨ ∃ x, a = some x ∧ len ≤ cap ∧ cap ≤ maxLen ∧ zs.length = cap ∧ (∀ i, i < zs.length → w.cell? (x.add i) = some (.int .i64 (zs.getD i 0))) ∧ ∀ n ∈ zs, (Lit.int .i64 n).wf = true) :
    ∃ l : List Int, l.length = len ∧ IL w a cap l := by
  rcases h with ⟨rfl, rfl, rfl, rfl⟩ | ⟨x, rfl, hl, hm, hz, hc, hw⟩
  · exact ⟨[], rfl, IL.nil w⟩
  · have hlen : (zs.take len).length = len := by rw [List.length_take]; omega
    refine ⟨zs.take len, hlen, by omega, hm, fun n hn => I64.of_wf (hw n (List.mem_of_mem_take hn)), fun hn => ?_⟩
    have h0 : 0 < len := by
      rw [← hlen]; exact List.length_pos_iff.2 hn
    obtain ⟨b, off, spot⟩ := x
    have hs := hc 0 (by omega)
    have hspot : spot = none := by simpa [Addr.add] using World.cell?_spot hs
    subst hspot
    refine ⟨b, off, rfl, fun i hi => ?_⟩
    rw [hlen] at hi
    have h1 := hc i (by omega)
    have e1 : (zs.take len)[i]'(by rw [hlen]; exact hi) = zs.getD i 0 := by
      rw [List.getElem_take, List.getD_eq_getElem?_getD, List.getElem?_eq_getElem (by omega)]; rfl
    rw [e1, ← h1]
    congr 1
    unfold Addr.add
    split
    · subst_vars; rfl
    · rfl
end Go.Proofs.Ytlbdjnbcoldjhaa
