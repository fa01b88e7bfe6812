/- Texts of this proof: FN. -/
import Derived.Test.YtmocoldobnimfaaGreatRS00
import Derived.Test.YtmocoldobnimfaaGreatRows
import Derived.WalkKit
import Derived.ProofKit
set_option linter.all false
namespace Go.Proofs.YtmocoldobnimfaaGreat.ropeUndoFacts
open Go.Proofs.YtmocoldobnimfaaGreat
open Go.RowKit
theorem o1:Tryz.pinned.checked.prog.funcNamed Rows.ropeUndoRow.func=some 14:=by kernel_rfl
theorem o2:Tryz.f14.isInstance Tryz.pinned.checked.prog Rows.ropeUndoRow.origin Rows.ropeUndoRow.targs:=of_decide_eq_true (by kernel_rfl)
theorem o3:Tryz.f14.isWrapper Tryz.pinned.checked.prog Rows.ropeUndoRow.wrapper Rows.ropeUndoRow.mainSum:=by unfold Func.isWrapper;first|(rw[if_pos (by decide +kernel)];kernel_rfl)|(rw[if_neg (by decide +kernel)];exact⟨rfl,rfl⟩)
theorem o4:joinedFacts Tryz.pinned.checked.prog 14 Tryz.f14 Rows.ropeUndoSpec Rows.ropeUndoRow=true:=by kernel_rfl
end Go.Proofs.YtmocoldobnimfaaGreat.ropeUndoFacts
