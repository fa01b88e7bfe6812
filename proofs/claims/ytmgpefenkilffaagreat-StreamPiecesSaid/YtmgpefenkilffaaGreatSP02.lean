/- Texts of this proof: FQ. -/
import Derived.Test.YtmgpefenkilffaaGreatSP00
import Derived.Test.YtmgpefenkilffaaGreatRows
import Derived.WalkKit
import Derived.ProofKit
set_option linter.all false
namespace Go.Proofs.YtmgpefenkilffaaGreat.streamPiecesFacts
open Go.Proofs.YtmgpefenkilffaaGreat
open Go.RowKit
theorem o1:Tryz.pinned.checked.prog.funcNamed Rows.streamPiecesRow.func=some 3:=by kernel_rfl
theorem o2:Tryz.f3.isInstance Tryz.pinned.checked.prog Rows.streamPiecesRow.origin Rows.streamPiecesRow.targs:=of_decide_eq_true (by kernel_rfl)
theorem o3:Tryz.f3.isWrapper Tryz.pinned.checked.prog Rows.streamPiecesRow.wrapper Rows.streamPiecesRow.mainSum:=by unfold Func.isWrapper;first|(rw[if_pos (by decide +kernel)];kernel_rfl)|(rw[if_neg (by decide +kernel)];exact⟨rfl,rfl⟩)
theorem o4:joinedFacts Tryz.pinned.checked.prog 3 Tryz.f3 Rows.streamPiecesSpec Rows.streamPiecesRow=true:=by kernel_rfl
end Go.Proofs.YtmgpefenkilffaaGreat.streamPiecesFacts
