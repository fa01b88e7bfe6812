/- Texts of this proof: FF. -/
import Derived.Test.YtmocoldobnimfaaGreatX00
import Derived.Test.YtmocoldobnimfaaGreatRows
import Derived.WalkKit
import Derived.ProofKit
set_option linter.all false
namespace Go.Proofs.YtmocoldobnimfaaGreat.monoidJoinsFacts
open Go.Proofs.YtmocoldobnimfaaGreat
open Go.RowKit
theorem o1:Tryz.pinned.checked.prog.funcNamed Rows.monoidJoinsRow.func=some 6:=by kernel_rfl
theorem o2:Tryz.f6.isInstance Tryz.pinned.checked.prog Rows.monoidJoinsRow.origin Rows.monoidJoinsRow.targs:=of_decide_eq_true (by kernel_rfl)
theorem o3:Tryz.f6.isWrapper Tryz.pinned.checked.prog Rows.monoidJoinsRow.wrapper Rows.monoidJoinsRow.mainSum:=by unfold Func.isWrapper;first|(rw[if_pos (by decide +kernel)];kernel_rfl)|(rw[if_neg (by decide +kernel)];exact⟨rfl,rfl⟩)
theorem o4:joinedFacts Tryz.pinned.checked.prog 6 Tryz.f6 Rows.monoidJoinsSpec Rows.monoidJoinsRow=true:=by kernel_rfl
end Go.Proofs.YtmocoldobnimfaaGreat.monoidJoinsFacts
