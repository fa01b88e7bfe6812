/- Texts of this proof: FH. -/
import Derived.Test.YtmocoldobnimfaaGreatRP00
import Derived.Test.YtmocoldobnimfaaGreatRows
import Derived.WalkKit
import Derived.ProofKit
set_option linter.all false
namespace Go.Proofs.YtmocoldobnimfaaGreat.ropeErrorsFacts
open Go.Proofs.YtmocoldobnimfaaGreat
open Go.RowKit
theorem o1:Tryz.pinned.checked.prog.funcNamed Rows.ropeErrorsRow.func=some 10:=by kernel_rfl
theorem o2:Tryz.f10.isInstance Tryz.pinned.checked.prog Rows.ropeErrorsRow.origin Rows.ropeErrorsRow.targs:=of_decide_eq_true (by kernel_rfl)
theorem o3:Tryz.f10.isWrapper Tryz.pinned.checked.prog Rows.ropeErrorsRow.wrapper Rows.ropeErrorsRow.mainSum:=by unfold Func.isWrapper;first|(rw[if_pos (by decide +kernel)];kernel_rfl)|(rw[if_neg (by decide +kernel)];exact⟨rfl,rfl⟩)
theorem o4:joinedFacts Tryz.pinned.checked.prog 10 Tryz.f10 Rows.ropeErrorsSpec Rows.ropeErrorsRow=true:=by kernel_rfl
end Go.Proofs.YtmocoldobnimfaaGreat.ropeErrorsFacts
