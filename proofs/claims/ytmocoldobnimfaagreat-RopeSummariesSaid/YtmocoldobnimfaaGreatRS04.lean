/- Texts of this proof: FL. -/
import Derived.Test.YtmocoldobnimfaaGreatRS00
import Derived.Test.YtmocoldobnimfaaGreatRows
import Derived.WalkKit
import Derived.ProofKit
set_option linter.all false
namespace Go.Proofs.YtmocoldobnimfaaGreat.ropeSummariesFacts
open Go.Proofs.YtmocoldobnimfaaGreat
open Go.RowKit
theorem o1:Tryz.pinned.checked.prog.funcNamed Rows.ropeSummariesRow.func=some 12:=by kernel_rfl
theorem o2:Tryz.f12.isInstance Tryz.pinned.checked.prog Rows.ropeSummariesRow.origin Rows.ropeSummariesRow.targs:=of_decide_eq_true (by kernel_rfl)
theorem o3:Tryz.f12.isWrapper Tryz.pinned.checked.prog Rows.ropeSummariesRow.wrapper Rows.ropeSummariesRow.mainSum:=by unfold Func.isWrapper;first|(rw[if_pos (by decide +kernel)];kernel_rfl)|(rw[if_neg (by decide +kernel)];exact⟨rfl,rfl⟩)
theorem o4:joinedFacts Tryz.pinned.checked.prog 12 Tryz.f12 Rows.ropeSummariesSpec Rows.ropeSummariesRow=true:=by kernel_rfl
end Go.Proofs.YtmocoldobnimfaaGreat.ropeSummariesFacts
