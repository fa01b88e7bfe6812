/- Texts of this proof: FA. -/
import Derived.Test.YtmocoldobnimfaaGreatU00
import Derived.Test.YtmocoldobnimfaaGreatRows
import Derived.WalkKit
import Derived.ProofKit
set_option linter.all false
namespace Go.Proofs.YtmocoldobnimfaaGreat.monoidNewFacts
open Go.Proofs.YtmocoldobnimfaaGreat
open Go.RowKit
theorem o1:Tryz.pinned.checked.prog.funcNamed Rows.monoidNewRow.func=some 3:=by kernel_rfl
theorem o2:Tryz.f3.isInstance Tryz.pinned.checked.prog Rows.monoidNewRow.origin Rows.monoidNewRow.targs:=of_decide_eq_true (by kernel_rfl)
theorem o3:Tryz.f3.isWrapper Tryz.pinned.checked.prog Rows.monoidNewRow.wrapper Rows.monoidNewRow.mainSum:=by unfold Func.isWrapper;first|(rw[if_pos (by decide +kernel)];kernel_rfl)|(rw[if_neg (by decide +kernel)];exact⟨rfl,rfl⟩)
theorem o4:joinedFacts Tryz.pinned.checked.prog 3 Tryz.f3 Rows.monoidNewSpec Rows.monoidNewRow=true:=by kernel_rfl
end Go.Proofs.YtmocoldobnimfaaGreat.monoidNewFacts
