/- Texts of this proof: FI. -/
import Derived.Test.YtmocoldobnimfaaGreatRP00
import Derived.Test.YtmocoldobnimfaaGreatRows
import Derived.WalkKit
import Derived.ProofKit
set_option linter.all false
namespace Go.Proofs.YtmocoldobnimfaaGreat.ropeEditsFacts
open Go.Proofs.YtmocoldobnimfaaGreat
open Go.RowKit
theorem o1:Tryz.pinned.checked.prog.funcNamed Rows.ropeEditsRow.func=some 11:=by kernel_rfl
theorem o2:Tryz.f11.isInstance Tryz.pinned.checked.prog Rows.ropeEditsRow.origin Rows.ropeEditsRow.targs:=of_decide_eq_true (by kernel_rfl)
theorem o3:Tryz.f11.isWrapper Tryz.pinned.checked.prog Rows.ropeEditsRow.wrapper Rows.ropeEditsRow.mainSum:=by unfold Func.isWrapper;first|(rw[if_pos (by decide +kernel)];kernel_rfl)|(rw[if_neg (by decide +kernel)];exact⟨rfl,rfl⟩)
theorem o4:joinedFacts Tryz.pinned.checked.prog 11 Tryz.f11 Rows.ropeEditsSpec Rows.ropeEditsRow=true:=by kernel_rfl
end Go.Proofs.YtmocoldobnimfaaGreat.ropeEditsFacts
