/- Texts of this proof: FG. -/
import Derived.Test.YtmocoldobnimfaaGreatRP00
import Derived.Test.YtmocoldobnimfaaGreatRows
import Derived.WalkKit
import Derived.ProofKit
set_option linter.all false
namespace Go.Proofs.YtmocoldobnimfaaGreat.ropeBoundsFacts
open Go.Proofs.YtmocoldobnimfaaGreat
open Go.RowKit
theorem o1:Tryz.pinned.checked.prog.funcNamed Rows.ropeBoundsRow.func=some 9:=by kernel_rfl
theorem o2:Tryz.f9.isInstance Tryz.pinned.checked.prog Rows.ropeBoundsRow.origin Rows.ropeBoundsRow.targs:=of_decide_eq_true (by kernel_rfl)
theorem o3:Tryz.f9.isWrapper Tryz.pinned.checked.prog Rows.ropeBoundsRow.wrapper Rows.ropeBoundsRow.mainSum:=by unfold Func.isWrapper;first|(rw[if_pos (by decide +kernel)];kernel_rfl)|(rw[if_neg (by decide +kernel)];exact⟨rfl,rfl⟩)
theorem o4:joinedFacts Tryz.pinned.checked.prog 9 Tryz.f9 Rows.ropeBoundsSpec Rows.ropeBoundsRow=true:=by kernel_rfl
end Go.Proofs.YtmocoldobnimfaaGreat.ropeBoundsFacts
