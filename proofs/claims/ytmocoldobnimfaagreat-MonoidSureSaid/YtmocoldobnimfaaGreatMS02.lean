/- Texts of this proof: FO. -/
import Derived.Test.YtmocoldobnimfaaGreatMS00
import Derived.Test.YtmocoldobnimfaaGreatRows
import Derived.WalkKit
import Derived.ProofKit
set_option linter.all false
namespace Go.Proofs.YtmocoldobnimfaaGreat.monoidSureFacts
open Go.Proofs.YtmocoldobnimfaaGreat
open Go.RowKit
theorem o1:Tryz.pinned.checked.prog.funcNamed Rows.monoidSureRow.func=some 8:=by kernel_rfl
theorem o2:Tryz.f8.isInstance Tryz.pinned.checked.prog Rows.monoidSureRow.origin Rows.monoidSureRow.targs:=of_decide_eq_true (by kernel_rfl)
theorem o3:Tryz.f8.isWrapper Tryz.pinned.checked.prog Rows.monoidSureRow.wrapper Rows.monoidSureRow.mainSum:=by unfold Func.isWrapper;first|(rw[if_pos (by decide +kernel)];kernel_rfl)|(rw[if_neg (by decide +kernel)];exact⟨rfl,rfl⟩)
theorem o4:joinedFacts Tryz.pinned.checked.prog 8 Tryz.f8 Rows.monoidSureSpec Rows.monoidSureRow=true:=by kernel_rfl
end Go.Proofs.YtmocoldobnimfaaGreat.monoidSureFacts
