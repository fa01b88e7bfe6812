/- Texts of this proof: FE. -/
import Derived.Test.YtmocoldobnimfaaGreatU00
import Derived.Test.YtmocoldobnimfaaGreatRows
import Derived.WalkKit
import Derived.ProofKit
set_option linter.all false
namespace Go.Proofs.YtmocoldobnimfaaGreat.monoidEqualFacts
open Go.Proofs.YtmocoldobnimfaaGreat
open Go.RowKit
theorem o1:Tryz.pinned.checked.prog.funcNamed Rows.monoidEqualRow.func=some 5:=by kernel_rfl
theorem o2:Tryz.f5.isInstance Tryz.pinned.checked.prog Rows.monoidEqualRow.origin Rows.monoidEqualRow.targs:=of_decide_eq_true (by kernel_rfl)
theorem o3:Tryz.f5.isWrapper Tryz.pinned.checked.prog Rows.monoidEqualRow.wrapper Rows.monoidEqualRow.mainSum:=by unfold Func.isWrapper;first|(rw[if_pos (by decide +kernel)];kernel_rfl)|(rw[if_neg (by decide +kernel)];exact⟨rfl,rfl⟩)
theorem o4:joinedFacts Tryz.pinned.checked.prog 5 Tryz.f5 Rows.monoidEqualSpec Rows.monoidEqualRow=true:=by kernel_rfl
end Go.Proofs.YtmocoldobnimfaaGreat.monoidEqualFacts
