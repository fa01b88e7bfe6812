/- Texts of this proof: FC. -/
import Derived.Test.YtmocoldobnimfaaGreatU00
import Derived.Test.YtmocoldobnimfaaGreatRows
import Derived.WalkKit
import Derived.ProofKit
set_option linter.all false
namespace Go.Proofs.YtmocoldobnimfaaGreat.monoidArgumentsFacts
open Go.Proofs.YtmocoldobnimfaaGreat
open Go.RowKit
theorem o1:Tryz.pinned.checked.prog.funcNamed Rows.monoidArgumentsRow.func=some 7:=by kernel_rfl
theorem o2:Tryz.f7.isInstance Tryz.pinned.checked.prog Rows.monoidArgumentsRow.origin Rows.monoidArgumentsRow.targs:=of_decide_eq_true (by kernel_rfl)
theorem o3:Tryz.f7.isWrapper Tryz.pinned.checked.prog Rows.monoidArgumentsRow.wrapper Rows.monoidArgumentsRow.mainSum:=by unfold Func.isWrapper;first|(rw[if_pos (by decide +kernel)];kernel_rfl)|(rw[if_neg (by decide +kernel)];exact⟨rfl,rfl⟩)
theorem o4:joinedFacts Tryz.pinned.checked.prog 7 Tryz.f7 Rows.monoidArgumentsSpec Rows.monoidArgumentsRow=true:=by kernel_rfl
end Go.Proofs.YtmocoldobnimfaaGreat.monoidArgumentsFacts
