/- Texts of this proof: FB. -/
import Derived.Test.YtmocoldobnimfaaGreatU00
import Derived.Test.YtmocoldobnimfaaGreatRows
import Derived.WalkKit
import Derived.ProofKit
set_option linter.all false
namespace Go.Proofs.YtmocoldobnimfaaGreat.monoidFoundFacts
open Go.Proofs.YtmocoldobnimfaaGreat
open Go.RowKit
theorem o1:Tryz.pinned.checked.prog.funcNamed Rows.monoidFoundRow.func=some 4:=by kernel_rfl
theorem o2:Tryz.f4.isInstance Tryz.pinned.checked.prog Rows.monoidFoundRow.origin Rows.monoidFoundRow.targs:=of_decide_eq_true (by kernel_rfl)
theorem o3:Tryz.f4.isWrapper Tryz.pinned.checked.prog Rows.monoidFoundRow.wrapper Rows.monoidFoundRow.mainSum:=by unfold Func.isWrapper;first|(rw[if_pos (by decide +kernel)];kernel_rfl)|(rw[if_neg (by decide +kernel)];exact⟨rfl,rfl⟩)
theorem o4:joinedFacts Tryz.pinned.checked.prog 4 Tryz.f4 Rows.monoidFoundSpec Rows.monoidFoundRow=true:=by kernel_rfl
end Go.Proofs.YtmocoldobnimfaaGreat.monoidFoundFacts
