/- Texts of this proof: FM. -/
import Derived.Test.YtmocoldobnimfaaGreatRS00
import Derived.Test.YtmocoldobnimfaaGreatRows
import Derived.WalkKit
import Derived.ProofKit
set_option linter.all false
namespace Go.Proofs.YtmocoldobnimfaaGreat.ropeApartFacts
open Go.Proofs.YtmocoldobnimfaaGreat
open Go.RowKit
theorem o1:Tryz.pinned.checked.prog.funcNamed Rows.ropeApartRow.func=some 13:=by kernel_rfl
theorem o2:Tryz.f13.isInstance Tryz.pinned.checked.prog Rows.ropeApartRow.origin Rows.ropeApartRow.targs:=of_decide_eq_true (by kernel_rfl)
theorem o3:Tryz.f13.isWrapper Tryz.pinned.checked.prog Rows.ropeApartRow.wrapper Rows.ropeApartRow.mainSum:=by unfold Func.isWrapper;first|(rw[if_pos (by decide +kernel)];kernel_rfl)|(rw[if_neg (by decide +kernel)];exact⟨rfl,rfl⟩)
theorem o4:joinedFacts Tryz.pinned.checked.prog 13 Tryz.f13 Rows.ropeApartSpec Rows.ropeApartRow=true:=by kernel_rfl
end Go.Proofs.YtmocoldobnimfaaGreat.ropeApartFacts
