/- Texts of this proof: FP. -/
import Derived.Test.YtmpcoifnpflapaaGreatER00
import Derived.Test.YtmpcoifnpflapaaGreatRows
import Derived.WalkKit
import Derived.ProofKit
set_option linter.all false
namespace Go.Proofs.YtmpcoifnpflapaaGreat.editsRopesFacts
open Go.Proofs.YtmpcoifnpflapaaGreat
open Go.RowKit
theorem o1:Tryz.pinned.checked.prog.funcNamed Rows.editsRopesRow.func=some 3:=by kernel_rfl
theorem o2:Tryz.f3.isInstance Tryz.pinned.checked.prog Rows.editsRopesRow.origin Rows.editsRopesRow.targs:=of_decide_eq_true (by kernel_rfl)
theorem o3:Tryz.f3.isWrapper Tryz.pinned.checked.prog Rows.editsRopesRow.wrapper Rows.editsRopesRow.mainSum:=by unfold Func.isWrapper;first|(rw[if_pos (by decide +kernel)];kernel_rfl)|(rw[if_neg (by decide +kernel)];exact⟨rfl,rfl⟩)
theorem o4:joinedFacts Tryz.pinned.checked.prog 3 Tryz.f3 Rows.editsRopesSpec Rows.editsRopesRow=true:=by kernel_rfl
end Go.Proofs.YtmpcoifnpflapaaGreat.editsRopesFacts
