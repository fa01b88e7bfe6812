/- Texts of this proof: FR. -/
import Derived.Test.YtmgpefenkilffaaGreatRows
import Derived.WalkKit
import Derived.ProofKit
set_option linter.all false
namespace Go.Proofs.YtmgpefenkilffaaGreat.streamWholeFacts
open Go.Proofs.YtmgpefenkilffaaGreat
open Go.RowKit
theorem o1:Tryz.pinned.checked.prog.funcNamed Rows.streamWholeRow.func=some 4:=by kernel_rfl
theorem o2:Tryz.f4.isInstance Tryz.pinned.checked.prog Rows.streamWholeRow.origin Rows.streamWholeRow.targs:=of_decide_eq_true (by kernel_rfl)
theorem o3:Tryz.f4.isWrapper Tryz.pinned.checked.prog Rows.streamWholeRow.wrapper Rows.streamWholeRow.mainSum:=by unfold Func.isWrapper;first|(rw[if_pos (by decide +kernel)];kernel_rfl)|(rw[if_neg (by decide +kernel)];exact⟨rfl,rfl⟩)
theorem q1:(Rows.streamWholeRow.inPlace==Tryz.pinned.checked.prog.inPlace 4)=true:=by kernel_rfl
theorem q2:(Rows.streamWholeRow.unfollowed==Tryz.pinned.checked.prog.unfollowed 4)=true:=by kernel_rfl
theorem q3:(Rows.streamWholeRow.recurses==Tryz.pinned.checked.prog.recurses 4)=true:=by kernel_rfl
theorem q4:(Rows.streamWholeRow.named==Tryz.pinned.checked.prog.varsNamed 4)=true:=by kernel_rfl
theorem o4:joinedFacts Tryz.pinned.checked.prog 4 Tryz.f4 Rows.streamWholeSpec Rows.streamWholeRow=true:=by
 unfold joinedFacts
 rw[q1,q2,q3,q4]
 kernel_rfl
end Go.Proofs.YtmgpefenkilffaaGreat.streamWholeFacts
