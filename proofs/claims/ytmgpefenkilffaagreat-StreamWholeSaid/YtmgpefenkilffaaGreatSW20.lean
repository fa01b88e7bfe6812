/- Texts of this proof: Y9. -/
import Derived.Test.YtmgpefenkilffaaGreatSW16
set_option linter.all false
namespace Go.Proofs.YtmgpefenkilffaaGreat
section
open Go.RowKit
attribute [local go_sem ↓] Go.wp_at_zero Go.wp_at_succ
def iInts (l:List Int):Array Value:=(l.map (Value.int .i64)).toArray
theorem iInts_set (l:List Int)(i:Nat)(x:Int):(iInts l).setIfInBounds i (.int .i64 x)=iInts (l.set i x):=by simp[iInts,List.map_set]
end
end Go.Proofs.YtmgpefenkilffaaGreat
