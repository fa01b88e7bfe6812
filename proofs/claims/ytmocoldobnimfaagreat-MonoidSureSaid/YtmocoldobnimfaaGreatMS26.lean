/- Texts of this proof: DI DR. -/
import Derived.Test.YtmocoldobnimfaaGreatMS24
set_option linter.all false
namespace Go.Proofs.YtmocoldobnimfaaGreat
section
open Go.RowKit
attribute [local go_sem ↓] Go.wp_at_zero Go.wp_at_succ
end
section
open Go.RowKit
section
variable {m:Ma} {g:Nat} {cf:Int->Nat} {w w':World} {ps:List (Nat×List Int)}
end
end
