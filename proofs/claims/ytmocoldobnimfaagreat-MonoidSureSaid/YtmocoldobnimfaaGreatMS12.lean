/- Texts of this proof: KF. -/
import Derived.Test.YtmocoldobnimfaaGreatMS11
set_option linter.all false
namespace Go.Proofs.YtmocoldobnimfaaGreat
section
open Go.RowKit
attribute [local go_sem ↓] Go.wp_at_zero Go.wp_at_succ
end
