/- Texts of this proof: D3. -/
import Derived.Test.YtmpcoifnpflapaaGreatER14
set_option linter.all false
namespace Go.Proofs.YtmpcoifnpflapaaGreat
section
open Go.RowKit
attribute [local go_sem ↓] Go.wp_at_zero Go.wp_at_succ
end
end Go.Proofs.YtmpcoifnpflapaaGreat
