/- Texts of this proof: K8. -/
import Derived.Test.YtmgpefenkilffaaGreatSW03
set_option linter.all false
namespace Go.Proofs.YtmgpefenkilffaaGreat
section
open Go.RowKit
attribute [local go_sem ↓] Go.wp_at_zero Go.wp_at_succ
open Classical in
noncomputable def okB (runes:Bool) (caps:Int) (n:Nat) (i:Ins):Bool:=decide (InsOk runes caps n i)
open Classical in
theorem okB_t {runes:Bool}{caps:Int}{n:Nat}{i:Ins}(h:InsOk runes caps n i):okB runes caps n i=true:=decide_eq_true h
open Classical in
theorem okB_f {runes:Bool}{caps:Int}{n:Nat}{i:Ins}(h:¬InsOk runes caps n i):okB runes caps n i=false:=decide_eq_false h
end
end Go.Proofs.YtmgpefenkilffaaGreat
