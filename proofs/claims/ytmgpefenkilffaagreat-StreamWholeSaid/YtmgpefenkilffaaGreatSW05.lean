/- Texts of this proof: R2 R3. -/
import Derived.Test.YtmgpefenkilffaaGreatSW03
import Derived.Shelf.Abstract
set_option linter.all false
namespace Go.Proofs.YtmgpefenkilffaaGreat
section
open Go.RowKit
attribute [local go_sem ↓] Go.wp_at_zero Go.wp_at_succ
theorem KpP.thenExt {p:Nat->Prop}{a b c:World}(h:KpP p a b)(x:Ext b c):KpP p a c:=h.trans (KpP.of_ext x)
theorem Blk.neT {w:World}{a b T T':Nat}{cs cs':Array Value}(h:Blk w a T cs)(k:Blk w b T' cs')(hT:T≠T'):a≠b:=fun e=>by
 subst e;have h1:some (Obj.cells cs T (0,0))=some (.cells cs' T' (0,0)):=Eq.trans (Eq.symm h) k;injection h1 with h1
 injection h1 with _ h1
 exact hT h1
end
end Go.Proofs.YtmgpefenkilffaaGreat
