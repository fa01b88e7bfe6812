/- Texts of this proof: G8. -/
import Derived.Test.YtmgpefenkilffaaGreatSW00
set_option linter.all false
namespace Go.Proofs.YtmgpefenkilffaaGreat
section
open Go.RowKit
structure IB (w:World)(A:Option Addr)(c:Nat)(bs:List Bool):Prop where
 le:bs.length<=c
 cap:c<=maxLen
 at_:bs≠[]->∃b o,A=some ⟨b,o,none⟩/\∀i (h:i<bs.length),w.cell? ⟨b,o+i,none⟩=some (.bool bs[i])
namespace IB
variable {w w':World} {A:Option Addr} {c:Nat} {bs:List Bool}
theorem ext (h:IB w A c bs)(k:Ext w w'):IB w' A c bs:=by
 refine⟨h.le,h.cap,fun hn=>?_⟩;obtain⟨b,o,rfl,hc⟩:=h.at_ hn;exact⟨b,o,rfl,fun i hi=>k.cell (hc i hi)⟩
theorem len (h:IB w A c bs):bs.length<=c/\c<=9223372036854775807:=⟨h.le,by have:=h.cap;unfold maxLen at this;omega⟩
theorem get {k:Nat}(h:IB w A c bs)(hk:k<bs.length):∃b o,A=some ⟨b,o,none⟩/\w.cell? ⟨b,o+k,none⟩=some (.bool bs[k]):=by
 obtain⟨b,o,rfl,hc⟩:=h.at_ (by intro h0;subst h0;simp at hk);exact⟨b,o,rfl,hc k hk⟩
end IB
end
end Go.Proofs.YtmgpefenkilffaaGreat
