/- Texts of this proof: C9 CB CP. -/
import Derived.Test.YtmocoldobnimfaaGreatRS33
set_option linter.all false
namespace Go.Proofs.YtmocoldobnimfaaGreat
section
open Go.RowKit
attribute [local go_sem ↓] Go.wp_at_zero Go.wp_at_succ
structure GpO (base w:World)(A:Option Addr)(c:Nat)(hs:List Hin):Prop where
 own:OwnS w base.heap.size 123 5 A hs.length c (flatN hs)
 ok:∀h∈hs,HinOk w h
 typ:∀h∈hs,∀b,h.A.map (·.block)=some b->∃cur,w.heap[b]? = some (.cells cur 38 (0,0))
structure InOk (w:World)(x:Hin):Prop where
 ok:HinOk w x
 typ:∀b,x.A.map (·.block)=some b->∃cur,w.heap[b]? = some (.cells cur 38 (0,0))
def SetE4 (E:List Int)(l:List Sp):Prop:=l.length<=4/\∀s∈l,s.1∈E/\s.2+1∈E
structure Gp4 (E:List Int)(w:World)(A:Option Addr)(c:Nat)(hs:List Hin):Prop where
 pl:PL w A c hs
 sets:∀h∈hs,SetE4 E h.l
 len:hs.length<=1000
end
end Go.Proofs.YtmocoldobnimfaaGreat
