/- Texts of this proof: G20 G22 G23 G21 G24 G26 P7 Y14 Y15 Y16 Y17. -/
import Derived.Test.YtmgpefenkilffaaGreatSW28
import Derived.Shelf.SlSortCmp.NoneTotal
import Derived.ChangeKeysEq
set_option linter.all false
namespace Go.Proofs.YtmgpefenkilffaaGreat
section
open Go.RowKit
theorem validE_zero {a:List Sp}(h:validE a=0):OkL a/\a.length<=64:=by
 unfold validE at h;by_cases hk:OkL a
 ·rw[if_pos hk] at h;refine⟨hk,?_⟩;by_cases h64:64<a.length
  ·rw[if_pos h64] at h;omega
  ·omega
 ·rw[if_neg hk] at h;omega
end
section
open Go.RowKit
attribute [local go_sem ↓] Go.wp_at_zero Go.wp_at_succ
theorem infoI1:(Tryz.prog.info? 3).map (fun i=>(i.zero,i.size,i.bytes))=some (some (.int .i64 0),1,8):=by kernel_rfl
end
section
open Go.RowKit
def trOk (p:Sp):Prop:=0<=p.1/\p.1<=1114112
abbrev GStr:={ s:Sp // trOk s }
instance:Inhabited GStr:=⟨⟨(0,0),by unfold trOk;simp⟩⟩
end
section
open Go.RowKit
attribute [local go_sem ↓] Go.wp_at_zero Go.wp_at_succ
structure Kb where
 A:Option Addr
 c:Nat
 l:List Bool
def cellB (r:Kb):Value:=.slice r.A r.l.length r.c
def rowsC (rows:List Kb):Array Value:=(rows.map cellB).toArray
def nilB:Kb:=⟨none,0,[]⟩
def upB (f:Nat->Bool)(i n:Nat):List Bool:=(List.range n).map (fun j=>if j<i then f j else false)
def hasF (cs:List Int)(l:List Sp)(k:Nat):Bool:=has l (cs.getD k 0)
def TyB (w:World)(A:Option Addr):Prop:=∀b,A.map (·.block)=some b->∃cur,w.heap[b]? = some (.cells cur 4 (0,0))
structure RowsOk (wr:World)(hs:List Hin)(cs:List Int)(i:Nat)(rows:List Kb):Prop where
 len:rows.length=hs.length
 val:∀k (hk:k<hs.length) (hk2:k<rows.length),k<i->rows[k].l=if hs[k].op=1 then upB (hasF cs hs[k].l) cs.length cs.length else[]
 ib:∀k (hk2:k<rows.length),k<i->IB wr rows[k].A rows[k].c rows[k].l
 ty:∀k (hk2:k<rows.length),k<i->TyB wr rows[k].A
 nil:∀k (hk2:k<rows.length),i<=k->rows[k]=nilB
def gbCells (gA:Option Addr)(gn gc:Nat)(H:Value)(M:Value)(mark:Int)(mp:Value)(L:Value):Array Value:=#[.slice gA gn gc,H,M,.int .i64 mark,mp,L]
end
end Go.Proofs.YtmgpefenkilffaaGreat
