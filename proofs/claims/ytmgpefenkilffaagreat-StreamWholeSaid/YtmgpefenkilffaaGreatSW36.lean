/- Texts of this proof: J16 J17 C8. -/
import Derived.Test.YtmgpefenkilffaaGreatSW21
import Derived.Test.YtmgpefenkilffaaGreatSW22
set_option linter.all false
set_option maxRecDepth 100000
set_option maxHeartbeats 16000000
namespace Go.Proofs.YtmgpefenkilffaaGreat
section
open Go.RowKit
attribute [local go_sem ↓] Go.wp_at_zero Go.wp_at_succ
theorem yformed_cells (op mn mx md nn:Int)(neg:Bool)(A K:Option Addr)(c kc nk:Nat)(l:List Sp)(p q:Int)(w:World)(hsl:SL w A c l)(hk:nk<=kc/\kc<=9223372036854775807):Calls Tryz.prog 245 #[.agg #[.int .i64 op,.slice A l.length c,.slice K nk kc,.int .i64 mn,.int .i64 mx,.int .i64 md,.int .i64 nn,.bool neg],.int .i64 p,.int .i64 q] w (RetB w):=by
 have hll:=hsl.len;have B0:=Blk.new w 61 #[.int .i64 op,.slice A l.length c,.slice K nk kc,.int .i64 mn,.int .i64 mx,.int .i64 md,.int .i64 nn,.bool neg];have E0:=Ext.alloc w (.cells #[.int .i64 op,.slice A l.length c,.slice K nk kc,.int .i64 mn,.int .i64 mx,.int .i64 md,.int .i64 nn,.bool neg] 61);have HSP:=fun(w':World) (x:Ext w w')=>lh (yspans_any A c l q w' (hsl.ext x));have HKN:=fun(w':World)=>lh (ykidsN_any op w');clear hsl;go_enter Tryz.func245,Tryz.ntmps245
 go_upto_region 1 with fail
 obtain⟨gx,hgx⟩:∃gx,gx=w.heap.size:=⟨_,rfl⟩
 rw[<-hgx] at B0 ⊢;clear hgx;generalize w.alloc (.cells #[.int .i64 op,.slice A l.length c,.slice K nk kc,.int .i64 mn,.int .i64 mx,.int .i64 md,.int .i64 nn,.bool neg] 61)=wa at *;have z0:=B0.cell 0
 go_upto_region 2 with(go_at_call 299;refine(HKN _).out.mono ?_;rintro e wb ⟨x,y,rfl,xb⟩)
 have Bb:=B0.ext xb;obtain⟨y0,y1,y2,y3,y4,y5,y6,y7⟩:wb.cell? ⟨gx,0,none⟩=some (.int .i64 op)/\wb.cell? ⟨gx,1,none⟩=some (.slice A l.length c)/\wb.cell? ⟨gx,2,none⟩=some (.slice K nk kc)/\wb.cell? ⟨gx,3,none⟩=some (.int .i64 mn)/\wb.cell? ⟨gx,4,none⟩=some (.int .i64 mx)/\wb.cell? ⟨gx,5,none⟩=some (.int .i64 md)/\wb.cell? ⟨gx,6,none⟩=some (.int .i64 nn)/\wb.cell? ⟨gx,7,none⟩=some (.bool neg):=⟨Bb.cell 0,Bb.cell 1,Bb.cell 2,Bb.cell 3,Bb.cell 4,Bb.cell 5,Bb.cell 6,Bb.cell 7⟩;clear z0 B0;have X0:=E0.trans xb
 go_wp2_with (go_at_call 300;refine(HSP wb X0).out.mono ?_;rintro e ws ⟨b,rfl,xs⟩;have Bs:=Bb.ext xs;obtain⟨u0,u1,u2,u3,u4,u5,u6,u7⟩:ws.cell? ⟨gx,0,none⟩=some (.int .i64 op)/\ws.cell? ⟨gx,1,none⟩=some (.slice A l.length c)/\ws.cell? ⟨gx,2,none⟩=some (.slice K nk kc)/\ws.cell? ⟨gx,3,none⟩=some (.int .i64 mn)/\ws.cell? ⟨gx,4,none⟩=some (.int .i64 mx)/\ws.cell? ⟨gx,5,none⟩=some (.int .i64 md)/\ws.cell? ⟨gx,6,none⟩=some (.int .i64 nn)/\ws.cell? ⟨gx,7,none⟩=some (.bool neg):=⟨Bs.cell 0,Bs.cell 1,Bs.cell 2,Bs.cell 3,Bs.cell 4,Bs.cell 5,Bs.cell 6,Bs.cell 7⟩;have X1:=X0.trans xs;cases b)
 all_goals
  go_ret
  first|exact⟨_,rfl,X1⟩|exact⟨_,rfl,X0⟩
end
section
open Go.RowKit
theorem yformed_any (bd:Nat)(S:Nat->Prop)(p q:Int)(d:Nat)(w:World)(v:Value)(h:TreeAt bd S w d v):Calls Tryz.prog 245 #[v,.int .i64 p,.int .i64 q] w (RetB w):=by
 obtain⟨e,rfl⟩:=h.pos;obtain⟨n,rfl,hok,hsl,hkl,hkc,hcl,hks⟩:=h.node;exact yformed_cells n.op n.mn n.mx n.md n.n n.neg n.A n.K n.c n.kc n.ks.length n.l p q w hsl ⟨hkl,by unfold maxLen at hkc;omega⟩
theorem yvalid_any (bd:Nat)(S:Nat->Prop)(d:Nat)(w:World)(n:Nd)(gr:Int)(rn:Bool)(ht:TreeAt bd S w d n.val) :
 Calls Tryz.prog 99 #[.agg #[.int .i64 n.op,.slice n.A n.l.length n.c,.slice n.K n.ks.length n.kc,.int .i64 n.mn,.int .i64 n.mx,.int .i64 n.md,.int .i64 n.n,.bool n.neg,.int .i64 gr,.bool rn]] w (RetAn w):=
 yvalid_of bd S (fun p q d w v h=>yformed_any bd S p q d w v h) d w n gr rn ht
end
section
open Go.RowKit
attribute [local go_sem ↓] Go.wp_at_zero Go.wp_at_succ
structure GpAt (E:List Int)(w:World)(A:Option Addr)(c:Nat)(hs:List Hin):Prop where
 pl:PL w A c hs
 sets:∀h∈hs,SetE E h.l
 len:hs.length<=1000
def setGp (w:World)(g:Nat)(A:Option Addr)(n c:Nat)(caps:Int)(rn:Bool):World:=((w.setCell ⟨g,0,none⟩ (.slice A n c)).setCell ⟨g,1,none⟩ (.int .i64 caps)).setCell ⟨g,2,none⟩ (.bool rn)
theorem setGp_blk {w:World}{g T:Nat}{a0 a1 a2:Value}(h:Blk w g T #[a0,a1,a2])(A:Option Addr)(n c:Nat)(caps:Int)(rn:Bool):Blk (setGp w g A n c caps rn) g T #[.slice A n c,.int .i64 caps,.bool rn]:=by
 have h:=((h.set 0 (.slice A n c)).set 1 (.int .i64 caps)).set 2 (.bool rn)
 simpa[setGp] using h
theorem setGp_ext {a w:World}{g:Nat}(h:Ext a w)(hg:a.heap.size<=g)(A:Option Addr)(n c:Nat)(caps:Int)(rn:Bool):Ext a (setGp w g A n c caps rn):=
 ((h.setNew (p:=⟨g,0,none⟩) hg _).setNew (p:=⟨g,1,none⟩) hg _).setNew (p:=⟨g,2,none⟩) hg _
theorem setGp_kp {L:List Nat}{a w:World}{g:Nat}(h:Kp L a w)(hg:g∈L)(A:Option Addr)(n c:Nat)(caps:Int)(rn:Bool):Kp L a (setGp w g A n c caps rn):=
 ((h.set (p:=⟨g,0,none⟩) (.inl hg) _).set (p:=⟨g,1,none⟩) (.inl hg) _).set (p:=⟨g,2,none⟩) (.inl hg) _
theorem setGp_kpp {p:Nat->Prop}{a w:World}{g:Nat}(h:KpP p a w)(hg:p g)(A:Option Addr)(n c:Nat)(caps:Int)(rn:Bool):KpP p a (setGp w g A n c caps rn):=
 ((h.set (x:=⟨g,0,none⟩) (.inl hg) _).set (x:=⟨g,1,none⟩) (.inl hg) _).set (x:=⟨g,2,none⟩) (.inl hg) _
end
end Go.Proofs.YtmgpefenkilffaaGreat
