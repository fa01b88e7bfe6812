/- Texts of this proof: J16. -/
import Derived.Test.YtmocoldobnimfaaGreatU33
set_option linter.all false
set_option maxRecDepth 100000
set_option maxHeartbeats 16000000
namespace Go.Proofs.YtmocoldobnimfaaGreat
section
open Go.RowKit
attribute [local go_sem ↓] Go.wp_at_zero Go.wp_at_succ
theorem yformed_cells (op mn mx md nn:Int)(neg:Bool)(A K:Option Addr)(c kc nk:Nat)(l:List Sp)(p q:Int)(w:World)(hsl:SL w A c l)(hk:nk≤kc∧kc≤9223372036854775807):Calls Tryz.prog 153 #[.agg #[.int .i64 op,.slice A l.length c,.slice K nk kc,.int .i64 mn,.int .i64 mx,.int .i64 md,.int .i64 nn,.bool neg],.int .i64 p,.int .i64 q] w (RetB w):=by
 have hll:=hsl.len;have B0:=Blk.new w 26 #[.int .i64 op,.slice A l.length c,.slice K nk kc,.int .i64 mn,.int .i64 mx,.int .i64 md,.int .i64 nn,.bool neg];have E0:=Ext.alloc w (.cells #[.int .i64 op,.slice A l.length c,.slice K nk kc,.int .i64 mn,.int .i64 mx,.int .i64 md,.int .i64 nn,.bool neg] 26);have HSP:=fun(w':World) (x:Ext w w')=>lh (yspans_any A c l q w' (hsl.ext x));have HKN:=fun(w':World)=>lh (ykidsN_any op w');clear hsl;go_enter Tryz.func153,Tryz.ntmps153
 go_upto_region 1 with fail
 obtain⟨gx,hgx⟩:∃gx,gx=w.heap.size:=⟨_,rfl⟩
 rw[←hgx] at B0 ⊢;clear hgx;generalize w.alloc (.cells #[.int .i64 op,.slice A l.length c,.slice K nk kc,.int .i64 mn,.int .i64 mx,.int .i64 md,.int .i64 nn,.bool neg] 26)=wa at *;have z0:=B0.cell 0
 go_upto_region 2 with(go_at_call 192;refine(HKN _).out.mono ?_;rintro e wb ⟨x,y,rfl,xb⟩)
 have Bb:=B0.ext xb;obtain⟨y0,y1,y2,y3,y4,y5,y6,y7⟩:wb.cell? ⟨gx,0,none⟩=some (.int .i64 op)∧wb.cell? ⟨gx,1,none⟩=some (.slice A l.length c)∧wb.cell? ⟨gx,2,none⟩=some (.slice K nk kc)∧wb.cell? ⟨gx,3,none⟩=some (.int .i64 mn)∧wb.cell? ⟨gx,4,none⟩=some (.int .i64 mx)∧wb.cell? ⟨gx,5,none⟩=some (.int .i64 md)∧wb.cell? ⟨gx,6,none⟩=some (.int .i64 nn)∧wb.cell? ⟨gx,7,none⟩=some (.bool neg):=⟨Bb.cell 0,Bb.cell 1,Bb.cell 2,Bb.cell 3,Bb.cell 4,Bb.cell 5,Bb.cell 6,Bb.cell 7⟩;clear z0 B0;have X0:=E0.trans xb
 go_wp2_with (go_at_call 193;refine(HSP wb X0).out.mono ?_;rintro e ws ⟨b,rfl,xs⟩;have Bs:=Bb.ext xs;obtain⟨u0,u1,u2,u3,u4,u5,u6,u7⟩:ws.cell? ⟨gx,0,none⟩=some (.int .i64 op)∧ws.cell? ⟨gx,1,none⟩=some (.slice A l.length c)∧ws.cell? ⟨gx,2,none⟩=some (.slice K nk kc)∧ws.cell? ⟨gx,3,none⟩=some (.int .i64 mn)∧ws.cell? ⟨gx,4,none⟩=some (.int .i64 mx)∧ws.cell? ⟨gx,5,none⟩=some (.int .i64 md)∧ws.cell? ⟨gx,6,none⟩=some (.int .i64 nn)∧ws.cell? ⟨gx,7,none⟩=some (.bool neg):=⟨Bs.cell 0,Bs.cell 1,Bs.cell 2,Bs.cell 3,Bs.cell 4,Bs.cell 5,Bs.cell 6,Bs.cell 7⟩;have X1:=X0.trans xs;cases b)
 all_goals
  go_ret
  first|exact⟨_,rfl,X1⟩|exact⟨_,rfl,X0⟩
end
end Go.Proofs.YtmocoldobnimfaaGreat
