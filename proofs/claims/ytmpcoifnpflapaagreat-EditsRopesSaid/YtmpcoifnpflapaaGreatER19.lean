/- Texts of this proof: W11 G9. -/
import Derived.Test.YtmpcoifnpflapaaGreatER14
import Derived.Test.YtmpcoifnpflapaaGreatER18
set_option linter.all false
set_option maxHeartbeats 2000000
namespace Go.Proofs.YtmpcoifnpflapaaGreat
section
open Go.RowKit
attribute [local go_sem ↓] Go.wp_at_zero Go.wp_at_succ
theorem own_any (x:It)(B:Option Addr)(cB:Nat)(w:World):Calls Tryz.prog 19 #[itV x B cB] w (RetV (itV x B cB) w):=by
 obtain⟨xc,xn,xb,⟨xa,xd,xs⟩⟩:=x;have b1:=Blk.new w 59 #[.int .i64 xc,.int .i64 xn,.int .i64 xb,.int .i64 xa,.int .i64 xd,.slice B xs.length cB];have e1:=Ext.alloc w (.cells #[.int .i64 xc,.int .i64 xn,.int .i64 xb,.int .i64 xa,.int .i64 xd,.slice B xs.length cB] 59);unfold itV
 simp only
 go_enter Tryz.func19,Tryz.ntmps19
 go_upto_region 1 with fail
 have b2:=Blk.new (w.alloc (.cells #[.int .i64 xc,.int .i64 xn,.int .i64 xb,.int .i64 xa,.int .i64 xd,.slice B xs.length cB] 59)) 57 #[.int .i64 0,.int .i64 0,.int .i64 0,.int .i64 0,.int .i64 0,.slice none 0 0];have e2:=Ext.alloc (w.alloc (.cells #[.int .i64 xc,.int .i64 xn,.int .i64 xb,.int .i64 xa,.int .i64 xd,.slice B xs.length cB] 59)) (.cells #[.int .i64 0,.int .i64 0,.int .i64 0,.int .i64 0,.int .i64 0,.slice none 0 0] 57);have hz:(w.alloc (.cells #[.int .i64 xc,.int .i64 xn,.int .i64 xb,.int .i64 xa,.int .i64 xd,.slice B xs.length cB] 59)).heap.size=w.heap.size+1:=by simp
 rw[hz] at b2;replace b1:=b1.ext e2;replace e1:=e1.trans e2;generalize (w.alloc (.cells #[.int .i64 xc,.int .i64 xn,.int .i64 xb,.int .i64 xa,.int .i64 xd,.slice B xs.length cB] 59)).alloc (.cells #[.int .i64 0,.int .i64 0,.int .i64 0,.int .i64 0,.int .i64 0,.slice none 0 0] 57)=W at *;clear e2 hz;have p0:=b1.cell 0;have p1:=b1.cell 1;have p2:=b1.cell 2;have p3:=b1.cell 3;have p4:=b1.cell 4;have p5:=b1.cell 5;have m0:=b2.cell 0;have m1:=b2.cell 1;have m2:=b2.cell 2;have m3:=b2.cell 3;have m4:=b2.cell 4;have m5:=b2.cell 5;have m0f:=b2.frz 0;have m1f:=b2.frz 1;have m2f:=b2.frz 2;have m3f:=b2.frz 3;have m4f:=b2.frz 4;have m5f:=b2.frz 5;have mz:=b2.lt;simp only[List.getElem?_toArray,List.getElem?_cons_succ,List.getElem?_cons_zero] at p0 p1 p2 p3 p4 p5 m0 m1 m2 m3 m4 m5
 go_wp2_with fail
 have z:=(((((b2.set 0 (.int .i64 xc)).set 1 (.int .i64 xn)).set 2 (.int .i64 xb)).set 3 (.int .i64 xa)).set 4 (.int .i64 xd)).set 5 (.slice B xs.length cB);simp only[List.setIfInBounds_toArray,List.set_cons_zero,List.set_cons_succ] at z;have r0:=z.cell 0;have r1:=z.cell 1;have r2:=z.cell 2;have r3:=z.cell 3;have r4:=z.cell 4;have r5:=z.cell 5;simp only[List.getElem?_toArray,List.getElem?_cons_succ,List.getElem?_cons_zero] at r0 r1 r2 r3 r4 r5;have hz:w.heap.size<=w.heap.size+1:=Nat.le_succ _;have X:=(((((e1.setNew (p:=⟨w.heap.size+1,0,none⟩) hz (.int .i64 xc)).setNew (p:=⟨w.heap.size+1,1,none⟩) hz (.int .i64 xn)).setNew (p:=⟨w.heap.size+1,2,none⟩) hz (.int .i64 xb)).setNew (p:=⟨w.heap.size+1,3,none⟩) hz (.int .i64 xa)).setNew (p:=⟨w.heap.size+1,4,none⟩) hz (.int .i64 xd)).setNew (p:=⟨w.heap.size+1,5,none⟩) hz (.slice B xs.length cB);exact bodyPost_ret (v:=.agg #[.int .i64 xc,.int .i64 xn,.int .i64 xb,.int .i64 xa,.int .i64 xd,.slice B xs.length cB]) (by simp[results,Tryz.results19,go_sem,r0,r1,r2,r3,r4,r5]) rfl ⟨rfl,X⟩
end
section
open Go.RowKit
theorem infoBl:(Tryz.prog.info? 4).map (fun i=>(i.zero,i.size,i.bytes))=some (some (.bool false),1,1):=by kernel_rfl
end
end Go.Proofs.YtmpcoifnpflapaaGreat
