/- Texts of this proof: M0. -/
import Derived.Test.YtmpcoifnpflapaaGreatER20
import Derived.Deep.DrawnRows
set_option linter.all false
set_option maxRecDepth 100000
set_option maxHeartbeats 8000000
namespace Go.Proofs.YtmpcoifnpflapaaGreat
section
open Go.RowKit
attribute [local go_sem ↓] Go.wp_at_zero Go.wp_at_succ
def NdP (w:World)(b o:Nat)(n:Nd):Prop:=∀i (h:i<n.cs.length),w.cell? ⟨b,o+i,none⟩=some n.cs[i]
theorem NdP.ext {w w':World}{b o:Nat}{n:Nd}(h:NdP w b o n)(x:Ext w w'):NdP w' b o n:=fun i hi=>x.cell (h i hi)
theorem topH_any (w:World):Calls Tryz.prog 120 #[.bool false] w (RetV (.int .i64 255) w):=by
 go_enter Tryz.func120,Tryz.ntmps120
 go_wp2
 go_ret
 exact⟨rfl,Ext.rfl' _⟩
theorem spans1_any (w:World)(sb:Nat)(x z:Int)(hx:0<=x/\x<=z/\z<=255)(hb:Blk w sb 24 #[.int .i64 x,.int .i64 z]):Calls Tryz.prog 177 #[.slice (some ⟨sb,0,none⟩) 1 1,.int .i64 255] w (RetV (.bool true) w):=by
 obtain⟨c0,c1,_⟩:=hb.c2;go_enter Tryz.func177,Tryz.ntmps177
 go_upto_region 4 with fail
 go_loopw [12] (fun v wr=>∃i:Nat,v=.int .i64 i/\i<=1/\Ext w wr) (fun v _=>1-(intOf v).toNat)
 case atStart=>exact⟨0,rfl,om,Ext.rfl' _⟩
 case round=>
  obtain⟨i,rfl,hi,x1⟩:=hrel;rcases Nat.eq_zero_or_pos i with h0|h0
  ·subst h0;replace c0:=x1.cell c0;replace c1:=x1.cell c1
   go_upto_region 6 with fail
   have XN:=x1.trans (Ext.alloc wr (.cells #[.int .i64 x,.int .i64 z] 24));have BN:=Blk.new wr 24 #[.int .i64 x,.int .i64 z];obtain⟨g,hg⟩:∃g,g=wr.heap.size:=⟨_,rfl⟩
   rw[<-hg] at BN ⊢;clear hg;generalize wr.alloc (.cells #[.int .i64 x,.int .i64 z] 24)=w5 at *;obtain⟨e0,e1,_⟩:=BN.c2;have d0:=kc0 e0;have d1:=kc0 e1;have HXN:=lh XN;have h1:¬x<0:=om;have h2:¬z>255:=om;have h3:¬(255:Int)<z:=om;have h4:¬z<x:=om;clear XN BN c0 c1 x1 e0 e1;refine Xr.start [] kr ?_;refine Xtk 0 ?_
   iterate 3(refine Xtn ?_)
   iterate 5(first|refine Xtn ?_|refine Xsn ?_)
   iterate 2(refine Xtn ?_)
   iterate 4(first|refine Xtn ?_|refine Xsn ?_)
   iterate 2(refine Xtn ?_)
   iterate 14(first|refine Xtn ?_|refine Xsn ?_)
   refine Xtn ?_;refine Xdn fun w6 hE6 hK6=>?_;have HX6:=HXN.out.trans hK6.nil;clear d0 d1
   go_wp2_with fail
   go_roundw
   case rel=>exact⟨1,by go_num,om,HX6⟩
   case measure=>simp[intOf]
  ·obtain rfl:i=1:=om
   go_wp2_with fail
   go_ret
   exact⟨rfl,x1⟩
def ndS (sb:Nat)(x:Sp):Nd:=⟨1,some ⟨sb,0,none⟩,1,[x],none,0,[],0,0,0,0,false⟩
theorem formedS_any (w:World)(b o sb:Nat)(x:Sp)(cp:Int)(hx:0<=x.1/\x.1<=x.2/\x.2<=255)(hn:NdP w b o (ndS sb x))(hb:Blk w sb 24 #[.int .i64 x.1,.int .i64 x.2]):Calls Tryz.prog 122 #[.pointer (some ⟨b,o,none⟩),.int .i64 cp,.int .i64 255] w (RetV (.bool true) w):=by
 have c0:w.cell? ⟨b,o,none⟩=some (.int .i64 1):=hn 0 (by simp[Nd.cs,ndS]);have c1:w.cell? ⟨b,o+1,none⟩=some (.slice (some ⟨sb,0,none⟩) 1 1):=hn 1 (by simp[Nd.cs,ndS]);have c2:w.cell? ⟨b,o+2,none⟩=some (.slice none 0 0):=hn 2 (by simp[Nd.cs,ndS]);have c3:w.cell? ⟨b,o+3,none⟩=some (.int .i64 0):=hn 3 (by simp[Nd.cs,ndS]);have c4:w.cell? ⟨b,o+4,none⟩=some (.int .i64 0):=hn 4 (by simp[Nd.cs,ndS]);have c5:w.cell? ⟨b,o+5,none⟩=some (.int .i64 0):=hn 5 (by simp[Nd.cs,ndS]);have c6:w.cell? ⟨b,o+6,none⟩=some (.int .i64 0):=hn 6 (by simp[Nd.cs,ndS]);have c7:w.cell? ⟨b,o+7,none⟩=some (.bool false):=hn 7 (by simp[Nd.cs,ndS]);have HS:=fun(w':World) (x':Ext w w')=>lh (spans1_any w' sb x.1 x.2 hx (hb.ext x'));clear hn hb;go_enter Tryz.func122,Tryz.ntmps122
 go_upto_region 4 with fail
 have XN:=Ext.alloc w (.cells #[.int .i64 1,.slice (some ⟨sb,0,none⟩) 1 1,.slice none 0 0,.int .i64 0,.int .i64 0,.int .i64 0,.int .i64 0,.bool false] 28);have BN:=Blk.new w 28 #[.int .i64 1,.slice (some ⟨sb,0,none⟩) 1 1,.slice none 0 0,.int .i64 0,.int .i64 0,.int .i64 0,.int .i64 0,.bool false];obtain⟨g,hg⟩:∃g,g=w.heap.size:=⟨_,rfl⟩
 rw[<-hg] at BN ⊢;have HG:Hid (w.heap.size<=g):=lh om;clear hg;generalize w.alloc (.cells #[.int .i64 1,.slice (some ⟨sb,0,none⟩) 1 1,.slice none 0 0,.int .i64 0,.int .i64 0,.int .i64 0,.int .i64 0,.bool false] 28)=w1 at *;have f2:=BN.frz 2;have z2:w1.cell? ⟨g,2,none⟩=some (.slice none 0 0):=BN.cell 2;have X1:=lh (XN.setNew (p:=⟨g,2,none⟩) HG.out (.slice none 0 0));have B1:Blk (w1.setCell ⟨g,2,none⟩ (.slice none 0 0)) g 28 #[.int .i64 1,.slice (some ⟨sb,0,none⟩) 1 1,.slice none 0 0,.int .i64 0,.int .i64 0,.int .i64 0,.int .i64 0,.bool false]:=Blk.set BN 2 (.slice none 0 0);have d0:=XN.cell c0;replace c0:=X1.out.cell c0;replace c1:=X1.out.cell c1
 go_upto_region 5 with fail
 generalize w1.setCell ⟨g,2,none⟩ (.slice none 0 0)=w2 at *;clear f2 z2 d0 c2 c3 c4 c5 c6 c7 XN BN
 go_upto_region 11 with(go_at_call 177;refine(HS w2 X1.out).out.mono ?_;rintro e w3 ⟨rfl,x3⟩)
 have B3:=B1.ext x3;have f1:=B3.frz 1;have z1:w3.cell? ⟨g,1,none⟩=some (.slice (some ⟨sb,0,none⟩) 1 1):=B3.cell 1;have X3:=lh ((X1.out.trans x3).setNew (p:=⟨g,1,none⟩) HG.out (.slice none 0 0));have B4:Blk (w3.setCell ⟨g,1,none⟩ (.slice none 0 0)) g 28 #[.int .i64 1,.slice none 0 0,.slice none 0 0,.int .i64 0,.int .i64 0,.int .i64 0,.int .i64 0,.bool false]:=Blk.set B3 1 (.slice none 0 0);clear c0 c1 B1 x3 HS B3
 go_upto_region 36 with fail
 generalize w3.setCell ⟨g,1,none⟩ (.slice none 0 0)=w4 at *;have y1:w4.cell? ⟨g,1,none⟩=some (.slice none 0 0):=B4.cell 1;have y3:w4.cell? ⟨g,3,none⟩=some (.int .i64 0):=B4.cell 3;have y4:w4.cell? ⟨g,4,none⟩=some (.int .i64 0):=B4.cell 4;have y5:w4.cell? ⟨g,5,none⟩=some (.int .i64 0):=B4.cell 5;have y6:w4.cell? ⟨g,6,none⟩=some (.int .i64 0):=B4.cell 6;have y7:w4.cell? ⟨g,7,none⟩=some (.bool false):=B4.cell 7;clear f1 z1 B4
 go_wp2_with fail
 go_ret
 exact⟨rfl,X3.out⟩
def ndC (kb:Nat)(u v:Value):Nd:=⟨2,none,0,[],some ⟨kb,0,none⟩,2,[u,v],0,0,0,0,false⟩
theorem formedC_any (w:World)(b o kb:Nat)(u v:Value)(cp:Int)(hn:NdP w b o (ndC kb u v)):Calls Tryz.prog 122 #[.pointer (some ⟨b,o,none⟩),.int .i64 cp,.int .i64 255] w (RetV (.bool true) w):=by
 have c0:w.cell? ⟨b,o,none⟩=some (.int .i64 2):=hn 0 (by simp[Nd.cs,ndC]);have c1:w.cell? ⟨b,o+1,none⟩=some (.slice none 0 0):=hn 1 (by simp[Nd.cs,ndC]);have c2:w.cell? ⟨b,o+2,none⟩=some (.slice (some ⟨kb,0,none⟩) 2 2):=hn 2 (by simp[Nd.cs,ndC]);have c3:w.cell? ⟨b,o+3,none⟩=some (.int .i64 0):=hn 3 (by simp[Nd.cs,ndC]);have c4:w.cell? ⟨b,o+4,none⟩=some (.int .i64 0):=hn 4 (by simp[Nd.cs,ndC]);have c5:w.cell? ⟨b,o+5,none⟩=some (.int .i64 0):=hn 5 (by simp[Nd.cs,ndC]);have c6:w.cell? ⟨b,o+6,none⟩=some (.int .i64 0):=hn 6 (by simp[Nd.cs,ndC]);have c7:w.cell? ⟨b,o+7,none⟩=some (.bool false):=hn 7 (by simp[Nd.cs,ndC]);clear hn;go_enter Tryz.func122,Tryz.ntmps122
 go_upto_region 4 with fail
 have XN:=Ext.alloc w (.cells #[.int .i64 2,.slice none 0 0,.slice (some ⟨kb,0,none⟩) 2 2,.int .i64 0,.int .i64 0,.int .i64 0,.int .i64 0,.bool false] 28);have BN:=Blk.new w 28 #[.int .i64 2,.slice none 0 0,.slice (some ⟨kb,0,none⟩) 2 2,.int .i64 0,.int .i64 0,.int .i64 0,.int .i64 0,.bool false];obtain⟨g,hg⟩:∃g,g=w.heap.size:=⟨_,rfl⟩
 rw[<-hg] at BN ⊢;have HG:Hid (w.heap.size<=g):=lh om;clear hg;generalize w.alloc (.cells #[.int .i64 2,.slice none 0 0,.slice (some ⟨kb,0,none⟩) 2 2,.int .i64 0,.int .i64 0,.int .i64 0,.int .i64 0,.bool false] 28)=w1 at *;have f2:=BN.frz 2;have z2:w1.cell? ⟨g,2,none⟩=some (.slice (some ⟨kb,0,none⟩) 2 2):=BN.cell 2;have X1:=lh (XN.setNew (p:=⟨g,2,none⟩) HG.out (.slice none 0 0));have B1:Blk (w1.setCell ⟨g,2,none⟩ (.slice none 0 0)) g 28 #[.int .i64 2,.slice none 0 0,.slice none 0 0,.int .i64 0,.int .i64 0,.int .i64 0,.int .i64 0,.bool false]:=Blk.set BN 2 (.slice none 0 0);have d0:=XN.cell c0;replace c0:=X1.out.cell c0
 go_upto_region 5 with fail
 generalize w1.setCell ⟨g,2,none⟩ (.slice none 0 0)=w4 at *;clear f2 z2 d0 c1 c2 c3 c4 c5 c6 c7 XN BN;have y1:w4.cell? ⟨g,1,none⟩=some (.slice none 0 0):=B1.cell 1;have y3:w4.cell? ⟨g,3,none⟩=some (.int .i64 0):=B1.cell 3;have y4:w4.cell? ⟨g,4,none⟩=some (.int .i64 0):=B1.cell 4;have y5:w4.cell? ⟨g,5,none⟩=some (.int .i64 0):=B1.cell 5;have y6:w4.cell? ⟨g,6,none⟩=some (.int .i64 0):=B1.cell 6;have y7:w4.cell? ⟨g,7,none⟩=some (.bool false):=B1.cell 7;clear B1
 go_wp2_with fail
 go_ret
 exact⟨rfl,X1.out⟩
end
end Go.Proofs.YtmpcoifnpflapaaGreat
