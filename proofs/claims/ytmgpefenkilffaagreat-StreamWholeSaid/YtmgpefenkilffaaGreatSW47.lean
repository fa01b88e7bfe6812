/- Texts of this proof: Y25. -/
import Derived.Test.YtmgpefenkilffaaGreatSW41
import Derived.Test.YtmgpefenkilffaaGreatSW42
set_option linter.all false
set_option maxRecDepth 100000
set_option maxHeartbeats 16000000
namespace Go.Proofs.YtmgpefenkilffaaGreat
section
open Go.RowKit
attribute [local go_sem ↓] Go.wp_at_zero Go.wp_at_succ
theorem Y25z1 {P:Prop} (h:P:=by
 have j0:=kc0 k0;have j1:=kc0 k1;have j2:=kc0 k2;have j3:=kc0 k3;have j4:=kc0 k4;have ju0:=kc0 u0;have ju1:=kc0 u1;have ju2:=kc0 u2
 go_upto_region 24 with fail
 refine Xr.start [] kr ?_;refine Xtk 0 ?_;refine Xtn ?_
 iterate 13(first|refine Xtn ?_|refine Xsn ?_)
 iterate 2(refine Xtn ?_)
 iterate 15(first|refine Xtn ?_|refine Xsn ?_)
 iterate 2(refine Xtn ?_)
 refine Xdn fun w9 hE9 hK9=>?_;clear j0 j1 j2 j3 j4 ju0 ju1 ju2
 go_wp2_with fail
 go_ret
 exact⟨by rw[<-HRES.out];rfl,X3.trans hE9⟩):P:=h
theorem Y25z4 {P:Prop} (h:P:=by
 have u0:w3.cell? ⟨gx+1,0,none⟩=some (.int .i64 0):=BU3.cell 0;have u1:w3.cell? ⟨gx+1,1,none⟩=some (.int .i64 0):=BU3.cell 1;have u2:w3.cell? ⟨gx+1,2,none⟩=some (.int .i64 zn):=BU3.cell 2;have HRES:Hid (res=false):=lh (by rw[<-hres.out];exact okB_f (fun h=>by have h1:=h.2.2.2.2;simp only at h1;omega));exact Y25z1):P:=h
theorem Y25z2 {P:Prop} (h:P:=by
 skip
 have hc1:IntKind.i64.wrap (2*caps)=2*caps:=wj;have hc2:IntKind.i64.wrap (2*caps-1)=2*caps-1:=wj;have j3:=kc0 k3;have jg:=kc0 g1
 go_upto_region 19 with fail
 refine Xr.start [] kr ?_;refine Xtk 0 ?_
 iterate 5(refine Xtn ?_)
 iterate 9(first|refine Xtn ?_|refine Xsn ?_)
 iterate 2(refine Xtn ?_)
 refine Xdn fun w2 x2 hK2=>?_;clear j3 jg;replace k0:=x2.cell k0;replace k1:=x2.cell k1;replace k2:=x2.cell k2;replace k3:=x2.cell k3;replace k4:=x2.cell k4;replace g0:=x2.cell g0;replace g1:=x2.cell g1;replace g2:=x2.cell g2;replace u0:=x2.cell u0;replace u1:=x2.cell u1;replace u2:=x2.cell u2;have f0:=(BU.ext x2).frz 2
 go_upto_region 24 with fail
 have X2:=X1.trans x2;clear f0;have BU3:=(BU.ext x2).set 2 (.int .i64 zn);have X3:Ext w (w2.setCell ⟨gx+1,2,none⟩ (.int .i64 zn)):=X2.setNew (p:=⟨gx+1,2,none⟩) (by simp only;omega) _;have hoth:∀o,pb≠gx+1->(w2.setCell ⟨gx+1,2,none⟩ (.int .i64 zn)).cell? ⟨pb,o,none⟩=w2.cell? ⟨pb,o,none⟩:=fun o hne=>World.cell?_setCell_other _ _ _ _ (by intro e;injection e with e1;omega);have hne:pb≠gx+1:=om;replace k0:=(hoth _ hne).trans k0;replace k1:=(hoth _ hne).trans k1;replace k2:=(hoth _ hne).trans k2;replace k3:=(hoth _ hne).trans k3;replace k4:=(hoth _ hne).trans k4;clear hoth hne g0 g1 g2 u0 u1 u2;generalize w2.setCell ⟨gx+1,2,none⟩ (.int .i64 zn)=w3 at *;exact Y25z4):P:=h
theorem Y25z7 {P:Prop} (h:P:=by
 have HQ2:=fun(W:World)=>HQ zx zy zn 0 0 zn W;rw[hqb] at HQ2;clear HQ hq hqb;exact Y25z1):P:=h
theorem Y25z5 {P:Prop} (h:P:=by
 have HRES:Hid (res=false):=lh (by rw[<-hres.out];exact okB_f (fun h=>hq (by have h1:=h.2.1;have h2:=h.2.2.1;have h3:=h.2.2.2.1;simp only at h1 h2 h3;omega)));have hqb:=eqNumF zx zy zn 0 0 zn hq;exact Y25z7):P:=h
theorem Y25z6 {P:Prop} (h:P:=by
 have HRES:Hid (res=false):=lh (by rw[<-hres.out];exact okB_f (fun h=>h.1.elim (fun h1=>by first|exact absurd h1 de|(simp only at h1;omega)) hs));have hl0:((zl.length:Int) == 0)=false:=by rw[beq_eq_false_iff_ne];have:=List.length_pos_iff.2 hs;omega
 exact Y25z1):P:=h
theorem pv4_any (gA:Option Addr)(n gc:Nat)(hn:n<=gc/\gc<=9223372036854775807)(runes:Bool)(caps:Int)(hcaps:0<=caps/\caps<=9)(zx zy zn:Int)(A:Option Addr)(c:Nat)(zl:List Sp)(w:World)(hL:SL w A c zl)(pb q:Nat)
 (c0:w.cell? ⟨pb,q,none⟩=some (.int .i64 4)) (c1:w.cell? ⟨pb,q+1,none⟩=some (.int .i64 zx)) (c2:w.cell? ⟨pb,q+2,none⟩=some (.int .i64 zy)) (c3:w.cell? ⟨pb,q+3,none⟩=some (.int .i64 zn)) (c4:w.cell? ⟨pb,q+4,none⟩=some (.slice A zl.length c)) :
 Calls Tryz.prog 165 #[.agg #[.slice gA n gc,.int .i64 caps,.bool runes],.pointer (some ⟨pb,q,none⟩)] w (RetV (.bool (okB runes caps n ⟨4,zx,zy,zn,zl⟩)) w):=by
 have hlen:=hL.len;have BG0:=Blk.new w 35 #[.slice gA n gc,.int .i64 caps,.bool runes];have EG0:=Ext.alloc w (.cells #[.slice gA n gc,.int .i64 caps,.bool runes] 35);have BU:=Blk.new (w.alloc (.cells #[.slice gA n gc,.int .i64 caps,.bool runes] 35)) 350 #[.int .i64 0,.int .i64 0,.int .i64 0];have EU:=Ext.alloc (w.alloc (.cells #[.slice gA n gc,.int .i64 caps,.bool runes] 35)) (.cells #[.int .i64 0,.int .i64 0,.int .i64 0] 350);have BG:=BG0.ext EU;have X1:=EG0.trans EU;rw[World.size_alloc] at BU;obtain⟨res,hres⟩:∃res,Hid (okB runes caps n ⟨4,zx,zy,zn,zl⟩=res):=⟨_,lh rfl⟩;rw[hres.out];have eg:=egTarget;have HQ:=fun(a b c d e f:Int) (W:World)=>eqNum a b c d e f W;go_enter Tryz.func165,Tryz.ntmps165
 go_upto_region 4 with fail
 obtain⟨gx,hgx⟩:∃gx,gx=w.heap.size:=⟨_,rfl⟩
 rw[<-hgx] at BG BU ⊢;clear BG0;generalize (w.alloc (.cells #[.slice gA n gc,.int .i64 caps,.bool runes] 35)).alloc (.cells #[.int .i64 0,.int .i64 0,.int .i64 0] 350)=w1 at *;have hpg:pb<gx:=by have:=World.block_lt_of_cell? _ _ c0;simp only at this;omega
 have hgw:w.heap.size<=gx:=om;clear EG0 EU hgx;have k0:=X1.cell c0;have k1:=X1.cell c1;have k2:=X1.cell c2;have k3:=X1.cell c3;have k4:=X1.cell c4;have g0:w1.cell? ⟨gx,0,none⟩=some (.slice gA n gc):=BG.cell 0;have g1:w1.cell? ⟨gx,1,none⟩=some (.int .i64 caps):=BG.cell 1;have g2:w1.cell? ⟨gx,2,none⟩=some (.bool runes):=BG.cell 2;have u0:w1.cell? ⟨gx+1,0,none⟩=some (.int .i64 0):=BU.cell 0;have u1:w1.cell? ⟨gx+1,1,none⟩=some (.int .i64 0):=BU.cell 1;have u2:w1.cell? ⟨gx+1,2,none⟩=some (.int .i64 0):=BU.cell 2;clear c0 c1 c2 c3 c4;by_cases h1:0<=zn
 ·by_cases h2:zn<=2*caps-1
  ·skip
   have hc1:IntKind.i64.wrap (2*caps)=2*caps:=wj;have hc2:IntKind.i64.wrap (2*caps-1)=2*caps-1:=wj;have j3:=kc0 k3;have jg:=kc0 g1
   go_upto_region 19 with fail
   refine Xr.start [] kr ?_;refine Xtk 0 ?_
   iterate 5(refine Xtn ?_)
   iterate 9(first|refine Xtn ?_|refine Xsn ?_)
   iterate 2(refine Xtn ?_)
   refine Xdn fun w2 x2 hK2=>?_;clear j3 jg;replace k0:=x2.cell k0;replace k1:=x2.cell k1;replace k2:=x2.cell k2;replace k3:=x2.cell k3;replace k4:=x2.cell k4;replace g0:=x2.cell g0;replace g1:=x2.cell g1;replace g2:=x2.cell g2;replace u0:=x2.cell u0;replace u1:=x2.cell u1;replace u2:=x2.cell u2;have f0:=(BU.ext x2).frz 2
   go_upto_region 24 with fail
   have X2:=X1.trans x2;clear f0;have BU3:=(BU.ext x2).set 2 (.int .i64 zn);have X3:Ext w (w2.setCell ⟨gx+1,2,none⟩ (.int .i64 zn)):=X2.setNew (p:=⟨gx+1,2,none⟩) (by simp only;omega) _;have hoth:∀o,pb≠gx+1->(w2.setCell ⟨gx+1,2,none⟩ (.int .i64 zn)).cell? ⟨pb,o,none⟩=w2.cell? ⟨pb,o,none⟩:=fun o hne=>World.cell?_setCell_other _ _ _ _ (by intro e;injection e with e1;omega);have hne:pb≠gx+1:=om;replace k0:=(hoth _ hne).trans k0;replace k1:=(hoth _ hne).trans k1;replace k2:=(hoth _ hne).trans k2;replace k3:=(hoth _ hne).trans k3;replace k4:=(hoth _ hne).trans k4;clear hoth hne g0 g1 g2 u0 u1 u2;generalize w2.setCell ⟨gx+1,2,none⟩ (.int .i64 zn)=w3 at *;have u0:w3.cell? ⟨gx+1,0,none⟩=some (.int .i64 0):=BU3.cell 0;have u1:w3.cell? ⟨gx+1,1,none⟩=some (.int .i64 0):=BU3.cell 1;have u2:w3.cell? ⟨gx+1,2,none⟩=some (.int .i64 zn):=BU3.cell 2;by_cases hs:zl=[]
   ·subst hs;by_cases hq:(zx=0/\zy=0/\zn=zn)
    ·have HRES:Hid (res=true):=lh (by rw[<-hres.out];exact okB_t ⟨.inr rfl,.inr hq.2.1,.inr (.inr hq.1),.inl rfl,.inr (.inr (.inr (.inr (.inl ⟨rfl,h1,by show zn<2*caps;omega⟩))))⟩);have hqb:=eqNumT zx zy zn 0 0 zn hq;exact Y25z7
    ·exact Y25z5
   ·exact Y25z6
  ·exact Y25z2
 ·exact Y25z2
theorem Y25z3 {P:Prop} (h:P:=by
 skip
 have f0:=BU.frz 2
 go_upto_region 24 with fail
 clear f0;have BU3:=(BU.ext (Ext.rfl' _)).set 2 (.int .i64 zn);have X3:Ext w (w1.setCell ⟨gx+1,2,none⟩ (.int .i64 zn)):=X1.setNew (p:=⟨gx+1,2,none⟩) (by simp only;omega) _;have hoth:∀o,pb≠gx+1->(w1.setCell ⟨gx+1,2,none⟩ (.int .i64 zn)).cell? ⟨pb,o,none⟩=w1.cell? ⟨pb,o,none⟩:=fun o hne=>World.cell?_setCell_other _ _ _ _ (by intro e;injection e with e1;omega);have hne:pb≠gx+1:=om;replace k0:=(hoth _ hne).trans k0;replace k1:=(hoth _ hne).trans k1;replace k2:=(hoth _ hne).trans k2;replace k3:=(hoth _ hne).trans k3;replace k4:=(hoth _ hne).trans k4;clear hoth hne g0 g1 g2 u0 u1 u2;generalize w1.setCell ⟨gx+1,2,none⟩ (.int .i64 zn)=w3 at *;exact Y25z4):P:=h
theorem pv5_any (gA:Option Addr)(n gc:Nat)(hn:n<=gc/\gc<=9223372036854775807)(runes:Bool)(caps:Int)(hcaps:0<=caps/\caps<=9)(zx zy zn:Int)(A:Option Addr)(c:Nat)(zl:List Sp)(w:World)(hL:SL w A c zl)(pb q:Nat)
 (c0:w.cell? ⟨pb,q,none⟩=some (.int .i64 5)) (c1:w.cell? ⟨pb,q+1,none⟩=some (.int .i64 zx)) (c2:w.cell? ⟨pb,q+2,none⟩=some (.int .i64 zy)) (c3:w.cell? ⟨pb,q+3,none⟩=some (.int .i64 zn)) (c4:w.cell? ⟨pb,q+4,none⟩=some (.slice A zl.length c)) :
 Calls Tryz.prog 165 #[.agg #[.slice gA n gc,.int .i64 caps,.bool runes],.pointer (some ⟨pb,q,none⟩)] w (RetV (.bool (okB runes caps n ⟨5,zx,zy,zn,zl⟩)) w):=by
 have hlen:=hL.len;have BG0:=Blk.new w 35 #[.slice gA n gc,.int .i64 caps,.bool runes];have EG0:=Ext.alloc w (.cells #[.slice gA n gc,.int .i64 caps,.bool runes] 35);have BU:=Blk.new (w.alloc (.cells #[.slice gA n gc,.int .i64 caps,.bool runes] 35)) 350 #[.int .i64 0,.int .i64 0,.int .i64 0];have EU:=Ext.alloc (w.alloc (.cells #[.slice gA n gc,.int .i64 caps,.bool runes] 35)) (.cells #[.int .i64 0,.int .i64 0,.int .i64 0] 350);have BG:=BG0.ext EU;have X1:=EG0.trans EU;rw[World.size_alloc] at BU;obtain⟨res,hres⟩:∃res,Hid (okB runes caps n ⟨5,zx,zy,zn,zl⟩=res):=⟨_,lh rfl⟩;rw[hres.out];have eg:=egTarget;have HQ:=fun(a b c d e f:Int) (W:World)=>eqNum a b c d e f W;go_enter Tryz.func165,Tryz.ntmps165
 go_upto_region 4 with fail
 obtain⟨gx,hgx⟩:∃gx,gx=w.heap.size:=⟨_,rfl⟩
 rw[<-hgx] at BG BU ⊢;clear BG0;generalize (w.alloc (.cells #[.slice gA n gc,.int .i64 caps,.bool runes] 35)).alloc (.cells #[.int .i64 0,.int .i64 0,.int .i64 0] 350)=w1 at *;have hpg:pb<gx:=by have:=World.block_lt_of_cell? _ _ c0;simp only at this;omega
 have hgw:w.heap.size<=gx:=om;clear EG0 EU hgx;have k0:=X1.cell c0;have k1:=X1.cell c1;have k2:=X1.cell c2;have k3:=X1.cell c3;have k4:=X1.cell c4;have g0:w1.cell? ⟨gx,0,none⟩=some (.slice gA n gc):=BG.cell 0;have g1:w1.cell? ⟨gx,1,none⟩=some (.int .i64 caps):=BG.cell 1;have g2:w1.cell? ⟨gx,2,none⟩=some (.bool runes):=BG.cell 2;have u0:w1.cell? ⟨gx+1,0,none⟩=some (.int .i64 0):=BU.cell 0;have u1:w1.cell? ⟨gx+1,1,none⟩=some (.int .i64 0):=BU.cell 1;have u2:w1.cell? ⟨gx+1,2,none⟩=some (.int .i64 0):=BU.cell 2;clear c0 c1 c2 c3 c4;by_cases h1:0<=zn
 ·by_cases h2:zn<=5
  ·skip
   have f0:=BU.frz 2
   go_upto_region 24 with fail
   clear f0;have BU3:=(BU.ext (Ext.rfl' _)).set 2 (.int .i64 zn);have X3:Ext w (w1.setCell ⟨gx+1,2,none⟩ (.int .i64 zn)):=X1.setNew (p:=⟨gx+1,2,none⟩) (by simp only;omega) _;have hoth:∀o,pb≠gx+1->(w1.setCell ⟨gx+1,2,none⟩ (.int .i64 zn)).cell? ⟨pb,o,none⟩=w1.cell? ⟨pb,o,none⟩:=fun o hne=>World.cell?_setCell_other _ _ _ _ (by intro e;injection e with e1;omega);have hne:pb≠gx+1:=om;replace k0:=(hoth _ hne).trans k0;replace k1:=(hoth _ hne).trans k1;replace k2:=(hoth _ hne).trans k2;replace k3:=(hoth _ hne).trans k3;replace k4:=(hoth _ hne).trans k4;clear hoth hne g0 g1 g2 u0 u1 u2;generalize w1.setCell ⟨gx+1,2,none⟩ (.int .i64 zn)=w3 at *;have u0:w3.cell? ⟨gx+1,0,none⟩=some (.int .i64 0):=BU3.cell 0;have u1:w3.cell? ⟨gx+1,1,none⟩=some (.int .i64 0):=BU3.cell 1;have u2:w3.cell? ⟨gx+1,2,none⟩=some (.int .i64 zn):=BU3.cell 2;by_cases hs:zl=[]
   ·subst hs;by_cases hq:(zx=0/\zy=0/\zn=zn)
    ·have HRES:Hid (res=true):=lh (by rw[<-hres.out];exact okB_t ⟨.inr rfl,.inr hq.2.1,.inr (.inr hq.1),.inr (.inl rfl),.inr (.inr (.inr (.inr (.inr ⟨rfl,h1,h2⟩))))⟩);have hqb:=eqNumT zx zy zn 0 0 zn hq;exact Y25z7
    ·exact Y25z5
   ·exact Y25z6
  ·exact Y25z3
 ·exact Y25z3
end
end Go.Proofs.YtmgpefenkilffaaGreat
