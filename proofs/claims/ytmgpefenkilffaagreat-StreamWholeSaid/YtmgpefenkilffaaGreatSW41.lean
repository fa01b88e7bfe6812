/- Texts of this proof: Y24. -/
import Derived.Test.YtmgpefenkilffaaGreatSW38
set_option linter.all false
set_option maxRecDepth 100000
set_option maxHeartbeats 16000000
namespace Go.Proofs.YtmgpefenkilffaaGreat
section
open Go.RowKit
attribute [local go_sem ↓] Go.wp_at_zero Go.wp_at_succ
theorem Y24z1 {P:Prop} (h:P:=by
 have j0:=kc0 k0;have j1:=kc0 k1;have j2:=kc0 k2;have j3:=kc0 k3;have j4:=kc0 k4;have ju0:=kc0 u0;have ju1:=kc0 u1;have ju2:=kc0 u2
 go_upto_region 24 with fail
 refine Xr.start [] kr ?_;refine Xtk 0 ?_;refine Xtn ?_
 iterate 13(first|refine Xtn ?_|refine Xsn ?_)
 iterate 2(refine Xtn ?_)
 iterate 15(first|refine Xtn ?_|refine Xsn ?_)
 iterate 2(refine Xtn ?_)
 refine Xdn fun w9 hE9 hK9=>?_;clear j0 j1 j2 j3 j4 ju0 ju1 ju2
 go_wp2_with fail
 go_ret
 exact⟨by rw[<-HRES.out];rfl,X3.trans hE9⟩):P:=h
theorem Y24z2 {P:Prop} (h:P:=by
 replace k0:=hK3.cell k0 (by simpa using hne);replace k1:=hK3.cell k1 (by simpa using hne);replace k2:=hK3.cell k2 (by simpa using hne);replace k3:=hK3.cell k3 (by simpa using hne);replace k4:=hK3.cell k4 (by simpa using hne);clear g0 g1 g2 u0 u1 u2 c5 f5 c6 f6 j1 j2 hE5 hK5 hE6 hK6 hE3 hK3;have u0:w3.cell? ⟨gx+1,0,none⟩=some (.int .i64 zx):=B3.cell 0;have u1:w3.cell? ⟨gx+1,1,none⟩=some (.int .i64 zy):=B3.cell 1;have u2:w3.cell? ⟨gx+1,2,none⟩=some (.int .i64 0):=B3.cell 2;clear B5 B6 B3 hne;have HRES:Hid (res=false):=lh (by rw[<-hres.out];exact okB_f (fun h=>by have h1:=h.2.2.2.2;simp only at h1;omega));exact Y24z1):P:=h
theorem pv2_any (gA:Option Addr)(n gc:Nat)(hn:n<=gc/\gc<=9223372036854775807)(runes:Bool)(caps:Int)(hcaps:0<=caps/\caps<=9)(zx zy zn:Int)(A:Option Addr)(c:Nat)(zl:List Sp)(w:World)(hL:SL w A c zl)(pb q:Nat)
 (c0:w.cell? ⟨pb,q,none⟩=some (.int .i64 2)) (c1:w.cell? ⟨pb,q+1,none⟩=some (.int .i64 zx)) (c2:w.cell? ⟨pb,q+2,none⟩=some (.int .i64 zy)) (c3:w.cell? ⟨pb,q+3,none⟩=some (.int .i64 zn)) (c4:w.cell? ⟨pb,q+4,none⟩=some (.slice A zl.length c)) :
 Calls Tryz.prog 165 #[.agg #[.slice gA n gc,.int .i64 caps,.bool runes],.pointer (some ⟨pb,q,none⟩)] w (RetV (.bool (okB runes caps n ⟨2,zx,zy,zn,zl⟩)) w):=by
 have hlen:=hL.len;have BG0:=Blk.new w 35 #[.slice gA n gc,.int .i64 caps,.bool runes];have EG0:=Ext.alloc w (.cells #[.slice gA n gc,.int .i64 caps,.bool runes] 35);have BU:=Blk.new (w.alloc (.cells #[.slice gA n gc,.int .i64 caps,.bool runes] 35)) 350 #[.int .i64 0,.int .i64 0,.int .i64 0];have EU:=Ext.alloc (w.alloc (.cells #[.slice gA n gc,.int .i64 caps,.bool runes] 35)) (.cells #[.int .i64 0,.int .i64 0,.int .i64 0] 350);have BG:=BG0.ext EU;have X1:=EG0.trans EU;rw[World.size_alloc] at BU;obtain⟨res,hres⟩:∃res,Hid (okB runes caps n ⟨2,zx,zy,zn,zl⟩=res):=⟨_,lh rfl⟩;rw[hres.out];have eg:=egTarget;have HQ:=fun(a b c d e f:Int) (W:World)=>eqNum a b c d e f W;go_enter Tryz.func165,Tryz.ntmps165
 go_upto_region 4 with fail
 obtain⟨gx,hgx⟩:∃gx,gx=w.heap.size:=⟨_,rfl⟩
 rw[<-hgx] at BG BU ⊢;clear BG0;generalize (w.alloc (.cells #[.slice gA n gc,.int .i64 caps,.bool runes] 35)).alloc (.cells #[.int .i64 0,.int .i64 0,.int .i64 0] 350)=w1 at *;have hpg:pb<gx:=by have:=World.block_lt_of_cell? _ _ c0;simp only at this;omega
 have hgw:w.heap.size<=gx:=om;clear EG0 EU hgx;have k0:=X1.cell c0;have k1:=X1.cell c1;have k2:=X1.cell c2;have k3:=X1.cell c3;have k4:=X1.cell c4;have g0:w1.cell? ⟨gx,0,none⟩=some (.slice gA n gc):=BG.cell 0;have g1:w1.cell? ⟨gx,1,none⟩=some (.int .i64 caps):=BG.cell 1;have g2:w1.cell? ⟨gx,2,none⟩=some (.bool runes):=BG.cell 2;have u0:w1.cell? ⟨gx+1,0,none⟩=some (.int .i64 0):=BU.cell 0;have u1:w1.cell? ⟨gx+1,1,none⟩=some (.int .i64 0):=BU.cell 1;have u2:w1.cell? ⟨gx+1,2,none⟩=some (.int .i64 0):=BU.cell 2;clear c0 c1 c2 c3 c4;by_cases ht:0<=zx/\zx<n
 ·skip
  have HT:=lh (show Calls Tryz.prog 222 #[.int .i64 zx,.pointer (some ⟨gx,0,none⟩)] w1 (RetV (.bool true) w1) by
   have h9:=target_any w1 gx gA n gc hn g0 zx;rw[decide_eq_true ht] at h9;exact h9)
  go_upto_region 13 with fail
  go_upto_region 14 with fail
  refine HT.out.mono ?_;rintro e w2 ⟨rfl,x2⟩;replace k0:=x2.cell k0;replace k1:=x2.cell k1;replace k2:=x2.cell k2;replace k3:=x2.cell k3;replace k4:=x2.cell k4;replace g0:=x2.cell g0;replace g1:=x2.cell g1;replace g2:=x2.cell g2;replace u0:=x2.cell u0;replace u1:=x2.cell u1;replace u2:=x2.cell u2;by_cases hu:0<=zy/\zy<n
  ·skip
   have HT2:=lh (show Calls Tryz.prog 222 #[.int .i64 zy,.pointer (some ⟨gx,0,none⟩)] w2 (RetV (.bool true) w2) by
    have h9:=target_any w2 gx gA n gc hn g0 zy;rw[decide_eq_true hu] at h9;exact h9)
   go_upto_region 14 with fail
   refine HT2.out.mono ?_;rintro e w4 ⟨rfl,x4⟩;replace k0:=x4.cell k0;replace k1:=x4.cell k1;replace k2:=x4.cell k2;replace k3:=x4.cell k3;replace k4:=x4.cell k4;replace g0:=x4.cell g0;replace g1:=x4.cell g1;replace g2:=x4.cell g2;replace u0:=x4.cell u0;replace u1:=x4.cell u1;replace u2:=x4.cell u2
   go_upto_region 14 with fail
   have hne:pb≠gx+1:=om;have j1:=fun(w':World) (h:Kp [gx+1] w4 w')=>h.cell k1 (by simpa using hne);have j2:=fun(w':World) (h:Kp [gx+1] w4 w')=>h.cell k2 (by simpa using hne);refine Xr.start [gx+1] kr ?_;refine Xtk 0 ?_
   iterate 8(refine Xtn ?_)
   refine Xsp 9 fun w5 hE5 hK5 K hKK=>?_;have B5:=BU.ext ((x2.trans x4).trans hE5);have c5:=B5.cell 0;have f5:=B5.frz 0;go_simp;refine hKK _ _ (WI_setL (WI_refl _ _ _) List.mem_cons_self _ _) (hK5.setL List.mem_cons_self _ _) ?_;clear hKK;refine ptm ?_;refine Xtk 10 ?_;refine Xsp 11 fun w6 hE6 hK6 K hKK=>?_;have B6:=(B5.set 0 (.int .i64 zx)).ext hE6;have c6:=B6.cell 1;have f6:=B6.frz 1;go_simp;refine hKK _ _ (WI_setL (WI_refl _ _ _) List.mem_cons_self _ _) (hK6.setL List.mem_cons_self _ _) ?_;clear hKK;refine ptm ?_;refine Xdn fun w3 hE3 hK3=>?_;have B3:=(B6.set 1 (.int .i64 zy)).ext hE3;have X3:Ext w w3:=Kp.to_ext hK3 ((X1.trans x2).trans x4) (fun g hg=>by have e:g=gx+1:=(by simpa using hg);omega);replace k0:=hK3.cell k0 (by simpa using hne);replace k1:=hK3.cell k1 (by simpa using hne);replace k2:=hK3.cell k2 (by simpa using hne);replace k3:=hK3.cell k3 (by simpa using hne);replace k4:=hK3.cell k4 (by simpa using hne);clear g0 g1 g2 u0 u1 u2 c5 f5 c6 f6 j1 j2 hE5 hK5 hE6 hK6 hE3 hK3;have u0:w3.cell? ⟨gx+1,0,none⟩=some (.int .i64 zx):=B3.cell 0;have u1:w3.cell? ⟨gx+1,1,none⟩=some (.int .i64 zy):=B3.cell 1;have u2:w3.cell? ⟨gx+1,2,none⟩=some (.int .i64 0):=B3.cell 2;clear B5 B6 B3 hne;by_cases hs:zl=[]
   ·subst hs;by_cases hq:(zx=zx/\zy=zy/\zn=0)
    ·have HRES:Hid (res=true):=lh (by rw[<-hres.out];exact okB_t ⟨.inr rfl,.inl rfl,.inl rfl,.inr (.inr hq.2.2),.inr (.inr (.inl ⟨rfl,ht,hu⟩))⟩);have hqb:=eqNumT zx zy zn zx zy 0 hq;have HQ2:=fun(W:World)=>HQ zx zy zn zx zy 0 W;rw[hqb] at HQ2;clear HQ hq hqb;exact Y24z1
    ·have HRES:Hid (res=false):=lh (by rw[<-hres.out];exact okB_f (fun h=>hq (by have h1:=h.2.1;have h2:=h.2.2.1;have h3:=h.2.2.2.1;simp only at h1 h2 h3;omega)));have hqb:=eqNumF zx zy zn zx zy 0 hq;have HQ2:=fun(W:World)=>HQ zx zy zn zx zy 0 W;rw[hqb] at HQ2;clear HQ hq hqb;exact Y24z1
   ·have HRES:Hid (res=false):=lh (by rw[<-hres.out];exact okB_f (fun h=>h.1.elim (fun h1=>by first|exact absurd h1 de|(simp only at h1;omega)) hs));have hl0:((zl.length:Int) == 0)=false:=by rw[beq_eq_false_iff_ne];have:=List.length_pos_iff.2 hs;omega
    exact Y24z1
  ·skip
   have HT2:=lh (show Calls Tryz.prog 222 #[.int .i64 zy,.pointer (some ⟨gx,0,none⟩)] w2 (RetV (.bool false) w2) by
    have h9:=target_any w2 gx gA n gc hn g0 zy;rw[decide_eq_false hu] at h9;exact h9)
   go_upto_region 14 with fail
   refine HT2.out.mono ?_;rintro e w4 ⟨rfl,x4⟩;replace k0:=x4.cell k0;replace k1:=x4.cell k1;replace k2:=x4.cell k2;replace k3:=x4.cell k3;replace k4:=x4.cell k4;replace g0:=x4.cell g0;replace g1:=x4.cell g1;replace g2:=x4.cell g2;replace u0:=x4.cell u0;replace u1:=x4.cell u1;replace u2:=x4.cell u2
   go_upto_region 14 with fail
   have hne:pb≠gx+1:=om;have j1:=fun(w':World) (h:Kp [gx+1] w4 w')=>h.cell k1 (by simpa using hne);have j2:=fun(w':World) (h:Kp [gx+1] w4 w')=>h.cell k2 (by simpa using hne);refine Xr.start [gx+1] kr ?_;refine Xtk 0 ?_
   iterate 8(refine Xtn ?_)
   refine Xsp 9 fun w5 hE5 hK5 K hKK=>?_;have B5:=BU.ext ((x2.trans x4).trans hE5);have c5:=B5.cell 0;have f5:=B5.frz 0;go_simp;refine hKK _ _ (WI_setL (WI_refl _ _ _) List.mem_cons_self _ _) (hK5.setL List.mem_cons_self _ _) ?_;clear hKK;refine ptm ?_;refine Xtk 10 ?_;refine Xsp 11 fun w6 hE6 hK6 K hKK=>?_;have B6:=(B5.set 0 (.int .i64 zx)).ext hE6;have c6:=B6.cell 1;have f6:=B6.frz 1;go_simp;refine hKK _ _ (WI_setL (WI_refl _ _ _) List.mem_cons_self _ _) (hK6.setL List.mem_cons_self _ _) ?_;clear hKK;refine ptm ?_;refine Xdn fun w3 hE3 hK3=>?_;have B3:=(B6.set 1 (.int .i64 zy)).ext hE3;have X3:Ext w w3:=Kp.to_ext hK3 ((X1.trans x2).trans x4) (fun g hg=>by have e:g=gx+1:=(by simpa using hg);omega);exact Y24z2
 ·skip
  have HT:=lh (show Calls Tryz.prog 222 #[.int .i64 zx,.pointer (some ⟨gx,0,none⟩)] w1 (RetV (.bool false) w1) by
   have h9:=target_any w1 gx gA n gc hn g0 zx;rw[decide_eq_false ht] at h9;exact h9)
  go_upto_region 13 with fail
  go_upto_region 14 with fail
  refine HT.out.mono ?_;rintro e w2 ⟨rfl,x2⟩;replace k0:=x2.cell k0;replace k1:=x2.cell k1;replace k2:=x2.cell k2;replace k3:=x2.cell k3;replace k4:=x2.cell k4;replace g0:=x2.cell g0;replace g1:=x2.cell g1;replace g2:=x2.cell g2;replace u0:=x2.cell u0;replace u1:=x2.cell u1;replace u2:=x2.cell u2
  go_upto_region 14 with fail
  have hne:pb≠gx+1:=om;have j1:=fun(w':World) (h:Kp [gx+1] w2 w')=>h.cell k1 (by simpa using hne);have j2:=fun(w':World) (h:Kp [gx+1] w2 w')=>h.cell k2 (by simpa using hne);refine Xr.start [gx+1] kr ?_;refine Xtk 0 ?_
  iterate 8(refine Xtn ?_)
  refine Xsp 9 fun w5 hE5 hK5 K hKK=>?_;have B5:=BU.ext (x2.trans hE5);have c5:=B5.cell 0;have f5:=B5.frz 0;go_simp;refine hKK _ _ (WI_setL (WI_refl _ _ _) List.mem_cons_self _ _) (hK5.setL List.mem_cons_self _ _) ?_;clear hKK;refine ptm ?_;refine Xtk 10 ?_;refine Xsp 11 fun w6 hE6 hK6 K hKK=>?_;have B6:=(B5.set 0 (.int .i64 zx)).ext hE6;have c6:=B6.cell 1;have f6:=B6.frz 1;go_simp;refine hKK _ _ (WI_setL (WI_refl _ _ _) List.mem_cons_self _ _) (hK6.setL List.mem_cons_self _ _) ?_;clear hKK;refine ptm ?_;refine Xdn fun w3 hE3 hK3=>?_;have B3:=(B6.set 1 (.int .i64 zy)).ext hE3;have X3:Ext w w3:=Kp.to_ext hK3 (X1.trans x2) (fun g hg=>by have e:g=gx+1:=(by simpa using hg);omega);exact Y24z2
end
end Go.Proofs.YtmgpefenkilffaaGreat
