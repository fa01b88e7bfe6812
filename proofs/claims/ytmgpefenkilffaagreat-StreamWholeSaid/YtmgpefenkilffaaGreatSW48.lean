/- Texts of this proof: Y26. -/
import Derived.Test.YtmgpefenkilffaaGreatSW47
set_option linter.all false
set_option maxRecDepth 100000
set_option maxHeartbeats 16000000
namespace Go.Proofs.YtmgpefenkilffaaGreat
section
open Go.RowKit
attribute [local go_sem ↓] Go.wp_at_zero Go.wp_at_succ
theorem okL_goodc1 {l:List Sp}(h:OkL l):∀s∈l,goodS s:=(okL_canon h).2
theorem Y26z1 {P:Prop} (h:P:=by
 have j0:=kc0 k0;have j1:=kc0 k1;have j2:=kc0 k2;have j3:=kc0 k3;have j4:=kc0 k4;have ju0:=kc0 u0;have ju1:=kc0 u1;have ju2:=kc0 u2
 go_upto_region 24 with fail
 refine Xr.start [] kr ?_;refine Xtk 0 ?_;refine Xtn ?_
 iterate 13(first|refine Xtn ?_|refine Xsn ?_)
 iterate 2(refine Xtn ?_)
 iterate 15(first|refine Xtn ?_|refine Xsn ?_)
 iterate 2(refine Xtn ?_)
 refine Xdn fun w9 hE9 hK9=>?_;clear j0 j1 j2 j3 j4 ju0 ju1 ju2
 go_wp2_with fail
 go_ret
 exact⟨by rw[<-HRES.out];rfl,X2.trans hE9⟩):P:=h
theorem Y26z2 {P:Prop} (h:P:=by
 have HRES:Hid (res=false):=lh (by rw[<-hres.out];exact okB_f (fun h=>hq ⟨by have h3:=h.2.2.1;simp only at h3;omega,by have h3:=h.2.1;simp only at h3;omega,by have h3:=h.2.2.2.1;simp only at h3;omega⟩));have hqb:=eqNumF zx zy zn 0 0 0 hq;have HQ2:=fun(W:World)=>HQ zx zy zn 0 0 0 W;rw[hqb] at HQ2;clear HQ hq hqb;exact Y26z1):P:=h
theorem Y26z3 {P:Prop} (h:P:=by
 have hqb:=eqNumT zx zy zn 0 0 0 hq;have HQ2:=fun(W:World)=>HQ zx zy zn 0 0 0 W;rw[hqb] at HQ2;clear HQ hq hqb;exact Y26z1):P:=h
theorem pv1_any (gA:Option Addr)(n gc:Nat)(hn:n<=gc/\gc<=9223372036854775807)(runes:Bool)(caps:Int)(hcaps:0<=caps/\caps<=9)(zx zy zn:Int)(A:Option Addr)(c:Nat)(zl:List Sp)(w:World)(hL:SL w A c zl)(pb q:Nat)
 (c0:w.cell? ⟨pb,q,none⟩=some (.int .i64 1)) (c1:w.cell? ⟨pb,q+1,none⟩=some (.int .i64 zx)) (c2:w.cell? ⟨pb,q+2,none⟩=some (.int .i64 zy)) (c3:w.cell? ⟨pb,q+3,none⟩=some (.int .i64 zn)) (c4:w.cell? ⟨pb,q+4,none⟩=some (.slice A zl.length c)) :
 Calls Tryz.prog 165 #[.agg #[.slice gA n gc,.int .i64 caps,.bool runes],.pointer (some ⟨pb,q,none⟩)] w (RetV (.bool (okB runes caps n ⟨1,zx,zy,zn,zl⟩)) w):=by
 have hlen:=hL.len;have BG0:=Blk.new w 35 #[.slice gA n gc,.int .i64 caps,.bool runes];have EG0:=Ext.alloc w (.cells #[.slice gA n gc,.int .i64 caps,.bool runes] 35);have BU:=Blk.new (w.alloc (.cells #[.slice gA n gc,.int .i64 caps,.bool runes] 35)) 350 #[.int .i64 0,.int .i64 0,.int .i64 0];have EU:=Ext.alloc (w.alloc (.cells #[.slice gA n gc,.int .i64 caps,.bool runes] 35)) (.cells #[.int .i64 0,.int .i64 0,.int .i64 0] 350);have BG:=BG0.ext EU;have X1:=EG0.trans EU;rw[World.size_alloc] at BU;obtain⟨res,hres⟩:∃res,Hid (okB runes caps n ⟨1,zx,zy,zn,zl⟩=res):=⟨_,lh rfl⟩;rw[hres.out];have eg:=egTarget;have HQ:=fun(a b c d e f:Int) (W:World)=>eqNum a b c d e f W;go_enter Tryz.func165,Tryz.ntmps165
 go_upto_region 4 with fail
 obtain⟨gx,hgx⟩:∃gx,gx=w.heap.size:=⟨_,rfl⟩
 rw[<-hgx] at BG BU ⊢;clear BG0;generalize (w.alloc (.cells #[.slice gA n gc,.int .i64 caps,.bool runes] 35)).alloc (.cells #[.int .i64 0,.int .i64 0,.int .i64 0] 350)=w1 at *;have hpg:pb<gx:=by have:=World.block_lt_of_cell? _ _ c0;simp only at this;omega
 have hgw:w.heap.size<=gx:=om;clear EG0 EU hgx;have k0:=X1.cell c0;have k1:=X1.cell c1;have k2:=X1.cell c2;have k3:=X1.cell c3;have k4:=X1.cell c4;have g0:w1.cell? ⟨gx,0,none⟩=some (.slice gA n gc):=BG.cell 0;have g1:w1.cell? ⟨gx,1,none⟩=some (.int .i64 caps):=BG.cell 1;have g2:w1.cell? ⟨gx,2,none⟩=some (.bool runes):=BG.cell 2;have u0:w1.cell? ⟨gx+1,0,none⟩=some (.int .i64 0):=BU.cell 0;have u1:w1.cell? ⟨gx+1,1,none⟩=some (.int .i64 0):=BU.cell 1;have u2:w1.cell? ⟨gx+1,2,none⟩=some (.int .i64 0):=BU.cell 2;clear c0 c1 c2 c3 c4;by_cases hv:validE zl=0
 ·by_cases hr:runes=true
  ·skip
   have HV:=lh (sValid_any A c zl w1 (hL.ext X1));obtain⟨vE,hvE⟩:∃vE,Hid (validE zl=vE):=⟨_,lh rfl⟩;rw[hvE.out] at HV;have hv0:vE=0:=by rw[<-hvE.out];exact hv
   subst hv0;subst hr
   go_upto_region 8 with fail
   go_upto_region 9 with fail
   refine HV.out.mono ?_;rintro e w2 ⟨rfl,x2⟩;have X2:=X1.trans x2;replace k0:=x2.cell k0;replace k1:=x2.cell k1;replace k2:=x2.cell k2;replace k3:=x2.cell k3;replace k4:=x2.cell k4;replace g0:=x2.cell g0;replace g1:=x2.cell g1;replace g2:=x2.cell g2;replace u0:=x2.cell u0;replace u1:=x2.cell u1;replace u2:=x2.cell u2;by_cases hq:(zx=0/\zy=0/\zn=0)
   ·have HRES:Hid (res=true):=lh (by rw[<-hres.out];exact okB_t (by obtain⟨rfl,rfl,rfl⟩:=hq;exact ok1.2 ⟨hv,fun s hs=>by have h9:=okL_goodc1 (validE_zero hv).1 s (List.mem_of_getLast? hs);unfold goodS at h9;show s.2<=topV true;unfold topV;simp only[if_true];omega⟩));exact Y26z3
   ·exact Y26z2
  ·by_cases hs:zl=[]
   ·skip
    have HV:=lh (sValid_any A c zl w1 (hL.ext X1));obtain⟨vE,hvE⟩:∃vE,Hid (validE zl=vE):=⟨_,lh rfl⟩;rw[hvE.out] at HV;have hv0:vE=0:=by rw[<-hvE.out];exact hv
    subst hv0;have hr2:runes=false:=by simpa using hr
    subst hr2;subst hs
    go_upto_region 8 with fail
    go_upto_region 9 with fail
    refine HV.out.mono ?_;rintro e w2 ⟨rfl,x2⟩;have X2:=X1.trans x2;replace k0:=x2.cell k0;replace k1:=x2.cell k1;replace k2:=x2.cell k2;replace k3:=x2.cell k3;replace k4:=x2.cell k4;replace g0:=x2.cell g0;replace g1:=x2.cell g1;replace g2:=x2.cell g2;replace u0:=x2.cell u0;replace u1:=x2.cell u1;replace u2:=x2.cell u2;by_cases hq:(zx=0/\zy=0/\zn=0)
    ·have HRES:Hid (res=true):=lh (by rw[<-hres.out];exact okB_t (by obtain⟨rfl,rfl,rfl⟩:=hq;exact ok1.2 ⟨hv,fun s hs=>by simp at hs⟩));exact Y26z3
    ·exact Y26z2
   ·skip
    have HV:=lh (sValid_any A c zl w1 (hL.ext X1));obtain⟨vE,hvE⟩:∃vE,Hid (validE zl=vE):=⟨_,lh rfl⟩;rw[hvE.out] at HV;have hv0:vE=0:=by rw[<-hvE.out];exact hv
    subst hv0;have hr2:runes=false:=by simpa using hr
    subst hr2;obtain⟨m,hm⟩:∃m,zl.length=m+1:=⟨zl.length-1,by have:=List.length_pos_iff.2 hs;omega⟩;have hml:m<zl.length:=om;obtain⟨sb,so,rfl,s1,s2⟩:=hL.get hml;have hLS:zl.getLast? = some zl[m]:=by rw[List.getLast?_eq_getElem?,hm,Nat.add_sub_cancel];exact List.getElem?_eq_getElem hml
    have hw9:IntKind.i64.wrap (((m+1:Nat):Int)-1)=(m:Int):=wj;obtain⟨hi,hhi⟩:∃hi,Hid (zl[m].2=hi):=⟨_,lh rfl⟩;rw[hhi.out] at s2;have HLS:Hid (∃s,zl.getLast? = some s/\s.2=hi):=lh ⟨_,hLS,hhi.out⟩;rw[hm] at k4 HV hlen;clear hhi hLS hm s1 hs
    go_upto_region 8 with fail
    go_upto_region 9 with fail
    refine HV.out.mono ?_;rintro e w2 ⟨rfl,x2⟩;have X2:=X1.trans x2;replace k0:=x2.cell k0;replace k1:=x2.cell k1;replace k2:=x2.cell k2;replace k3:=x2.cell k3;replace k4:=x2.cell k4;replace g0:=x2.cell g0;replace g1:=x2.cell g1;replace g2:=x2.cell g2;replace u0:=x2.cell u0;replace u1:=x2.cell u1;replace u2:=x2.cell u2;have s2a:=(X1.trans x2).cell s2;by_cases h255:hi<=255
    ·skip
     by_cases hq:(zx=0/\zy=0/\zn=0)
     ·have HRES:Hid (res=true):=lh (by rw[<-hres.out];exact okB_t (by obtain⟨rfl,rfl,rfl⟩:=hq;exact ok1.2 ⟨hv,fun s hs2=>by obtain⟨s0,e0,e1⟩:=HLS.out;rw[e0] at hs2;injection hs2 with hs2;rw[<-hs2,e1];show hi<=topV false;unfold topV;simp only[Bool.false_eq_true,if_false];omega⟩));exact Y26z3
     ·exact Y26z2
    ·skip
     have HRES:Hid (res=false):=lh (by rw[<-hres.out];exact okB_f (fun h=>by have h1:=h.2.2.2.2;simp only at h1;rcases h1 with h1|⟨_,_,h1⟩|h1|h1|h1|h1<;>first|(obtain⟨s0,e0,e1⟩:=HLS.out;have h2:=h1 _ e0;rw[e1] at h2;unfold topV at h2;simp only[Bool.false_eq_true,if_false] at h2;omega)|omega));have hdd:=decide_eq_false h255;clear h255;exact Y26z1
 ·skip
  have HV:=lh (sValid_any A c zl w1 (hL.ext X1));obtain⟨vE,hvE⟩:∃vE,Hid (validE zl=vE):=⟨_,lh rfl⟩;rw[hvE.out] at HV;have hv0:(vE == 0)=false:=by rw[beq_eq_false_iff_ne,<-hvE.out];exact hv
  go_upto_region 8 with fail
  go_upto_region 9 with fail
  refine HV.out.mono ?_;rintro e w2 ⟨rfl,x2⟩;have X2:=X1.trans x2;replace k0:=x2.cell k0;replace k1:=x2.cell k1;replace k2:=x2.cell k2;replace k3:=x2.cell k3;replace k4:=x2.cell k4;replace g0:=x2.cell g0;replace g1:=x2.cell g1;replace g2:=x2.cell g2;replace u0:=x2.cell u0;replace u1:=x2.cell u1;replace u2:=x2.cell u2;have HRES:Hid (res=false):=lh (by rw[<-hres.out];exact okB_f (fun h=>by have h1:=h.2.2.2.2;simp only at h1;rcases h1 with h1|⟨_,h1,_⟩|h1|h1|h1|h1<;>first|exact hv h1|omega));exact Y26z1
theorem pvalid_any (gA:Option Addr)(n gc:Nat)(hn:n<=gc/\gc<=9223372036854775807)(runes:Bool)(caps:Int)(hcaps:0<=caps/\caps<=9)(zo zx zy zn:Int)(A:Option Addr)(c:Nat)(zl:List Sp)(w:World)(hL:SL w A c zl)(pb q:Nat)
 (c0:w.cell? ⟨pb,q,none⟩=some (.int .i64 zo)) (c1:w.cell? ⟨pb,q+1,none⟩=some (.int .i64 zx)) (c2:w.cell? ⟨pb,q+2,none⟩=some (.int .i64 zy)) (c3:w.cell? ⟨pb,q+3,none⟩=some (.int .i64 zn)) (c4:w.cell? ⟨pb,q+4,none⟩=some (.slice A zl.length c)) :
 Calls Tryz.prog 165 #[.agg #[.slice gA n gc,.int .i64 caps,.bool runes],.pointer (some ⟨pb,q,none⟩)] w (RetV (.bool (okB runes caps n ⟨zo,zx,zy,zn,zl⟩)) w):=by
 by_cases h0:zo=0
 ·subst h0;exact pv0_any gA n gc hn runes caps hcaps zx zy zn A c zl w hL pb q c0 c1 c2 c3 c4
 by_cases h1:zo=1
 ·subst h1;exact pv1_any gA n gc hn runes caps hcaps zx zy zn A c zl w hL pb q c0 c1 c2 c3 c4
 by_cases h2:zo=2
 ·subst h2;exact pv2_any gA n gc hn runes caps hcaps zx zy zn A c zl w hL pb q c0 c1 c2 c3 c4
 by_cases h3:zo=3
 ·subst h3;exact pv3_any gA n gc hn runes caps hcaps zx zy zn A c zl w hL pb q c0 c1 c2 c3 c4
 by_cases h4:zo=4
 ·subst h4;exact pv4_any gA n gc hn runes caps hcaps zx zy zn A c zl w hL pb q c0 c1 c2 c3 c4
 by_cases h5:zo=5
 ·subst h5;exact pv5_any gA n gc hn runes caps hcaps zx zy zn A c zl w hL pb q c0 c1 c2 c3 c4
 exact pvz_any gA n gc hn runes caps hcaps zo zx zy zn A c zl w hL pb q ⟨h0,h1,h2,h3,h4,h5⟩ c0 c1 c2 c3 c4
end
end Go.Proofs.YtmgpefenkilffaaGreat
