/- Texts of this proof: Y26 Y27 Y38 DA DB K17 K18 MS1. -/
import Derived.Test.YtmocoldobnimfaaGreatMS28
import Derived.Test.YtmocoldobnimfaaGreatMS32
set_option linter.all false
set_option maxRecDepth 100000
set_option maxHeartbeats 16000000
namespace Go.Proofs.YtmocoldobnimfaaGreat
section
open Go.RowKit
attribute [local go_sem ↓] Go.wp_at_zero Go.wp_at_succ
theorem NF {l:List Sp}(h:OkL l):∀s∈l,QH s:=(KH h).2
theorem Fx {P:Prop} (h:P:=by
 have j0:=kc0 k0;have j1:=kc0 k1;have j2:=kc0 k2;have j3:=kc0 k3;have j4:=kc0 k4;have ju0:=kc0 u0;have ju1:=kc0 u1;have ju2:=kc0 u2
 go_upto_region 24 with fail
 refine Xr.start [] kr ?_;refine Xtk 0 ?_;refine Xtn ?_
 iterate 13(first|refine Xtn ?_|refine Xsn ?_)
 iterate 2(refine Xtn ?_)
 iterate 15(first|refine Xtn ?_|refine Xsn ?_)
 iterate 2(refine Xtn ?_)
 refine Xdn fun w9 hE9 hK9=>?_;clear j0 j1 j2 j3 j4 ju0 ju1 ju2
 go_wp2_with fail
 go_ret
 exact⟨by rw[<-HRES.out];rfl,X2.trans hE9⟩):P:=h
theorem NG {P:Prop} (h:P:=by
 have HRES:Hid (res=false):=lh (by rw[<-hres.out];exact ZX (fun h=>hq ⟨by have h3:=h.2.2.1;simp only at h3;omega,by have h3:=h.2.1;simp only at h3;omega,by have h3:=h.2.2.2.1;simp only at h3;omega⟩));have hqb:=vT zx zy zn 0 0 0 hq;have HQ2:=fun(W:World)=>HQ zx zy zn 0 0 0 W;rw[hqb] at HQ2;clear HQ hq hqb;exact Fx):P:=h
theorem NH {P:Prop} (h:P:=by
 have hqb:=jX zx zy zn 0 0 0 hq;have HQ2:=fun(W:World)=>HQ zx zy zn 0 0 0 W;rw[hqb] at HQ2;clear HQ hq hqb;exact Fx):P:=h
theorem dB (gA:Option Addr)(n gc:Nat)(hn:n<=gc/\gc<=9223372036854775807)(runes:Bool)(caps:Int)(hcaps:0<=caps/\caps<=9)(zx zy zn:Int)(A:Option Addr)(c:Nat)(zl:List Sp)(w:World)(hL:SL w A c zl)(pb q:Nat)
 (c0:w.cell? ⟨pb,q,none⟩=some (.int .i64 1)) (c1:w.cell? ⟨pb,q+1,none⟩=some (.int .i64 zx)) (c2:w.cell? ⟨pb,q+2,none⟩=some (.int .i64 zy)) (c3:w.cell? ⟨pb,q+3,none⟩=some (.int .i64 zn)) (c4:w.cell? ⟨pb,q+4,none⟩=some (.slice A zl.length c)) :
 Calls Tryz.prog 113 #[.agg #[.slice gA n gc,.int .i64 caps,.bool runes],.pointer (some ⟨pb,q,none⟩)] w (QD (.bool (okB runes caps n ⟨1,zx,zy,zn,zl⟩)) w):=by
 have hlen:=hL.len;have BG0:=Blk.new w 48 #[.slice gA n gc,.int .i64 caps,.bool runes];have EG0:=Ext.alloc w (.cells #[.slice gA n gc,.int .i64 caps,.bool runes] 48);have BU:=Blk.new (w.alloc (.cells #[.slice gA n gc,.int .i64 caps,.bool runes] 48)) 264 #[.int .i64 0,.int .i64 0,.int .i64 0];have EU:=Ext.alloc (w.alloc (.cells #[.slice gA n gc,.int .i64 caps,.bool runes] 48)) (.cells #[.int .i64 0,.int .i64 0,.int .i64 0] 264);have BG:=BG0.ext EU;have X1:=EG0.trans EU;rw[World.size_alloc] at BU;obtain⟨res,hres⟩:∃res,Hid (okB runes caps n ⟨1,zx,zy,zn,zl⟩=res):=⟨_,lh rfl⟩;rw[hres.out];have eg:=XK;have HQ:=fun(a b c d e f:Int) (W:World)=>kw a b c d e f W;go_enter Tryz.func113,Tryz.ntmps113
 go_upto_region 4 with fail
 obtain⟨gx,hgx⟩:∃gx,gx=w.heap.size:=⟨_,rfl⟩
 rw[<-hgx] at BG BU ⊢;clear BG0;generalize (w.alloc (.cells #[.slice gA n gc,.int .i64 caps,.bool runes] 48)).alloc (.cells #[.int .i64 0,.int .i64 0,.int .i64 0] 264)=w1 at *;have hpg:pb<gx:=by have:=World.block_lt_of_cell? _ _ c0;simp only at this;omega
 have hgw:w.heap.size<=gx:=om;clear EG0 EU hgx;have k0:=X1.cell c0;have k1:=X1.cell c1;have k2:=X1.cell c2;have k3:=X1.cell c3;have k4:=X1.cell c4;have g0:w1.cell? ⟨gx,0,none⟩=some (.slice gA n gc):=BG.cell 0;have g1:w1.cell? ⟨gx,1,none⟩=some (.int .i64 caps):=BG.cell 1;have g2:w1.cell? ⟨gx,2,none⟩=some (.bool runes):=BG.cell 2;have u0:w1.cell? ⟨gx+1,0,none⟩=some (.int .i64 0):=BU.cell 0;have u1:w1.cell? ⟨gx+1,1,none⟩=some (.int .i64 0):=BU.cell 1;have u2:w1.cell? ⟨gx+1,2,none⟩=some (.int .i64 0):=BU.cell 2;clear c0 c1 c2 c3 c4;by_cases hv:QG zl=0
 ·by_cases hr:runes=true
  ·skip
   have HV:=lh (Xy A c zl w1 (hL.ext X1));obtain⟨vE,hvE⟩:∃vE,Hid (QG zl=vE):=⟨_,lh rfl⟩;rw[hvE.out] at HV;have hv0:vE=0:=by rw[<-hvE.out];exact hv
   subst hv0;subst hr
   go_upto_region 8 with fail
   go_upto_region 9 with fail
   refine HV.out.mono ?_;rintro e w2 ⟨rfl,x2⟩;have X2:=X1.trans x2;replace k0:=x2.cell k0;replace k1:=x2.cell k1;replace k2:=x2.cell k2;replace k3:=x2.cell k3;replace k4:=x2.cell k4;replace g0:=x2.cell g0;replace g1:=x2.cell g1;replace g2:=x2.cell g2;replace u0:=x2.cell u0;replace u1:=x2.cell u1;replace u2:=x2.cell u2;by_cases hq:(zx=0/\zy=0/\zn=0)
   ·have HRES:Hid (res=true):=lh (by rw[<-hres.out];exact JK (by obtain⟨rfl,rfl,rfl⟩:=hq;exact ok1.2 ⟨hv,fun s hs=>by have h9:=NF (Yw hv).1 s (List.mem_of_getLast? hs);unfold QH at h9;show s.2<=Wj true;unfold Wj;simp only[if_true];omega⟩));exact NH
   ·exact NG
  ·by_cases hs:zl=[]
   ·skip
    have HV:=lh (Xy A c zl w1 (hL.ext X1));obtain⟨vE,hvE⟩:∃vE,Hid (QG zl=vE):=⟨_,lh rfl⟩;rw[hvE.out] at HV;have hv0:vE=0:=by rw[<-hvE.out];exact hv
    subst hv0;have hr2:runes=false:=by simpa using hr
    subst hr2;subst hs
    go_upto_region 8 with fail
    go_upto_region 9 with fail
    refine HV.out.mono ?_;rintro e w2 ⟨rfl,x2⟩;have X2:=X1.trans x2;replace k0:=x2.cell k0;replace k1:=x2.cell k1;replace k2:=x2.cell k2;replace k3:=x2.cell k3;replace k4:=x2.cell k4;replace g0:=x2.cell g0;replace g1:=x2.cell g1;replace g2:=x2.cell g2;replace u0:=x2.cell u0;replace u1:=x2.cell u1;replace u2:=x2.cell u2;by_cases hq:(zx=0/\zy=0/\zn=0)
    ·have HRES:Hid (res=true):=lh (by rw[<-hres.out];exact JK (by obtain⟨rfl,rfl,rfl⟩:=hq;exact ok1.2 ⟨hv,fun s hs=>by simp at hs⟩));exact NH
    ·exact NG
   ·skip
    have HV:=lh (Xy A c zl w1 (hL.ext X1));obtain⟨vE,hvE⟩:∃vE,Hid (QG zl=vE):=⟨_,lh rfl⟩;rw[hvE.out] at HV;have hv0:vE=0:=by rw[<-hvE.out];exact hv
    subst hv0;have hr2:runes=false:=by simpa using hr
    subst hr2;obtain⟨m,hm⟩:∃m,zl.length=m+1:=⟨zl.length-1,by have:=List.length_pos_iff.2 hs;omega⟩;have hml:m<zl.length:=om;obtain⟨sb,so,rfl,s1,s2⟩:=hL.get hml;have hLS:zl.getLast? = some zl[m]:=by rw[List.getLast?_eq_getElem?,hm,Nat.add_sub_cancel];exact List.getElem?_eq_getElem hml
    have hw9:IntKind.i64.wrap (((m+1:Nat):Int)-1)=(m:Int):=wj;obtain⟨hi,hhi⟩:∃hi,Hid (zl[m].2=hi):=⟨_,lh rfl⟩;rw[hhi.out] at s2;have HLS:Hid (∃s,zl.getLast? = some s/\s.2=hi):=lh ⟨_,hLS,hhi.out⟩;rw[hm] at k4 HV hlen;clear hhi hLS hm s1 hs
    go_upto_region 8 with fail
    go_upto_region 9 with fail
    refine HV.out.mono ?_;rintro e w2 ⟨rfl,x2⟩;have X2:=X1.trans x2;replace k0:=x2.cell k0;replace k1:=x2.cell k1;replace k2:=x2.cell k2;replace k3:=x2.cell k3;replace k4:=x2.cell k4;replace g0:=x2.cell g0;replace g1:=x2.cell g1;replace g2:=x2.cell g2;replace u0:=x2.cell u0;replace u1:=x2.cell u1;replace u2:=x2.cell u2;have s2a:=(X1.trans x2).cell s2;by_cases h255:hi<=255
    ·skip
     by_cases hq:(zx=0/\zy=0/\zn=0)
     ·have HRES:Hid (res=true):=lh (by rw[<-hres.out];exact JK (by obtain⟨rfl,rfl,rfl⟩:=hq;exact ok1.2 ⟨hv,fun s hs2=>by obtain⟨s0,e0,e1⟩:=HLS.out;rw[e0] at hs2;injection hs2 with hs2;rw[<-hs2,e1];show hi<=Wj false;unfold Wj;simp only[Bool.false_eq_true,if_false];omega⟩));exact NH
     ·exact NG
    ·skip
     have HRES:Hid (res=false):=lh (by rw[<-hres.out];exact ZX (fun h=>by have h1:=h.2.2.2.2;simp only at h1;rcases h1 with h1|⟨_,_,h1⟩|h1|h1|h1|h1<;>first|(obtain⟨s0,e0,e1⟩:=HLS.out;have h2:=h1 _ e0;rw[e1] at h2;unfold Wj at h2;simp only[Bool.false_eq_true,if_false] at h2;omega)|omega));have hdd:=decide_eq_false h255;clear h255;exact Fx
 ·skip
  have HV:=lh (Xy A c zl w1 (hL.ext X1));obtain⟨vE,hvE⟩:∃vE,Hid (QG zl=vE):=⟨_,lh rfl⟩;rw[hvE.out] at HV;have hv0:(vE == 0)=false:=by rw[beq_eq_false_iff_ne,<-hvE.out];exact hv
  go_upto_region 8 with fail
  go_upto_region 9 with fail
  refine HV.out.mono ?_;rintro e w2 ⟨rfl,x2⟩;have X2:=X1.trans x2;replace k0:=x2.cell k0;replace k1:=x2.cell k1;replace k2:=x2.cell k2;replace k3:=x2.cell k3;replace k4:=x2.cell k4;replace g0:=x2.cell g0;replace g1:=x2.cell g1;replace g2:=x2.cell g2;replace u0:=x2.cell u0;replace u1:=x2.cell u1;replace u2:=x2.cell u2;have HRES:Hid (res=false):=lh (by rw[<-hres.out];exact ZX (fun h=>by have h1:=h.2.2.2.2;simp only at h1;rcases h1 with h1|⟨_,h1,_⟩|h1|h1|h1|h1<;>first|exact hv h1|omega));exact Fx
theorem NI (gA:Option Addr)(n gc:Nat)(hn:n<=gc/\gc<=9223372036854775807)(runes:Bool)(caps:Int)(hcaps:0<=caps/\caps<=9)(zo zx zy zn:Int)(A:Option Addr)(c:Nat)(zl:List Sp)(w:World)(hL:SL w A c zl)(pb q:Nat)
 (c0:w.cell? ⟨pb,q,none⟩=some (.int .i64 zo)) (c1:w.cell? ⟨pb,q+1,none⟩=some (.int .i64 zx)) (c2:w.cell? ⟨pb,q+2,none⟩=some (.int .i64 zy)) (c3:w.cell? ⟨pb,q+3,none⟩=some (.int .i64 zn)) (c4:w.cell? ⟨pb,q+4,none⟩=some (.slice A zl.length c)) :
 Calls Tryz.prog 113 #[.agg #[.slice gA n gc,.int .i64 caps,.bool runes],.pointer (some ⟨pb,q,none⟩)] w (QD (.bool (okB runes caps n ⟨zo,zx,zy,zn,zl⟩)) w):=by
 by_cases h0:zo=0
 ·subst h0;exact dW gA n gc hn runes caps hcaps zx zy zn A c zl w hL pb q c0 c1 c2 c3 c4
 by_cases h1:zo=1
 ·subst h1;exact dB gA n gc hn runes caps hcaps zx zy zn A c zl w hL pb q c0 c1 c2 c3 c4
 by_cases h2:zo=2
 ·subst h2;exact dw gA n gc hn runes caps hcaps zx zy zn A c zl w hL pb q c0 c1 c2 c3 c4
 by_cases h3:zo=3
 ·subst h3;exact dY gA n gc hn runes caps hcaps zx zy zn A c zl w hL pb q c0 c1 c2 c3 c4
 by_cases h4:zo=4
 ·subst h4;exact dy gA n gc hn runes caps hcaps zx zy zn A c zl w hL pb q c0 c1 c2 c3 c4
 by_cases h5:zo=5
 ·subst h5;exact dx gA n gc hn runes caps hcaps zx zy zn A c zl w hL pb q c0 c1 c2 c3 c4
 exact dq gA n gc hn runes caps hcaps zo zx zy zn A c zl w hL pb q ⟨h0,h1,h2,h3,h4,h5⟩ c0 c1 c2 c3 c4
theorem NL {P:Prop} (h:P:=by
 clear hil;go_enter Tryz.func66,Tryz.ntmps66
 go_wp2_with fail
 go_ret
 exact⟨rfl,eG⟩):P:=h
theorem kN (gA:Option Addr)(gc:Nat)(hs:List Hin)(runes:Bool)(caps:Int)(w:World)(hP:PL w gA gc hs) :
 Calls Tryz.prog 66 #[QN gA hs.length gc caps runes] w (QD (.int .i64 (WG runes caps (QW hs))) w):=by
 have hcap:=hP.len;have bG:=Blk.new w 48 #[.slice gA hs.length gc,.int .i64 caps,.bool runes];have eG:=Ext.alloc w (.cells #[.slice gA hs.length gc,.int .i64 caps,.bool runes] 48);have hil:=Qw hs;unfold QN;by_cases hbig:8192<hs.length
 ·rw[vq (by rw[hil];exact hbig)];have hbI:(8192:Int)<hs.length:=om;exact NL
 ·have hbI:¬(8192:Int)<hs.length:=om;by_cases hn0:hs.length=0
  ·rw[Xq (by rw[hil];omega) (.inl (by rw[hil];exact hn0))];rw[hn0];clear hil hbig hbI hP hcap bG eG hn0;go_enter Tryz.func66,Tryz.ntmps66
   go_wp2_with fail
   all_goals
    go_ret
    exact⟨rfl,Ext.alloc _ _⟩
  ·have hnb:((hs.length:Int) == 0)=false:=by rw[beq_eq_false_iff_ne];omega
   by_cases hc0:caps<0
   ·rw[Xq (by rw[hil];omega) (.inr (.inl hc0))];exact NL
   ·by_cases hc9:9<caps
    ·rw[Xq (by rw[hil];omega) (.inr (.inr hc9))];exact NL
    ·clear hil;have hpos:0<hs.length:=om;have HBAD:=fun(k:Nat) (hk:k<hs.length) (h:¬WN runes caps hs.length hs[k].ins)=>lh (AV (runes:=runes) (caps:=caps) (hs:=hs) hbig om hk h);have HEND:=fun(h:∀k (hk:k<hs.length),WN runes caps hs.length hs[k].ins)=>lh (AX (runes:=runes) (caps:=caps) (hs:=hs) hbig om h om);obtain⟨E,hE⟩:∃E,E=WG runes caps (QW hs):=⟨_,rfl⟩
     rw[<-hE] at HBAD HEND ⊢;clear hE;have hnb2:=lh hnb;go_enter Tryz.func66,Tryz.ntmps66
     go_upto_region 6 with fail
     clear hnb;have hP0:=hP.ext eG;generalize w.alloc (.cells #[.slice gA hs.length gc,.int .i64 caps,.bool runes] 48)=w0 at *
     go_loopw [25] (fun v wr=>∃k:Nat,v=.int .i64 k/\k<=hs.length/\Hid (∀j (hj:j<hs.length),j<k->WN runes caps hs.length hs[j].ins)/\Ext w0 wr) (fun v _=>hs.length-(intOf v).toNat)
     case atStart=>exact⟨0,rfl,om,lh (fun j _ h=>om),Ext.rfl' _⟩
     case round=>
      obtain⟨k,rfl,hk,hok,x1⟩:=hrel;have bG1:=bG.ext x1;obtain⟨r0,r1,r2,r0f,r1f,r2f,rz⟩:=bG1.c3;by_cases hlt:k<hs.length
      ·have hkI:(k:Int)<hs.length:=om;obtain⟨pb,po,rfl,c0,c1,c2,c3,c4⟩:=(hP0.ext x1).get hlt;have hsl:=(hP0.ext x1).sl _ (List.getElem_mem hlt);have hwf:=(hP0.ext x1).rng _ (List.getElem_mem hlt);have HB:=fun h=>(HBAD k hlt h);have HOK:=fun(h:WN runes caps hs.length hs[k].ins)=>lh (show ∀j (hj:j<hs.length),j<k+1->WN runes caps hs.length hs[j].ins from fun j hj hjk=>by
        rcases Nat.lt_or_ge j k with h1|h1
        ·exact hok.out j hj h1
        ·have:j=k:=om;subst this;exact h)
       generalize hs[k]=hh at *;obtain⟨zop,zx,zy,zn,zA,zc,zl⟩:=hh;obtain⟨_,hw2,hw3,hw4⟩:=hwf
       simp only at c0 c1 c2 c3 c4 hsl hw2 hw3 hw4
       simp only[Hin.ins] at HB HOK;have HF:=fun(w':World) (h:Ext wr w')=>lh (NI (some ⟨pb,po,none⟩) hs.length gc hcap runes caps ⟨om,om⟩ zop zx zy zn zA zc zl w' (hsl.ext h) pb (po+k*5) (h.cell c0) (h.cell c1) (h.cell c2) (h.cell c3) (h.cell c4));have k0:=kc0 r0;have k1:=kc0 r1;have k2:=kc0 r2;have k3:=kc0 c0;have k4:=kc0 c1;have k5:=kc0 c2;have k6:=kc0 c3;have k7:=kc0 c4;by_cases hins:WN runes caps hs.length ⟨zop,zx,zy,zn,zl⟩
       ·have HK:=HOK hins;rw[JK hins] at HF;clear HB HOK hins hw2 hw3 hw4 HBAD HEND
        go_wp2_with fail
        refine Xr.start [] kr ?_;refine Xtk 0 ?_
        iterate 4(refine Xtn ?_)
        refine Xcl 5 fun w3 hE3 hK3 K hKK=>?_;go_simp;refine(HF w3 hE3).out.mono ?_;rintro e w4 ⟨rfl,x4⟩;refine hKK _ _ x4 ?_;clear hKK;refine ptm ?_;refine Xtk 6 ?_;refine Xdn fun w5 hE5 hK5=>?_;have xf:=x1.trans hK5.nil;clear k0 k1 k2 k3 k4 k5 k6 k7
        go_wp2_with fail
        go_roundw
        case rel=>exact⟨k+1,by go_num,om,HK,xf⟩
        case measure=>simp[intOf];omega
       ·have HK:=HB hins;rw[ZX hins] at HF;clear HB HOK hins hw2 hw3 hw4 HBAD HEND
        go_wp2_with fail
        refine Xr.start [] kr ?_;refine Xtk 0 ?_
        iterate 4(refine Xtn ?_)
        refine Xcl 5 fun w3 hE3 hK3 K hKK=>?_;go_simp;refine(HF w3 hE3).out.mono ?_;rintro e w4 ⟨rfl,x4⟩;refine hKK _ _ x4 ?_;clear hKK;refine ptm ?_;refine Xtk 6 ?_;refine Xdn fun w5 hE5 hK5=>?_;have xf:=x1.trans hK5.nil;clear k0 k1 k2 k3 k4 k5 k6 k7
        go_wp2_with fail
        go_ret
        exact⟨by rw[HK.out];rfl,eG.trans xf⟩
      ·have hkI:¬(k:Int)<hs.length:=om;have hall:∀j (hj:j<hs.length),WN runes caps hs.length hs[j].ins:=fun j hj=>hok.out j hj om;have HE:=HEND hall;have hlast:=(hall (hs.length-1) om).2.2.2.2;obtain⟨pb,po,rfl,c0,c1,c2,c3,c4⟩:=(hP0.ext x1).get (k:=hs.length-1) om;generalize hs[hs.length-1]=hh at *;obtain⟨zop,zx,zy,zn,zA,zc,zl⟩:=hh;simp only[Hin.ins] at HE hlast c0;clear HBAD HEND hall hok c1 c2 c3 c4;have hwm:IntKind.i64.wrap ((hs.length:Int)-1)=(hs.length:Int)-1:=wj;have hl1:(hs.length:Int)-1<hs.length:=om;have hl2:(0:Int)<=(hs.length:Int)-1:=om;have hl3:((hs.length:Int)-1).toNat=hs.length-1:=om;have hzo:zop=0\/zop=1\/zop=2\/zop=3\/zop=4\/zop=5:=by
        rcases hlast with h|⟨h,_⟩|⟨h,_⟩|⟨h,_⟩|⟨h,_⟩|⟨h,_⟩<;>omega
       clear hlast;rcases hzo with rfl|rfl|rfl|rfl|rfl|rfl
       all_goals
        simp at HE
        go_wp2_with fail
        go_ret
        exact⟨by rw[HE.out];rfl,eG.trans x1⟩
def WP (hs:List Hin)(i:Nat):List Hs:=((hs.take i).filter (fun h=>decide (h.op=1))).map (fun h=>⟨h.A,h.c,h.l⟩)
theorem D9 {hs:List Hin}{i:Nat}(hi:i<hs.length):WP hs (i+1)=if hs[i].op=1 then WP hs i++[⟨hs[i].A,hs[i].c,hs[i].l⟩] else WP hs i:=by
 unfold WP;rw[List.take_succ_eq_append_getElem hi,List.filter_append,List.map_append];by_cases h:hs[i].op=1<;>simp[h]
theorem ky (hs:List Hin)(i:Nat):(WP hs i).length<=i:=by
 unfold WP;rw[List.length_map];exact Nat.le_trans (List.length_filter_le _ _) (by rw[List.length_take];omega)
theorem IV {hs:List Hin}{i:Nat}{z:Hs}(h:z∈WP hs i):∃y∈hs,z=⟨y.A,y.c,y.l⟩:=by
 unfold WP at h;obtain⟨y,hy,rfl⟩:=List.mem_map.1 h;exact⟨y,List.mem_of_mem_take (List.mem_filter.1 hy).1,rfl⟩
theorem IX (hs:List Hin):(WP hs hs.length).map (·.l)=Ww (QW hs):=by
 unfold WP Ww QW;rw[List.take_length,List.map_map,List.filter_map,List.map_map]
 rfl
theorem ExM.nxl {wr:World}{g xb rn rc nc dc:Nat}{runes:Bool}{rA nA dA:Option Addr}{first:Int}{nxt:List Kr}{dn:List Bool}(h:ExM wr g xb runes rA rn rc first nA nc nxt dA dc dn):NXL wr nA nc nxt:=by
 have hc:=QQ.caps h.own;refine⟨hc.1,by unfold maxLen;omega,h.kl,fun hn=>?_⟩;obtain⟨b,o,hA,hcell⟩:=QQ.cells h.own (by unfold JE;simpa using hn);refine⟨b,o,hA,fun i hi=>?_⟩;have h1:=hcell i (by simpa[JE] using hi)
 simpa[JE] using h1
theorem ExM.keepG {wr w':World}{g xb rn rc nc dc:Nat}{runes:Bool}{rA nA dA:Option Addr}{first:Int}{nxt:List Kr}{dn:List Bool}(h:ExM wr g xb runes rA rn rc first nA nc nxt dA dc dn)(k:KpP (·=g) wr w'):NXL w' nA nc nxt/\IB w' dA dc dn:=by
 have hn:∀b,b=g->∀cur,wr.heap[b]?≠some (.cells cur 21 (0,0)):=fun b hb cur hh=>by
  subst hb;have h2:=h.blk;unfold Blk at h2;rw[h2] at hh;injection hh with hh;injection hh with _ h3;revert h3;decide
 have ho:=QQ.kp h.own k (fun b hb e=>(QK h.own h.blk de) ((show b=g from e)▸hb));have hd:=QQ.kp h.od k (fun b hb e=>(QK h.od h.blk de) ((show b=g from e)▸hb));refine⟨?_,IB.of_own hd⟩;have hc:=QQ.caps ho;refine⟨hc.1,by unfold maxLen;omega,fun z hz=>((h.kl z hz).kpU (h.ty z hz) k hn).1,fun hn=>?_⟩;obtain⟨b,o,hA,hcell⟩:=QQ.cells ho (by unfold JE;simpa using hn);refine⟨b,o,hA,fun i hi=>?_⟩;have h1:=hcell i (by simpa[JE] using hi)
 simpa[JE] using h1
theorem aG {P:Prop} (h:P:=by
 have XV:Ext wT wV:=XN.trans EA;clear EA XN hE6 hK6 hE7 hK7;refine Xtk 7 ?_;refine Xcl 8 fun w8 hE8 hK8 K hKK=>?_;have EU:=Ext.alloc w8 (.cells #[.slice gA hs.length gc,.slice none 0 0,.slice (some ⟨gM,0,none⟩) hs.length hs.length,.int .i64 0,.map (some gm),.slice none 0 0] 141);have BU:=Blk.new w8 141 #[.slice gA hs.length gc,.slice none 0 0,.slice (some ⟨gM,0,none⟩) hs.length hs.length,.int .i64 0,.map (some gm),.slice none 0 0];go_simp;refine hKK _ _ EU ?_;clear hKK;obtain⟨gb,hgb⟩:∃q,q=w8.heap.size:=⟨_,rfl⟩
 rw[<-hgb] at BU ⊢;have hgbT:wT.heap.size<=gb:=by have:=XV.size;have:=hE8.size;omega
 clear hgb;generalize w8.alloc (.cells #[.slice gA hs.length gc,.slice none 0 0,.slice (some ⟨gM,0,none⟩) hs.length hs.length,.int .i64 0,.map (some gm),.slice none 0 0] 141)=w9 at *;refine ptm ?_;refine Xtk 9 ?_;refine Xdn fun wU hE9 hK9=>?_;have XVU:=(hE8.trans EU).trans hE9;have HXU:=lh (HXT.out.trans (XV.trans XVU));have HBM:=lh (BMk.ext XVU);have HMP:=lh (MPk.ext XVU);have HMGU:=lh (HMG.out.ext (XV.trans XVU));have HBU:=lh (BU.ext hE9);have hST:=HXT.out.size;have HSO:=lh (PG wS wU HXU.out gb om gA gc hs HPS.out om B5 d5 cs (HIS0.out) (by rw[HCN.out];omega) (.slice none 0 0) (.slice (some ⟨gM,0,none⟩) hs.length hs.length) 0 (.map (some gm)) (.slice none 0 0) HBU.out);have hSOe:cs.length=KS.length:=HCN.out;rw[hSOe] at HSO;clear hE8 hK8 EU BU hE9 hK9 XV XVU BMk MPk hSOe
 go_upto_region 20 with(go_at_call 71;refine HSO.out.mono ?_;rintro e wX ⟨gH,rows,rfl,bbX,bhX,roX,hgHX,kX⟩)
 have HKX:=lh kX;have hUS:=HXU.out.size;have HXX:Hid (Ext wS wX):=lh (HXU.out.kp kX (fun i hi=>by have e:i=gb:=hi;omega));have hMb:=HMP.out.ne HBU.out;have hneM:gM≠gb:=Qq HBM.out HBU.out de;have hneg:g≠gb:=Qq HMGU.out HBU.out de;have HBS:Hid (BS wX wS ⟨wX.heap.size,gb,gm,gM,gH⟩ gA gc hs cs rows 0 none 0 []):=lh (by
  refine⟨HXX.out,bbX,bhX,roX,⟨List.replicate hs.length 0,?_,by simp,fun i hi=>by simp[List.getD_eq_getElem?_getD,hi]⟩,⟨?_,QQ.nil _ _ _ _,by simp,by simp,by simp,by simp⟩,⟨HXX.out.size,by simp only;omega,by simp only;omega,by simp only;omega,by simp only;omega⟩,Nat.le_refl _⟩
  ·have b:=kX.blk HBM.out hneM
   simpa[Wy] using b
  ·have b:=HMP.out.kp kX (fun e=>hMb e);exact b)
 have HEM:Hid (ExM wX g wX.heap.size runes SA sm.length SC 0 none 0 [] none 0 []):=lh ⟨kX.blk HMGU.out hneg,QQ.nil _ _ _ _,by simp,by simp,QQ.nil _ _ _ _⟩;have hcsK:=HCN.out;have HEX:=lh (I5 wS wX ⟨wX.heap.size,gb,gm,gM,gH⟩ gA gc hs cs rows HBS.out (Nat.le_refl _) runes caps HG.out HPS.out om g hgS runes SA sm.length SC 0 HEM.out);rw[hcsK] at HEX;obtain⟨RES,hRES⟩:∃RES,Hid (VS (QW hs) cs=RES):=⟨_,lh rfl⟩;rw[hRES.out] at HEX;clear bbX bhX roX kX HBM HMP HMGU HBU hMb hneM hneg HKX hcsK;obtain hn|⟨R,hR⟩:RES=none\/∃R,RES=some R:=by
  cases RES with
  | none=>exact .inl rfl
  | some R=>exact .inr ⟨R,rfl⟩
 ·have HRN:Hid (RES=none):=lh hn;have HEXn:Hid (Calls Tryz.prog 72 #[.pointer (some ⟨g,0,none⟩),.pointer (some ⟨gb,0,none⟩),.int .i64 KS.length] wX (fun e w'=>e=.returned (.bool false)/\Ext wS w')):=lh (HEX.out.mono (by
   rintro e w' (⟨_,h2,h3⟩|⟨R,_,_,_,_,_,_,_,h1,_⟩)
   ·exact⟨h2,h3⟩
   ·rw[hn] at h1;cases h1))
  clear hn HEX
  go_wp2_with (go_at_call 72;refine HEXn.out.mono ?_;rintro e wY ⟨rfl,xY⟩)
  have hc:ZW runes caps (QW hs)=4:=by
   unfold ZW;rw[HCK.out,hSE.out,hcs.out,hRES.out,HRN.out]
   simp
  exact bodyPost_ret (v:=.tuple #[.pointer none,.int .i64 4]) (by simp[results,Tryz.results20,go_sem]) rfl ⟨HXS.out.trans xY,.inl ⟨by rw[hc];decide,by rw[hc]⟩⟩
 ·have HRS:Hid (RES=some R):=lh hR;have HEXs:Hid (Calls Tryz.prog 72 #[.pointer (some ⟨g,0,none⟩),.pointer (some ⟨gb,0,none⟩),.int .i64 KS.length] wX (fun e w'=>∃(first:Int) (nA:Option Addr) (nc:Nat) (nxt:List Kr) (dA:Option Addr) (dc:Nat) (dn:List Bool),e=.returned (.bool true)/\Ext wS w'/\ExM w' g wX.heap.size runes SA sm.length SC first nA nc nxt dA dc dn/\KE (QW hs) cs (some R) R R.length first (Wq nxt) dn)):=lh (HEX.out.mono (by
   rintro e w' (⟨h1,_,_⟩|⟨R2,first,nA,nc,nxt,dA,dc,dn,h1,h2,h3,h4,h5⟩)
   ·rw[hR] at h1;cases h1
   ·have e1:R2=R:=by rw[hR] at h1;injection h1 with h1;exact h1.symm
    subst e1;exact⟨first,nA,nc,nxt,dA,dc,dn,h2,h3,h4,h5⟩))
  clear hR HEX
  go_upto_region 22 with(go_at_call 72;refine HEXs.out.mono ?_;rintro e wY ⟨first,nA,nc,nxt,dA,dc,dn,rfl,xY,hEM,hOI⟩)
  have HXY:=lh xY;have HOI:=lh hOI;obtain⟨hr1,hr2,hr3⟩:=hOI.rows_len;rw[AY] at hr1;have hR10:=hOI.le;have hcK:=HCN.out;have hFI:=RK wY g ⟨runes,SA,sm.length,SC,first,nA,nc,nxt,dA,dc,dn,none,0,[]⟩ cs.length ⟨hEM.blk,hEM.nxl,IB.of_own hEM.od,IB.nil _⟩ ⟨rfl,rfl,rfl⟩
   (fun h hh=>by
    have h1:=hr3 h.l (List.mem_map.2 ⟨h,hh,rfl⟩)
    simp only
    rw[hr1];exact h1) (by simp only;omega) (by simp only;omega) om (fun w' k=>hEM.keepG k)
  rw[hcK] at hFI;have HFI:=lh hFI;have hgY:g<wY.heap.size:=hEM.blk.lt;clear hFI hcK xY hOI hEM
  go_wp2_with (go_at_call 73;refine HFI.out.mono ?_;rintro e wZ ⟨gO,op,rfl,hMA,hOP,kZ⟩)
  have hMA':V9 wZ g ⟨runes,SA,sm.length,SC,first,nA,nc,nxt,dA,dc,dn,some ⟨gO,0,none⟩,nxt.length,op⟩:=hMA;have hop:op.length=nxt.length:=hOP.1;have XZ:Ext wS wZ:=HXY.out.kp kZ (fun i hi=>by have e:i=g:=hi;omega);have hc:ZW runes caps (QW hs)=0:=by
   unfold ZW;rw[HCK.out,hSE.out,hcs.out,hRES.out,HRS.out]
   simp
  have hsmR:sm.length<=1000000:=by
   have h1:=HPM.out.length_eq;have h2:=yy (ls:=KS.map (·.l)) (n:=1000) (fun l hl=>L7 HS.out (by rw[<-HKL.out];exact hl)) (KS.map (·.l)).length;have h3:KS.length*1000<=1000*1000:=Nat.mul_le_mul hkn (Nat.le_refl _);rw[h1] at h2;rw[List.length_map] at h2;omega
  have hfr : -1<=first/\first<nxt.length:=by
   rw[HOI.out.fst];rcases HOI.out.st0 with h0|h0
   ·rw[h0];unfold idx;rw[if_pos rfl];omega
   ·have hne:QX (QW hs) [0]≠[]:=fun e=>HOI.out.good.2 (e▸h0);have:=YD h0 hne;omega
  have hOPc:OpN nxt.length cs.length (Wq nxt) dn op:=by rw[HCN.out];exact hOP
  refine bodyPost_ret (v:=.tuple #[.pointer (some ⟨g,0,none⟩),.int .i64 0]) (by simp[results,Tryz.results20,go_sem]) rfl ⟨HXS.out.trans XZ,.inr ⟨hc,g,_,sm,R,rfl,by have:=HXS.out.size;omega,⟨HG.out,⟨hMA',⟨?_,?_,?_,?_,hfr⟩,HST.out.ext XZ,rfl,hsmR,HPW.out,hop,?_⟩,rfl,?_,?_,?_,?_⟩⟩⟩
  ·intro h hh
   try simp only
   rw[hcs.out];exact(hr3 h.l (List.mem_map.2 ⟨h,hh,rfl⟩)).1
  ·intro h hh x hx;have h1:=(hr3 h.l (List.mem_map.2 ⟨h,hh,rfl⟩)).2 x hx
   try simp only
   omega
  ·simp only;omega
  ·simp only;omega
  ·rw[hcs.out];have:=HCN.out;omega
  ·rw[hcs.out,hRES.out,HRS.out]
  ·rw[hcs.out];exact HOI.out.mach rfl rfl rfl (by simp only;omega)
  ·rw[hcs.out];exact HOI.out.opn (by rw[<-hr1];exact hOPc)
  ·refine cT HG.out ?_ HPW.out;have h:=HPM.out;rw[List.length_map] at h;rw[HKL.out] at h;have e:KS.length=(WC runes (QW hs)).length:=by rw[<-HKL.out,List.length_map]
   first|exact h|(rw[e] at h;exact h)):P:=h
theorem yD (w:World)(gA:Option Addr)(gc:Nat)(hs:List Hin)(runes:Bool)(caps:Int)(hP:PL w gA gc hs)(hS:V3 (QW hs)) :
 Calls Tryz.prog 20 #[QN gA hs.length gc caps runes] w (AF runes caps (QW hs) w):=by
 have hgl:=hP.len;have HP:=lh hP;have HS:=lh hS;have EB:=Ext.alloc w (.cells #[.slice gA hs.length gc,.int .i64 caps,.bool runes] 48);have BB:=Blk.new w 48 #[.slice gA hs.length gc,.int .i64 caps,.bool runes];clear hP hS;unfold QN;go_enter Tryz.func20,Tryz.ntmps20
 go_upto_region 1 with fail
 obtain⟨gq,hgq⟩:∃q,q=w.heap.size:=⟨_,rfl⟩
 rw[<-hgq] at BB ⊢;have HGQ:=lh hgq;clear hgq;generalize w.alloc (.cells #[.slice gA hs.length gc,.int .i64 caps,.bool runes] 48)=wa at *;have q0:wa.cell? ⟨gq,0,none⟩=some (.slice gA hs.length gc):=BB.cell 0;have q1:wa.cell? ⟨gq,1,none⟩=some (.int .i64 caps):=BB.cell 1;have q2:wa.cell? ⟨gq,2,none⟩=some (.bool runes):=BB.cell 2;have HBQ:=lh BB;clear BB;have HV:=lh (kN gA gc hs runes caps wa (HP.out.ext EB));unfold QN at HV;have HPE:=lh (vx (runes:=runes) (caps:=caps) (G:=QW hs));obtain⟨E0,hE0⟩:∃E0,Hid (WG runes caps (QW hs)=E0):=⟨_,lh rfl⟩;rw[hE0.out] at HV;by_cases h0:E0=0
 ·subst h0
  go_upto_region 5 with(go_at_call 66;refine HV.out.mono ?_;rintro e w2 ⟨rfl,x2⟩)
  have X2:=EB.trans x2;have h8:hs.length<=8192:=by
   rcases Nat.lt_or_ge 8192 hs.length with h|h
   ·have h1:=vq (runes:=runes) (caps:=caps) (G:=QW hs) (by rw[Qw];exact h);rw[hE0.out] at h1;omega
   ·exact h
  have q0r:=x2.cell q0;have HB2:=lh (HBQ.out.ext x2);have hw2:=X2.size;clear q0 q1 q2 HV EB x2 HBQ
  go_upto_region 6 with fail
  go_loopw [5,21] (fun v5 v21 wr=>∃(i:Nat) (A:Option Addr) (c:Nat),v21=.int .i64 i/\i<=hs.length/\v5=.slice A (WP hs i).length c/\Hid (QQ wr w.heap.size 23 1 A (WP hs i).length c (QR (WP hs i)))/\Hid (∀j (hj:j<hs.length),j<i->hs[j].op≠5)/\Hid (Ext w wr)/\Hid (Blk wr gq 48 #[.slice gA hs.length gc,.int .i64 caps,.bool runes])) (fun _ v _=>hs.length-(intOf v).toNat)
  case atStart=>exact⟨0,none,0,rfl,om,rfl,lh (QQ.nil _ _ _ _),lh (fun j hj h=>absurd h (Nat.not_lt_zero _)),lh X2,HB2⟩
  case round=>
   obtain⟨i,A,c,rfl,hi,rfl,HO,HN5,HX,HB⟩:=hrel;clear HB2;obtain⟨wm,hwm⟩:∃x,x=wr:=⟨_,rfl⟩;subst hwm;by_cases hlt:i<hs.length
   ·have hiI:(i:Int)<hs.length:=om;obtain⟨pb,po,hgA,c0,c1,c2,c3,c4⟩:=(HP.out.ext HX.out).get hlt;have hgA':=hgA;subst hgA';have HSU:=lh (D9 hlt);have HN6:=lh (show hs[i].op≠5->∀j (hj:j<hs.length),j<i+1->hs[j].op≠5 from fun h j hj hji=>by
     by_cases e:j=i
     ·subst e;exact h
     ·exact HN5.out j hj om)
    have HK5:=lh (show WG runes caps (QW hs)=0->hs[i].op=5->ZW runes caps (QW hs)=10 from fun h1 h2=>by
     have h3:=Dq h1 hlt h2;unfold ZW;rw[if_pos (by rw[h3];decide),h3])
    have hsl:=ky hs i;generalize hs[i]=hh at *;obtain⟨op,zx,zy,zn,hA,hc,hl⟩:=hh
    simp only at c0 c1 c2 c3 c4 HSU HN6 HK5
    have EP:=Ext.alloc wm (.cells #[.int .i64 op,.int .i64 zx,.int .i64 zy,.int .i64 zn,.slice hA hl.length hc] 126);have BP:=Blk.new wm 126 #[.int .i64 op,.int .i64 zx,.int .i64 zy,.int .i64 zn,.slice hA hl.length hc]
    go_upto_region 8 with fail
    obtain⟨gi,hgi⟩:∃q,q=wm.heap.size:=⟨_,rfl⟩
    rw[<-hgi] at BP ⊢;clear hgi;generalize wm.alloc (.cells #[.int .i64 op,.int .i64 zx,.int .i64 zy,.int .i64 zn,.slice hA hl.length hc] 126)=wi at *;have z0:wi.cell? ⟨gi,0,none⟩=some (.int .i64 op):=BP.cell 0;have z4:wi.cell? ⟨gi,4,none⟩=some (.slice hA hl.length hc):=BP.cell 4;have HO1:=lh (QQ.ext HO.out EP);have HX1:=lh (HX.out.trans EP);have HB1:=lh (HB.out.ext EP);have hwi:=HX1.out.size;clear c0 c1 c2 c3 c4 HO HX HB EP BP;by_cases h5:op=5
    ·subst h5
     go_wp2_with fail
     have e:=HK5.out hE0.out si;exact bodyPost_ret (v:=.tuple #[.pointer none,.int .i64 10]) (by simp[results,Tryz.results20,go_sem]) rfl ⟨HX1.out,.inl ⟨by rw[e];decide,by rw[e]⟩⟩
    ·have h5f:(op == 5)=false:=by simp[h5]
     by_cases h1:op=1
     ·subst h1;obtain⟨iS,jS0,jS1,jS2,jS3⟩:=info_parts vG;have hsu:=HSU.out;rw[if_pos rfl] at hsu;have HSU2:=lh hsu;clear hsu;have EP2:=Ext.alloc wi (.cells #[.slice hA hl.length hc] 23);have HAPP:=fun(w8:World) (A8:Option Addr) (hg:(wi.alloc (.cells #[.slice hA hl.length hc] 23)).grownBy w8 (A.map (·.block)))=>lh (show Ext w w8/\Blk w8 gq 48 #[.slice (some ⟨pb,po,none⟩) hs.length gc,.int .i64 caps,.bool runes] from⟨(HX1.out.trans EP2).kp (KpP.of_grown hg) (fun i hi=>QQ.row HO1.out i hi),(KpP.of_grown hg).blk (HB1.out.ext EP2) (QK (QQ.ext HO1.out EP2) (HB1.out.ext EP2) de)⟩)
      go_wp2_with (at_builtin;refine Qv _ rfl _ _ _ rfl w.heap.size 23 iS (.slice none 0 0) 1 24 Tryz.underlying125 jS0 jS1 jS2 jS3 rfl om A (WP hs i).length c (QR (WP hs i)) rfl (QQ.ext HO1.out (Ext.alloc _ _)) _ 1 1 [.slice hA hl.length hc] rfl rfl (QC (Blk.new _ _ _)) (by intro u hu;simp only[List.mem_cons,List.not_mem_nil,or_false] at hu;rcases hu with rfl;rfl) um om (Nat.le_trans hwi (Ext.alloc _ _).size) ?_;intro A8 c8 w8 ho8 hg8 hat8)
      have HX8:=lh (HAPP w8 A8 hg8).out.1;have HB8:=lh (HAPP w8 A8 hg8).out.2;have e1:(WP hs i++[(⟨hA,hc,hl⟩:Hs)]).length=(WP hs i).length+1:=by simp
      have HO8:Hid (QQ w8 w.heap.size 23 1 A8 (WP hs (i+1)).length c8 (QR (WP hs (i+1)))):=lh (by
       rw[HSU2.out,e1];have e2:QR (WP hs i++[(⟨hA,hc,hl⟩:Hs)])=QR (WP hs i)++[.slice hA hl.length hc]:=by simp[QR]
       rw[e2];exact ho8)
      have HN8:=lh (HN6.out de);have e3:(WP hs (i+1)).length=(WP hs i).length+1:=by rw[HSU2.out,e1]
      have HE3:=lh e3;clear e1 e3 ho8 hg8 hat8 HAPP;go_roundw
      case rel=>exact⟨i+1,A8,c8,by go_num,om,by rw[HE3.out],HO8,HN8,HX8,HB8⟩
      case measure=>simp[intOf];omega
     ·have h1f:(op == 1)=false:=by simp[h1]
      have hsu:=HSU.out;rw[if_neg h1] at hsu;have HSU2:=lh hsu;clear hsu;have HN8:=lh (HN6.out h5)
      go_wp2_with fail
      go_roundw
      case rel=>exact⟨i+1,A,c,by go_num,om,by rw[HSU2.out],by rw[HSU2.out];exact HO1,HN8,HX1,HB1⟩
      case measure=>simp[intOf];omega
   ·have hiI:¬(i:Int)<hs.length:=om;obtain rfl:hs.length=i:=om;have hck:=LF hE0.out (fun k hk=>HN5.out k hk hk);have HG:=lh (CN hck);have HCK:=lh hck;have HSA:=lh (IX hs);have hsl:=ky hs hs.length;have HSW:=lh (show LLS wm A c (WP hs hs.length) from LLS.of_own HO.out (fun z hz=>by
     obtain⟨y,hy,rfl⟩:=IV hz;exact(HP.out.sl y hy).ext HX.out))
    obtain⟨LS,hLS⟩:∃LS,Hid (WP hs hs.length=LS):=⟨_,lh rfl⟩;rw[hLS.out] at HSA HSW hsl ⊢;have hl1:LS.length<=1024:=by
     have h:=HS.out.sets
     rw[<-HSA.out,List.length_map] at h;exact h
    have q0:wm.cell? ⟨gq,0,none⟩=some (.slice gA hs.length gc):=HB.out.cell 0;have q1:wm.cell? ⟨gq,1,none⟩=some (.int .i64 caps):=HB.out.cell 1;have q2:wm.cell? ⟨gq,2,none⟩=some (.bool runes):=HB.out.cell 2;have HT:=lh (fun w'=>aT gA hs.length gc caps runes w');have HSP:=fun(w':World) (x:Ext wm w')=>lh (I1 A c LS (Wj runes) w' (HSW.out.ext x) (by have:=yk runes;unfold I64;omega) hl1 (by rw[HSA.out];exact HS.out.flat) (by rw[HSA.out];exact HS.out.ends _));rw[HSA.out] at HSP;obtain⟨SE,hSE⟩:∃SE,Hid (W1 (Ww (QW hs)) (Wj runes)=SE):=⟨_,lh rfl⟩;clear hck HO HN5;unfold QN at HT
    go_upto_region 14 with(first|(go_at_call 68;refine(HT.out wm).mono ?_;rintro e w3 ⟨rfl,x3⟩)|(go_at_call 67;refine(HSP _ (by assumption)).out.mono ?_;rintro e w4 ⟨O,cO,ks,rfl,hL4,hk4,x4⟩))
    rw[hSE.out] at hk4 ⊢;have HX4:=lh ((HX.out.trans x3).trans x4);have q0s:=(x3.trans x4).cell q0;have q2s:=(x3.trans x4).cell q2;have HB4:=lh (HB.out.ext (x3.trans x4));clear q0 q1 q2 HX HB HT HSP HSW x3 x4;by_cases hs0:SE=0
    ·subst hs0;rw[if_pos rfl] at hk4;have hks:ks.length<=1000:=by
      have h:=zP HS.out (Wj runes)
      rw[<-hk4,List.length_map] at h;exact h
     have HINH:=lh (FZ O cO ks runes w4 hL4 om);have hKL:(ZN runes ks ks.length).map (·.l)=WC runes (QW hs):=by rw[TT,hk4];rfl
     have hKS:(ZN runes ks ks.length).map (fun z=>JY runes z.l)=WH runes (QW hs):=by
      unfold WH
      rw[<-hKL,List.map_map]
      rfl
     unfold PB at HINH;rw[hKS] at HINH;generalize ZN runes ks ks.length=KS at *;have HKL:=lh hKL;have hkn:KS.length<=1000:=by
      have h:=Hk (runes:=runes) HS.out
      rw[<-hKL,List.length_map] at h;exact h
     have hcn:(WH runes (QW hs)).length=KS.length:=by rw[<-hKS,List.length_map]
     obtain⟨cs,hcs⟩:∃cs,Hid (WH runes (QW hs)=cs):=⟨_,lh rfl⟩;rw[hcs.out] at HINH hcn;have HCN:=lh hcn;clear hKL hKS hcn hL4 hk4 hks
     go_upto_region 17 with(go_at_call 69;refine HINH.out.mono ?_;rintro e w5 ⟨O5,c5,B5,d5,rfl,hL5,hI5,x5⟩)
     have q0t:=x5.cell q0s;have q2t:=x5.cell q2s;have HX5:=lh (HX4.out.trans x5);have HP5:=lh (HP.out.ext HX5.out);have HI5:=lh hI5;have HSTR:=fun(w':World) (x:Ext w5 w')=>lh (FJ O5 c5 KS w' (hL5.ext x) (fun l hl=>PU HG.out (by rw[<-HKL.out];exact hl)) hkn (fun l hl=>L7 HS.out (by rw[<-HKL.out];exact hl)) (by have h:=P0 HG.out;rw[<-HKL.out,List.length_map] at h;exact h));have j2:=kc0 q2t;clear hL5 hI5 q0s q2s x5 HINH;refine Xr.start [] kr ?_;refine Xtk 0 ?_
     iterate 2(refine Xtn ?_)
     refine Xcl 3 fun w6 hE6 hK6 K hKK=>?_;go_simp;refine(HSTR w6 hE6).out.mono ?_;rintro e wS ⟨SA,SC,sm,rfl,hsl7,hperm,hpw,x7⟩;refine hKK _ _ x7 ?_;clear hKK;refine ptm ?_;refine Xtk 4 ?_;refine Xcl 5 fun w8 hE8 hK8 K hKK=>?_;have EM:=Ext.alloc w8 (.cells #[.bool runes,.slice SA sm.length SC,.int .i32 0,.slice none 0 0,.slice none 0 0,.slice none 0 0] 136);have BM:=Blk.new w8 136 #[.bool runes,.slice SA sm.length SC,.int .i32 0,.slice none 0 0,.slice none 0 0,.slice none 0 0];go_simp;refine hKK _ _ EM ?_;clear hKK;obtain⟨g,hg⟩:∃q,q=w8.heap.size:=⟨_,rfl⟩
     rw[<-hg] at BM ⊢;have hgS:wS.heap.size<=g:=by have:=hE8.size;omega
     clear hg;generalize w8.alloc (.cells #[.bool runes,.slice SA sm.length SC,.int .i32 0,.slice none 0 0,.slice none 0 0,.slice none 0 0] 136)=w9 at *;refine ptm ?_;refine Xtk 6 ?_;refine Xdn fun wT hE9 hK9=>?_;have XST:=(hE8.trans EM).trans hE9;have x5S:=hE6.trans x7;have HXS:=lh (HX5.out.trans x5S);have HPS:=lh (HP5.out.ext x5S);have HIS0:=lh (HI5.out.ext x5S);have HST:=lh hsl7;have HPM:=lh hperm;have HPW:=lh hpw;have HMG:=lh (BM.ext hE9);have HXT:=lh XST;have q0u:=(x5S.trans XST).cell q0t;clear hE6 hK6 hE8 hK8 hE9 hK9 EM BM x7 hsl7 hperm hpw XST x5S j2 q0t q2t HSTR HX5 HP5 HI5 HX4;have hmk:=O7 hs.length (by have:=HG.out.len;rw[Qw] at this;omega)
     go_upto_region 18 with fail
     have j0:=kc0 q0u;refine Xr.start [] kr ?_;refine Xtk 0 ?_
     iterate 4(refine Xtn ?_)
     clear j0;refine Xr.fork2 5 6 rfl rfl dK (by rfl) (by rfl) (fun wn hE6 hK6 K hKK=>?_) (fun wn hE6 hK6 K hKK=>?_)
     ·skip
      have XN:=hE6;have EA:=Ext.alloc wn (.cells (Array.replicate hs.length (.int .i64 0)) 3);have BMk:=Blk.new wn 3 (Array.replicate hs.length (.int .i64 0));go_simp;refine hKK _ _ (KpP.of_ext EA) (hK6.ext EA) ?_;clear hKK;obtain⟨gM,hgM⟩:∃q,q=wn.heap.size:=⟨_,rfl⟩
      rw[<-hgM] at BMk ⊢;have hgMT:wT.heap.size<=gM:=by have:=XN.size;omega
      clear hgM;generalize wn.alloc (.cells (Array.replicate hs.length (.int .i64 0)) 3)=wo at *;refine ptm ?_;refine Xsp 6 fun wp hE7 hK7 K hKK=>?_;replace XN:=(XN.trans EA).trans hE7;replace BMk:=(BMk.ext hE7);clear EA;have EA:=Ext.alloc wp (.map #[] 0);have MPk:WX (wp.alloc (.map #[] 0)) wp.heap.size Value.string (Value.int .i32) ([]:List (ByteArray×Int)):=WX.made wp Value.string (Value.int .i32);go_simp;refine hKK _ _ (KpP.of_ext EA) (hK7.ext EA) ?_;clear hKK;obtain⟨gm,hgm⟩:∃q,q=wp.heap.size:=⟨_,rfl⟩
      rw[<-hgm] at MPk ⊢;have hgmT:wT.heap.size<=gm:=by have:=XN.size;omega
      clear hgm;rw[show({ heap:=wp.heap.push (Obj.map #[] 0),tape:=wp.tape,drawn:=wp.drawn,os:=wp.os,output:=wp.output }:World)=wp.alloc (.map #[] 0) from rfl];generalize wp.alloc (.map #[] 0)=wV at *;refine ptm ?_;replace BMk:=(BMk.ext EA);exact aG
     ·skip
      have XN:=hE6;have EA:=Ext.alloc wn (.map #[] 0);have MPk:WX (wn.alloc (.map #[] 0)) wn.heap.size Value.string (Value.int .i32) ([]:List (ByteArray×Int)):=WX.made wn Value.string (Value.int .i32);go_simp;refine hKK _ _ (KpP.of_ext EA) (hK6.ext EA) ?_;clear hKK;obtain⟨gm,hgm⟩:∃q,q=wn.heap.size:=⟨_,rfl⟩
      rw[<-hgm] at MPk ⊢;have hgmT:wT.heap.size<=gm:=by have:=XN.size;omega
      clear hgm;rw[show({ heap:=wn.heap.push (Obj.map #[] 0),tape:=wn.tape,drawn:=wn.drawn,os:=wn.os,output:=wn.output }:World)=wn.alloc (.map #[] 0) from rfl];generalize wn.alloc (.map #[] 0)=wo at *;refine ptm ?_;refine Xsp 5 fun wp hE7 hK7 K hKK=>?_;replace XN:=(XN.trans EA).trans hE7;replace MPk:=(MPk.ext hE7);clear EA;have EA:=Ext.alloc wp (.cells (Array.replicate hs.length (.int .i64 0)) 3);have BMk:=Blk.new wp 3 (Array.replicate hs.length (.int .i64 0));go_simp;refine hKK _ _ (KpP.of_ext EA) (hK7.ext EA) ?_;clear hKK;obtain⟨gM,hgM⟩:∃q,q=wp.heap.size:=⟨_,rfl⟩
      rw[<-hgM] at BMk ⊢;have hgMT:wT.heap.size<=gM:=by have:=XN.size;omega
      clear hgM;generalize wp.alloc (.cells (Array.replicate hs.length (.int .i64 0)) 3)=wV at *;refine ptm ?_;replace MPk:=(MPk.ext EA);exact aG
    ·have hsf:(SE == 0)=false:=by simp[hs0]
     go_wp2_with fail
     have hc:ZW runes caps (QW hs)=SE:=by
      unfold ZW;rw[HCK.out,hSE.out];simp[hs0]
     exact bodyPost_ret (v:=.tuple #[.pointer none,.int .i64 SE]) (by simp[results,Tryz.results20,go_sem]) rfl ⟨HX4.out,.inl ⟨by rw[hc];exact hs0,by rw[hc]⟩⟩
 ·have h0f:(E0 == 0)=false:=by simp[h0]
  go_wp2_with (go_at_call 66;refine HV.out.mono ?_;rintro e w2 ⟨rfl,x2⟩)
  have hc:ZW runes caps (QW hs)=E0:=by
   have h1:=HPE.out (by rw[hE0.out];exact h0);unfold ZW;rw[if_pos (by rw[h1,hE0.out];exact h0),h1,hE0.out]
  exact bodyPost_ret (v:=.tuple #[.pointer none,.int .i64 E0]) (by simp[results,Tryz.results20,go_sem]) rfl ⟨EB.trans x2,.inl ⟨by rw[hc];exact h0,by rw[hc]⟩⟩
def qZ (a b c:Nat):List Hin:=[⟨1,0,0,0,some ⟨a,0,none⟩,1,[(97,97)]⟩,⟨2,2,4,0,none,0,[]⟩,⟨1,0,0,0,some ⟨b,0,none⟩,1,[(98,98)]⟩,⟨3,1,0,0,none,0,[]⟩,⟨1,0,0,0,some ⟨c,0,none⟩,1,[(99,99)]⟩,⟨0,0,0,0,none,0,[]⟩]
def qJ (a b:Nat):List Hin:=[⟨1,0,0,0,some ⟨a,0,none⟩,1,[(97,97)]⟩,⟨2,2,4,0,none,0,[]⟩,⟨1,0,0,0,some ⟨b,0,none⟩,1,[(98,98)]⟩,⟨3,1,0,0,none,0,[]⟩,⟨0,0,0,0,none,0,[]⟩]
theorem wQ {w:World}{g:Nat}{x y:Int}(hb:Blk w g 38 #[.int .i64 x,.int .i64 y])(hx:I64 x)(hy:I64 y):SL w (some ⟨g,0,none⟩) 1 [(x,y)]:=by
 refine SL.of_ownT (base:=0) (T:=38) ?_ (fun s hs=>?_)
 ·have h:=QQ.of_blk (n:=1) (c:=1) (size:=2) (base:=0) hb (Nat.zero_le _) si si um
  simpa[Qz] using h
 ·rw[List.mem_singleton.1 hs];exact⟨hx,hy⟩
theorem RB {w:World}{g T:Nat}{hs:List Hin}(hb:Blk w g T (QT hs).toArray)(hr:∀z∈hs,z.wf)(hsl:∀z∈hs,SL w z.A z.c z.l)(hl:hs.length<=1000):PL w (some ⟨g,0,none⟩) hs.length hs:=by
 have h:=QQ.of_blk (n:=hs.length) (c:=hs.length) (size:=5) (base:=0) hb (Nat.zero_le _) (by simp[JG]) (Nat.le_refl _) um;refine PL.of_own (base:=0) (T:=T) ?_ hr hsl;have e:((QT hs).toArray.toList).take (hs.length*5)=QT hs:=by rw[<-JG];simp
 rw[e] at h;exact h
theorem iJ {w:World}{g T a b c:Nat}(hb:Blk w g T (QT (qZ a b c)).toArray)(ha:Blk w a 38 #[.int .i64 97,.int .i64 97])(hbb:Blk w b 38 #[.int .i64 98,.int .i64 98])(hc:Blk w c 38 #[.int .i64 99,.int .i64 99]):PL w (some ⟨g,0,none⟩) 6 (qZ a b c):=by
 have h1:=wQ ha (by unfold I64;omega) (by unfold I64;omega);have h2:=wQ hbb (by unfold I64;omega) (by unfold I64;omega);have h3:=wQ hc (by unfold I64;omega) (by unfold I64;omega);refine RB hb (fun z hz=>?_) (fun z hz=>?_) (by simp[qZ])
 ·simp only[qZ,List.mem_cons,List.not_mem_nil,or_false] at hz;rcases hz with rfl|rfl|rfl|rfl|rfl|rfl<;>simp[Hin.wf,I64]
 ·simp only[qZ,List.mem_cons,List.not_mem_nil,or_false] at hz;rcases hz with rfl|rfl|rfl|rfl|rfl|rfl<;>first|assumption|exact SL.nil _
theorem iK {w:World}{g T a b:Nat}(hb:Blk w g T (QT (qJ a b)).toArray)(ha:Blk w a 38 #[.int .i64 97,.int .i64 97])(hbb:Blk w b 38 #[.int .i64 98,.int .i64 98]):PL w (some ⟨g,0,none⟩) 5 (qJ a b):=by
 have h1:=wQ ha (by unfold I64;omega) (by unfold I64;omega);have h2:=wQ hbb (by unfold I64;omega) (by unfold I64;omega);refine RB hb (fun z hz=>?_) (fun z hz=>?_) (by simp[qJ])
 ·simp only[qJ,List.mem_cons,List.not_mem_nil,or_false] at hz;rcases hz with rfl|rfl|rfl|rfl|rfl<;>simp[Hin.wf,I64]
 ·simp only[qJ,List.mem_cons,List.not_mem_nil,or_false] at hz;rcases hz with rfl|rfl|rfl|rfl|rfl<;>first|assumption|exact SL.nil _
theorem RC (a b c:Nat):V3 (QW (qZ a b c)):=by
 refine vU (E:=Jz) (by simp[Jz]) (by simp[Jz]) (by simp[qZ]) (fun i hi=>?_);simp only[qZ,List.mem_cons,List.not_mem_nil,or_false] at hi;rcases hi with rfl|rfl|rfl|rfl|rfl|rfl<;>simp[zO,Jz]
theorem RD (a b:Nat):V3 (QW (qJ a b)):=by
 refine vU (E:=Jz) (by simp[Jz]) (by simp[Jz]) (by simp[qJ]) (fun i hi=>?_);simp only[qJ,List.mem_cons,List.not_mem_nil,or_false] at hi;rcases hi with rfl|rfl|rfl|rfl|rfl<;>simp[zO,Jz]
def NM (G:List Ins)(w:World)(e:Ending)(w':World):Prop:=Ext w w'/\∃(g:Nat) (m:Ma) (strt:List Sp) (R:List St),e=.returned (.tuple #[.pointer (some ⟨g,0,none⟩),.int .i64 0])/\WK w' false 0 G g m strt R
theorem AF.one {G:List Ins}{w:World}{e:Ending}{w':World}(h:AF false 0 G w e w')(h0:ZW false 0 G=0):NM G w e w':=by
 obtain⟨x,⟨h1,_⟩|⟨_,g,m,s,R,h2,_,h3⟩⟩:=h
 ·exact absurd h0 h1
 ·exact⟨x,g,m,s,R,h2,h3⟩
theorem Ux (w:World)(g T a b c:Nat)(hb:Blk w g T (QT (qZ a b c)).toArray)(ha:Blk w a 38 #[.int .i64 97,.int .i64 97])(hbb:Blk w b 38 #[.int .i64 98,.int .i64 98])(hc:Blk w c 38 #[.int .i64 99,.int .i64 99]) :
 Calls Tryz.prog 20 #[.agg #[.slice (some ⟨g,0,none⟩) 6 6,.int .i64 0,.bool false]] w (NM Zv w):=
 (yD w (some ⟨g,0,none⟩) 6 (qZ a b c) false 0 (iJ hb ha hbb hc) (RC a b c)).mono (fun e w' h=>AF.one h dV)
theorem UA (w:World)(g T a b:Nat)(hb:Blk w g T (QT (qJ a b)).toArray)(ha:Blk w a 38 #[.int .i64 97,.int .i64 97])(hbb:Blk w b 38 #[.int .i64 98,.int .i64 98]) :
 Calls Tryz.prog 20 #[.agg #[.slice (some ⟨g,0,none⟩) 5 5,.int .i64 0,.bool false]] w (NM W4 w):=
 (yD w (some ⟨g,0,none⟩) 5 (qJ a b) false 0 (iK hb ha hbb) (RD a b)).mono (fun e w' h=>AF.one h dX)
end
section
open Go.RowKit
section
variable {w:World} {runes:Bool} {caps:Int} {G:List Ins} {g:Nat} {m:Ma} {strt:List Sp} {R:List St}
theorem WK.syms (h:WK w runes caps G g m strt R){ts:List Int}(ht:ts.all (Qy runes)=true):qO strt (WH runes G).length (VW runes G strt) ts/\∀x∈ts,vP G (WH runes G) (VW runes G strt) x:=vS h.cls ht
theorem WK.lt (h:WK w runes caps G g m strt R){ts:List Int}(ht:ts.all (Qy runes)=true):∀c∈ts.map (VW runes G strt),c<(WH runes G).length:=fun c hc=>by
 obtain⟨x,hx,rfl⟩:=List.mem_map.1 hc;exact((h.syms ht).1 x hx).2
theorem WK.of (h:WK w runes caps G g m strt R){T:Option Addr}{tc:Nat}{ts:List Int}(hT:IL w T tc ts)(ht:ts.all (Qy runes)=true)(hl:ts.length<=65536) :
 Calls Tryz.prog 26 #[.pointer (some ⟨g,0,none⟩),.slice T ts.length tc] w (Xj m g (ts.map (VW runes G strt)) w):=
 cy w g m _ strt h.at_ _ T tc ts hT (by rw[h.run];unfold XC;rw[if_neg om,if_pos ht]) om (h.syms ht).1
theorem WK.symbol (h:WK w runes caps G g m strt R){x:Int}(hx:Qy runes x=true)(h64:I64 x) :
 Calls Tryz.prog 36 #[.pointer (some ⟨g,0,none⟩),.int .i64 x] w (Xj m g [VW runes G strt x] w):=
 I3 w g m _ strt h.at_ _ x h64 (by rw[h.run];unfold XC;rw[if_neg si,if_pos (by simp[hx])]) (h.syms (ts:=[x]) (by simp[hx])).1
theorem WK.found (h:WK w runes caps G g m strt R){ga:Nat}{sa:Sm}{ts:List Int}(ha:Kw w ga sa)(ka:JQ m g (ts.map (VW runes G strt)) sa)(ht:ts.all (Qy runes)=true)(hl:ts.length<=1000000) :
 Calls Tryz.prog 28 #[.pointer (some ⟨g,0,none⟩),.pointer (some ⟨ga,0,none⟩)] w (wE (ZQ G R m.opn ts false) w):=by
 have k:=NZ w g m _ strt h.at_ ga sa _ ha ka (by simpa using hl) (h.lt ht)
 rwa [JX.found h.mo ts (h.syms ht).2 false _ (fun st=>by simp)] at k
theorem WK.sure (h:WK w runes caps G g m strt R){ga:Nat}{sa:Sm}{ts:List Int}(ha:Kw w ga sa)(ka:JQ m g (ts.map (VW runes G strt)) sa)(ht:ts.all (Qy runes)=true)(hl:ts.length<=1000000) :
 Calls Tryz.prog 29 #[.pointer (some ⟨g,0,none⟩),.pointer (some ⟨ga,0,none⟩)] w (wE (ZQ G R m.opn ts true) w):=by
 have k:=Py w g m _ strt h.at_ ga sa _ ha ka (by simpa using hl) (h.lt ht)
 rwa [JX.found h.mo ts (h.syms ht).2 true _ (fun st=>by simp)] at k
theorem WK.join (h:WK w runes caps G g m strt R){ga gb:Nat}{sa sb:Sm}{ta tb:List Int}(ha:Kw w ga sa)(ka:JQ m g (ta.map (VW runes G strt)) sa)(hb:Kw w gb sb)(kb:JQ m g (tb.map (VW runes G strt)) sb)(hta:ta.all (Qy runes)=true)(htb:tb.all (Qy runes)=true)(hl:ta.length+tb.length<=65536) :
 Calls Tryz.prog 27 #[.pointer (some ⟨g,0,none⟩),.pointer (some ⟨ga,0,none⟩),.pointer (some ⟨gb,0,none⟩)] w (Xj m g ((ta++tb).map (VW runes G strt)) w):=by
 have k:=Pw w g m _ h.at_.at_ h.at_.ok ga gb sa sb _ _ ha ka hb kb (h.lt hta) (h.lt htb) (by simpa using hl)
 rwa [<-List.map_append] at k
end
theorem RE {w:World}{g:Nat}{m:Ma}{strt:List Sp}{R:List St}(h:WK w false 0 W4 g m strt R):ZQ W4 R m.opn [97,98] true=[]:=by
 have ht:([97,98]:List Int).all (Qy false)=true:=by decide
 obtain⟨k,hk,_,hal⟩:=h.cls 98 de;have h3:=(h.mo.start (cf:=VW false W4 strt) [97,98] (h.syms ht).2 0).2.2;rw[List.drop_zero,RJ] at h3;have hm:[2,4]∈R:=h3.resolve_left si;exact UY h.opn hm (List.getElem_mem hk) (hal [2,4]).symm
def qC (gA:Option Addr)(n gc:Nat)(caps:Int)(runes:Bool)(SA:Option Addr)(sn sc:Nat)(YA:Option Addr)(yn yc:Nat)(OA:Option Addr)(on oc:Nat):Array Value:=
 #[.slice gA n gc,.int .i64 caps,.bool runes,.slice SA sn sc,.slice YA yn yc,.slice OA on oc]
def qK (w:World)(g:Nat)(gA:Option Addr)(n gc:Nat)(caps:Int)(runes:Bool)(SA:Option Addr)(sn sc:Nat)(YA:Option Addr)(yn yc:Nat)(OA:Option Addr)(on oc:Nat):World:=
 ((((((w.setCell ⟨g,0,none⟩ (.slice gA n gc)).setCell ⟨g,1,none⟩ (.int .i64 caps)).setCell ⟨g,2,none⟩ (.bool runes)).setCell ⟨g,3,none⟩ (.slice SA sn sc)).setCell ⟨g,4,none⟩ (.slice YA yn yc)).setCell ⟨g,5,none⟩ (.slice OA on oc))
section
variable {w:World} {g:Nat} {gA:Option Addr} {n gc:Nat} {caps:Int} {runes:Bool} {SA:Option Addr} {sn sc:Nat} {YA:Option Addr} {yn yc:Nat} {OA:Option Addr} {on oc:Nat}
theorem kE {T:Nat}{a0 a1 a2 a3 a4 a5:Value}(h:Blk w g T #[a0,a1,a2,a3,a4,a5]):Blk (qK w g gA n gc caps runes SA sn sc YA yn yc OA on oc) g T (qC gA n gc caps runes SA sn sc YA yn yc OA on oc):=by
 have b:=((((((h.set 0 (.slice gA n gc)).set 1 (.int .i64 caps)).set 2 (.bool runes)).set 3 (.slice SA sn sc)).set 4 (.slice YA yn yc)).set 5 (.slice OA on oc))
 simpa[qC,qK] using b
theorem kF {a:World}(h:Ext a w)(hg:a.heap.size<=g):Ext a (qK w g gA n gc caps runes SA sn sc YA yn yc OA on oc):=
 ((((((h.setNew (p:=⟨g,0,none⟩) hg _).setNew (p:=⟨g,1,none⟩) hg _).setNew (p:=⟨g,2,none⟩) hg _).setNew (p:=⟨g,3,none⟩) hg _).setNew (p:=⟨g,4,none⟩) hg _).setNew (p:=⟨g,5,none⟩) hg _)
theorem dC {p:Nat->Prop}{a:World}(h:KpP p a w)(hg:p g):KpP p a (qK w g gA n gc caps runes SA sn sc YA yn yc OA on oc):=
 ((((((h.set (x:=⟨g,0,none⟩) (.inl hg) _).set (x:=⟨g,1,none⟩) (.inl hg) _).set (x:=⟨g,2,none⟩) (.inl hg) _).set (x:=⟨g,3,none⟩) (.inl hg) _).set (x:=⟨g,4,none⟩) (.inl hg) _).set (x:=⟨g,5,none⟩) (.inl hg) _)
theorem YY {T:Nat}(h:Blk w g T (qC gA n gc caps runes SA sn sc YA yn yc OA on oc)):w.cell? ⟨g,0,none⟩=some (.slice gA n gc)/\w.cell? ⟨g,1,none⟩=some (.int .i64 caps)/\w.cell? ⟨g,2,none⟩=some (.bool runes)/\w.cell? ⟨g,3,none⟩=some (.slice SA sn sc)/\w.cell? ⟨g,4,none⟩=some (.slice YA yn yc)/\w.cell? ⟨g,5,none⟩=some (.slice OA on oc):=
 ⟨h.cell 0,h.cell 1,h.cell 2,h.cell 3,h.cell 4,h.cell 5⟩
theorem FA {T:Nat}{cs:Array Value}(h:Blk w g T cs):w.frozen? ⟨g,0,none⟩=false/\w.frozen? ⟨g,1,none⟩=false/\w.frozen? ⟨g,2,none⟩=false/\w.frozen? ⟨g,3,none⟩=false/\w.frozen? ⟨g,4,none⟩=false/\w.frozen? ⟨g,5,none⟩=false:=
 ⟨h.frz 0,h.frz 1,h.frz 2,h.frz 3,h.frz 4,h.frz 5⟩
end
structure QY (w:World)(base g:Nat)(gA:Option Addr)(n gc:Nat)(caps:Int)(runes:Bool)(A:Option Addr)(c:Nat)(ys:List Int):Prop where
 blk:Blk w g 53 (qC gA n gc caps runes none 0 0 A ys.length c none 0 0)
 own:WO w base 3 A c ys
 rng:∀y∈ys,I64 y
section
variable {w w' wx w8:World} {base g:Nat} {gA:Option Addr} {n gc:Nat} {caps:Int} {runes:Bool}
theorem QY.ext {A:Option Addr}{c:Nat}{ys:List Int}(h:QY w base g gA n gc caps runes A c ys)(x:Ext w w'):QY w' base g gA n gc caps runes A c ys:=⟨h.blk.ext x,QQ.ext h.own x,h.rng⟩
theorem QY.push {A:Option Addr}{c:Nat}{ys:List Int}{y:Int}(h:QY wx base g gA n gc caps runes A c ys)(hy:I64 y){A8:Option Addr}{c8:Nat}{v:Value}(hv:v=.slice A8 (ys++[y]).length c8)
 (hg:wx.grownBy w8 (A.map (·.block))) (ho:WO w8 base 3 A8 c8 (ys++[y])):QY (w8.setCell ⟨g,4,none⟩ v) base g gA n gc caps runes A8 c8 (ys++[y]):=by
 subst hv;have b8:=(KpP.of_grown hg).blk h.blk (QK h.own h.blk de);have k9:KpP (·=g) w8 (w8.setCell ⟨g,4,none⟩ (.slice A8 (ys++[y]).length c8)):=KpP.set (p:=(·=g)) (x:=⟨g,4,none⟩) (KpP.refl _ _) (.inl rfl) _;refine⟨?_,QQ.kp ho k9 (fun b hb e=>QK ho b8 de ((show b=g from e)▸hb)),fun z hz=>?_⟩
 ·have b:=b8.set 4 (.slice A8 (ys++[y]).length c8)
  simpa[qC] using b
 ·rcases List.mem_append.1 hz with hz|hz
  ·exact h.rng z hz
  ·obtain rfl:=List.mem_singleton.1 hz;exact hy
structure QS (w:World)(base g:Nat)(gA:Option Addr)(n gc:Nat)(caps:Int)(runes:Bool)(A:Option Addr)(c:Nat)(xs:List Hl)(YA:Option Addr)(yn yc:Nat):Prop where
 blk:Blk w g 53 (qC gA n gc caps runes A xs.length c YA yn yc none 0 0)
 sz:SZ w base A c (xs.map Hl.z)
 ng:∀z∈xs,QJ z.l≠[]->∀b,z.A.map (·.block)=some b->g<b
variable {YA:Option Addr} {yn yc:Nat}
theorem QS.ext {A:Option Addr}{c:Nat}{xs:List Hl}(h:QS w base g gA n gc caps runes A c xs YA yn yc)(x:Ext w w'):QS w' base g gA n gc caps runes A c xs YA yn yc:=⟨h.blk.ext x,h.sz.ext x,h.ng⟩
theorem QS.own {A:Option Addr}{c:Nat}{xs:List Hl}(h:QS w base g gA n gc caps runes A c xs YA yn yc):QQ w base 22 1 A xs.length c (Zz xs):=by
 have:=h.sz.own
 rwa [jZ,List.length_map] at this
theorem QS.push {A:Option Addr}{c:Nat}{xs:List Hl}{z:Hl}(h:QS wx base g gA n gc caps runes A c xs YA yn yc)(hz:IL wx z.A z.c (QJ z.l))(hza:QJ z.l≠[]->∀b,z.A.map (·.block)=some b->A.map (·.block)≠some b)(hzg:QJ z.l≠[]->∀b,z.A.map (·.block)=some b->g<b)
 {A8:Option Addr} {c8:Nat} {v:Value} (hv:v=.slice A8 (xs.length+1) c8) (ho:QQ w8 base 22 1 A8 (xs.length+1) c8 (Zz xs++[.slice z.A (QJ z.l).length z.c]))
 (hg:(wx.alloc (.cells #[.slice z.A (QJ z.l).length z.c] 22)).grownBy w8 (A.map (·.block)))
 (hat:A8.map (·.block)=A.map (·.block)\/A8.map (·.block)=some (wx.alloc (.cells #[.slice z.A (QJ z.l).length z.c] 22)).heap.size) :
 QS (w8.setCell ⟨g,3,none⟩ v) base g gA n gc caps runes A8 c8 (xs++[z]) YA yn yc:=by
 subst hv;have ex:=Ext.alloc wx (.cells #[.slice z.A (QJ z.l).length z.c] 22);have b8:=(KpP.of_grown hg).blk (h.blk.ext ex) (QK (QQ.ext h.own ex) (h.blk.ext ex) de);have k9:KpP (·=g) w8 (w8.setCell ⟨g,3,none⟩ (.slice A8 (xs.length+1) c8)):=KpP.set (p:=(·=g)) (x:=⟨g,3,none⟩) (KpP.refl _ _) (.inl rfl) _;have s8:SZ w8 base A8 c8 ((xs++[z]).map Hl.z):=by
  have h1:=h.sz.push (z:=z.z) hz hza (A':=A8) (c':=c8) (w':=w8) (by rw[jZ,List.length_map];exact ho) hg hat;rw[List.map_append];exact h1
 have hng:∀y∈xs++[z],QJ y.l≠[]->∀b,y.A.map (·.block)=some b->g<b:=fun y hy=>by
  rcases List.mem_append.1 hy with hy|hy
  ·exact h.ng y hy
  ·obtain rfl:=List.mem_singleton.1 hy;exact hzg
 refine⟨?_,s8.kp k9 (fun b hb e=>QK s8.own b8 de ((show b=g from e)▸hb)) (fun y hy hx b hb e=>?_),hng⟩
 ·have b:=b8.set 3 (.slice A8 (xs.length+1) c8)
  simpa[qC] using b
 ·obtain⟨q,hq,rfl⟩:=List.mem_map.1 hy;exact absurd (hng q hq hx b hb) (by have e1:b=g:=e;omega)
structure QO (w:World)(base g:Nat)(gA:Option Addr)(n gc:Nat)(caps:Int)(runes:Bool)(A:Option Addr)(c sn:Nat)(YA:Option Addr)(yn yc:Nat)(OA:Option Addr)(oc:Nat)(op:List Bool):Prop where
 blk:Blk w g 53 (qC gA n gc caps runes A sn c YA yn yc OA op.length oc)
 own:QQ w base 4 1 OA op.length oc (op.map Value.bool)
variable {A:Option Addr} {c sn:Nat}
theorem QO.ext {OA:Option Addr}{oc:Nat}{op:List Bool}(h:QO w base g gA n gc caps runes A c sn YA yn yc OA oc op)(x:Ext w w'):QO w' base g gA n gc caps runes A c sn YA yn yc OA oc op:=⟨h.blk.ext x,QQ.ext h.own x⟩
theorem QO.push {OA:Option Addr}{oc:Nat}{op:List Bool}{b0:Bool}(h:QO wx base g gA n gc caps runes A c sn YA yn yc OA oc op){A8:Option Addr}{c8:Nat}{v:Value}(hv:v=.slice A8 (op.length+1) c8)
 (hg:wx.grownBy w8 (OA.map (·.block))) (ho:QQ w8 base 4 1 A8 (op.length+1) c8 (op.map Value.bool++[.bool b0])):QO (w8.setCell ⟨g,5,none⟩ v) base g gA n gc caps runes A c sn YA yn yc A8 c8 (op++[b0]):=by
 subst hv;have b8:=(KpP.of_grown hg).blk h.blk (QK h.own h.blk de);have k9:KpP (·=g) w8 (w8.setCell ⟨g,5,none⟩ (.slice A8 (op.length+1) c8)):=KpP.set (p:=(·=g)) (x:=⟨g,5,none⟩) (KpP.refl _ _) (.inl rfl) _;refine⟨?_,?_⟩
 ·have b:=b8.set 5 (.slice A8 (op.length+1) c8)
  simpa[qC] using b
 ·have h1:=QQ.kp ho k9 (fun b hb e=>QK ho b8 de ((show b=g from e)▸hb))
  simpa using h1
end
def JW (runes:Bool)(l:List Int):Int:=(l.reverse.find? (Qy runes)).getD (-1)
theorem NN (runes:Bool)(l:List Int)(x:Int):JW runes (l++[x])=if Qy runes x=true then x else JW runes l:=by
 unfold JW;rw[List.reverse_append,List.reverse_singleton,List.singleton_append,List.find?_cons];by_cases h:Qy runes x=true
 ·rw[if_pos h];simp[h]
 ·rw[if_neg h];simp[h]
theorem EW {runes:Bool}{c:List Sp}(h:(QL c).any (Qy runes)=true):JW runes (QL c)=zM runes c:=by
 unfold JW zM
 cases hf:(QL c).reverse.find? (Qy runes) with
 | none=>
  obtain⟨y,hy,hv⟩:=List.any_eq_true.1 h;have:=List.find?_eq_none.1 hf y (List.mem_reverse.2 hy);rw[hv] at this;simp at this
 | some y=>rfl
theorem UB {runes:Bool}{c:List Sp}(h:(QL c).any (Qy runes)=false):JW runes (QL c) = -1:=by
 unfold JW
 cases hf:(QL c).reverse.find? (Qy runes) with
 | none=>rfl
 | some y=>
  have h1:=List.mem_reverse.1 (List.mem_of_find?_eq_some hf);have h2:=List.find?_some hf;have h3:(QL c).any (Qy runes)=true:=List.any_eq_true.2 ⟨y,h1,h2⟩;rw[h] at h3;cases h3
def V6 (c:List Sp)(k:Nat):List Int:=QL (c.take k)
theorem NO {c:List Sp}{k:Nat}(h:k<c.length):V6 c (k+1)=V6 c k++[c[k].1]++[c[k].2]:=by
 unfold V6 QL;rw[List.take_succ_eq_append_getElem h,List.flatMap_append]
 simp
theorem RF (c:List Sp):V6 c c.length=QL c:=by unfold V6;rw[List.take_length]
def syU (runes:Bool)(cl:List (List Sp))(i:Nat):List Int:=(zJ runes (cl.take i)).map (zM runes)
theorem IY (runes:Bool)(cl:List (List Sp)):syU runes cl 0=[]:=rfl
theorem dD {runes:Bool}{cl:List (List Sp)}{i:Nat}(h:i<cl.length)(hv:(QL cl[i]).any (Qy runes)=true):syU runes cl (i+1)=syU runes cl i++[JW runes (QL cl[i])]:=by
 unfold syU zJ;rw[List.take_succ_eq_append_getElem h,List.filter_append,List.map_append,EW hv];simp[hv]
theorem iV {runes:Bool}{cl:List (List Sp)}{i:Nat}(h:i<cl.length)(hv:(QL cl[i]).any (Qy runes)=false):syU runes cl (i+1)=syU runes cl i:=by
 unfold syU zJ;rw[List.take_succ_eq_append_getElem h,List.filter_append,List.map_append];simp[hv]
theorem MQ (runes:Bool)(cl:List (List Sp))(i:Nat):(syU runes cl i).length<=i:=by
 unfold syU zJ;rw[List.length_map];refine Nat.le_trans (List.length_filter_le _ _) (by rw[List.length_take];omega)
theorem UC {runes:Bool}{x:Int}(h:Qy runes x=true):0<=x/\x<=1114111:=by
 unfold Qy at h;cases runes
 ·simp only[Bool.false_eq_true,if_false,decide_eq_true_eq] at h;omega
 ·simp only[if_true,Bool.or_eq_true,decide_eq_true_eq] at h;omega
def lw (runes:Bool)(caps:Int)(G:List Ins)(gA:Option Addr)(n gc:Nat)(w:World)(e:Ending)(w':World):Prop:=
 Ext w w'/\((ZW runes caps G≠0/\e=.returned (.tuple #[JU none 0 0 0 false none 0 0 none 0 0 none 0 0,.int .i64 (ZW runes caps G)]))\/
  (ZW runes caps G=0/\∃(SA:Option Addr) (sc:Nat) (xs:List Hl) (YA:Option Addr) (yc:Nat) (OA:Option Addr) (oc:Nat) (op:List Bool),
   e=.returned (.tuple #[JU gA n gc caps runes SA xs.length sc YA (Zj runes G).length yc OA op.length oc,.int .i64 0])/\LN w' SA sc xs/\IL w' YA yc (Zj runes G)/\IB w' OA oc op/\
   GOk runes caps G/\VS G (Zj runes G)=some (QV xs)/\VE G (Zj runes G) (QV xs) op))
end
section
open Go.RowKit
attribute [local go_sem ↓] Go.wp_at_zero Go.wp_at_succ
theorem wI {w:World}{g T:Nat}{a0 a1 a2 a3 a4 a5:Value}(h:Blk w g T #[a0,a1,a2,a3,a4,a5]):w.cell? ⟨g,0,none⟩=some a0/\w.cell? ⟨g,1,none⟩=some a1/\w.cell? ⟨g,2,none⟩=some a2/\w.cell? ⟨g,3,none⟩=some a3/\w.cell? ⟨g,4,none⟩=some a4/\w.cell? ⟨g,5,none⟩=some a5:=
 ⟨h.cell 0,h.cell 1,h.cell 2,h.cell 3,h.cell 4,h.cell 5⟩
theorem aH {P:Prop} (h:P:=by
 go_wp2_with fail
 go_roundw
 case rel=>exact⟨k+1,by go_num,om,by rw[HST2.out],HBs,HXs⟩
 case measure=>simp[intOf];omega):P:=h
theorem Iq (w:World)(gA:Option Addr)(gc:Nat)(hs:List Hin)(runes:Bool)(caps:Int)(hP:PL w gA gc hs)(hS:V3 (QW hs)) :
 Calls Tryz.prog 22 #[QN gA hs.length gc caps runes] w (lw runes caps (QW hs) gA hs.length gc w):=by
 have hgl:=hP.len;have HP:=lh hP;have HS:=lh hS;have EB:=Ext.alloc w (.cells #[.slice gA hs.length gc,.int .i64 caps,.bool runes] 33);have BB:=Blk.new w 33 #[.slice gA hs.length gc,.int .i64 caps,.bool runes];clear hP hS;unfold QN;go_enter Tryz.func22,Tryz.ntmps22
 go_upto_region 1 with fail
 obtain⟨gq,hgq⟩:∃q,q=w.heap.size:=⟨_,rfl⟩
 rw[<-hgq] at BB ⊢;have hgqr:w.heap.size<=gq:=om;generalize hwa:w.alloc (.cells #[.slice gA hs.length gc,.int .i64 caps,.bool runes] 33)=wa at *;have hsa:wa.heap.size=gq+1:=by rw[<-hwa];simp;omega
 have EC:=Ext.alloc wa (.cells #[.slice none 0 0,.int .i64 0,.bool false,.slice none 0 0,.slice none 0 0,.slice none 0 0] 53);have BR:=Blk.new wa 53 #[.slice none 0 0,.int .i64 0,.bool false,.slice none 0 0,.slice none 0 0,.slice none 0 0]
 rw[<-hsa];obtain⟨gr,hgr⟩:∃q,q=wa.heap.size:=⟨_,rfl⟩
 rw[<-hgr] at BR ⊢;have hgrr:w.heap.size<=gr:=om;generalize wa.alloc (.cells #[.slice none 0 0,.int .i64 0,.bool false,.slice none 0 0,.slice none 0 0,.slice none 0 0] 53)=wb at *;have X0:=EB.trans EC;have HBQ:=lh (BB.ext EC);have HBR:=lh BR;clear EB EC BB BR hsa hwa hgq hgr;have q0:wb.cell? ⟨gq,0,none⟩=some (.slice gA hs.length gc):=HBQ.out.cell 0;have q1:wb.cell? ⟨gq,1,none⟩=some (.int .i64 caps):=HBQ.out.cell 1;have q2:wb.cell? ⟨gq,2,none⟩=some (.bool runes):=HBQ.out.cell 2;have HV:=lh (I0 gA gc hs runes caps wb (HP.out.ext X0));unfold QN at HV;obtain⟨E0,hE0⟩:∃E0,Hid (Vq runes caps (QW hs)=E0):=⟨_,lh rfl⟩;rw[hE0.out] at HV;by_cases h0:E0=0
 ·subst h0;have HG:=lh (CN hE0.out);have h8:hs.length<=8192:=by have:=HG.out.len;rw[Qw] at this;omega
  go_upto_region 4 with(go_at_call 74;refine HV.out.mono ?_;rintro e w2 ⟨rfl,x2⟩)
  have X2:=X0.trans x2;have HB2:=lh (HBQ.out.ext x2);have HR2:=lh (HBR.out.ext x2);have hw2:=X2.size;clear q0 q1 q2 HV x2 HBQ HBR X0
  go_upto_region 6 with fail
  go_loopw [5,6] (fun v5 v6 wr=>∃(i:Nat) (A:Option Addr) (c:Nat),v6=.int .i64 i/\i<=hs.length/\v5=.slice A (WP hs i).length c/\Hid (QQ wr w.heap.size 23 1 A (WP hs i).length c (QR (WP hs i)))/\Hid (Ext w wr)/\Hid (Blk wr gq 33 #[.slice gA hs.length gc,.int .i64 caps,.bool runes])/\Hid (Blk wr gr 53 #[.slice none 0 0,.int .i64 0,.bool false,.slice none 0 0,.slice none 0 0,.slice none 0 0])) (fun _ v _=>hs.length-(intOf v).toNat)
  case atStart=>exact⟨0,none,0,rfl,om,rfl,lh (QQ.nil _ _ _ _),lh X2,HB2,HR2⟩
  case round=>
   obtain⟨i,A,c,rfl,hi,rfl,HO,HX,HB,HR⟩:=hrel;clear HB2 HR2 X2;obtain⟨wm,hwm⟩:∃x,x=wr:=⟨_,rfl⟩;subst hwm;have q0:wm.cell? ⟨gq,0,none⟩=some (.slice gA hs.length gc):=HB.out.cell 0;by_cases hlt:i<hs.length
   ·have hiI:(i:Int)<hs.length:=om;obtain⟨pb,po,hgA,c0,c1,c2,c3,c4⟩:=(HP.out.ext HX.out).get hlt;have hgA':=hgA;subst hgA';have HSU:=lh (D9 hlt);have hsl:=ky hs i;generalize hs[i]=hh at *;obtain⟨op,zx,zy,zn,hA,hc,hl⟩:=hh
    simp only at c0 c1 c2 c3 c4 HSU
    clear c1 c2 c3;by_cases h1:op=1
    ·subst h1;obtain⟨iS,jS0,jS1,jS2,jS3⟩:=info_parts vG;have hsu:=HSU.out;rw[if_pos rfl] at hsu;have HSU2:=lh hsu;clear hsu;have hwi:=HX.out.size;have EP2:=Ext.alloc wm (.cells #[.slice hA hl.length hc] 23);have HAPP:=fun(w8:World) (A8:Option Addr) (hg:(wm.alloc (.cells #[.slice hA hl.length hc] 23)).grownBy w8 (A.map (·.block)))=>lh (show Ext w w8/\Blk w8 gq 33 #[.slice (some ⟨pb,po,none⟩) hs.length gc,.int .i64 caps,.bool runes]/\Blk w8 gr 53 #[.slice none 0 0,.int .i64 0,.bool false,.slice none 0 0,.slice none 0 0,.slice none 0 0] from⟨(HX.out.trans EP2).kp (KpP.of_grown hg) (fun i hi=>QQ.row HO.out i hi),(KpP.of_grown hg).blk (HB.out.ext EP2) (QK (QQ.ext HO.out EP2) (HB.out.ext EP2) de),(KpP.of_grown hg).blk (HR.out.ext EP2) (QK (QQ.ext HO.out EP2) (HR.out.ext EP2) de)⟩)
     go_wp2_with (at_builtin;refine Qv _ rfl _ _ _ rfl w.heap.size 23 iS (.slice none 0 0) 1 24 Tryz.underlying125 jS0 jS1 jS2 jS3 rfl om A (WP hs i).length c (QR (WP hs i)) rfl (QQ.ext HO.out (Ext.alloc _ _)) _ 1 1 [.slice hA hl.length hc] rfl rfl (QC (Blk.new _ _ _)) (by intro u hu;simp only[List.mem_cons,List.not_mem_nil,or_false] at hu;rcases hu with rfl;rfl) um om (Nat.le_trans hwi (Ext.alloc _ _).size) ?_;intro A8 c8 w8 ho8 hg8 hat8)
     have HX8:=lh (HAPP w8 A8 hg8).out.1;have HB8:=lh (HAPP w8 A8 hg8).out.2.1;have HR8:=lh (HAPP w8 A8 hg8).out.2.2;have e1:(WP hs i++[(⟨hA,hc,hl⟩:Hs)]).length=(WP hs i).length+1:=by simp
     have HO8:Hid (QQ w8 w.heap.size 23 1 A8 (WP hs (i+1)).length c8 (QR (WP hs (i+1)))):=lh (by
      rw[HSU2.out,e1];have e2:QR (WP hs i++[(⟨hA,hc,hl⟩:Hs)])=QR (WP hs i)++[.slice hA hl.length hc]:=by simp[QR]
      rw[e2];exact ho8)
     have e3:(WP hs (i+1)).length=(WP hs i).length+1:=by rw[HSU2.out,e1]
     have HE3:=lh e3;clear e1 e3 ho8 hg8 hat8 HAPP EP2;go_roundw
     case rel=>exact⟨i+1,A8,c8,by go_num,om,by rw[HE3.out],HO8,HX8,HB8,HR8⟩
     case measure=>simp[intOf];omega
    ·have h1f:(op == 1)=false:=by simp[h1]
     have hsu:=HSU.out;rw[if_neg h1] at hsu;have HSU2:=lh hsu;clear hsu
     go_wp2_with fail
     go_roundw
     case rel=>exact⟨i+1,A,c,by go_num,om,by rw[HSU2.out],by rw[HSU2.out];exact HO,HX,HB,HR⟩
     case measure=>simp[intOf];omega
   ·have hiI:¬(i:Int)<hs.length:=om;obtain rfl:hs.length=i:=om;have hck:=hE0.out;have HSA:=lh (IX hs);have hsl:=ky hs hs.length;have HSW:=lh (show LLS wm A c (WP hs hs.length) from LLS.of_own HO.out (fun z hz=>by
     obtain⟨y,hy,rfl⟩:=IV hz;exact(HP.out.sl y hy).ext HX.out))
    obtain⟨LS,hLS⟩:∃LS,Hid (WP hs hs.length=LS):=⟨_,lh rfl⟩;rw[hLS.out] at HSA HSW hsl ⊢;have hl1:LS.length<=1024:=by
     have h:=HS.out.sets
     rw[<-HSA.out,List.length_map] at h;exact h
    have q2:wm.cell? ⟨gq,2,none⟩=some (.bool runes):=HB.out.cell 2;have HSP:=lh (I2 A c LS (Wj runes) wm HSW.out (by have:=yk runes;unfold I64;omega) hl1 (by rw[HSA.out];exact HS.out.flat) (by rw[HSA.out];exact HS.out.ends _));rw[HSA.out] at HSP;obtain⟨SE,hSE⟩:∃SE,Hid (W1 (Ww (QW hs)) (Wj runes)=SE):=⟨_,lh rfl⟩;clear hck HO
    go_upto_if 53 with fail
    clear q0
    go_cut [7] from 54 to 54 (fun v7 wx=>v7=.int .i64 (Wj runes)/\wx=wm)
    case first=>
     by_cases hr:runes=true
     ·subst hr
      go_wp2_with fail
      go_meet
      exact⟨rfl,rfl⟩
     ·have hr2:runes=false:=by simpa using hr
      subst hr2
      go_wp2_with fail
      go_meet
      exact⟨rfl,rfl⟩
    case rest=>
     obtain⟨rfl,hwc⟩:=hcut;subst hwc;clear q2
     go_upto_region 14 with(go_at_call 75;refine HSP.out.mono ?_;rintro e w4 ⟨O,cO,ks,rfl,hL4,hk4,x4⟩)
     rw[hSE.out] at hk4 ⊢;have HX4:=lh (HX.out.trans x4);have HB4:=lh (HB.out.ext x4);have HR4:=lh (HR.out.ext x4);clear HX HB HR HSP HSW x4;by_cases hs0:SE=0
     ·subst hs0;rw[if_pos rfl] at hk4;have hks:ks.length<=1000:=by
       have h:=zP HS.out (Wj runes)
       rw[<-hk4,List.length_map] at h;exact h
      have q0:=HB4.out.cell 0;have q1:=HB4.out.cell 1;have q2:=HB4.out.cell 2
      go_upto_region 17 with fail
      have BM:=Blk.new w4 53 (qC gA hs.length gc caps runes none 0 0 none 0 0 none 0 0);have EM:=Ext.alloc w4 (.cells (qC gA hs.length gc caps runes none 0 0 none 0 0 none 0 0) 53);obtain⟨g,hg⟩:∃q,q=w4.heap.size:=⟨_,rfl⟩
      rw[<-hg] at BM ⊢;change Code.wp _ _ _ _ (w4.alloc (.cells (qC gA hs.length gc caps runes none 0 0 none 0 0 none 0 0) 53));generalize w4.alloc (.cells (qC gA hs.length gc caps runes none 0 0 none 0 0 none 0 0) 53)=w5 at *;have HQ5:Hid (QY w5 w4.heap.size g gA hs.length gc caps runes none 0 (syU runes (ks.map (·.l)) 0)):=lh ⟨by rw[IY];exact BM,QQ.nil _ _ _ _,by rw[IY];simp⟩;have HXM:=lh EM;have HL4:=lh hL4;have HK4:=lh hk4;have hgg:w4.heap.size<=g:=om;have hOl:=hL4.len;clear EM BM hg hL4 hk4 q0 q1 q2
      go_upto_region 18 with fail
      go_loopw [11] (fun v11 wr=>∃(i:Nat) (A:Option Addr) (c:Nat),v11=.int .i64 i/\i<=ks.length/\Hid (QY wr w4.heap.size g gA hs.length gc caps runes A c (syU runes (ks.map (·.l)) i))/\Hid (Ext w4 wr)) (fun v _=>ks.length-(intOf v).toNat)
      case atStart=>exact⟨0,none,0,rfl,om,HQ5,HXM⟩
      case round=>
       obtain⟨i,YA,yc,rfl,hi,HQ,HX⟩:=hrel;clear HQ5 HXM;obtain⟨wm,hwm⟩:∃x,x=wr:=⟨_,rfl⟩;subst hwm;by_cases hlt:i<ks.length
       ·have hiI:(i:Int)<ks.length:=om;obtain⟨ob,oo,hOA,z0⟩:=(HL4.out.ext HX.out).get hlt;have hOA':=hOA;subst hOA';have HSLi:=lh ((HL4.out.sl _ (List.getElem_mem hlt)).ext HX.out);have HYES:=lh (show(QL ks[i].l).any (Qy runes)=true->syU runes (ks.map (·.l)) (i+1)=syU runes (ks.map (·.l)) i++[JW runes (QL ks[i].l)] from fun hv=>by
         have h:=dD (cl:=ks.map (·.l)) (i:=i) (by simpa using hlt) (by simpa using hv)
         simpa using h)
        have HNO:=lh (show(QL ks[i].l).any (Qy runes)=false->syU runes (ks.map (·.l)) (i+1)=syU runes (ks.map (·.l)) i from fun hv=>iV (cl:=ks.map (·.l)) (i:=i) (by simpa using hlt) (by simpa using hv));have hsy:=MQ runes (ks.map (·.l)) i;generalize ks[i]=kk at *;obtain⟨kA,kc,kl⟩:=kk
        simp only at z0 HSLi HYES HNO
        have hkl:=HSLi.out.len
        go_upto_region 22 with fail
        go_loopw [12,13] (fun v12 v13 wi=>∃(j:Nat),v13=.int .i64 j/\j<=kl.length/\v12=.int .i64 (JW runes (V6 kl j))/\Hid (Ext wm wi)) (fun _ v _=>kl.length-(intOf v).toNat)
        case atStart=>exact⟨0,rfl,om,rfl,lh (Ext.rfl' _)⟩
        case round=>
         obtain⟨j,rfl,hj,rfl,HXi⟩:=hrel;have z1:=HXi.out.cell z0;by_cases hlt2:j<kl.length
         ·have hjI:(j:Int)<kl.length:=om;obtain⟨sb,so,hkA,s0,s1⟩:=(HSLi.out.ext HXi.out).get hlt2;have hkA':=hkA;subst hkA';have HEU:=lh (NO hlt2);have hs64:=HSLi.out.wf hlt2;generalize kl[j]=sp at *;obtain⟨lo,hi2⟩:=sp
          simp only at s0 s1 HEU
          go_upto_region 24 with fail
          have j0:=kc0 z1;have j1:=kc0 s0;have j2:=kc0 s1;refine Xr.start [] kr ?_;refine Xtk 0 ?_
          iterate 15(refine Xtn ?_)
          refine Xcl 16 fun w6 hE6 hK6 K hKK=>?_;have EA:=Ext.alloc w6 (.cells #[.int .i64 lo,.int .i64 hi2] 3);have BA:=Blk.new w6 3 #[.int .i64 lo,.int .i64 hi2];go_simp;refine hKK _ _ EA ?_;clear hKK;obtain⟨gB,hgB⟩:∃q,q=w6.heap.size:=⟨_,rfl⟩
          rw[<-hgB] at BA ⊢;clear hgB;generalize w6.alloc (.cells #[.int .i64 lo,.int .i64 hi2] 3)=w7 at *;refine ptm ?_;refine Xtk 17 ?_;refine Xdn fun w8 hE8 hK8=>?_;have HX8:=lh (((HXi.out.trans hE6).trans EA).trans hE8);have HBA:=lh (BA.ext hE8);clear j0 j1 j2 s0 s1 z1 hE6 hK6 hE8 hK8 EA BA HXi
          go_upto_region 26 with fail
          go_loopw [12,15] (fun v12 v15 wj=>∃(k:Nat),v15=.int .i64 k/\k<=2/\v12=.int .i64 (JW runes (V6 kl j++[lo,hi2].take k))/\Hid (Blk wj gB 3 #[.int .i64 lo,.int .i64 hi2])/\Hid (Ext wm wj)) (fun _ v _=>2-(intOf v).toNat)
          case atStart=>exact⟨0,rfl,om,by rw[List.take_zero,List.append_nil],HBA,HX8⟩
          case round=>
           obtain⟨k,rfl,hk,rfl,HBj,HXj⟩:=hrel;by_cases hlt3:k<2
           ·have hkI:(k:Int)<2:=om;obtain⟨x,hx⟩:∃x,Hid ([lo,hi2][k]'hlt3=x):=⟨_,lh rfl⟩;have ck:wr.cell? ⟨gB,k,none⟩=some (.int .i64 x):=by
             rw[<-hx.out];rcases(show k=0\/k=1 by omega) with e|e
             ·subst e;exact HBj.out.cell 0
             ·subst e;exact HBj.out.cell 1
            have HST:=lh (show JW runes (V6 kl j++[lo,hi2].take (k+1))=if Qy runes x=true then x else JW runes (V6 kl j++[lo,hi2].take k) by
             rw[List.take_succ_eq_append_getElem hlt3,<-List.append_assoc,NN,hx.out])
            have q2:wr.cell? ⟨gq,2,none⟩=some (.bool runes):=(HB4.out.ext (HX.out.trans HXj.out)).cell 2;generalize JW runes (V6 kl j++[lo,hi2].take k)=y at *;have HSY:=fun(w':World)=>lh (OB x runes w')
            go_upto_region 28 with fail
            have j0:=kc0 ck;have j1:=kc0 q2;refine Xr.start [] kr ?_;refine Xtk 0 ?_
            iterate 5(refine Xtn ?_)
            refine Xcl 6 fun wp hEp hKp K hKK=>?_;go_simp;refine(HSY wp).out.mono ?_;rintro e wq ⟨rfl,xq⟩;refine hKK _ _ xq ?_;clear hKK;refine ptm ?_;refine Xdn fun ws hEs hKs=>?_;have xs3:=(hEp.trans xq).trans hEs;have HXs:=lh (HXj.out.trans xs3);have HBs:=lh (HBj.out.ext xs3);have cs:=xs3.cell ck;clear j0 j1 q2 ck hEp hKp xq hEs hKs xs3 HBj HXj HSY;by_cases hv:Qy runes x=true
            ·rw[hv];have hst:=HST.out;rw[if_pos hv] at hst;have HST2:=lh hst;clear hst HST;exact aH
            ·have hst:=HST.out;rw[if_neg hv] at hst;have HST2:=lh hst;clear hst HST;have hv2:Qy runes x=false:=by simpa using hv
             rw[hv2];exact aH
           ·have hkI:¬(k:Int)<2:=om;obtain rfl:2=k:=om;have e:V6 kl j++[lo,hi2].take 2=V6 kl (j+1):=by rw[HEU.out];simp
            rw[e];clear e
            go_wp2_with fail
            go_roundw
            case rel=>exact⟨j+1,by go_num,om,rfl,HXj⟩
            case measure=>simp[intOf];omega
         ·have hjI:¬(j:Int)<kl.length:=om;obtain rfl:kl.length=j:=om;rw[RF];by_cases hv:(QL kl).any (Qy runes)=true
          ·have hy:=UC (LK hv).2
           rw[<-EW hv] at hy;have HY2:=lh (HYES.out hv);have HQ2:=lh (HQ.out.ext HXi.out);have HX2:=lh (HX.out.trans HXi.out);generalize JW runes (QL kl)=y at *;have hy0:0<=y:=hy.1;have HYI:=lh (show I64 y by unfold I64;omega);generalize syU runes (ks.map (·.l)) i=ys at *;have hyl:ys.length<=1000:=om;have c4:wr.cell? ⟨g,4,none⟩=some (.slice YA ys.length yc):=HQ2.out.blk.cell 4;have HBL:=fun(w8:World) (hg:wr.grownBy w8 (YA.map (·.block)))=>(KpP.of_grown hg).blk HQ2.out.blk (QK HQ2.out.own HQ2.out.blk de);clear hv HYES HNO HQ HX HXi
           go_wp2_with (at_builtin;refine KN (w1:=wr) rfl _ _ _ rfl 3 YF Tryz.underlying22 w4 HX2.out y rfl YA yc ys rfl HQ2.out.own rfl om (ys++[y]) rfl ?_;intro A8 c8 w8 ho8 hx8 hg8 hat8;have cl8:=(HBL w8 hg8).cell 4;have fl8:=(HBL w8 hg8).frz 4)
           have HQ8:=lh (HQ2.out.push HYI.out (A8:=A8) (c8:=c8) (v:=.slice A8 (ys.length+1) c8) si hg8 ho8);have HX8:=lh ((hx8.kp (KpP.set (p:=(·=g)) (x:=⟨g,4,none⟩) (KpP.refl _ _) (.inl rfl) (.slice A8 (ys.length+1) c8)) (fun i hi=>by have e:i=g:=hi;omega)));go_roundw
           case rel=>exact⟨i+1,A8,c8,by go_num,om,by rw[HY2.out];exact HQ8,HX8⟩
           case measure=>simp[intOf];omega
          ·have hv2:(QL kl).any (Qy runes)=false:=by simpa using hv
           rw[UB hv2];have HN2:=lh (HNO.out hv2);have HQ2:=lh (HQ.out.ext HXi.out);have HX2:=lh (HX.out.trans HXi.out);clear hv hv2 HYES HNO
           go_wp2_with fail
           go_roundw
           case rel=>exact⟨i+1,YA,yc,by go_num,om,by rw[HN2.out];exact HQ2,HX2⟩
           case measure=>simp[intOf];omega
       ·have hiI:¬(i:Int)<ks.length:=om;obtain rfl:ks.length=i:=om;have e:syU runes (ks.map (·.l)) ks.length=Zj runes (QW hs):=by
         unfold syU;rw[show(ks.map (·.l)).take ks.length=ks.map (·.l) from List.take_of_length_le si,HK4.out]
         rfl
        have hyl:=MQ runes (ks.map (·.l)) ks.length;rw[e] at HQ hyl;obtain⟨ys,hys⟩:∃ys,Hid (Zj runes (QW hs)=ys):=⟨_,lh rfl⟩;rw[hys.out] at HQ hyl;clear e;have q0:wm.cell? ⟨gq,0,none⟩=some (.slice gA hs.length gc):=(HB4.out.ext HX.out).cell 0;have q1:wm.cell? ⟨gq,1,none⟩=some (.int .i64 caps):=(HB4.out.ext HX.out).cell 1;have q2:wm.cell? ⟨gq,2,none⟩=some (.bool runes):=(HB4.out.ext HX.out).cell 2;have EZ:=Ext.alloc wm (.cells #[.int .i64 0] 3);have HIZ:IL (wm.alloc (.cells #[.int .i64 0] 3)) (some ⟨wm.heap.size,0,none⟩) 1 (QJ [0]):=IL.one (Blk.new wm 3 #[.int .i64 0]) (show I64 0 from by unfold I64;decide);have HSA2:=lh (vj gA gc hs runes caps HG.out _ (HP.out.ext ((HX4.out.trans HX.out).trans EZ)) (some ⟨wm.heap.size,0,none⟩) 1 [0] HIZ (fun q hq=>by
         have:q=0:=by simpa using hq
         have h:=HG.out.len;rw[Qw] at h;omega))
        unfold QN at HSA2
        go_upto_region 33 with(go_at_call 40;refine HSA2.out.mono ?_;rintro e wS ⟨TA,tc,rfl,hTI,xS,fT⟩)
        have xmS:=EZ.trans xS;have HXS:=lh (HX.out.trans xmS);have HQS:=lh (HQ.out.ext xmS);have HTI:=lh hTI;have hTf:∀b,TA.map (·.block)=some b->wm.heap.size<=b:=fun b hb=>Nat.le_trans EZ.size (fT b hb);have HTF:=lh hTf;have hgS:g<wm.heap.size:=HQ.out.blk.lt;have hTlen:=hTI.len;clear q0 q1 q2 EZ HIZ HSA2 hTI xS fT xmS hTf HQ HX;have HQ0:Hid (QS wS wS.heap.size g gA hs.length gc caps runes none 0 [] YA ys.length yc):=lh ⟨HQS.out.blk,SZ.nil _ _,by simp⟩;have HIY:=lh (IL.of_own HQS.out.own HQS.out.rng);have HYN:=lh (show ∀b,YA.map (·.block)=some b->b≠g from fun b hb e=>QK HQS.out.own HQS.out.blk de (e▸hb));have HYW:=lh (show ∀b,YA.map (·.block)=some b->w4.heap.size<=b from fun b hb=>QQ.row HQS.out.own b hb);obtain⟨t,ht⟩:∃t,Hid (QX (QW hs) [0]=t):=⟨_,lh rfl⟩;rw[ht.out] at HTI hTlen ⊢;have hgr4:gr<w4.heap.size:=HR4.out.lt;obtain⟨iL,jL0,jL1,jL2,jL3⟩:=info_parts OE;clear HQS
        go_upto_if 126 with fail
        go_cut [16] from 126 to 132 (fun v16 wx=>v16=.slice TA (QJ t).length tc/\∃(SA:Option Addr) (sc:Nat) (xs:List Hl),Hid (QV xs=grow [] t)/\Hid (QS wx wS.heap.size g gA hs.length gc caps runes SA sc xs YA ys.length yc)/\Hid (KpP (·=g) wS wx))
        case first=>
         by_cases h0:t=[]
         ·have h0I:¬(0:Int)<(QJ t).length:=by rw[h0];simp[QJ]
          have HE:=lh (show QV []=grow [] t by rw[h0];rfl);clear h0
          go_wp2_with fail
          go_meet
          exact⟨rfl,none,0,[],HE,HQ0,lh (KpP.refl _ _)⟩
         ·have h0I:(0:Int)<(QJ t).length:=by
           rw[WY];have:=List.length_pos_iff.2 h0;omega
          have HE:=lh (show QV [(⟨TA,tc,t⟩:Hl)]=grow [] t by unfold grow QV;simp[h0]);clear h0;have c3:wS.cell? ⟨g,3,none⟩=some (.slice none 0 0):=HQ0.out.blk.cell 3;have EP:=Ext.alloc wS (.cells #[.slice TA (QJ t).length tc] 22);have HBL:=fun(w8:World) (hg:(wS.alloc (.cells #[.slice TA (QJ t).length tc] 22)).grownBy w8 none)=>(KpP.of_grown (A:=none) hg).blk (HQ0.out.blk.ext EP) si
          go_wp2_with (at_builtin;refine Qv _ rfl _ _ _ rfl wS.heap.size 22 iL (.slice none 0 0) 1 24 Tryz.underlying50 jL0 jL1 jL2 jL3 rfl om none 0 0 (Zz []) rfl (QQ.nil _ _ _ _) _ 1 1 [.slice TA (QJ t).length tc] rfl rfl (QC (Blk.new _ _ _)) (by intro u hu;obtain rfl:=List.mem_singleton.1 hu;rfl) um om (Ext.alloc _ _).size ?_;intro A8 c8 w8 ho8 hg8 hat8;have cl8:=(HBL w8 hg8).cell 3;have fl8:=(HBL w8 hg8).frz 3)
          have HQ8:=lh (HQ0.out.push (z:=⟨TA,tc,t⟩) HTI.out (fun _ _ _=>by simp) (fun _ b hb=>by have:=HTF.out b hb;omega) (A8:=A8) (c8:=c8) (v:=.slice A8 1 c8) rfl ho8 hg8 hat8);have K8:KpP (·=g) wS (w8.setCell ⟨g,3,none⟩ (.slice A8 1 c8)):=KpP.set (p:=(·=g)) (x:=⟨g,3,none⟩) (KpP.of_ext (EP.kp (KpP.of_grown (A:=none) hg8) (fun i hi=>by simp at hi))) (.inl rfl) _
          go_meet
          exact⟨rfl,A8,c8,[⟨TA,tc,t⟩],HE,HQ8,lh K8⟩
        case rest=>
         obtain⟨rfl,SA,sc,xs,HX0,HQX,HKX⟩:=hcut;clear HQ0 HTI HTF hTlen;obtain⟨RES,hRES⟩:∃RES,Hid (VS (QW hs) ys=RES):=⟨_,lh rfl⟩;have HRI:Hid (RfI (QW hs) ys RES (QV xs) 0):=lh (by rw[HX0.out,<-ht.out,<-hRES.out];exact RfI.start _ _);have HNX:=fun(w:World) (hP:PL w gA gc hs) A c l hL hl hll x=>lh (xT gA gc hs runes caps HG.out w hP A c l hL hl hll x);have HPLC:=fun(A:Option Addr) (c:Nat) (hl:List Hl) (S:Option Addr) (sc:Nat) (s:List Nat) (w:World) (hL:LN w A c hl) (hS:IL w S sc (QJ s))=>lh (Ox gA hs.length gc caps runes A c hl YA ys.length yc none 0 0 S sc s w hL hS);unfold QN at HNX;unfold JU at HPLC;have hyl2:ys.length<=1000:=om;have hgw:w4.heap.size<=wS.heap.size:=HXS.out.size;have hw4:w.heap.size<=w4.heap.size:=HX4.out.size
         go_upto_region 36 with fail
         go_loopw [17] (fun v17 wr=>∃(i:Nat) (SA:Option Addr) (sc:Nat) (xs:List Hl),v17=.int .i64 i/\Hid (RfI (QW hs) ys RES (QV xs) i)/\Hid (QS wr wS.heap.size g gA hs.length gc caps runes SA sc xs YA ys.length yc)/\Hid (KpP (·=g) wS wr)) (fun v _=>1030-(intOf v).toNat)
         case atStart=>exact⟨0,SA,sc,xs,rfl,HRI,HQX,HKX⟩
         case round=>
          clear HRI HQX HKX HX0;obtain⟨i,SA,sc,xs,rfl,HRI,HQX,HKX⟩:=hrel;have hil:=HRI.out.il;have hxl:=HRI.out.len;rw[QF] at hil hxl;have c3:wr.cell? ⟨g,3,none⟩=some (.slice SA xs.length sc):=HQX.out.blk.cell 3;by_cases hlt:i<xs.length
          ·have hiI:(i:Int)<xs.length:=om;by_cases ho:1024<xs.length
           ·have hoI:(1024:Int)<xs.length:=om;have hn:=HRI.out.over (by rw[QF];exact ho);have hc:ZW runes caps (QW hs)=4:=by
             unfold ZW;rw[hE0.out,hSE.out,jU HG.out,hys.out,hRES.out,hn]
             simp
            have HC:=lh hc;have HRr:=lh (HKX.out.blk (HR4.out.ext HXS.out) om);have HXr:Hid (Ext w wr):=lh ((HX4.out.trans HXS.out).kp HKX.out (fun i hi=>by have e:i=g:=hi;omega));clear hc hn;obtain⟨f0,f1,f2,f3,f4,f5⟩:=FA HRr.out;obtain⟨r0,r1,r2,r3,r4,r5⟩:=wI HRr.out
            go_wp2_with fail
            have xz:=kF (gA:=none) (n:=0) (gc:=0) (caps:=0) (runes:=false) (SA:=none) (sn:=0) (sc:=0) (YA:=none) (yn:=0) (yc:=0) (OA:=none) (on:=0) (oc:=0) HXr.out hgrr;have HZ:=kE (gA:=none) (n:=0) (gc:=0) (caps:=0) (runes:=false) (SA:=none) (sn:=0) (sc:=0) (YA:=none) (yn:=0) (yc:=0) (OA:=none) (on:=0) (oc:=0) HRr.out;change bodyPost _ _ _ _ _ (qK wr gr none 0 0 0 false none 0 0 none 0 0 none 0 0);generalize qK wr gr none 0 0 0 false none 0 0 none 0 0 none 0 0=wz at *;obtain⟨z0,z1,z2,z3,z4,z5⟩:=YY HZ;exact bodyPost_ret (v:=.tuple #[JU none 0 0 0 false none 0 0 none 0 0 none 0 0,.int .i64 4]) (by simp[results,Tryz.results22,go_sem,z0,z1,z2,z3,z4,z5,JU]) rfl ⟨xz,.inl ⟨by rw[HC.out];decide,by rw[HC.out]⟩⟩
           ·have hoI:¬(1024:Int)<xs.length:=om;have HSTP:=lh (HRI.out.step (by rw[QF];exact hlt) (by rw[QF];exact ho));have HLT:=lh (HRI.out.lt _ (List.getElem_mem (show i<(QV xs).length by rw[QF];exact hlt)));have HM0:=lh (show QV xs=W3 (QW hs) ys (QV xs) ((QV xs)[i]'(by rw[QF];exact hlt)) 0 from(zF _ _ _ _).symm);have hiL:i<(QV xs).length:=by rw[QF];exact hlt
            have hLl:(QV xs).length<=1024:=by rw[QF];omega
            have HGI:=lh (show(QV xs)[i]? = some ((QV xs)[i]'hiL) from List.getElem?_eq_getElem hiL);generalize (QV xs)[i]'hiL=l0 at *;obtain⟨L0,hL0⟩:∃L0,Hid (QV xs=L0):=⟨_,lh rfl⟩;rw[hL0.out] at HSTP HGI hLl hiL;have HM1:Hid (QV xs=W3 (QW hs) ys L0 l0 0):=lh (by rw[zF];exact hL0.out);clear HM0 hL0;rw[Qw] at HLT
            go_upto_region 41 with fail
            go_loopw [18] (fun v18 wi=>∃(k:Nat) (SA:Option Addr) (sc:Nat) (xs2:List Hl),v18=.int .i64 k/\k<=ys.length/\Hid (QV xs2=W3 (QW hs) ys L0 l0 k)/\Hid (QS wi wS.heap.size g gA hs.length gc caps runes SA sc xs2 YA ys.length yc)/\Hid (KpP (·=g) wS wi)) (fun v _=>ys.length-(intOf v).toNat)
            case atStart=>exact⟨0,SA,sc,xs,rfl,om,HM1,HQX,HKX⟩
            case round=>
             clear HQX HKX HM1 c3 HRI;obtain⟨k,SA,sc,xs2,rfl,hk,HM,HQ,HK⟩:=hrel;have hx2:xs2.length<=2024:=by
              have h:=kY (QW hs) ys L0 l0 k
              rw[<-HM.out,QF] at h;omega
             have c4:wr.cell? ⟨g,4,none⟩=some (.slice YA ys.length yc):=HQ.out.blk.cell 4;by_cases hkt:k<ys.length
             ·have hkI:(k:Int)<ys.length:=om;have hxi:∃hi2:i<xs2.length,xs2[i].l=l0:=by
               obtain⟨t,h⟩:=UJ (QW hs) ys L0 l0 k;have h2:(QV xs2)[i]? = some l0:=by
                rw[HM.out,h,List.getElem?_append_left hiL];exact HGI.out
               unfold QV at h2;rw[List.getElem?_map] at h2;obtain⟨z,hz,e⟩:=Option.map_eq_some_iff.1 h2;obtain⟨h3,h4⟩:=List.getElem?_eq_some_iff.1 hz;exact⟨h3,by rw[h4];exact e⟩
              obtain⟨hi2,hxl0⟩:=hxi;have hi2I:(i:Int)<xs2.length:=om;obtain⟨sb,so,hSA,s0⟩:=HQ.out.sz.ln.get hi2;have hSA':=hSA;subst hSA';have hilx:=HQ.out.sz.il _ (List.mem_map_of_mem (f:=Hl.z) (List.getElem_mem hi2));simp only[Hl.z] at hilx;have HIYr:=lh (HIY.out.kpz HK.out (fun _ b hb e=>HYN.out b hb e));obtain⟨yb,yo,hYA,y0⟩:=HIYr.out.get hkt;have hYA':=hYA;subst hYA';have HSUC:=lh (YO (QW hs) ys L0 l0 hkt)
              rw[<-HM.out] at HSUC;generalize ys[k]=y at *;obtain⟨XX,hXX⟩:∃z,Hid (xs2[i]=z):=⟨_,lh rfl⟩;rw[hXX.out] at hxl0 s0 hilx;obtain⟨XA,xc,xl⟩:=XX
              simp only at hxl0 s0 hilx
              subst hxl0;have hgq4:gq<w4.heap.size:=HB4.out.lt;have HBr:=lh (HK.out.blk (HB4.out.ext HXS.out) om);have HXr:Hid (Ext w wr):=lh ((HX4.out.trans HXS.out).kp HK.out (fun i hi=>by have e:i=g:=hi;omega));have HPr:=lh (HP.out.ext HXr.out);have q0:wr.cell? ⟨gq,0,none⟩=some (.slice gA hs.length gc):=HBr.out.cell 0;have q1:wr.cell? ⟨gq,1,none⟩=some (.int .i64 caps):=HBr.out.cell 1;have q2:wr.cell? ⟨gq,2,none⟩=some (.bool runes):=HBr.out.cell 2;have c3:wr.cell? ⟨g,3,none⟩=some (.slice (some ⟨sb,so,none⟩) xs2.length sc):=HQ.out.blk.cell 3;have HNC:=fun(w':World) (h:Ext wr w')=>HNX w' (HPr.out.ext h) XA xc xl (hilx.ext h) HLT.out.1 (Nat.le_trans HLT.out.2 h8) y;obtain⟨t2,ht2⟩:∃t2,Hid (QZ (QW hs) xl y=t2):=⟨_,lh rfl⟩;rw[ht2.out] at HSUC;simp only[ht2.out] at HNC
              go_upto_region 43 with fail
              have k0:=kc0 q0;have k1:=kc0 q1;have k2:=kc0 q2;have k3:=kc0 c3;have k4:=kc0 c4;have k5:=kc0 s0;have k6:=kc0 y0;refine Xr.start [] kr ?_;refine Xtk 0 ?_
              iterate 10(refine Xtn ?_)
              refine Xcl 11 fun wp hEp hKp K hKK=>?_;go_simp;refine(HNC wp hEp).out.mono ?_;rintro e wq ⟨T,tc2,rfl,hT,xq,fT⟩;refine hKK _ _ xq ?_;clear hKK;refine ptm ?_;refine Xtk 12 ?_;refine Xdn fun ws hEs hKs=>?_;have xs3:=(hEp.trans xq).trans hEs;have HTs:=lh (hT.ext hEs);have hTs:=HTs.out.len;have HTf:=lh (show ∀b,T.map (·.block)=some b->wr.heap.size<=b from fun b hb=>Nat.le_trans hEp.size (fT b hb));have HQs:=lh (HQ.out.ext xs3);have HKs:=lh (HK.out.trans (KpP.of_ext xs3));have hgr3:g<wr.heap.size:=HQ.out.blk.lt;have hsb:sb<wr.heap.size:=World.block_lt_of_cell? _ _ s0;clear k0 k1 k2 k3 k4 k5 k6 q0 q1 q2 c3 c4 s0 y0 hEp hKp hT xq fT hEs hKs HNC HIYr hilx HBr HPr HQ HK xs3;obtain⟨q0,q1,q2,q3,q4,q5⟩:=YY HQs.out.blk;have HPL:=HPLC (some ⟨sb,so,none⟩) sc xs2 T tc2 t2 ws HQs.out.sz.ln HTs.out;have HTL:=lh (WY t2);by_cases ht0:t2=[]
              ·have h0I:¬(0:Int)<(QJ t2).length:=by rw[ht0];simp[QJ]
               have HE:Hid (QV xs2=W3 (QW hs) ys L0 xl (k+1)):=lh (by rw[HSUC.out];unfold grow;rw[if_pos (.inl ht0)]);clear ht0 HPL
               go_wp2_with fail
               go_roundw
               case rel=>exact⟨k+1,_,sc,xs2,by go_num,om,HE,HQs,HKs⟩
               case measure=>simp[intOf];omega
              ·have h0I:(0:Int)<(QJ t2).length:=by
                rw[HTL.out];have:=List.length_pos_iff.2 ht0;omega
               by_cases hm:t2∈QV xs2
               ·have HE:Hid (QV xs2=W3 (QW hs) ys L0 xl (k+1)):=lh (by rw[HSUC.out];unfold grow;rw[if_pos (.inr hm)]);obtain⟨p,hp⟩:∃p:Nat,plc (QV xs2) t2=p:=⟨_,by unfold plc;rw[if_pos hm]⟩;rw[hp] at HPL;have hp0:¬(p:Int)<0:=om;clear hm hp ht0
                go_upto_region 42 with(go_at_call 78;refine HPL.out.mono ?_;rintro e w11 ⟨rfl,x11⟩)
                have HQ11:=lh (HQs.out.ext x11);have HK11:=lh (HKs.out.trans (KpP.of_ext x11));clear q0 q1 q2 q3 q4 q5 HQs HKs x11
                go_wp2_with fail
                go_roundw
                case rel=>exact⟨k+1,_,sc,xs2,by go_num,om,HE,HQ11,HK11⟩
                case measure=>simp[intOf];omega
               ·have hp:plc (QV xs2) t2 = -1:=by unfold plc;rw[if_neg hm]
                rw[hp] at HPL;have HE:Hid (QV (xs2++[(⟨T,tc2,t2⟩:Hl)])=W3 (QW hs) ys L0 xl (k+1)):=lh (by
                 rw[HSUC.out];unfold grow;rw[if_neg (fun h=>h.elim ht0 hm)];simp[QV])
                clear hm hp ht0
                go_upto_region 45 with(go_at_call 78;refine HPL.out.mono ?_;rintro e w11 ⟨rfl,x11⟩)
                have HQ11:=lh (HQs.out.ext x11);have HK11:=lh (HKs.out.trans (KpP.of_ext x11));have HT11:=lh (HTs.out.ext x11);have h11:=x11.size;clear q0 q1 q2 q3 q4 q5 HQs HKs HTs x11;have c3:w11.cell? ⟨g,3,none⟩=some (.slice (some ⟨sb,so,none⟩) xs2.length sc):=HQ11.out.blk.cell 3;have EP:=Ext.alloc w11 (.cells #[.slice T (QJ t2).length tc2] 22);have hEP:=Nat.le_trans HK11.out.size EP.size;have HBL:=fun(w8:World) (hg:(w11.alloc (.cells #[.slice T (QJ t2).length tc2] 22)).grownBy w8 ((some (⟨sb,so,none⟩:Addr)).map (·.block)))=>(KpP.of_grown hg).blk (HQ11.out.blk.ext EP) (QK (QQ.ext HQ11.out.own EP) (HQ11.out.blk.ext EP) de);have HE3:=lh (show(xs2++[(⟨T,tc2,t2⟩:Hl)]).length=xs2.length+1 by simp)
                go_upto_region 42 with(at_builtin;refine Qv _ rfl _ _ _ rfl wS.heap.size 22 iL (.slice none 0 0) 1 24 Tryz.underlying50 jL0 jL1 jL2 jL3 rfl om (some ⟨sb,so,none⟩) xs2.length sc (Zz xs2) rfl (QQ.ext HQ11.out.own (Ext.alloc _ _)) _ 1 1 [.slice T (QJ t2).length tc2] rfl rfl (QC (Blk.new _ _ _)) (by intro u hu;obtain rfl:=List.mem_singleton.1 hu;rfl) um om hEP ?_;intro A8 c8 w8 ho8 hg8 hat8;have cl8:=(HBL w8 hg8).cell 3;have fl8:=(HBL w8 hg8).frz 3)
                have HQ8:=lh (HQ11.out.push (z:=⟨T,tc2,t2⟩) HT11.out (fun hx b hb e=>by
                 have h1:=HTf.out b hb;have h2:sb=b:=by simpa using e
                 omega) (fun _ b hb=>by have:=HTf.out b hb;omega) (A8:=A8) (c8:=c8) (v:=.slice A8 (xs2.length+1) c8) rfl ho8 hg8 hat8)
                have HK8:Hid (KpP (·=g) wS (w8.setCell ⟨g,3,none⟩ (.slice A8 (xs2.length+1) c8))):=lh (KpP.chain (HK11.out.trans (KpP.of_ext EP)) (YX g 3 hg8 (Ext.rfl' w8) _) (fun b hb=>hb.elim (fun h=>.inr (QQ.row HQ11.out.own b h)) .inl));clear cl8 fl8 ho8 hg8 hat8 HBL c3 EP HPL
                go_wp2_with fail
                go_roundw
                case rel=>exact⟨k+1,A8,c8,xs2++[⟨T,tc2,t2⟩],by go_num,om,HE,HQ8,HK8⟩
                case measure=>simp[intOf];omega
             ·have hkI:¬(k:Int)<ys.length:=om;obtain rfl:ys.length=k:=om;have HR2:=lh (show RfI (QW hs) ys RES (QV xs2) (i+1) by rw[HM.out];exact HSTP.out)
              go_wp2_with fail
              go_roundw
              case rel=>exact⟨i+1,SA,sc,xs2,by go_num,HR2,HQ,HK⟩
              case measure=>simp[intOf];omega
          ·have hiI:¬(i:Int)<xs.length:=om;obtain⟨hfin,hx10⟩:=HRI.out.fin (by rw[QF];exact hlt);have HX10:=lh hx10;rw[QF] at hx10;have HFIN:=lh hfin;have HCL:=lh (show ∀x∈QV xs,∀y∈ys,QZ (QW hs) x y=[]\/QZ (QW hs) x y∈QV xs from fun x hx y hy=>by
            obtain⟨j,hj,rfl⟩:=List.mem_iff_getElem.1 hx;exact HRI.out.clo j hj (by rw[QF] at hj;omega) y hy)
           have HLT2:=lh (show ∀x∈QV xs,(∀q∈x,q<hs.length)/\x.length<=8192 from fun x hx=>by
            have h:=HRI.out.lt x hx;rw[Qw] at h;exact⟨h.1,om⟩)
           obtain⟨wF,hwF⟩:∃x,x=wr:=⟨_,rfl⟩;subst hwF;have HSZ:=lh HQX.out.sz;have HNG:=lh HQX.out.ng;have HSAN:=lh (show ∀b,SA.map (·.block)=some b->b≠g from fun b hb e=>QK HQX.out.own HQX.out.blk de (e▸hb));have HSAW:=lh (show ∀b,SA.map (·.block)=some b->wS.heap.size<=b from fun b hb=>QQ.row HQX.out.own b hb);have HIYF:=lh (HIY.out.kpz HKX.out (fun _ b hb e=>HYN.out b hb e));have HXF:Hid (Ext w wF):=lh ((HX4.out.trans HXS.out).kp HKX.out (fun i hi=>by have e:i=g:=hi;omega));have HRF:=lh (HKX.out.blk (HR4.out.ext HXS.out) om);have hwF4:wS.heap.size<=wF.heap.size:=HKX.out.size;have HWD:=fun(w':World) (hP:PL w' gA gc hs) (hY:IL w' YA yc ys) (OA:Option Addr) (on oc:Nat) (z:Hl) (hz:z∈xs) (hS:IL w' z.A z.c (QJ z.l))=>lh (GK gA gc hs runes caps HG.out w' hP SA xs.length sc YA yc ys hY om OA on oc z.A z.c z.l hS (HLT2.out z.l (List.mem_map_of_mem hz)).1 (HLT2.out z.l (List.mem_map_of_mem hz)).2 (QV xs) HX10.out HCL.out (fun y hy=>HCL.out z.l (List.mem_map_of_mem hz) y hy) HLT2.out);unfold JU at HWD;have HQO0:Hid (QO wF wF.heap.size g gA hs.length gc caps runes SA sc xs.length YA ys.length yc none 0 []):=lh ⟨HQX.out.blk,QQ.nil _ _ _ _⟩;have HU0:Hid (zZ (QW hs) ys (QV xs) 0 []):=lh (zZ.zero _ _ _);have hgF:g<wF.heap.size:=HQX.out.blk.lt;obtain⟨iB,jB0,jB1,jB2,jB3⟩:=info_parts OS;clear HRI hfin HPLC HNX
           go_upto_region 47 with fail
           clear HQX HKX c3
           go_loopw [20] (fun v20 wr=>∃(i:Nat) (OA:Option Addr) (oc:Nat) (op:List Bool),v20=.int .i64 i/\i<=xs.length/\Hid (zZ (QW hs) ys (QV xs) i op)/\Hid (QO wr wF.heap.size g gA hs.length gc caps runes SA sc xs.length YA ys.length yc OA oc op)/\Hid (KpP (·=g) wF wr)) (fun v _=>xs.length-(intOf v).toNat)
           case atStart=>exact⟨0,none,0,[],rfl,om,HU0,HQO0,lh (KpP.refl _ _)⟩
           case round=>
            clear HU0 HQO0 hlt hil hiI hxl;obtain⟨i,OA,oc,op,rfl,hi,HU,HQ,HK⟩:=hrel;have hol:op.length<=1024:=by have:=HU.out.1;omega
            have HSr:=lh (HSZ.out.kp HK.out (fun b hb e=>HSAN.out b hb e) (fun z hz hx b hb e=>by
             obtain⟨q,hq,rfl⟩:=List.mem_map.1 hz;have h1:=HNG.out q hq hx b hb;have h2:b=g:=e;omega))
            have HIYr:=lh (HIYF.out.kpz HK.out (fun _ b hb e=>HYN.out b hb e));have HXr:Hid (Ext w wr):=lh (HXF.out.kp HK.out (fun i hi=>by have e:i=g:=hi;omega));have HPr:=lh (HP.out.ext HXr.out);have HRr:=lh (HK.out.blk HRF.out om);have hFr:wF.heap.size<=wr.heap.size:=HK.out.size;obtain⟨c0,c1,c2,c3,c4,c5⟩:=YY HQ.out.blk;by_cases hlt:i<xs.length
            ·have hiI:(i:Int)<xs.length:=om;have hiL:i<(QV xs).length:=by rw[QF];exact hlt
             have HSN:=fun(b:Bool) (hb:b=true<->Opn (QZ (QW hs)) ys (Qk (QW hs)) xs[i].l)=>HU.out.snoc hiL (b:=b) (by simpa[QV] using hb);obtain⟨sb,so,hSA,s0⟩:=HSr.out.ln.get hlt;have hSA':=hSA;subst hSA';have hilx:=HSr.out.il _ (List.mem_map_of_mem (f:=Hl.z) (List.getElem_mem hlt));simp only[Hl.z] at hilx;have HWi:=fun(w':World) (x:Ext wr w')=>HWD w' (HPr.out.ext x) (HIYr.out.ext x) OA op.length oc xs[i] (List.getElem_mem hlt) (hilx.ext x);generalize xs[i]=X at *;obtain⟨XA,xc,xl⟩:=X
             simp only at s0 hilx HWi HSN
             go_upto_region 49 with fail
             have k0:=kc0 c0;have k1:=kc0 c1;have k2:=kc0 c2;have k3:=kc0 c3;have k4:=kc0 c4;have k5:=kc0 c5;have k6:=kc0 s0;refine Xr.start [] kr ?_;refine Xtk 0 ?_
             iterate 5(refine Xtn ?_)
             refine Xcl 6 fun wp hEp hKp K hKK=>?_;go_simp;refine(HWi wp hEp).out.mono ?_;rintro e wq ⟨WA,wc2,wd,b,rfl,hWI,xq,hb1,hb2,_⟩;refine hKK _ _ xq ?_;clear hKK;refine ptm ?_;refine Xtk 7 ?_
             iterate 4(refine Xtn ?_)
             refine Xdn fun ws hEs hKs=>?_;have xs3:=(hEp.trans xq).trans hEs;have HQs:=lh (HQ.out.ext xs3);have HKs:=lh (HK.out.trans (KpP.of_ext xs3));have c5s:=xs3.cell c5;have hFs:=Nat.le_trans hFr xs3.size;clear k0 k1 k2 k3 k4 k5 k6 c0 c1 c2 c3 c4 c5 s0 hEp hKp hWI xq hEs hKs HWi HIYr hilx HPr HQ HK xs3 HSr
             cases b with
             | true=>
              have HUS:=lh (HSN true (iff_of_true rfl (jC (JH _) (Vx _) wd xl (hb1 rfl).1 (hb1 rfl).2.1 (hb1 rfl).2.2)));have hwn:0<wd.length:=List.length_pos_iff.2 (hb1 rfl).1;have HDW:=lh (decide_eq_true hwn);have EP:=Ext.alloc ws (.cells #[.bool true] 4);have hEP:=Nat.le_trans hFs EP.size;have HBL:=fun(w8:World) (hg:(ws.alloc (.cells #[.bool true] 4)).grownBy w8 (OA.map (·.block)))=>(KpP.of_grown hg).blk (HQs.out.blk.ext EP) (QK (QQ.ext HQs.out.own EP) (HQs.out.blk.ext EP) de);clear hb1 hb2 HSN
              go_upto_region 48 with(at_builtin;refine Qv _ rfl _ _ _ rfl wF.heap.size 4 iB _ 1 1 Tryz.underlying51 jB0 jB1 jB2 jB3 rfl om OA op.length oc (op.map Value.bool) rfl (QQ.ext HQs.out.own (Ext.alloc _ _)) _ 1 1 ([true].map Value.bool) rfl rfl (QC (Blk.new _ _ _)) (DY _) um om hEP ?_;intro A8 c8 w8 ho8 hg8 hat8;have cl8:=(HBL w8 hg8).cell 5;have fl8:=(HBL w8 hg8).frz 5)
              have HQ8:=lh ((HQs.out.ext EP).push (b0:=true) (A8:=A8) (c8:=c8) (v:=.slice A8 (op.length+1) c8) rfl hg8 ho8);have HK8:Hid (KpP (·=g) wF (w8.setCell ⟨g,5,none⟩ (.slice A8 (op.length+1) c8))):=lh (KpP.chain (HKs.out.trans (KpP.of_ext EP)) (YX g 5 hg8 (Ext.rfl' w8) _) (fun b hb=>hb.elim (fun h=>.inr (QQ.row HQs.out.own b h)) .inl));clear cl8 fl8 ho8 hg8 hat8 HBL EP
              go_wp2_with fail
              go_roundw
              case rel=>exact⟨i+1,A8,c8,op++[true],by go_num,om,HUS,HQ8,HK8⟩
              case measure=>simp[intOf];omega
             | false=>
              have HUS:=lh (HSN false (iff_of_false de (hb2 rfl).2));have EP:=Ext.alloc ws (.cells #[.bool false] 4);have hEP:=Nat.le_trans hFs EP.size;have HBL:=fun(w8:World) (hg:(ws.alloc (.cells #[.bool false] 4)).grownBy w8 (OA.map (·.block)))=>(KpP.of_grown hg).blk (HQs.out.blk.ext EP) (QK (QQ.ext HQs.out.own EP) (HQs.out.blk.ext EP) de);clear hb1 hb2 HSN
              go_upto_region 48 with(at_builtin;refine Qv _ rfl _ _ _ rfl wF.heap.size 4 iB _ 1 1 Tryz.underlying51 jB0 jB1 jB2 jB3 rfl om OA op.length oc (op.map Value.bool) rfl (QQ.ext HQs.out.own (Ext.alloc _ _)) _ 1 1 ([false].map Value.bool) rfl rfl (QC (Blk.new _ _ _)) (DY _) um om hEP ?_;intro A8 c8 w8 ho8 hg8 hat8;have cl8:=(HBL w8 hg8).cell 5;have fl8:=(HBL w8 hg8).frz 5)
              have HQ8:=lh ((HQs.out.ext EP).push (b0:=false) (A8:=A8) (c8:=c8) (v:=.slice A8 (op.length+1) c8) rfl hg8 ho8);have HK8:Hid (KpP (·=g) wF (w8.setCell ⟨g,5,none⟩ (.slice A8 (op.length+1) c8))):=lh (KpP.chain (HKs.out.trans (KpP.of_ext EP)) (YX g 5 hg8 (Ext.rfl' w8) _) (fun b hb=>hb.elim (fun h=>.inr (QQ.row HQs.out.own b h)) .inl));clear cl8 fl8 ho8 hg8 hat8 HBL EP
              go_wp2_with fail
              go_roundw
              case rel=>exact⟨i+1,A8,c8,op++[false],by go_num,om,HUS,HQ8,HK8⟩
              case measure=>simp[intOf];omega
            ·have hiI:¬(i:Int)<xs.length:=om;obtain rfl:xs.length=i:=om;have hc:ZW runes caps (QW hs)=0:=by
              unfold ZW;rw[hE0.out,hSE.out,jU HG.out,hys.out,hRES.out,HFIN.out]
              simp
             have HC:=lh hc;clear hc;obtain⟨f0,f1,f2,f3,f4,f5⟩:=FA HRr.out;obtain⟨r0,r1,r2,r3,r4,r5⟩:=wI HRr.out;have HLI:=lh (show VE (QW hs) ys (QV xs) op from zZ.all (by rw[QF];exact HU.out));have HQB:=HQ
             go_wp2_with fail
             have xz:=kF (gA:=gA) (n:=hs.length) (gc:=gc) (caps:=caps) (runes:=runes) (SA:=SA) (sn:=xs.length) (sc:=sc) (YA:=YA) (yn:=ys.length) (yc:=yc) (OA:=OA) (on:=op.length) (oc:=oc) HXr.out hgrr;have HZ:=kE (gA:=gA) (n:=hs.length) (gc:=gc) (caps:=caps) (runes:=runes) (SA:=SA) (sn:=xs.length) (sc:=sc) (YA:=YA) (yn:=ys.length) (yc:=yc) (OA:=OA) (on:=op.length) (oc:=oc) HRr.out;have kz:=dC (p:=(·=gr)) (gA:=gA) (n:=hs.length) (gc:=gc) (caps:=caps) (runes:=runes) (SA:=SA) (sn:=xs.length) (sc:=sc) (YA:=YA) (yn:=ys.length) (yc:=yc) (OA:=OA) (on:=op.length) (oc:=oc) (KpP.refl _ wr) rfl;change bodyPost _ _ _ _ _ (qK wr gr gA hs.length gc caps runes SA xs.length sc YA ys.length yc OA op.length oc);generalize qK wr gr gA hs.length gc caps runes SA xs.length sc YA ys.length yc OA op.length oc=wz at *;obtain⟨z0,z1,z2,z3,z4,z5⟩:=YY HZ;have hLN:LN wz SA sc xs:=(HSr.out.kp kz (fun b hb e=>by
              have h1:=HSAW.out b hb;have h2:b=gr:=e;omega) (fun z hz hx b hb e=>by
              obtain⟨q,hq,rfl⟩:=List.mem_map.1 hz;have h1:=HNG.out q hq hx b hb;have h2:b=gr:=e;omega)).ln
             have hYL:IL wz YA yc ys:=HIYr.out.kpz kz (fun _ b hb e=>by
              have h1:=HYW.out b hb;have h2:b=gr:=e;omega)
             have hOL:IB wz OA oc op:=IB.of_own (QQ.kp HQB.out.own kz (fun b hb e=>by
              have h1:=QQ.row HQB.out.own b hb;have h2:b=gr:=e;omega))
             exact bodyPost_ret (v:=.tuple #[JU gA hs.length gc caps runes SA xs.length sc YA ys.length yc OA op.length oc,.int .i64 0]) (by simp[results,Tryz.results22,go_sem,z0,z1,z2,z3,z4,z5,JU]) rfl ⟨xz,.inr ⟨HC.out,SA,sc,xs,YA,yc,OA,oc,op,by rw[hys.out],hLN,by rw[hys.out];exact hYL,hOL,HG.out,by rw[hys.out,hRES.out,HFIN.out],by rw[hys.out];exact HLI.out⟩⟩
     ·have hsb:(SE != 0)=true:=by simpa using hs0
      have hc:ZW runes caps (QW hs)=SE:=by
       unfold ZW;rw[hE0.out,hSE.out];simp[hs0]
      have HC:=lh hc;clear hc hk4;obtain⟨f0,f1,f2,f3,f4,f5⟩:=FA HR4.out;obtain⟨r0,r1,r2,r3,r4,r5⟩:=wI HR4.out
      go_wp2_with fail
      have xz:=kF (gA:=none) (n:=0) (gc:=0) (caps:=0) (runes:=false) (SA:=none) (sn:=0) (sc:=0) (YA:=none) (yn:=0) (yc:=0) (OA:=none) (on:=0) (oc:=0) HX4.out hgrr;have HZ:=kE (gA:=none) (n:=0) (gc:=0) (caps:=0) (runes:=false) (SA:=none) (sn:=0) (sc:=0) (YA:=none) (yn:=0) (yc:=0) (OA:=none) (on:=0) (oc:=0) HR4.out;change bodyPost _ _ _ _ _ (qK w4 gr none 0 0 0 false none 0 0 none 0 0 none 0 0);generalize qK w4 gr none 0 0 0 false none 0 0 none 0 0 none 0 0=wz at *;obtain⟨z0,z1,z2,z3,z4,z5⟩:=YY HZ;exact bodyPost_ret (v:=.tuple #[JU none 0 0 0 false none 0 0 none 0 0 none 0 0,.int .i64 SE]) (by simp[results,Tryz.results22,go_sem,z0,z1,z2,z3,z4,z5,JU]) rfl ⟨xz,.inl ⟨by rw[HC.out];exact hs0,by rw[HC.out]⟩⟩
 ·have h0b:(E0 != 0)=true:=by simpa using h0
  go_wp2_with (go_at_call 74;refine HV.out.mono ?_;rintro e w2 ⟨rfl,x2⟩;have HR2:=HBR.out.ext x2;obtain⟨f0,f1,f2,f3,f4,f5⟩:=FA HR2;obtain⟨r0,r1,r2,r3,r4,r5⟩:=wI HR2)
  have hc:ZW runes caps (QW hs)=E0:=by
   unfold ZW;rw[hE0.out,if_pos h0]
  have xz:=kF (gA:=none) (n:=0) (gc:=0) (caps:=0) (runes:=false) (SA:=none) (sn:=0) (sc:=0) (YA:=none) (yn:=0) (yc:=0) (OA:=none) (on:=0) (oc:=0) (X0.trans x2) hgrr;have HZ:=kE (gA:=none) (n:=0) (gc:=0) (caps:=0) (runes:=false) (SA:=none) (sn:=0) (sc:=0) (YA:=none) (yn:=0) (yc:=0) (OA:=none) (on:=0) (oc:=0) HR2;change bodyPost _ _ _ _ _ (qK w2 gr none 0 0 0 false none 0 0 none 0 0 none 0 0);generalize qK w2 gr none 0 0 0 false none 0 0 none 0 0 none 0 0=wz at *;obtain⟨z0,z1,z2,z3,z4,z5⟩:=YY HZ;exact bodyPost_ret (v:=.tuple #[JU none 0 0 0 false none 0 0 none 0 0 none 0 0,.int .i64 E0]) (by simp[results,Tryz.results22,go_sem,z0,z1,z2,z3,z4,z5,JU]) rfl ⟨xz,.inl ⟨by rw[hc];exact h0,by rw[hc]⟩⟩
end
section
open Go.RowKit
theorem EV {G:List Ins}{cs:List Int}:¬Opn (QZ G) cs (Qk G) []:=by
 rintro⟨t,h,_⟩
 cases h with
 | one e=>obtain⟨h1,c,_,h2⟩:=e;exact h1 (h2▸JH G c)
 | cons e _=>obtain⟨h1,c,_,h2⟩:=e;exact h1 (h2▸JH G c)
def kG (G:List Ins)(cs:List Int)(w:List Int):Prop:=∀x∈w,∃c∈cs,∀l,QZ G l x=QZ G l c
theorem EY {G:List Ins}{cs:List Int}:∀{w:List Int},kG G cs w->∃v:List Int,v.length=w.length/\(∀c∈v,c∈cs)/\∀s,v.foldl (QZ G) s=w.foldl (QZ G) s
 | [],_=>⟨[],rfl,by simp,fun _=>rfl⟩
 | x::w,h=>by
  obtain⟨v,h1,h2,h3⟩:=EY (w:=w) (fun y hy=>h y (by simp[hy]));obtain⟨c,hc,hl⟩:=h x si;refine⟨c::v,by simp[h1],fun y hy=>?_,fun s=>?_⟩
  ·rcases List.mem_cons.1 hy with rfl|hy
   ·exact hc
   ·exact h2 y hy
  ·rw[List.foldl_cons,List.foldl_cons,h3,hl]
theorem UD {G:List Ins}{cs w:List Int}(h:kG G cs w)(hw:w≠[]){s:St}(hd:Qk G (w.foldl (QZ G) s)=true):Opn (QZ G) cs (Qk G) s:=by
 obtain⟨v,h1,h2,h3⟩:=EY h;refine jC (JH G) (Vx G) v s (fun e=>hw (List.length_eq_zero_iff.1 (by rw[<-h1,e];rfl))) h2 (by rw[h3];exact hd)
theorem CX {G:List Ins}{cs:List Int}:∀{w:List Int},kG G cs w->∀s,Opn (QZ G) cs (Qk G) (w.foldl (QZ G) s)->Opn (QZ G) cs (Qk G) s
 | [],_,_,h=>h
 | x::w,h,s,ho=>by
  have h1:=CX (w:=w) (fun y hy=>h y (by simp[hy])) (QZ G s x) ho;obtain⟨c,hc,hl⟩:=h x si;have hn:QZ G s x≠[]:=fun e=>EV (e▸h1);obtain⟨t,h2,h3⟩:=h1;exact⟨t,.cons ⟨hn,c,hc,(hl s).symm⟩ h2,h3⟩
theorem Iz (f:St->Int->St)(dn:St->Bool):∀(l:List Int) (k:Nat) (s:St) (last:Int),(WE f dn l k s last).1=l.foldl f s
 | [],_,_,_=>rfl
 | c::r,k,s,last=>by rw[WE,Iz f dn r];rfl
theorem Ij (f:St->Int->St)(dn:St->Bool):∀(a b:List Int) (k:Nat) (s:St) (last:Int),WE f dn (a++b) k s last=WE f dn b (k+a.length) (a.foldl f s) (WE f dn a k s last).2
 | [],_,_,_,_=>rfl
 | c::a,b,k,s,last=>by
  rw[List.cons_append,WE,Ij f dn a b,WE];simp only[List.foldl_cons,List.length_cons];rw[show k+1+a.length=k+(a.length+1) by omega]
theorem Ez {G:List Ins}{cs:List Int}:∀{w:List Int},kG G cs w->∀(k:Nat) (s:St) (last:Int),¬Opn (QZ G) cs (Qk G) s->(WE (QZ G) (Qk G) w k s last).2=last
 | [],_,_,_,_,_=>rfl
 | x::w,h,k,s,last,hn=>by
  have hx:kG G cs [x]:=fun y hy=>h y (by simp at hy;simp[hy]);have hd:Qk G (QZ G s x)=false:=by
   cases e:Qk G (QZ G s x) with
   | false=>rfl
   | true=>exact absurd (UD hx si e) hn
  rw[WE,hd];exact Ez (w:=w) (fun y hy=>h y (by simp[hy])) (k+1) _ _ (fun ho=>hn (CX hx s ho))
theorem yE (G:List Ins)(s:St)(ts:List Int)(fr:Int):(rrun G s ts fr).1=ts.foldl (QZ G) s:=Iz _ _ _ _ _ _
theorem UE {G:List Ins}{cs:List Int}{a b:List Int}{s:St}(hb:kG G cs b)(h:¬Opn (QZ G) cs (Qk G) (rrun G s a 0).1):(rrun G s (a++b) 0).2=(rrun G s a 0).2:=by
 rw[yE] at h;unfold rrun;rw[Ij,Ez hb _ _ _ h]
theorem CY {G:List Ins}{R:List St}{op:List Bool}{ts:List Int}{b:Bool}{p:Sp}:∀{n:Nat},p∈Vw G R op ts b n<->∃i,i<n/\qI G R op ts b i=true/\p=((i:Int),(i:Int)+(rrun G (QX G [0]) (ts.drop i) 0).2)
 | 0=>by simp[Vw]
 | n+1=>by
  rw[Vw,List.mem_append,CY (n:=n)];constructor
  ·rintro(⟨i,h1,h2⟩|h)
   ·exact⟨i,om,h2⟩
   ·split at h
    ·rename_i hb
     exact⟨n,om,hb,by simpa using h⟩
    ·simp at h
  ·rintro⟨i,h1,h2,h3⟩;by_cases e:i=n
   ·subst e
    right;rw[if_pos h2,h3];simp
   ·exact .inl ⟨i,om,h2,h3⟩
theorem iX {runes:Bool}{caps:Int}{G:List Ins}(hG:GOk runes caps G)(s:St):Opn (QZ G) (WH runes G) (Qk G) s<->Opn (QZ G) (Zj runes G) (Qk G) s:=
 D2 (by rw[Xk,vR]) (fun k h1 h2 l=>by
  have hk:k<(WC runes G).length:=by rw[Xk] at h1;exact h1
  have e1:(WH runes G)[k]=JY runes (WC runes G)[k]:=List.getElem_map _;have e2:(Zj runes G)[k]=zM runes (WC runes G)[k]:=List.getElem_map _;rw[e1,e2];exact zw hG (List.getElem_mem hk) l) s
section
variable {w:World} {runes:Bool} {caps:Int} {G:List Ins} {g:Nat} {m:Ma} {strt:List Sp} {R:List St}
theorem WK.like (h:WK w runes caps G g m strt R){ts:List Int}(ht:ts.all (Qy runes)=true):kG G (WH runes G) ts:=fun x hx=>by
 obtain⟨hk,hl⟩:=(vS h.cls ht).2 x hx;exact⟨_,List.getElem_mem hk,hl⟩
theorem WK.stat (h:WK w runes caps G g m strt R){ts:List Int}(ht:ts.all (Qy runes)=true)(k:Nat):(rrun G (QX G [0]) (ts.drop k) 0).1=[]\/(rrun G (QX G [0]) (ts.drop k) 0).1∈R:=(h.mo.start ts (vS h.cls ht).2 k).2.2
theorem WK.shut (h:WK w runes caps G g m strt R){s:St}(hs:s=[]\/s∈R)(hp:(decide (plc R s<0) || !m.opn.getD (plc R s).toNat false)=true):¬Opn (QZ G) (WH runes G) (Qk G) s:=fun ho=>by
 rcases hs with rfl|hs
 ·exact EV ho
 ·rw[D6 h.opn hs ho] at hp;cases hp
theorem WK.more (h:WK w runes caps G g m strt R){ts us:List Int}(ht:ts.all (Qy runes)=true)(hu:us.all (Qy runes)=true){p:Sp}(hp:p∈ZQ G R m.opn ts true)(b:Bool):p∈ZQ G R m.opn (ts++us) b:=by
 unfold ZQ at hp ⊢;rw[CY] at hp ⊢;obtain⟨i,hi,hb,rfl⟩:=hp;unfold qI at hb;simp only[Bool.not_true,Bool.false_or,Bool.and_eq_true] at hb;obtain⟨h1,h2⟩:=hb;have hno:=h.shut (h.stat ht i) h2;have hd:(ts++us).drop i=ts.drop i++us:=List.drop_append_of_le_length om;have e2:=UE (s:=QX G [0]) (h.like hu) hno;refine⟨i,by rw[List.length_append];omega,?_,by rw[hd,e2]⟩;unfold qI;rw[hd,e2,h1];have hsh:(decide (plc R (rrun G (QX G [0]) (ts.drop i++us) 0).1<0) || !m.opn.getD (plc R (rrun G (QX G [0]) (ts.drop i++us) 0).1).toNat false)=true:=Hy h.opn (fun ho=>hno (by
  rw[yE] at ho ⊢;rw[List.foldl_append] at ho;exact CX (h.like hu) _ ho))
 rw[hsh];simp
theorem WK.less (h:WK w runes caps G g m strt R){ts wd:List Int}(ht:ts.all (Qy runes)=true){i:Nat}(hw:wd≠[])(hc:∀x∈wd,x∈Zj runes G)(hd:Qk G (wd.foldl (QZ G) (rrun G (QX G [0]) (ts.drop i) 0).1)=true)(e:Int):((i:Int),e)∉ZQ G R m.opn ts true:=fun hp=>by
 unfold ZQ at hp;rw[CY] at hp;obtain⟨j,hj,hb,he⟩:=hp;injection he with e1 e2
 have hij:i=j:=om;subst hij;unfold qI at hb;simp only[Bool.not_true,Bool.false_or,Bool.and_eq_true] at hb;have hno:=h.shut (h.stat ht i) hb.2;refine hno ((iX h.ok _).2 (jC (JH G) (Vx G) wd _ hw hc hd))
theorem WK.clR (h:WK w runes caps G g m strt R){x:St}(hx:x=[]\/x∈R):∀y∈Zj runes G,QZ G x y=[]\/QZ G x y∈R:=fun y hy=>by
 rcases hx with rfl|hx
 ·exact .inl (JH G y)
 ·obtain⟨c,hc,rfl⟩:=List.mem_map.1 hy
  rw[<-zw h.ok hc];exact h.mo.clo x hx _ (List.mem_map_of_mem hc)
end
theorem zR {P:St->Prop}:∀(ts L:List St),(∀s∈L,P s)->(∀s∈ts,P s)->∀s∈Q5 ts L,P s
 | [],_,h,_=>h
 | t::ts,L,h,k=>zR ts (grow L t) (fun s hs=>by
  unfold grow at hs
  split at hs
  ·exact h s hs
  ·rcases List.mem_append.1 hs with hs|hs
   ·exact h s hs
   ·rw[List.mem_singleton.1 hs];exact k t si) (fun s hs=>k s (by simp[hs]))
theorem Ik {nx:St->List St}{P:St->Prop}(hn:∀l,∀s∈nx l,P s):∀(f i:Nat) (L R:List St),(∀s∈L,P s)->expl nx f i L=some R->∀s∈R,P s
 | 0,_,_,_,_,h=>by cases h
 | f+1,i,L,R,hL,h=>by
  unfold expl at h
  split at h
  ·cases h
  ·split at h
   ·injection h with h;subst h;exact hL
   ·rename_i l hl
    exact Ik hn f (i+1) _ R (zR _ _ hL (hn l)) h
theorem iY {hs:List Hin}{cs:List Int}{R:List St}(h8:hs.length<=8192)(h:VS (QW hs) cs=some R):∀x∈R,(∀p∈x,p<hs.length)/\x.length<=8192:=by
 have hS:∀fs,(∀p∈QX (QW hs) fs,p<hs.length)/\(QX (QW hs) fs).length<=8192:=fun fs=>⟨YI fs,by
  have:=qY (G:=QW hs) fs;rw[Qw] at this;omega⟩
 refine Ik (P:=fun x=>(∀p∈x,p<hs.length)/\x.length<=8192) (fun l s hs'=>?_) _ _ _ _ (zR [QX (QW hs) [0]] [] si (by
  intro s h1;rw[List.mem_singleton.1 h1];exact hS _)) h
 obtain⟨c,_,rfl⟩:=List.mem_map.1 hs';exact hS _
end
