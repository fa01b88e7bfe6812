/- Texts of this proof: Y26 Y27 V1 V2 VF VG VH VL. -/
import Derived.Test.YtmgpefenkilffaaGreatSP47
import Derived.Test.YtmgpefenkilffaaGreatSP48
set_option linter.all false
set_option maxRecDepth 100000
set_option maxHeartbeats 16000000
namespace Go.Proofs.YtmgpefenkilffaaGreat
section
open Go.RowKit
attribute [local go_sem ↓] Go.wp_at_zero Go.wp_at_succ
theorem okL_goodc1 {l:List Sp}(h:OkL l):∀s∈l,goodS s:=(okL_canon h).2
theorem Y26z1 {P:Prop} (h:P:=by
 have j0:=kc0 k0;have j1:=kc0 k1;have j2:=kc0 k2;have j3:=kc0 k3;have j4:=kc0 k4;have ju0:=kc0 u0;have ju1:=kc0 u1;have ju2:=kc0 u2
 go_upto_region 24 with fail
 refine Xr.start [] kr ?_;refine Xtk 0 ?_;refine Xtn ?_
 iterate 13(first|refine Xtn ?_|refine Xsn ?_)
 iterate 2(refine Xtn ?_)
 iterate 15(first|refine Xtn ?_|refine Xsn ?_)
 iterate 2(refine Xtn ?_)
 refine Xdn fun w9 hE9 hK9=>?_;clear j0 j1 j2 j3 j4 ju0 ju1 ju2
 go_wp2_with fail
 go_ret
 exact⟨by rw[<-HRES.out];rfl,X2.trans hE9⟩):P:=h
theorem Y26z2 {P:Prop} (h:P:=by
 have HRES:Hid (res=false):=lh (by rw[<-hres.out];exact okB_f (fun h=>hq ⟨by have h3:=h.2.2.1;simp only at h3;omega,by have h3:=h.2.1;simp only at h3;omega,by have h3:=h.2.2.2.1;simp only at h3;omega⟩));have hqb:=eqNumF zx zy zn 0 0 0 hq;have HQ2:=fun(W:World)=>HQ zx zy zn 0 0 0 W;rw[hqb] at HQ2;clear HQ hq hqb;exact Y26z1):P:=h
theorem Y26z3 {P:Prop} (h:P:=by
 have hqb:=eqNumT zx zy zn 0 0 0 hq;have HQ2:=fun(W:World)=>HQ zx zy zn 0 0 0 W;rw[hqb] at HQ2;clear HQ hq hqb;exact Y26z1):P:=h
theorem pv1_any (gA:Option Addr)(n gc:Nat)(hn:n<=gc/\gc<=9223372036854775807)(runes:Bool)(caps:Int)(hcaps:0<=caps/\caps<=9)(zx zy zn:Int)(A:Option Addr)(c:Nat)(zl:List Sp)(w:World)(hL:SL w A c zl)(pb q:Nat)
 (c0:w.cell? ⟨pb,q,none⟩=some (.int .i64 1)) (c1:w.cell? ⟨pb,q+1,none⟩=some (.int .i64 zx)) (c2:w.cell? ⟨pb,q+2,none⟩=some (.int .i64 zy)) (c3:w.cell? ⟨pb,q+3,none⟩=some (.int .i64 zn)) (c4:w.cell? ⟨pb,q+4,none⟩=some (.slice A zl.length c)) :
 Calls Tryz.prog 165 #[.agg #[.slice gA n gc,.int .i64 caps,.bool runes],.pointer (some ⟨pb,q,none⟩)] w (RetV (.bool (okB runes caps n ⟨1,zx,zy,zn,zl⟩)) w):=by
 have hlen:=hL.len;have BG0:=Blk.new w 35 #[.slice gA n gc,.int .i64 caps,.bool runes];have EG0:=Ext.alloc w (.cells #[.slice gA n gc,.int .i64 caps,.bool runes] 35);have BU:=Blk.new (w.alloc (.cells #[.slice gA n gc,.int .i64 caps,.bool runes] 35)) 350 #[.int .i64 0,.int .i64 0,.int .i64 0];have EU:=Ext.alloc (w.alloc (.cells #[.slice gA n gc,.int .i64 caps,.bool runes] 35)) (.cells #[.int .i64 0,.int .i64 0,.int .i64 0] 350);have BG:=BG0.ext EU;have X1:=EG0.trans EU;rw[World.size_alloc] at BU;obtain⟨res,hres⟩:∃res,Hid (okB runes caps n ⟨1,zx,zy,zn,zl⟩=res):=⟨_,lh rfl⟩;rw[hres.out];have eg:=egTarget;have HQ:=fun(a b c d e f:Int) (W:World)=>eqNum a b c d e f W;go_enter Tryz.func165,Tryz.ntmps165
 go_upto_region 4 with fail
 obtain⟨gx,hgx⟩:∃gx,gx=w.heap.size:=⟨_,rfl⟩
 rw[<-hgx] at BG BU ⊢;clear BG0;generalize (w.alloc (.cells #[.slice gA n gc,.int .i64 caps,.bool runes] 35)).alloc (.cells #[.int .i64 0,.int .i64 0,.int .i64 0] 350)=w1 at *;have hpg:pb<gx:=by have:=World.block_lt_of_cell? _ _ c0;simp only at this;omega
 have hgw:w.heap.size<=gx:=om;clear EG0 EU hgx;have k0:=X1.cell c0;have k1:=X1.cell c1;have k2:=X1.cell c2;have k3:=X1.cell c3;have k4:=X1.cell c4;have g0:w1.cell? ⟨gx,0,none⟩=some (.slice gA n gc):=BG.cell 0;have g1:w1.cell? ⟨gx,1,none⟩=some (.int .i64 caps):=BG.cell 1;have g2:w1.cell? ⟨gx,2,none⟩=some (.bool runes):=BG.cell 2;have u0:w1.cell? ⟨gx+1,0,none⟩=some (.int .i64 0):=BU.cell 0;have u1:w1.cell? ⟨gx+1,1,none⟩=some (.int .i64 0):=BU.cell 1;have u2:w1.cell? ⟨gx+1,2,none⟩=some (.int .i64 0):=BU.cell 2;clear c0 c1 c2 c3 c4;by_cases hv:validE zl=0
 ·by_cases hr:runes=true
  ·skip
   have HV:=lh (sValid_any A c zl w1 (hL.ext X1));obtain⟨vE,hvE⟩:∃vE,Hid (validE zl=vE):=⟨_,lh rfl⟩;rw[hvE.out] at HV;have hv0:vE=0:=by rw[<-hvE.out];exact hv
   subst hv0;subst hr
   go_upto_region 8 with fail
   go_upto_region 9 with fail
   refine HV.out.mono ?_;rintro e w2 ⟨rfl,x2⟩;have X2:=X1.trans x2;replace k0:=x2.cell k0;replace k1:=x2.cell k1;replace k2:=x2.cell k2;replace k3:=x2.cell k3;replace k4:=x2.cell k4;replace g0:=x2.cell g0;replace g1:=x2.cell g1;replace g2:=x2.cell g2;replace u0:=x2.cell u0;replace u1:=x2.cell u1;replace u2:=x2.cell u2;by_cases hq:(zx=0/\zy=0/\zn=0)
   ·have HRES:Hid (res=true):=lh (by rw[<-hres.out];exact okB_t (by obtain⟨rfl,rfl,rfl⟩:=hq;exact ok1.2 ⟨hv,fun s hs=>by have h9:=okL_goodc1 (validE_zero hv).1 s (List.mem_of_getLast? hs);unfold goodS at h9;show s.2<=topV true;unfold topV;simp only[if_true];omega⟩));exact Y26z3
   ·exact Y26z2
  ·by_cases hs:zl=[]
   ·skip
    have HV:=lh (sValid_any A c zl w1 (hL.ext X1));obtain⟨vE,hvE⟩:∃vE,Hid (validE zl=vE):=⟨_,lh rfl⟩;rw[hvE.out] at HV;have hv0:vE=0:=by rw[<-hvE.out];exact hv
    subst hv0;have hr2:runes=false:=by simpa using hr
    subst hr2;subst hs
    go_upto_region 8 with fail
    go_upto_region 9 with fail
    refine HV.out.mono ?_;rintro e w2 ⟨rfl,x2⟩;have X2:=X1.trans x2;replace k0:=x2.cell k0;replace k1:=x2.cell k1;replace k2:=x2.cell k2;replace k3:=x2.cell k3;replace k4:=x2.cell k4;replace g0:=x2.cell g0;replace g1:=x2.cell g1;replace g2:=x2.cell g2;replace u0:=x2.cell u0;replace u1:=x2.cell u1;replace u2:=x2.cell u2;by_cases hq:(zx=0/\zy=0/\zn=0)
    ·have HRES:Hid (res=true):=lh (by rw[<-hres.out];exact okB_t (by obtain⟨rfl,rfl,rfl⟩:=hq;exact ok1.2 ⟨hv,fun s hs=>by simp at hs⟩));exact Y26z3
    ·exact Y26z2
   ·skip
    have HV:=lh (sValid_any A c zl w1 (hL.ext X1));obtain⟨vE,hvE⟩:∃vE,Hid (validE zl=vE):=⟨_,lh rfl⟩;rw[hvE.out] at HV;have hv0:vE=0:=by rw[<-hvE.out];exact hv
    subst hv0;have hr2:runes=false:=by simpa using hr
    subst hr2;obtain⟨m,hm⟩:∃m,zl.length=m+1:=⟨zl.length-1,by have:=List.length_pos_iff.2 hs;omega⟩;have hml:m<zl.length:=om;obtain⟨sb,so,rfl,s1,s2⟩:=hL.get hml;have hLS:zl.getLast? = some zl[m]:=by rw[List.getLast?_eq_getElem?,hm,Nat.add_sub_cancel];exact List.getElem?_eq_getElem hml
    have hw9:IntKind.i64.wrap (((m+1:Nat):Int)-1)=(m:Int):=wj;obtain⟨hi,hhi⟩:∃hi,Hid (zl[m].2=hi):=⟨_,lh rfl⟩;rw[hhi.out] at s2;have HLS:Hid (∃s,zl.getLast? = some s/\s.2=hi):=lh ⟨_,hLS,hhi.out⟩;rw[hm] at k4 HV hlen;clear hhi hLS hm s1 hs
    go_upto_region 8 with fail
    go_upto_region 9 with fail
    refine HV.out.mono ?_;rintro e w2 ⟨rfl,x2⟩;have X2:=X1.trans x2;replace k0:=x2.cell k0;replace k1:=x2.cell k1;replace k2:=x2.cell k2;replace k3:=x2.cell k3;replace k4:=x2.cell k4;replace g0:=x2.cell g0;replace g1:=x2.cell g1;replace g2:=x2.cell g2;replace u0:=x2.cell u0;replace u1:=x2.cell u1;replace u2:=x2.cell u2;have s2a:=(X1.trans x2).cell s2;by_cases h255:hi<=255
    ·skip
     by_cases hq:(zx=0/\zy=0/\zn=0)
     ·have HRES:Hid (res=true):=lh (by rw[<-hres.out];exact okB_t (by obtain⟨rfl,rfl,rfl⟩:=hq;exact ok1.2 ⟨hv,fun s hs2=>by obtain⟨s0,e0,e1⟩:=HLS.out;rw[e0] at hs2;injection hs2 with hs2;rw[<-hs2,e1];show hi<=topV false;unfold topV;simp only[Bool.false_eq_true,if_false];omega⟩));exact Y26z3
     ·exact Y26z2
    ·skip
     have HRES:Hid (res=false):=lh (by rw[<-hres.out];exact okB_f (fun h=>by have h1:=h.2.2.2.2;simp only at h1;rcases h1 with h1|⟨_,_,h1⟩|h1|h1|h1|h1<;>first|(obtain⟨s0,e0,e1⟩:=HLS.out;have h2:=h1 _ e0;rw[e1] at h2;unfold topV at h2;simp only[Bool.false_eq_true,if_false] at h2;omega)|omega));have hdd:=decide_eq_false h255;clear h255;exact Y26z1
 ·skip
  have HV:=lh (sValid_any A c zl w1 (hL.ext X1));obtain⟨vE,hvE⟩:∃vE,Hid (validE zl=vE):=⟨_,lh rfl⟩;rw[hvE.out] at HV;have hv0:(vE == 0)=false:=by rw[beq_eq_false_iff_ne,<-hvE.out];exact hv
  go_upto_region 8 with fail
  go_upto_region 9 with fail
  refine HV.out.mono ?_;rintro e w2 ⟨rfl,x2⟩;have X2:=X1.trans x2;replace k0:=x2.cell k0;replace k1:=x2.cell k1;replace k2:=x2.cell k2;replace k3:=x2.cell k3;replace k4:=x2.cell k4;replace g0:=x2.cell g0;replace g1:=x2.cell g1;replace g2:=x2.cell g2;replace u0:=x2.cell u0;replace u1:=x2.cell u1;replace u2:=x2.cell u2;have HRES:Hid (res=false):=lh (by rw[<-hres.out];exact okB_f (fun h=>by have h1:=h.2.2.2.2;simp only at h1;rcases h1 with h1|⟨_,h1,_⟩|h1|h1|h1|h1<;>first|exact hv h1|omega));exact Y26z1
theorem pvalid_any (gA:Option Addr)(n gc:Nat)(hn:n<=gc/\gc<=9223372036854775807)(runes:Bool)(caps:Int)(hcaps:0<=caps/\caps<=9)(zo zx zy zn:Int)(A:Option Addr)(c:Nat)(zl:List Sp)(w:World)(hL:SL w A c zl)(pb q:Nat)
 (c0:w.cell? ⟨pb,q,none⟩=some (.int .i64 zo)) (c1:w.cell? ⟨pb,q+1,none⟩=some (.int .i64 zx)) (c2:w.cell? ⟨pb,q+2,none⟩=some (.int .i64 zy)) (c3:w.cell? ⟨pb,q+3,none⟩=some (.int .i64 zn)) (c4:w.cell? ⟨pb,q+4,none⟩=some (.slice A zl.length c)) :
 Calls Tryz.prog 165 #[.agg #[.slice gA n gc,.int .i64 caps,.bool runes],.pointer (some ⟨pb,q,none⟩)] w (RetV (.bool (okB runes caps n ⟨zo,zx,zy,zn,zl⟩)) w):=by
 by_cases h0:zo=0
 ·subst h0;exact pv0_any gA n gc hn runes caps hcaps zx zy zn A c zl w hL pb q c0 c1 c2 c3 c4
 by_cases h1:zo=1
 ·subst h1;exact pv1_any gA n gc hn runes caps hcaps zx zy zn A c zl w hL pb q c0 c1 c2 c3 c4
 by_cases h2:zo=2
 ·subst h2;exact pv2_any gA n gc hn runes caps hcaps zx zy zn A c zl w hL pb q c0 c1 c2 c3 c4
 by_cases h3:zo=3
 ·subst h3;exact pv3_any gA n gc hn runes caps hcaps zx zy zn A c zl w hL pb q c0 c1 c2 c3 c4
 by_cases h4:zo=4
 ·subst h4;exact pv4_any gA n gc hn runes caps hcaps zx zy zn A c zl w hL pb q c0 c1 c2 c3 c4
 by_cases h5:zo=5
 ·subst h5;exact pv5_any gA n gc hn runes caps hcaps zx zy zn A c zl w hL pb q c0 c1 c2 c3 c4
 exact pvz_any gA n gc hn runes caps hcaps zo zx zy zn A c zl w hL pb q ⟨h0,h1,h2,h3,h4,h5⟩ c0 c1 c2 c3 c4
theorem Y27z1 {P:Prop} (h:P:=by
 clear hil;go_enter Tryz.func82,Tryz.ntmps82
 go_wp2_with fail
 go_ret
 exact⟨rfl,eG⟩):P:=h
theorem progValid_any (gA:Option Addr)(gc:Nat)(hs:List Hin)(runes:Bool)(caps:Int)(w:World)(hP:PL w gA gc hs) :
 Calls Tryz.prog 82 #[progV gA hs.length gc caps runes] w (RetV (.int .i64 (progE runes caps (insL hs))) w):=by
 have hcap:=hP.len;have bG:=Blk.new w 35 #[.slice gA hs.length gc,.int .i64 caps,.bool runes];have eG:=Ext.alloc w (.cells #[.slice gA hs.length gc,.int .i64 caps,.bool runes] 35);have hil:=insL_len hs;unfold progV;by_cases hbig:8192<hs.length
 ·rw[progE_big (by rw[hil];exact hbig)];have hbI:(8192:Int)<hs.length:=om;exact Y27z1
 ·have hbI:¬(8192:Int)<hs.length:=om;by_cases hn0:hs.length=0
  ·rw[progE_arg (by rw[hil];omega) (.inl (by rw[hil];exact hn0))];rw[hn0];clear hil hbig hbI hP hcap bG eG hn0;go_enter Tryz.func82,Tryz.ntmps82
   go_wp2_with fail
   all_goals
    go_ret
    exact⟨rfl,Ext.alloc _ _⟩
  ·have hnb:((hs.length:Int) == 0)=false:=by rw[beq_eq_false_iff_ne];omega
   by_cases hc0:caps<0
   ·rw[progE_arg (by rw[hil];omega) (.inr (.inl hc0))];exact Y27z1
   ·by_cases hc9:9<caps
    ·rw[progE_arg (by rw[hil];omega) (.inr (.inr hc9))];exact Y27z1
    ·clear hil;have hpos:0<hs.length:=om;have HBAD:=fun(k:Nat) (hk:k<hs.length) (h:¬InsOk runes caps hs.length hs[k].ins)=>lh (progE_badH (runes:=runes) (caps:=caps) (hs:=hs) hbig om hk h);have HEND:=fun(h:∀k (hk:k<hs.length),InsOk runes caps hs.length hs[k].ins)=>lh (progE_endH (runes:=runes) (caps:=caps) (hs:=hs) hbig om h om);obtain⟨E,hE⟩:∃E,E=progE runes caps (insL hs):=⟨_,rfl⟩
     rw[<-hE] at HBAD HEND ⊢;clear hE;have hnb2:=lh hnb;go_enter Tryz.func82,Tryz.ntmps82
     go_upto_region 6 with fail
     clear hnb;have hP0:=hP.ext eG;generalize w.alloc (.cells #[.slice gA hs.length gc,.int .i64 caps,.bool runes] 35)=w0 at *
     go_loopw [25] (fun v wr=>∃k:Nat,v=.int .i64 k/\k<=hs.length/\Hid (∀j (hj:j<hs.length),j<k->InsOk runes caps hs.length hs[j].ins)/\Ext w0 wr) (fun v _=>hs.length-(intOf v).toNat)
     case atStart=>exact⟨0,rfl,om,lh (fun j _ h=>om),Ext.rfl' _⟩
     case round=>
      obtain⟨k,rfl,hk,hok,x1⟩:=hrel;have bG1:=bG.ext x1;obtain⟨r0,r1,r2,r0f,r1f,r2f,rz⟩:=bG1.c3;by_cases hlt:k<hs.length
      ·have hkI:(k:Int)<hs.length:=om;obtain⟨pb,po,rfl,c0,c1,c2,c3,c4⟩:=(hP0.ext x1).get hlt;have hsl:=(hP0.ext x1).sl _ (List.getElem_mem hlt);have hwf:=(hP0.ext x1).rng _ (List.getElem_mem hlt);have HB:=fun h=>(HBAD k hlt h);have HOK:=fun(h:InsOk runes caps hs.length hs[k].ins)=>lh (show ∀j (hj:j<hs.length),j<k+1->InsOk runes caps hs.length hs[j].ins from fun j hj hjk=>by
        rcases Nat.lt_or_ge j k with h1|h1
        ·exact hok.out j hj h1
        ·have:j=k:=om;subst this;exact h)
       generalize hs[k]=hh at *;obtain⟨zop,zx,zy,zn,zA,zc,zl⟩:=hh;obtain⟨_,hw2,hw3,hw4⟩:=hwf
       simp only at c0 c1 c2 c3 c4 hsl hw2 hw3 hw4
       simp only[Hin.ins] at HB HOK;have HF:=fun(w':World) (h:Ext wr w')=>lh (pvalid_any (some ⟨pb,po,none⟩) hs.length gc hcap runes caps ⟨om,om⟩ zop zx zy zn zA zc zl w' (hsl.ext h) pb (po+k*5) (h.cell c0) (h.cell c1) (h.cell c2) (h.cell c3) (h.cell c4));have k0:=kc0 r0;have k1:=kc0 r1;have k2:=kc0 r2;have k3:=kc0 c0;have k4:=kc0 c1;have k5:=kc0 c2;have k6:=kc0 c3;have k7:=kc0 c4;by_cases hins:InsOk runes caps hs.length ⟨zop,zx,zy,zn,zl⟩
       ·have HK:=HOK hins;rw[okB_t hins] at HF;clear HB HOK hins hw2 hw3 hw4 HBAD HEND
        go_wp2_with fail
        refine Xr.start [] kr ?_;refine Xtk 0 ?_
        iterate 4(refine Xtn ?_)
        refine Xcl 5 fun w3 hE3 hK3 K hKK=>?_;go_simp;refine(HF w3 hE3).out.mono ?_;rintro e w4 ⟨rfl,x4⟩;refine hKK _ _ x4 ?_;clear hKK;refine ptm ?_;refine Xtk 6 ?_;refine Xdn fun w5 hE5 hK5=>?_;have xf:=x1.trans hK5.nil;clear k0 k1 k2 k3 k4 k5 k6 k7
        go_wp2_with fail
        go_roundw
        case rel=>exact⟨k+1,by go_num,om,HK,xf⟩
        case measure=>simp[intOf];omega
       ·have HK:=HB hins;rw[okB_f hins] at HF;clear HB HOK hins hw2 hw3 hw4 HBAD HEND
        go_wp2_with fail
        refine Xr.start [] kr ?_;refine Xtk 0 ?_
        iterate 4(refine Xtn ?_)
        refine Xcl 5 fun w3 hE3 hK3 K hKK=>?_;go_simp;refine(HF w3 hE3).out.mono ?_;rintro e w4 ⟨rfl,x4⟩;refine hKK _ _ x4 ?_;clear hKK;refine ptm ?_;refine Xtk 6 ?_;refine Xdn fun w5 hE5 hK5=>?_;have xf:=x1.trans hK5.nil;clear k0 k1 k2 k3 k4 k5 k6 k7
        go_wp2_with fail
        go_ret
        exact⟨by rw[HK.out];rfl,eG.trans xf⟩
      ·have hkI:¬(k:Int)<hs.length:=om;have hall:∀j (hj:j<hs.length),InsOk runes caps hs.length hs[j].ins:=fun j hj=>hok.out j hj om;have HE:=HEND hall;have hlast:=(hall (hs.length-1) om).2.2.2.2;obtain⟨pb,po,rfl,c0,c1,c2,c3,c4⟩:=(hP0.ext x1).get (k:=hs.length-1) om;generalize hs[hs.length-1]=hh at *;obtain⟨zop,zx,zy,zn,zA,zc,zl⟩:=hh;simp only[Hin.ins] at HE hlast c0;clear HBAD HEND hall hok c1 c2 c3 c4;have hwm:IntKind.i64.wrap ((hs.length:Int)-1)=(hs.length:Int)-1:=wj;have hl1:(hs.length:Int)-1<hs.length:=om;have hl2:(0:Int)<=(hs.length:Int)-1:=om;have hl3:((hs.length:Int)-1).toNat=hs.length-1:=om;have hzo:zop=0\/zop=1\/zop=2\/zop=3\/zop=4\/zop=5:=by
        rcases hlast with h|⟨h,_⟩|⟨h,_⟩|⟨h,_⟩|⟨h,_⟩|⟨h,_⟩<;>omega
       clear hlast;rcases hzo with rfl|rfl|rfl|rfl|rfl|rfl
       all_goals
        simp at HE
        go_wp2_with fail
        go_ret
        exact⟨by rw[HE.out];rfl,eG.trans x1⟩
theorem GOk.progE0 {runes:Bool}{caps:Int}{G:List Ins}(h:GOk runes caps G):progE runes caps G=0:=by
 have h1:=h.len;have h2:=h.cap9;have hl:G.length-1<G.length:=om;rw[progE_end om om h.ins hl,if_pos (h.last hl)]
theorem accepts_any (A:Option Addr)(c:Nat)(hs:List Hin)(rn:Bool)(caps:Int)(hG:GOk rn caps (insL hs))(w:World)(hp:PL w A c hs) :
 Calls Tryz.prog 61 #[.agg #[.slice A hs.length c,.int .i64 caps,.bool rn]] w (RetV (.int .i64 0) w):=by
 have hn8:=hG.len;rw[insL_len] at hn8;have hcap:=hp.len;have BG:=Blk.new w 35 #[.slice A hs.length c,.int .i64 caps,.bool rn];have EG:=Ext.alloc w (.cells #[.slice A hs.length c,.int .i64 caps,.bool rn] 35);have HP:=lh hp;have HNA:=lh (fun k (hk:k<hs.length)=>show hs[k].op≠5 by
  have h:=hG.plain k (by rw[insL_len];exact hk)
  simpa[insL,Hin.ins] using h)
 have HV:=fun(w':World) (x:Ext w w')=>lh (show Calls Tryz.prog 82 #[.agg #[.slice A hs.length c,.int .i64 caps,.bool rn]] w' (RetV (.int .i64 0) w') by
  have h:=progValid_any A c hs rn caps w' (hp.ext x);rw[hG.progE0] at h;exact h)
 clear hG hp;go_enter Tryz.func61,Tryz.ntmps61
 go_upto_region 1 with fail
 obtain⟨g1,hg1⟩:∃g,g=w.heap.size:=⟨_,rfl⟩
 rw[<-hg1] at BG ⊢;clear hg1;generalize w.alloc (.cells #[.slice A hs.length c,.int .i64 caps,.bool rn] 35)=w1 at *;have b0:w1.cell? ⟨g1,0,none⟩=some (.slice A hs.length c):=BG.cell 0;have b1:w1.cell? ⟨g1,1,none⟩=some (.int .i64 caps):=BG.cell 1;have b2:w1.cell? ⟨g1,2,none⟩=some (.bool rn):=BG.cell 2;have HV1:=HV _ EG;clear HV
 go_upto_region 5 with(go_at_call 82;refine HV1.out.mono ?_;rintro e w2 ⟨rfl,x2⟩;have d0:=x2.cell b0)
 clear b0 b1 b2 d0 HV1;have HP2:=lh (HP.out.ext (EG.trans x2));have X2:=EG.trans x2;clear HP EG x2 BG
 go_loopw [14] (fun v wr=>∃k:Nat,v=.int .i64 k/\k<=hs.length/\Ext w2 wr) (fun v _=>hs.length-(intOf v).toNat)
 case atStart=>exact⟨0,rfl,om,Ext.rfl' _⟩
 case round=>
  obtain⟨k,rfl,hk,x3⟩:=hrel;by_cases hlt:k<hs.length
  ·have hkI:(k:Int)<hs.length:=om;have hne:=HNA.out k hlt;obtain⟨ib,io,hiA,o0,o1,o2,o3,o4⟩:=(HP2.out.ext x3).get hlt;generalize hs[k]=h at *;obtain⟨hop,hx,hy,hn,hhA,hc,hl⟩:=h
   simp only at o0 o1 o2 o3 o4 hne
   subst hiA;have hnb:(hop == 5)=false:=by rw[beq_eq_false_iff_ne];exact hne
   have EI:=Ext.alloc wr (.cells #[.int .i64 hop,.int .i64 hx,.int .i64 hy,.int .i64 hn,.slice hhA hl.length hc] 129);have xf:=x3.trans EI
   go_wp2_with fail
   go_roundw
   case rel=>exact⟨k+1,by go_num,om,xf⟩
   case measure=>simp[intOf];omega
  ·obtain rfl:k=hs.length:=om
   go_wp2_with fail
   go_ret
   exact⟨rfl,X2.trans x3⟩
def RetNew2 (hs:List Hin)(runes:Bool)(caps:Int)(w:World)(e:Ending)(w':World):Prop:=∃gs q F,e=.returned (.tuple #[.pointer (some ⟨gs,0,none⟩),.int .i64 0])/\insL q.cd.hs=insL hs/\StrS w' F gs q runes caps 0 [] false/\(∀b,F b->F2 w w' (fun _=>False) b)/\Ext w w'/\∀w'',KpP (fun b=>F b\/b<w.heap.size) w' w''->CdAt w'' q.gc q.cd
theorem snew_any (A:Option Addr)(c:Nat)(hs:List Hin)(rn:Bool)(caps:Int)(hG:GOk rn caps (insL hs))(w:World)(hp:PL w A c hs)(hsz:∀h∈hs,h.l.length<=40)(hgd:∀h∈hs,∀s∈h.l,-1000000000<=s.1/\s.1<=1000000000/\-1000000000<=s.2/\s.2<=1000000000) :
 Calls Tryz.prog 14 #[.agg #[.slice A hs.length c,.int .i64 caps,.bool rn]] w (RetNew2 hs rn caps w):=by
 have BG:=Blk.new w 35 #[.slice A hs.length c,.int .i64 caps,.bool rn];have EG:=Ext.alloc w (.cells #[.slice A hs.length c,.int .i64 caps,.bool rn] 35);have HG:=lh hG;have HV:=fun(w':World) (x:Ext w w')=>lh (accepts_any A c hs rn caps hG w' (hp.ext x));have HNC:=fun(w':World) (x:Ext w w')=>lh (newCode_any A c hs rn rn caps hG w' (hp.ext x) hsz hgd);clear hG hp hsz hgd;go_enter Tryz.func14,Tryz.ntmps14
 go_upto_region 1 with fail
 obtain⟨g1,hg1⟩:∃g,g=w.heap.size:=⟨_,rfl⟩
 rw[<-hg1] at BG ⊢;clear hg1;generalize w.alloc (.cells #[.slice A hs.length c,.int .i64 caps,.bool rn] 35)=w1 at *;have b0:w1.cell? ⟨g1,0,none⟩=some (.slice A hs.length c):=BG.cell 0;have b1:w1.cell? ⟨g1,1,none⟩=some (.int .i64 caps):=BG.cell 1;have b2:w1.cell? ⟨g1,2,none⟩=some (.bool rn):=BG.cell 2;have HV1:=HV _ EG;clear HV
 go_upto_region 4 with(go_at_call 61;refine HV1.out.mono ?_;rintro e w2 ⟨rfl,x2⟩)
 have d0:=x2.cell b0;have d1:=x2.cell b1;have d2:=x2.cell b2;have X2:=EG.trans x2;have HNC2:=HNC _ X2;clear b0 b1 b2 HV1 HNC BG EG x2
 go_wp2_with fail
 refine HNC2.out.mono ?_;rintro e w3 ⟨gc,cd,rfl,hcd,hrn,hins,hok,x3,hcK⟩;have HCK:=lh hcK;have hw2:=X2.size;clear hcK;clear HNC2 d0 d1 d2;have HGC:=lh (show GOk rn caps (insL cd.hs) by rw[hins];exact HG.out);have HNM:=lh (newMachine_any gc cd rn caps HGC.out w3 hcd hok.ls);have X3:=X2.trans x3;clear X2 x3
 go_wp2_with fail
 refine HNM.out.mono ?_;rintro e w4 ⟨q,fv,sts,rfl,hqc,hqd,hma,hf,hl1,hz0,x4⟩;have BS:=Blk.new w4 126 #[.pointer (some ⟨q.gm,0,none⟩),.slice none 0 0,.int .i64 0,.int .i64 1,.bool false,.bool false];have ES:=Ext.alloc w4 (.cells #[.pointer (some ⟨q.gm,0,none⟩),.slice none 0 0,.int .i64 0,.int .i64 1,.bool false,.bool false] 126);have HF:=lh (show RetNew2 hs rn caps w (.returned (.tuple #[.pointer (some ⟨w4.heap.size,0,none⟩),.int .i64 0])) (w4.alloc (.cells #[.pointer (some ⟨q.gm,0,none⟩),.slice none 0 0,.int .i64 0,.int .i64 1,.bool false,.bool false] 126)) by
  generalize w4.alloc (.cells #[.pointer (some ⟨q.gm,0,none⟩),.slice none 0 0,.int .i64 0,.int .i64 1,.bool false,.bool false] 126)=w5 at *;have X4:=x4.trans ES;subst hqd;subst hqc;have hSt:StmI w5 (fun b=>w3.heap.size<=b) w4.heap.size q none 0 0 1 1 0 false false fv sts []:=⟨BS,OwnS.nil _ _ _ _,hma.ext ES,fun z hz=>by rw[hz0 z hz];exact Int.le_refl _,by simp,by simp,by simp[fpR],by simp[fpR],x4.size,by simp,by simp,by simp⟩;have hT:=hSt.tight;refine⟨w4.heap.size,q,_,rfl,hins,⟨⟨none,0,1,0,fv,sts,[],hT,hf,List.Perm.refl _,⟨om,om⟩,⟨om,by simp⟩,om⟩,HGC.out,hrn,hok,fun w' kk=>?_,fun b hb=>hb.2.1,by simp,fun _=>⟨rfl,rfl⟩,by simp⟩,fun b hb=>⟨.inr (Nat.le_trans X3.size hb.1),hb.2.1,hb.2.2⟩,X3.trans X4,fun w'' kk=>?_⟩;rotate_left
  ·exact HCK.out w'' (KpP.chain (KpP.of_ext X4) kk (fun i hi=>by
    rcases hi with hi|hi
    ·exact .inr hi.1
    ·exact .inl om))
  exact hcd.ext' (X4.kp kk (fun i hi=>hi.1)))
 go_wp2_with fail
 go_ret2
 exact HF.out
end
section
open Go.RowKit
structure StT (w:World)(F:Nat->Prop)(gs:Nat)(q:Mq)(runes:Bool)(caps:Int)(N:Nat)(I:List Itm)(bg:Bool):Prop where
 s:StrS w F gs q runes caps N I bg
 np:∀b,F b->nP w b
def RsL (w:World)(A:Option Addr)(c:Nat)(R:List (Int×Int)):Prop:=OwnS w 0 54 2 A R.length c (flatS R)
theorem RsL.kp {w w':World}{F:Nat->Prop}{A:Option Addr}{c:Nat}{R:List (Int×Int)}(h:RsL w A c R)(k:KpP F w w')(np:∀b,F b->nP w b):RsL w' A c R:=
 OwnS.kp h k (fun b hb e=>by
  obtain⟨hl,cur,hh⟩:=OwnS.blt h hb;exact np b e cur hh)
theorem RsL.ext {w w':World}{A:Option Addr}{c:Nat}{R:List (Int×Int)}(h:RsL w A c R)(x:Ext w w'):RsL w' A c R:=OwnS.ext h x
theorem RsL.sl {w:World}{A:Option Addr}{c:Nat}{R:List (Int×Int)}(h:RsL w A c R)(hr:∀s∈R,S64 s):SL w A c R:=SL.of_ownT h hr
theorem nP.kp {w w':World}{p:Nat->Prop}{b:Nat}(h:nP w b)(k:KpP p w w')(hb:b<w.heap.size)(hp:¬p b):nP w' b:=fun cs e=>h cs ((k.block b hb hp).symm.trans e)
theorem StT.other {w w':World}{F G:Nat->Prop}{gs:Nat}{q:Mq}{runes:Bool}{caps:Int}{N:Nat}{I:List Itm}{bg:Bool}(h:StT w G gs q runes caps N I bg)(k:KpP F w w')(hd:∀b,F b->¬G b)(hc:∀w'',KpP G w' w''->CdAt w'' q.gc q.cd):StT w' G gs q runes caps N I bg:=
 ⟨h.s.kp k (fun b hb hf=>hd b hf hb) hc,fun b hb=>(h.np b hb).kp k (h.s.lt b hb) (fun hf=>hd b hf hb)⟩
theorem F2.apart {w w':World}{F G:Nat->Prop}(hd:∀b,F b->¬G b)(hl:∀b,G b->b<w.heap.size):∀b,F2 w w' F b->¬G b:=fun b hf hg=>by
 rcases hf.1 with h|h
 ·exact hd b h hg
 ·have:=hl b hg;omega
theorem F2.sub {W0 w w':World}{F U:Nat->Prop}(hF:∀b,F b->U b)(hU:∀b,W0.heap.size<=b->U b)(hw:W0.heap.size<=w.heap.size):∀b,F2 w w' F b->U b:=fun b hf=>by
 rcases hf.1 with h|h
 ·exact hF b h
 ·exact hU b om
theorem FdO.t {w w':World}{F:Nat->Prop}{gs:Nat}{q:Mq}{runes:Bool}{caps:Int}{N:Nat}{I:List Itm}{bg:Bool}{piece:List Int}{A:Option Addr}{c:Nat}{R:List (Int×Int)}(h:FdO w w' F gs q runes caps N I bg piece A c R) :
 StT w' (F2 w w' F) gs q runes caps (N+piece.length) (feedI (insL q.cd.hs) (decL q.cd.ls) piece N I bg).1 true/\RsL w' A c R:=
 ⟨⟨h.st,fun b hb=>hb.2.2⟩,h.ow⟩
theorem perm_s64 {R S:List (Int×Int)}{M:Int}(hp:R.Perm S)(hk:∀r∈R,0<=r.1/\r.1<=M)(he:∀r∈R,-1<=r.2/\r.2<=M)(hM:M<=1000000):∀s∈S,S64 s:=fun s hs=>by
 have h1:=hk s (hp.mem_iff.2 hs);have h2:=he s (hp.mem_iff.2 hs);exact⟨by unfold I64;omega,by unfold I64;omega⟩
theorem IL.takeV {w:World}{A:Option Addr}{c:Nat}{xs:List Int}(h:IL w A c xs)(k:Nat):IL w A c (xs.take k):=by
 refine⟨by rw[List.length_take];have:=h.le;omega,h.cap,fun x hx=>h.rng x (List.mem_of_mem_take hx),fun hn=>?_⟩;obtain⟨b,o,hA,hc⟩:=h.at_ (by rintro rfl;simp at hn);exact⟨b,o,hA,fun i hi=>by rw[List.getElem_take];exact hc i (by rw[List.length_take] at hi;omega)⟩
def SoR (R:List (Int×Int)):Prop:=R.Pairwise (fun s t=>s.1<=t.1)
theorem cut_items (G:List Ins)(D:St->Bool)(ts:List Int){n:Nat}(hn:n<=ts.length):feedI G D ts 0 [] false=((feedI G D (ts.drop n) n (feedI G D (ts.take n) 0 [] false).1 true).1,(feedI G D (ts.take n) 0 [] false).2++(feedI G D (ts.drop n) n (feedI G D (ts.take n) 0 [] false).1 true).2):=by
 have h:=feed_cut G D (ts.take n) (ts.drop n);rw[List.take_append_drop] at h;have e:((ts.take n).length:Int)=(n:Int):=by rw[List.length_take];omega
 rw[e] at h;exact h
theorem feed_len {G:List Ins}{D:St->Bool}(t:List Int):(feedI G D t 0 [] false).2.length<=2+t.length:=by
 unfold feedI bgIt;simp only[Bool.false_eq_true,if_false];have h:=(runI_len G D t 0 (openI D [startI G 0])).2;have h1:(openI D [startI G 0]).length<=1:=List.length_filter_le _ _;have h2:(resI D [startI G 0]).length<=1:=Nat.le_trans (List.length_filterMap_le _ _) (List.length_filter_le _ _);rw[List.length_append];omega
theorem pieces_law {G:List Ins}{D:St->Bool}{ts:List Int}{n:Nat}(hn:n<=ts.length)(hl:ts.length<=12){I1 IB:List Itm}(h1:I1=(feedI G D (ts.take n) 0 [] false).1)(hB:IB=(feedI G D (ts.drop n) n I1 true).1){R8 R10 R11 R12:List (Int×Int)}
 (p8:(feedI G D (ts.take n) 0 [] false).2.Perm R8) (p10:(feedI G D (ts.drop n) n I1 true).2.Perm R10) (s10:SoR R10) (p11:(feedI G D (ts.drop n) n I1 true).2.Perm R11) (s11:SoR R11) (p12:(feedI G D ts 0 [] false).2.Perm R12) (s12:SoR R12) :
 (feedI G D ts 0 [] false).1=IB/\R11=R10/\(∀RM,RM.Perm (R8++R10)->SoR RM->RM=R12)/\((∀s∈R8,S64 s)/\(∀s∈R10,S64 s)/\∀s∈R12,S64 s)/\(R8.length<=1000/\R10.length<=1000)/\(IB.map (·.p)).Nodup/\∀s∈resOf IB,S64 s:=by
 subst h1;have hc:=cut_items G D ts hn;have hk:=feedI_keys (G:=G) (D:=D) (N:=0) (I:=[]) (bg:=false) (fun _=>⟨rfl,rfl⟩) ⟨by simp,by simp⟩ ts;have he:=feed_e (G:=G) (D:=D) (M:=12) ts om;have hk':(keysI (feedI G D ts 0 [] false).1 (feedI G D ts 0 [] false).2).Nodup/\∀k:Int,k∈keysI (feedI G D ts 0 [] false).1 (feedI G D ts 0 [] false).2->0<=k/\k<=((0+ts.length:Nat):Int):=hk;clear hk;have hfl:=feed_len (G:=G) (D:=D) ts;rw[hc] at hk' he p12 hfl
 simp only at hk' he p12 hfl
 rw[<-hB] at hk' he;generalize (feedI G D (ts.take n) 0 [] false).2=L8 at *;generalize (feedI G D (ts.drop n) n (feedI G D (ts.take n) 0 [] false).1 true).2=L10 at *;obtain⟨hk1,hk2⟩:=hk';unfold keysI at hk1 hk2;obtain⟨na,nb,_⟩:=List.nodup_append.1 hk1;have hkR:∀r∈L8++L10,0<=r.1/\r.1<=12:=fun r hr=>by
  have:=hk2 r.1 (List.mem_append_right _ (List.mem_map_of_mem hr));omega
 have hsR:∀r∈L8++L10,S64 r:=perm_s64 (M:=12) (List.Perm.refl _) hkR he.2 om;rw[List.map_append] at nb;obtain⟨n8,n10,_⟩:=List.nodup_append.1 nb;refine⟨by rw[hc,hB],?_,fun RM hp hs=>?_,⟨fun s hs=>hsR s (List.mem_append_left _ (p8.mem_iff.2 hs)),fun s hs=>hsR s (List.mem_append_right _ (p10.mem_iff.2 hs)),fun s hs=>hsR s (p12.mem_iff.2 hs)⟩,⟨?_,?_⟩,na,fun s hs=>?_⟩
 ·exact(sorted_uniq (p10.symm.trans p11) ((p10.map _).nodup_iff.1 n10) s10 s11).symm
 ·refine sorted_uniq (hp.trans ((p8.append p10).symm.trans p12)) ?_ hs s12;refine((hp.trans (p8.append p10).symm).map (·.1)).nodup_iff.2 ?_;rw[List.map_append];exact nb
 ·rw[<-p8.length_eq];rw[List.length_append] at hfl;omega
 ·rw[<-p10.length_eq];rw[List.length_append] at hfl;omega
 ·obtain⟨i,hi,rfl⟩:=resOf_mem hs;have b1:=hk2 i.p (List.mem_append_left _ (List.mem_map_of_mem hi));have b2:=he.1 i hi;exact⟨by unfold I64;simp only;omega,by unfold I64;simp only;omega⟩
theorem close_law {IB:List Itm}(hk:(IB.map (·.p)).Nodup){R S:List (Int×Int)}(p:(resOf IB).Perm R)(q:(resOf IB).Perm S)(s:SoR R)(t:SoR S):R=S:=
 sorted_uniq (p.symm.trans q) ((p.map (·.1)).nodup_iff.1 (resOf_keys hk)) s t
def gPlus:List Ins:=[⟨1,0,0,0,[(97,97)]⟩,⟨2,2,4,0,[]⟩,⟨1,0,0,0,[(97,97)]⟩,⟨3,1,0,0,[]⟩,⟨0,0,0,0,[]⟩]
def gAlt:List Ins:=[⟨2,1,3,0,[]⟩,⟨1,0,0,0,[(97,97)]⟩,⟨3,5,0,0,[]⟩,⟨1,0,0,0,[(97,97)]⟩,⟨1,0,0,0,[(98,98)]⟩,⟨0,0,0,0,[]⟩]
def lPlus:List Bool:=[true,true,true,true,false]
def lAlt:List Bool:=[true,true,true,true,true,false]
theorem plus_feed:feedI gPlus (decL lPlus) [97,97] 0 [] false=([⟨0,[2,4],2⟩,⟨1,[2,4],2⟩,⟨2,[0],-1⟩],[]):=by kernel_rfl
theorem plus_feed2:feedI gPlus (decL lPlus) [98] 2 [⟨0,[2,4],2⟩,⟨1,[2,4],2⟩,⟨2,[0],-1⟩] true=([⟨3,[0],-1⟩],[(0,2),(1,2)]):=by kernel_rfl
theorem alt_feed:(feedI gAlt (decL lAlt) [97] 0 [] false).2=[(0,1)]:=by kernel_rfl
theorem lead_t {G:List Ins}{rn:Bool}{i:Nat}(h:leadP G rn i):leadG G rn i=true:=by unfold leadG;exact @decide_eq_true _ (Classical.propDecidable _) h
theorem lead_f {G:List Ins}{rn:Bool}{i:Nat}(h:¬leadP G rn i):leadG G rn i=false:=by unfold leadG;exact @decide_eq_false _ (Classical.propDecidable _) h
theorem done_no {G:List Ins}{rn:Bool}{i:Nat}{a:Ins}(h:G[i]? = some a)(ho:a.op=0):¬leadP G rn i:=by
 rintro⟨d,_,hr⟩;have key:∀j,¬sucE G rn i j:=by
  rintro j ⟨b,hb,hc⟩;rw[h] at hb;injection hb with hb
  subst hb;omega
 cases hr with
 | one h1=>exact key _ h1
 | cons h1 _=>exact key _ h1
theorem suc_set {G:List Ins}{i:Nat}{s:Sp}{x y n:Int}(h:G[i]? = some ⟨1,x,y,n,[s]⟩):sucE G false i (i+1):=⟨_,h,.inr (.inr (.inr ⟨rfl,⟨s,by simp,.inl rfl⟩,rfl⟩))⟩
theorem suc_split1 {G:List Ins}{i j:Nat}{x y n:Int}{l:List Sp}(h:G[i]? = some ⟨2,x,y,n,l⟩)(hj:j=x.toNat):sucE G false i j:=⟨_,h,.inl ⟨rfl,.inl hj⟩⟩
theorem suc_split2 {G:List Ins}{i j:Nat}{x y n:Int}{l:List Sp}(h:G[i]? = some ⟨2,x,y,n,l⟩)(hj:j=y.toNat):sucE G false i j:=⟨_,h,.inl ⟨rfl,.inr hj⟩⟩
theorem suc_jump {G:List Ins}{i j:Nat}{x y n:Int}{l:List Sp}(h:G[i]? = some ⟨3,x,y,n,l⟩)(hj:j=x.toNat):sucE G false i j:=⟨_,h,.inr (.inl ⟨rfl,hj⟩)⟩
theorem plus_lead:∀i,i<5->lPlus[i]? = some (leadG gPlus false i):=by
 have d4:isD gPlus 4=true:=by decide
 have e1:Rch (sucE gPlus false) 1 4:=.one (suc_split2 (x:=2) (y:=4) rfl rfl);have e0:Rch (sucE gPlus false) 0 4:=.cons (suc_set (s:=(97,97)) rfl) e1;have e3:Rch (sucE gPlus false) 3 4:=.cons (suc_jump (x:=1) rfl rfl) e1;have e2:Rch (sucE gPlus false) 2 4:=.cons (suc_set (s:=(97,97)) rfl) e3;intro i hi;have:i=0\/i=1\/i=2\/i=3\/i=4:=om;rcases this with rfl|rfl|rfl|rfl|rfl
 ·rw[lead_t ⟨4,d4,e0⟩];rfl
 ·rw[lead_t ⟨4,d4,e1⟩];rfl
 ·rw[lead_t ⟨4,d4,e2⟩];rfl
 ·rw[lead_t ⟨4,d4,e3⟩];rfl
 ·rw[lead_f (done_no (a:=⟨0,0,0,0,[]⟩) rfl rfl)];rfl
theorem alt_lead:∀i,i<6->lAlt[i]? = some (leadG gAlt false i):=by
 have d5:isD gAlt 5=true:=by decide
 have e2:Rch (sucE gAlt false) 2 5:=.one (suc_jump (x:=5) rfl rfl);have e1:Rch (sucE gAlt false) 1 5:=.cons (suc_set (s:=(97,97)) rfl) e2;have e0:Rch (sucE gAlt false) 0 5:=.cons (suc_split1 (j:=1) (x:=1) (y:=3) rfl rfl) e1;have e4:Rch (sucE gAlt false) 4 5:=.one (suc_set (s:=(98,98)) rfl);have e3:Rch (sucE gAlt false) 3 5:=.cons (suc_set (s:=(97,97)) rfl) e4;intro i hi;have:i=0\/i=1\/i=2\/i=3\/i=4\/i=5:=om;rcases this with rfl|rfl|rfl|rfl|rfl|rfl
 ·rw[lead_t ⟨5,d5,e0⟩];rfl
 ·rw[lead_t ⟨5,d5,e1⟩];rfl
 ·rw[lead_t ⟨5,d5,e2⟩];rfl
 ·rw[lead_t ⟨5,d5,e3⟩];rfl
 ·rw[lead_t ⟨5,d5,e4⟩];rfl
 ·rw[lead_f (done_no (a:=⟨0,0,0,0,[]⟩) rfl rfl)];rfl
theorem ls_known {c:Cd}(hc:CdOk c){G:List Ins}(h:insL c.hs=G)(hr:c.rn=false){ls:List Bool}(hl:ls.length=G.length)(hk:∀i,i<G.length->ls[i]? = some (leadG G false i)):c.ls=ls:=by
 have hn:c.hs.length=G.length:=by rw[<-h,insL_len]
 refine List.ext_getElem? (fun i=>?_);rcases Nat.lt_or_ge i c.hs.length with h1|h1
 ·rw[hc.lead i h1,h,hr,hk i om]
 ·rw[List.getElem?_eq_none (by rw[hc.ls];exact h1),List.getElem?_eq_none om]
def RetCk (G:List Ins)(w:World)(e:Ending)(w':World):Prop:=∃(A:Option Addr) (c:Nat) (hs:List Hin),e=.returned (.tuple #[.agg #[.slice A hs.length c,.int .i64 0,.bool false],.int .i64 0])/\insL hs=G/\PL w' A c hs/\Ext w w'
def patP (kb:Nat):Array Value:=#[.int .i64 4,.slice none 0 0,.slice (some ⟨kb,0,none⟩) 1 1,.int .i64 1,.int .i64 (-1),.int .i64 0,.int .i64 0,.bool false,.int .i64 0,.bool false]
def ndK (kb:Nat)(u v:Value):Nd:=⟨2,none,0,[],some ⟨kb,0,none⟩,2,[u,v],0,0,0,0,false⟩
def patA (kb:Nat):Array Value:=#[.int .i64 3,.slice none 0 0,.slice (some ⟨kb,0,none⟩) 2 2,.int .i64 0,.int .i64 0,.int .i64 0,.int .i64 0,.bool false,.int .i64 0,.bool false]
def CmpP:Prop:=∀(w:World) (kb sb:Nat),Blk w kb 61 (ndL sb 97).cs.toArray->Blk w sb 81 #[.int .i64 97,.int .i64 97]->Calls Tryz.prog 27 #[.agg (patP kb)] w (RetCk gPlus w)
def CmpA:Prop:=∀(w:World) (kb kc sb sc:Nat) (u v:Value),Blk w kb 61 ((ndL sb 97).cs++(ndK kc u v).cs).toArray->Blk w kc 61 ((ndL sb 97).cs++(ndL sc 98).cs).toArray->Blk w sb 81 #[.int .i64 97,.int .i64 97]->Blk w sc 81 #[.int .i64 98,.int .i64 98]->Calls Tryz.prog 27 #[.agg (patA kb)] w (RetCk gAlt w)
end
end Go.Proofs.YtmgpefenkilffaaGreat
