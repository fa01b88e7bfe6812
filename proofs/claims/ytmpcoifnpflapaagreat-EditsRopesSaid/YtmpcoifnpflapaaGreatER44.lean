/- Texts of this proof: Y26 Y27 Y38 DA DB. -/
import Derived.Test.YtmpcoifnpflapaaGreatER27
import Derived.Test.YtmpcoifnpflapaaGreatER34
import Derived.Test.YtmpcoifnpflapaaGreatER42
import Derived.Test.YtmpcoifnpflapaaGreatER43
set_option linter.all false
set_option maxRecDepth 100000
set_option maxHeartbeats 16000000
namespace Go.Proofs.YtmpcoifnpflapaaGreat
section
open Go.RowKit
attribute [local go_sem ↓] Go.wp_at_zero Go.wp_at_succ
theorem okL_goodc1 {l:List Sp}(h:OkL l):∀s∈l,goodS s:=(okL_canon h).2
theorem Y26z1 {P:Prop} (h:P:=by
 have j0:=kc0 k0;have j1:=kc0 k1;have j2:=kc0 k2;have j3:=kc0 k3;have j4:=kc0 k4;have ju0:=kc0 u0;have ju1:=kc0 u1;have ju2:=kc0 u2
 go_upto_region 24 with fail
 refine Xr.start [] kr ?_;refine Xtk 0 ?_;refine Xtn ?_
 iterate 13(first|refine Xtn ?_|refine Xsn ?_)
 iterate 2(refine Xtn ?_)
 iterate 15(first|refine Xtn ?_|refine Xsn ?_)
 iterate 2(refine Xtn ?_)
 refine Xdn fun w9 hE9 hK9=>?_;clear j0 j1 j2 j3 j4 ju0 ju1 ju2
 go_wp2_with fail
 go_ret
 exact⟨by rw[<-HRES.out];rfl,X2.trans hE9⟩):P:=h
theorem Y26z2 {P:Prop} (h:P:=by
 have HRES:Hid (res=false):=lh (by rw[<-hres.out];exact okB_f (fun h=>hq ⟨by have h3:=h.2.2.1;simp only at h3;omega,by have h3:=h.2.1;simp only at h3;omega,by have h3:=h.2.2.2.1;simp only at h3;omega⟩));have hqb:=eqNumF zx zy zn 0 0 0 hq;have HQ2:=fun(W:World)=>HQ zx zy zn 0 0 0 W;rw[hqb] at HQ2;clear HQ hq hqb;exact Y26z1):P:=h
theorem Y26z3 {P:Prop} (h:P:=by
 have hqb:=eqNumT zx zy zn 0 0 0 hq;have HQ2:=fun(W:World)=>HQ zx zy zn 0 0 0 W;rw[hqb] at HQ2;clear HQ hq hqb;exact Y26z1):P:=h
theorem pv1_any (gA:Option Addr)(n gc:Nat)(hn:n<=gc/\gc<=9223372036854775807)(runes:Bool)(caps:Int)(hcaps:0<=caps/\caps<=9)(zx zy zn:Int)(A:Option Addr)(c:Nat)(zl:List Sp)(w:World)(hL:SL w A c zl)(pb q:Nat)
 (c0:w.cell? ⟨pb,q,none⟩=some (.int .i64 1)) (c1:w.cell? ⟨pb,q+1,none⟩=some (.int .i64 zx)) (c2:w.cell? ⟨pb,q+2,none⟩=some (.int .i64 zy)) (c3:w.cell? ⟨pb,q+3,none⟩=some (.int .i64 zn)) (c4:w.cell? ⟨pb,q+4,none⟩=some (.slice A zl.length c)) :
 Calls Tryz.prog 131 #[.agg #[.slice gA n gc,.int .i64 caps,.bool runes],.pointer (some ⟨pb,q,none⟩)] w (RetV (.bool (okB runes caps n ⟨1,zx,zy,zn,zl⟩)) w):=by
 have hlen:=hL.len;have BG0:=Blk.new w 31 #[.slice gA n gc,.int .i64 caps,.bool runes];have EG0:=Ext.alloc w (.cells #[.slice gA n gc,.int .i64 caps,.bool runes] 31);have BU:=Blk.new (w.alloc (.cells #[.slice gA n gc,.int .i64 caps,.bool runes] 31)) 292 #[.int .i64 0,.int .i64 0,.int .i64 0];have EU:=Ext.alloc (w.alloc (.cells #[.slice gA n gc,.int .i64 caps,.bool runes] 31)) (.cells #[.int .i64 0,.int .i64 0,.int .i64 0] 292);have BG:=BG0.ext EU;have X1:=EG0.trans EU;rw[World.size_alloc] at BU;obtain⟨res,hres⟩:∃res,Hid (okB runes caps n ⟨1,zx,zy,zn,zl⟩=res):=⟨_,lh rfl⟩;rw[hres.out];have eg:=egTarget;have HQ:=fun(a b c d e f:Int) (W:World)=>eqNum a b c d e f W;go_enter Tryz.func131,Tryz.ntmps131
 go_upto_region 4 with fail
 obtain⟨gx,hgx⟩:∃gx,gx=w.heap.size:=⟨_,rfl⟩
 rw[<-hgx] at BG BU ⊢;clear BG0;generalize (w.alloc (.cells #[.slice gA n gc,.int .i64 caps,.bool runes] 31)).alloc (.cells #[.int .i64 0,.int .i64 0,.int .i64 0] 292)=w1 at *;have hpg:pb<gx:=by have:=World.block_lt_of_cell? _ _ c0;simp only at this;omega
 have hgw:w.heap.size<=gx:=om;clear EG0 EU hgx;have k0:=X1.cell c0;have k1:=X1.cell c1;have k2:=X1.cell c2;have k3:=X1.cell c3;have k4:=X1.cell c4;have g0:w1.cell? ⟨gx,0,none⟩=some (.slice gA n gc):=BG.cell 0;have g1:w1.cell? ⟨gx,1,none⟩=some (.int .i64 caps):=BG.cell 1;have g2:w1.cell? ⟨gx,2,none⟩=some (.bool runes):=BG.cell 2;have u0:w1.cell? ⟨gx+1,0,none⟩=some (.int .i64 0):=BU.cell 0;have u1:w1.cell? ⟨gx+1,1,none⟩=some (.int .i64 0):=BU.cell 1;have u2:w1.cell? ⟨gx+1,2,none⟩=some (.int .i64 0):=BU.cell 2;clear c0 c1 c2 c3 c4;by_cases hv:validE zl=0
 ·by_cases hr:runes=true
  ·skip
   have HV:=lh (sValid_any A c zl w1 (hL.ext X1));obtain⟨vE,hvE⟩:∃vE,Hid (validE zl=vE):=⟨_,lh rfl⟩;rw[hvE.out] at HV;have hv0:vE=0:=by rw[<-hvE.out];exact hv
   subst hv0;subst hr
   go_upto_region 8 with fail
   go_upto_region 9 with fail
   refine HV.out.mono ?_;rintro e w2 ⟨rfl,x2⟩;have X2:=X1.trans x2;replace k0:=x2.cell k0;replace k1:=x2.cell k1;replace k2:=x2.cell k2;replace k3:=x2.cell k3;replace k4:=x2.cell k4;replace g0:=x2.cell g0;replace g1:=x2.cell g1;replace g2:=x2.cell g2;replace u0:=x2.cell u0;replace u1:=x2.cell u1;replace u2:=x2.cell u2;by_cases hq:(zx=0/\zy=0/\zn=0)
   ·have HRES:Hid (res=true):=lh (by rw[<-hres.out];exact okB_t (by obtain⟨rfl,rfl,rfl⟩:=hq;exact ok1.2 ⟨hv,fun s hs=>by have h9:=okL_goodc1 (validE_zero hv).1 s (List.mem_of_getLast? hs);unfold goodS at h9;show s.2<=topV true;unfold topV;simp only[if_true];omega⟩));exact Y26z3
   ·exact Y26z2
  ·by_cases hs:zl=[]
   ·skip
    have HV:=lh (sValid_any A c zl w1 (hL.ext X1));obtain⟨vE,hvE⟩:∃vE,Hid (validE zl=vE):=⟨_,lh rfl⟩;rw[hvE.out] at HV;have hv0:vE=0:=by rw[<-hvE.out];exact hv
    subst hv0;have hr2:runes=false:=by simpa using hr
    subst hr2;subst hs
    go_upto_region 8 with fail
    go_upto_region 9 with fail
    refine HV.out.mono ?_;rintro e w2 ⟨rfl,x2⟩;have X2:=X1.trans x2;replace k0:=x2.cell k0;replace k1:=x2.cell k1;replace k2:=x2.cell k2;replace k3:=x2.cell k3;replace k4:=x2.cell k4;replace g0:=x2.cell g0;replace g1:=x2.cell g1;replace g2:=x2.cell g2;replace u0:=x2.cell u0;replace u1:=x2.cell u1;replace u2:=x2.cell u2;by_cases hq:(zx=0/\zy=0/\zn=0)
    ·have HRES:Hid (res=true):=lh (by rw[<-hres.out];exact okB_t (by obtain⟨rfl,rfl,rfl⟩:=hq;exact ok1.2 ⟨hv,fun s hs=>by simp at hs⟩));exact Y26z3
    ·exact Y26z2
   ·skip
    have HV:=lh (sValid_any A c zl w1 (hL.ext X1));obtain⟨vE,hvE⟩:∃vE,Hid (validE zl=vE):=⟨_,lh rfl⟩;rw[hvE.out] at HV;have hv0:vE=0:=by rw[<-hvE.out];exact hv
    subst hv0;have hr2:runes=false:=by simpa using hr
    subst hr2;obtain⟨m,hm⟩:∃m,zl.length=m+1:=⟨zl.length-1,by have:=List.length_pos_iff.2 hs;omega⟩;have hml:m<zl.length:=om;obtain⟨sb,so,rfl,s1,s2⟩:=hL.get hml;have hLS:zl.getLast? = some zl[m]:=by rw[List.getLast?_eq_getElem?,hm,Nat.add_sub_cancel];exact List.getElem?_eq_getElem hml
    have hw9:IntKind.i64.wrap (((m+1:Nat):Int)-1)=(m:Int):=wj;obtain⟨hi,hhi⟩:∃hi,Hid (zl[m].2=hi):=⟨_,lh rfl⟩;rw[hhi.out] at s2;have HLS:Hid (∃s,zl.getLast? = some s/\s.2=hi):=lh ⟨_,hLS,hhi.out⟩;rw[hm] at k4 HV hlen;clear hhi hLS hm s1 hs
    go_upto_region 8 with fail
    go_upto_region 9 with fail
    refine HV.out.mono ?_;rintro e w2 ⟨rfl,x2⟩;have X2:=X1.trans x2;replace k0:=x2.cell k0;replace k1:=x2.cell k1;replace k2:=x2.cell k2;replace k3:=x2.cell k3;replace k4:=x2.cell k4;replace g0:=x2.cell g0;replace g1:=x2.cell g1;replace g2:=x2.cell g2;replace u0:=x2.cell u0;replace u1:=x2.cell u1;replace u2:=x2.cell u2;have s2a:=(X1.trans x2).cell s2;by_cases h255:hi<=255
    ·skip
     by_cases hq:(zx=0/\zy=0/\zn=0)
     ·have HRES:Hid (res=true):=lh (by rw[<-hres.out];exact okB_t (by obtain⟨rfl,rfl,rfl⟩:=hq;exact ok1.2 ⟨hv,fun s hs2=>by obtain⟨s0,e0,e1⟩:=HLS.out;rw[e0] at hs2;injection hs2 with hs2;rw[<-hs2,e1];show hi<=topV false;unfold topV;simp only[Bool.false_eq_true,if_false];omega⟩));exact Y26z3
     ·exact Y26z2
    ·skip
     have HRES:Hid (res=false):=lh (by rw[<-hres.out];exact okB_f (fun h=>by have h1:=h.2.2.2.2;simp only at h1;rcases h1 with h1|⟨_,_,h1⟩|h1|h1|h1|h1<;>first|(obtain⟨s0,e0,e1⟩:=HLS.out;have h2:=h1 _ e0;rw[e1] at h2;unfold topV at h2;simp only[Bool.false_eq_true,if_false] at h2;omega)|omega));have hdd:=decide_eq_false h255;clear h255;exact Y26z1
 ·skip
  have HV:=lh (sValid_any A c zl w1 (hL.ext X1));obtain⟨vE,hvE⟩:∃vE,Hid (validE zl=vE):=⟨_,lh rfl⟩;rw[hvE.out] at HV;have hv0:(vE == 0)=false:=by rw[beq_eq_false_iff_ne,<-hvE.out];exact hv
  go_upto_region 8 with fail
  go_upto_region 9 with fail
  refine HV.out.mono ?_;rintro e w2 ⟨rfl,x2⟩;have X2:=X1.trans x2;replace k0:=x2.cell k0;replace k1:=x2.cell k1;replace k2:=x2.cell k2;replace k3:=x2.cell k3;replace k4:=x2.cell k4;replace g0:=x2.cell g0;replace g1:=x2.cell g1;replace g2:=x2.cell g2;replace u0:=x2.cell u0;replace u1:=x2.cell u1;replace u2:=x2.cell u2;have HRES:Hid (res=false):=lh (by rw[<-hres.out];exact okB_f (fun h=>by have h1:=h.2.2.2.2;simp only at h1;rcases h1 with h1|⟨_,h1,_⟩|h1|h1|h1|h1<;>first|exact hv h1|omega));exact Y26z1
theorem pvalid_any (gA:Option Addr)(n gc:Nat)(hn:n<=gc/\gc<=9223372036854775807)(runes:Bool)(caps:Int)(hcaps:0<=caps/\caps<=9)(zo zx zy zn:Int)(A:Option Addr)(c:Nat)(zl:List Sp)(w:World)(hL:SL w A c zl)(pb q:Nat)
 (c0:w.cell? ⟨pb,q,none⟩=some (.int .i64 zo)) (c1:w.cell? ⟨pb,q+1,none⟩=some (.int .i64 zx)) (c2:w.cell? ⟨pb,q+2,none⟩=some (.int .i64 zy)) (c3:w.cell? ⟨pb,q+3,none⟩=some (.int .i64 zn)) (c4:w.cell? ⟨pb,q+4,none⟩=some (.slice A zl.length c)) :
 Calls Tryz.prog 131 #[.agg #[.slice gA n gc,.int .i64 caps,.bool runes],.pointer (some ⟨pb,q,none⟩)] w (RetV (.bool (okB runes caps n ⟨zo,zx,zy,zn,zl⟩)) w):=by
 by_cases h0:zo=0
 ·subst h0;exact pv0_any gA n gc hn runes caps hcaps zx zy zn A c zl w hL pb q c0 c1 c2 c3 c4
 by_cases h1:zo=1
 ·subst h1;exact pv1_any gA n gc hn runes caps hcaps zx zy zn A c zl w hL pb q c0 c1 c2 c3 c4
 by_cases h2:zo=2
 ·subst h2;exact pv2_any gA n gc hn runes caps hcaps zx zy zn A c zl w hL pb q c0 c1 c2 c3 c4
 by_cases h3:zo=3
 ·subst h3;exact pv3_any gA n gc hn runes caps hcaps zx zy zn A c zl w hL pb q c0 c1 c2 c3 c4
 by_cases h4:zo=4
 ·subst h4;exact pv4_any gA n gc hn runes caps hcaps zx zy zn A c zl w hL pb q c0 c1 c2 c3 c4
 by_cases h5:zo=5
 ·subst h5;exact pv5_any gA n gc hn runes caps hcaps zx zy zn A c zl w hL pb q c0 c1 c2 c3 c4
 exact pvz_any gA n gc hn runes caps hcaps zo zx zy zn A c zl w hL pb q ⟨h0,h1,h2,h3,h4,h5⟩ c0 c1 c2 c3 c4
theorem Y27z1 {P:Prop} (h:P:=by
 clear hil;go_enter Tryz.func67,Tryz.ntmps67
 go_wp2_with fail
 go_ret
 exact⟨rfl,eG⟩):P:=h
theorem progValid_any (gA:Option Addr)(gc:Nat)(hs:List Hin)(runes:Bool)(caps:Int)(w:World)(hP:PL w gA gc hs) :
 Calls Tryz.prog 67 #[progV gA hs.length gc caps runes] w (RetV (.int .i64 (progE runes caps (insL hs))) w):=by
 have hcap:=hP.len;have bG:=Blk.new w 31 #[.slice gA hs.length gc,.int .i64 caps,.bool runes];have eG:=Ext.alloc w (.cells #[.slice gA hs.length gc,.int .i64 caps,.bool runes] 31);have hil:=insL_len hs;unfold progV;by_cases hbig:8192<hs.length
 ·rw[progE_big (by rw[hil];exact hbig)];have hbI:(8192:Int)<hs.length:=om;exact Y27z1
 ·have hbI:¬(8192:Int)<hs.length:=om;by_cases hn0:hs.length=0
  ·rw[progE_arg (by rw[hil];omega) (.inl (by rw[hil];exact hn0))];rw[hn0];clear hil hbig hbI hP hcap bG eG hn0;go_enter Tryz.func67,Tryz.ntmps67
   go_wp2_with fail
   all_goals
    go_ret
    exact⟨rfl,Ext.alloc _ _⟩
  ·have hnb:((hs.length:Int) == 0)=false:=by rw[beq_eq_false_iff_ne];omega
   by_cases hc0:caps<0
   ·rw[progE_arg (by rw[hil];omega) (.inr (.inl hc0))];exact Y27z1
   ·by_cases hc9:9<caps
    ·rw[progE_arg (by rw[hil];omega) (.inr (.inr hc9))];exact Y27z1
    ·clear hil;have hpos:0<hs.length:=om;have HBAD:=fun(k:Nat) (hk:k<hs.length) (h:¬InsOk runes caps hs.length hs[k].ins)=>lh (progE_badH (runes:=runes) (caps:=caps) (hs:=hs) hbig om hk h);have HEND:=fun(h:∀k (hk:k<hs.length),InsOk runes caps hs.length hs[k].ins)=>lh (progE_endH (runes:=runes) (caps:=caps) (hs:=hs) hbig om h om);obtain⟨E,hE⟩:∃E,E=progE runes caps (insL hs):=⟨_,rfl⟩
     rw[<-hE] at HBAD HEND ⊢;clear hE;have hnb2:=lh hnb;go_enter Tryz.func67,Tryz.ntmps67
     go_upto_region 6 with fail
     clear hnb;have hP0:=hP.ext eG;generalize w.alloc (.cells #[.slice gA hs.length gc,.int .i64 caps,.bool runes] 31)=w0 at *
     go_loopw [25] (fun v wr=>∃k:Nat,v=.int .i64 k/\k<=hs.length/\Hid (∀j (hj:j<hs.length),j<k->InsOk runes caps hs.length hs[j].ins)/\Ext w0 wr) (fun v _=>hs.length-(intOf v).toNat)
     case atStart=>exact⟨0,rfl,om,lh (fun j _ h=>om),Ext.rfl' _⟩
     case round=>
      obtain⟨k,rfl,hk,hok,x1⟩:=hrel;have bG1:=bG.ext x1;obtain⟨r0,r1,r2,r0f,r1f,r2f,rz⟩:=bG1.c3;by_cases hlt:k<hs.length
      ·have hkI:(k:Int)<hs.length:=om;obtain⟨pb,po,rfl,c0,c1,c2,c3,c4⟩:=(hP0.ext x1).get hlt;have hsl:=(hP0.ext x1).sl _ (List.getElem_mem hlt);have hwf:=(hP0.ext x1).rng _ (List.getElem_mem hlt);have HB:=fun h=>(HBAD k hlt h);have HOK:=fun(h:InsOk runes caps hs.length hs[k].ins)=>lh (show ∀j (hj:j<hs.length),j<k+1->InsOk runes caps hs.length hs[j].ins from fun j hj hjk=>by
        rcases Nat.lt_or_ge j k with h1|h1
        ·exact hok.out j hj h1
        ·have:j=k:=om;subst this;exact h)
       generalize hs[k]=hh at *;obtain⟨zop,zx,zy,zn,zA,zc,zl⟩:=hh;obtain⟨_,hw2,hw3,hw4⟩:=hwf
       simp only at c0 c1 c2 c3 c4 hsl hw2 hw3 hw4
       simp only[Hin.ins] at HB HOK;have HF:=fun(w':World) (h:Ext wr w')=>lh (pvalid_any (some ⟨pb,po,none⟩) hs.length gc hcap runes caps ⟨om,om⟩ zop zx zy zn zA zc zl w' (hsl.ext h) pb (po+k*5) (h.cell c0) (h.cell c1) (h.cell c2) (h.cell c3) (h.cell c4));have k0:=kc0 r0;have k1:=kc0 r1;have k2:=kc0 r2;have k3:=kc0 c0;have k4:=kc0 c1;have k5:=kc0 c2;have k6:=kc0 c3;have k7:=kc0 c4;by_cases hins:InsOk runes caps hs.length ⟨zop,zx,zy,zn,zl⟩
       ·have HK:=HOK hins;rw[okB_t hins] at HF;clear HB HOK hins hw2 hw3 hw4 HBAD HEND
        go_wp2_with fail
        refine Xr.start [] kr ?_;refine Xtk 0 ?_
        iterate 4(refine Xtn ?_)
        refine Xcl 5 fun w3 hE3 hK3 K hKK=>?_;go_simp;refine(HF w3 hE3).out.mono ?_;rintro e w4 ⟨rfl,x4⟩;refine hKK _ _ x4 ?_;clear hKK;refine ptm ?_;refine Xtk 6 ?_;refine Xdn fun w5 hE5 hK5=>?_;have xf:=x1.trans hK5.nil;clear k0 k1 k2 k3 k4 k5 k6 k7
        go_wp2_with fail
        go_roundw
        case rel=>exact⟨k+1,by go_num,om,HK,xf⟩
        case measure=>simp[intOf];omega
       ·have HK:=HB hins;rw[okB_f hins] at HF;clear HB HOK hins hw2 hw3 hw4 HBAD HEND
        go_wp2_with fail
        refine Xr.start [] kr ?_;refine Xtk 0 ?_
        iterate 4(refine Xtn ?_)
        refine Xcl 5 fun w3 hE3 hK3 K hKK=>?_;go_simp;refine(HF w3 hE3).out.mono ?_;rintro e w4 ⟨rfl,x4⟩;refine hKK _ _ x4 ?_;clear hKK;refine ptm ?_;refine Xtk 6 ?_;refine Xdn fun w5 hE5 hK5=>?_;have xf:=x1.trans hK5.nil;clear k0 k1 k2 k3 k4 k5 k6 k7
        go_wp2_with fail
        go_ret
        exact⟨by rw[HK.out];rfl,eG.trans xf⟩
      ·have hkI:¬(k:Int)<hs.length:=om;have hall:∀j (hj:j<hs.length),InsOk runes caps hs.length hs[j].ins:=fun j hj=>hok.out j hj om;have HE:=HEND hall;have hlast:=(hall (hs.length-1) om).2.2.2.2;obtain⟨pb,po,rfl,c0,c1,c2,c3,c4⟩:=(hP0.ext x1).get (k:=hs.length-1) om;generalize hs[hs.length-1]=hh at *;obtain⟨zop,zx,zy,zn,zA,zc,zl⟩:=hh;simp only[Hin.ins] at HE hlast c0;clear HBAD HEND hall hok c1 c2 c3 c4;have hwm:IntKind.i64.wrap ((hs.length:Int)-1)=(hs.length:Int)-1:=wj;have hl1:(hs.length:Int)-1<hs.length:=om;have hl2:(0:Int)<=(hs.length:Int)-1:=om;have hl3:((hs.length:Int)-1).toNat=hs.length-1:=om;have hzo:zop=0\/zop=1\/zop=2\/zop=3\/zop=4\/zop=5:=by
        rcases hlast with h|⟨h,_⟩|⟨h,_⟩|⟨h,_⟩|⟨h,_⟩|⟨h,_⟩<;>omega
       clear hlast;rcases hzo with rfl|rfl|rfl|rfl|rfl|rfl
       all_goals
        simp at HE
        go_wp2_with fail
        go_ret
        exact⟨by rw[HE.out];rfl,eG.trans x1⟩
def setH (hs:List Hin)(i:Nat):List Hs:=((hs.take i).filter (fun h=>decide (h.op=1))).map (fun h=>⟨h.A,h.c,h.l⟩)
theorem setH_succ {hs:List Hin}{i:Nat}(hi:i<hs.length):setH hs (i+1)=if hs[i].op=1 then setH hs i++[⟨hs[i].A,hs[i].c,hs[i].l⟩] else setH hs i:=by
 unfold setH;rw[List.take_succ_eq_append_getElem hi,List.filter_append,List.map_append];by_cases h:hs[i].op=1<;>simp[h]
theorem setH_len (hs:List Hin)(i:Nat):(setH hs i).length<=i:=by
 unfold setH;rw[List.length_map];exact Nat.le_trans (List.length_filter_le _ _) (by rw[List.length_take];omega)
theorem setH_mem {hs:List Hin}{i:Nat}{z:Hs}(h:z∈setH hs i):∃y∈hs,z=⟨y.A,y.c,y.l⟩:=by
 unfold setH at h;obtain⟨y,hy,rfl⟩:=List.mem_map.1 h;exact⟨y,List.mem_of_mem_take (List.mem_filter.1 hy).1,rfl⟩
theorem setH_all (hs:List Hin):(setH hs hs.length).map (·.l)=setsOf (insL hs):=by
 unfold setH setsOf insL;rw[List.take_length,List.map_map,List.filter_map,List.map_map]
 rfl
theorem ExM.nxl {wr:World}{g xb rn rc nc dc:Nat}{runes:Bool}{rA nA dA:Option Addr}{first:Int}{nxt:List Kr}{dn:List Bool}(h:ExM wr g xb runes rA rn rc first nA nc nxt dA dc dn):NXL wr nA nc nxt:=by
 have hc:=OwnS.caps h.own;refine⟨hc.1,by unfold maxLen;omega,h.kl,fun hn=>?_⟩;obtain⟨b,o,hA,hcell⟩:=OwnS.cells h.own (by unfold flatKr;simpa using hn);refine⟨b,o,hA,fun i hi=>?_⟩;have h1:=hcell i (by simpa[flatKr] using hi)
 simpa[flatKr] using h1
theorem ExM.keepG {wr w':World}{g xb rn rc nc dc:Nat}{runes:Bool}{rA nA dA:Option Addr}{first:Int}{nxt:List Kr}{dn:List Bool}(h:ExM wr g xb runes rA rn rc first nA nc nxt dA dc dn)(k:KpP (·=g) wr w'):NXL w' nA nc nxt/\IB w' dA dc dn:=by
 have hn:∀b,b=g->∀cur,wr.heap[b]?≠some (.cells cur 21 (0,0)):=fun b hb cur hh=>by
  subst hb;have h2:=h.blk;unfold Blk at h2;rw[h2] at hh;injection hh with hh;injection hh with _ h3;revert h3;decide
 have ho:=OwnS.kp h.own k (fun b hb e=>(own_blk h.own h.blk de) ((show b=g from e)▸hb));have hd:=OwnS.kp h.od k (fun b hb e=>(own_blk h.od h.blk de) ((show b=g from e)▸hb));refine⟨?_,IB.of_own hd⟩;have hc:=OwnS.caps ho;refine⟨hc.1,by unfold maxLen;omega,fun z hz=>((h.kl z hz).kpU (h.ty z hz) k hn).1,fun hn=>?_⟩;obtain⟨b,o,hA,hcell⟩:=OwnS.cells ho (by unfold flatKr;simpa using hn);refine⟨b,o,hA,fun i hi=>?_⟩;have h1:=hcell i (by simpa[flatKr] using hi)
 simpa[flatKr] using h1
theorem Y38z1 {P:Prop} (h:P:=by
 have XV:Ext wT wV:=XN.trans EA;clear EA XN hE6 hK6 hE7 hK7;refine Xtk 7 ?_;refine Xcl 8 fun w8 hE8 hK8 K hKK=>?_;have EU:=Ext.alloc w8 (.cells #[.slice gA hs.length gc,.slice none 0 0,.slice (some ⟨gM,0,none⟩) hs.length hs.length,.int .i64 0,.map (some gm),.slice none 0 0] 150);have BU:=Blk.new w8 150 #[.slice gA hs.length gc,.slice none 0 0,.slice (some ⟨gM,0,none⟩) hs.length hs.length,.int .i64 0,.map (some gm),.slice none 0 0];go_simp;refine hKK _ _ EU ?_;clear hKK;obtain⟨gb,hgb⟩:∃q,q=w8.heap.size:=⟨_,rfl⟩
 rw[<-hgb] at BU ⊢;have hgbT:wT.heap.size<=gb:=by have:=XV.size;have:=hE8.size;omega
 clear hgb;generalize w8.alloc (.cells #[.slice gA hs.length gc,.slice none 0 0,.slice (some ⟨gM,0,none⟩) hs.length hs.length,.int .i64 0,.map (some gm),.slice none 0 0] 150)=w9 at *;refine ptm ?_;refine Xtk 9 ?_;refine Xdn fun wU hE9 hK9=>?_;have XVU:=(hE8.trans EU).trans hE9;have HXU:=lh (HXT.out.trans (XV.trans XVU));have HBM:=lh (BMk.ext XVU);have HMP:=lh (MPk.ext XVU);have HMGU:=lh (HMG.out.ext (XV.trans XVU));have HBU:=lh (BU.ext hE9);have hST:=HXT.out.size;have HSO:=lh (bsort_any wS wU HXU.out gb om gA gc hs HPS.out om B5 d5 cs (HIS0.out) (by rw[HCN.out];omega) (.slice none 0 0) (.slice (some ⟨gM,0,none⟩) hs.length hs.length) 0 (.map (some gm)) (.slice none 0 0) HBU.out);have hSOe:cs.length=KS.length:=HCN.out;rw[hSOe] at HSO;clear hE8 hK8 EU BU hE9 hK9 XV XVU BMk MPk hSOe
 go_upto_region 20 with(go_at_call 72;refine HSO.out.mono ?_;rintro e wX ⟨gH,rows,rfl,bbX,bhX,roX,hgHX,kX⟩)
 have HKX:=lh kX;have hUS:=HXU.out.size;have HXX:Hid (Ext wS wX):=lh (HXU.out.kp kX (fun i hi=>by have e:i=gb:=hi;omega));have hMb:=HMP.out.ne HBU.out;have hneM:gM≠gb:=blk_blk HBM.out HBU.out de;have hneg:g≠gb:=blk_blk HMGU.out HBU.out de;have HBS:Hid (BS wX wS ⟨wX.heap.size,gb,gm,gM,gH⟩ gA gc hs cs rows 0 none 0 []):=lh (by
  refine⟨HXX.out,bbX,bhX,roX,⟨List.replicate hs.length 0,?_,by simp,fun i hi=>by simp[List.getD_eq_getElem?_getD,hi]⟩,⟨?_,OwnS.nil _ _ _ _,by simp,by simp,by simp,by simp⟩,⟨HXX.out.size,by simp only;omega,by simp only;omega,by simp only;omega,by simp only;omega⟩,Nat.le_refl _⟩
  ·have b:=kX.blk HBM.out hneM
   simpa[iInts] using b
  ·have b:=HMP.out.kp kX (fun e=>hMb e);exact b)
 have HEM:Hid (ExM wX g wX.heap.size runes SA sm.length SC 0 none 0 [] none 0 []):=lh ⟨kX.blk HMGU.out hneg,OwnS.nil _ _ _ _,by simp,by simp,OwnS.nil _ _ _ _⟩;have hcsK:=HCN.out;have HEX:=lh (explore_any wS wX ⟨wX.heap.size,gb,gm,gM,gH⟩ gA gc hs cs rows HBS.out (Nat.le_refl _) runes caps HG.out HPS.out om g hgS runes SA sm.length SC 0 HEM.out);rw[hcsK] at HEX;obtain⟨RES,hRES⟩:∃RES,Hid (stsG (insL hs) cs=RES):=⟨_,lh rfl⟩;rw[hRES.out] at HEX;clear bbX bhX roX kX HBM HMP HMGU HBU hMb hneM hneg HKX hcsK;obtain hn|⟨R,hR⟩:RES=none\/∃R,RES=some R:=by
  cases RES with
  | none=>exact .inl rfl
  | some R=>exact .inr ⟨R,rfl⟩
 ·have HRN:Hid (RES=none):=lh hn;have HEXn:Hid (Calls Tryz.prog 73 #[.pointer (some ⟨g,0,none⟩),.pointer (some ⟨gb,0,none⟩),.int .i64 KS.length] wX (fun e w'=>e=.returned (.bool false)/\Ext wS w')):=lh (HEX.out.mono (by
   rintro e w' (⟨_,h2,h3⟩|⟨R,_,_,_,_,_,_,_,h1,_⟩)
   ·exact⟨h2,h3⟩
   ·rw[hn] at h1;cases h1))
  clear hn HEX
  go_wp2_with (go_at_call 73;refine HEXn.out.mono ?_;rintro e wY ⟨rfl,xY⟩)
  have hc:newE runes caps (insL hs)=4:=by
   unfold newE;rw[HCK.out,hSE.out,hcs.out,hRES.out,HRN.out]
   simp
  exact bodyPost_ret (v:=.tuple #[.pointer none,.int .i64 4]) (by simp[results,Tryz.results13,go_sem]) rfl ⟨HXS.out.trans xY,.inl ⟨by rw[hc];decide,by rw[hc]⟩⟩
 ·have HRS:Hid (RES=some R):=lh hR;have HEXs:Hid (Calls Tryz.prog 73 #[.pointer (some ⟨g,0,none⟩),.pointer (some ⟨gb,0,none⟩),.int .i64 KS.length] wX (fun e w'=>∃(first:Int) (nA:Option Addr) (nc:Nat) (nxt:List Kr) (dA:Option Addr) (dc:Nat) (dn:List Bool),e=.returned (.bool true)/\Ext wS w'/\ExM w' g wX.heap.size runes SA sm.length SC first nA nc nxt dA dc dn/\OutI (insL hs) cs (some R) R R.length first (rowsOf nxt) dn)):=lh (HEX.out.mono (by
   rintro e w' (⟨h1,_,_⟩|⟨R2,first,nA,nc,nxt,dA,dc,dn,h1,h2,h3,h4,h5⟩)
   ·rw[hR] at h1;cases h1
   ·have e1:R2=R:=by rw[hR] at h1;injection h1 with h1;exact h1.symm
    subst e1;exact⟨first,nA,nc,nxt,dA,dc,dn,h2,h3,h4,h5⟩))
  clear hR HEX
  go_upto_region 22 with(go_at_call 73;refine HEXs.out.mono ?_;rintro e wY ⟨first,nA,nc,nxt,dA,dc,dn,rfl,xY,hEM,hOI⟩)
  have HXY:=lh xY;have HOI:=lh hOI;obtain⟨hr1,hr2,hr3⟩:=hOI.rows_len;rw[rowsOf_len] at hr1;have hR10:=hOI.le;have hcK:=HCN.out;have hFI:=find_any2 wY g ⟨runes,SA,sm.length,SC,first,nA,nc,nxt,dA,dc,dn,none,0,[]⟩ cs.length ⟨hEM.blk,hEM.nxl,IB.of_own hEM.od,IB.nil _⟩ ⟨rfl,rfl,rfl⟩
   (fun h hh=>by
    have h1:=hr3 h.l (List.mem_map.2 ⟨h,hh,rfl⟩)
    simp only
    rw[hr1];exact h1) (by simp only;omega) (by simp only;omega) om (fun w' k=>hEM.keepG k)
  rw[hcK] at hFI;have HFI:=lh hFI;have hgY:g<wY.heap.size:=hEM.blk.lt;clear hFI hcK xY hOI hEM
  go_wp2_with (go_at_call 74;refine HFI.out.mono ?_;rintro e wZ ⟨gO,op,rfl,hMA,hOP,kZ⟩)
  have hMA':MaAt wZ g ⟨runes,SA,sm.length,SC,first,nA,nc,nxt,dA,dc,dn,some ⟨gO,0,none⟩,nxt.length,op⟩:=hMA;have hop:op.length=nxt.length:=hOP.1;have XZ:Ext wS wZ:=HXY.out.kp kZ (fun i hi=>by have e:i=g:=hi;omega);have hc:newE runes caps (insL hs)=0:=by
   unfold newE;rw[HCK.out,hSE.out,hcs.out,hRES.out,HRS.out]
   simp
  have hsmR:sm.length<=1000000:=by
   have h1:=HPM.out.length_eq;have h2:=strA_len (ls:=KS.map (·.l)) (n:=1000) (fun l hl=>kept_cl HS.out (by rw[<-HKL.out];exact hl)) (KS.map (·.l)).length;have h3:KS.length*1000<=1000*1000:=Nat.mul_le_mul hkn (Nat.le_refl _);rw[h1] at h2;rw[List.length_map] at h2;omega
  have hfr : -1<=first/\first<nxt.length:=by
   rw[HOI.out.fst];rcases HOI.out.st0 with h0|h0
   ·rw[h0];unfold idx;rw[if_pos rfl];omega
   ·have hne:stateG (insL hs) [0]≠[]:=fun e=>HOI.out.good.2 (e▸h0);have:=idx_bd h0 hne;omega
  have hOPc:OpN nxt.length cs.length (rowsOf nxt) dn op:=by rw[HCN.out];exact hOP
  refine bodyPost_ret (v:=.tuple #[.pointer (some ⟨g,0,none⟩),.int .i64 0]) (by simp[results,Tryz.results13,go_sem]) rfl ⟨HXS.out.trans XZ,.inr ⟨hc,g,_,sm,R,rfl,by have:=HXS.out.size;omega,⟨HG.out,⟨hMA',⟨?_,?_,?_,?_,hfr⟩,HST.out.ext XZ,rfl,hsmR,HPW.out,hop,?_⟩,rfl,?_,?_,?_,?_⟩⟩⟩
  ·intro h hh
   try simp only
   rw[hcs.out];exact(hr3 h.l (List.mem_map.2 ⟨h,hh,rfl⟩)).1
  ·intro h hh x hx;have h1:=(hr3 h.l (List.mem_map.2 ⟨h,hh,rfl⟩)).2 x hx
   try simp only
   omega
  ·simp only;omega
  ·simp only;omega
  ·rw[hcs.out];have:=HCN.out;omega
  ·rw[hcs.out,hRES.out,HRS.out]
  ·rw[hcs.out];exact HOI.out.mach rfl rfl rfl (by simp only;omega)
  ·rw[hcs.out];exact HOI.out.opn (by rw[<-hr1];exact hOPc)
  ·refine clsG_of HG.out ?_ HPW.out;have h:=HPM.out;rw[List.length_map] at h;rw[HKL.out] at h;have e:KS.length=(keptG runes (insL hs)).length:=by rw[<-HKL.out,List.length_map]
   first|exact h|(rw[e] at h;exact h)):P:=h
theorem new_any2 (w:World)(gA:Option Addr)(gc:Nat)(hs:List Hin)(runes:Bool)(caps:Int)(hP:PL w gA gc hs)(hS:SmallG (insL hs)) :
 Calls Tryz.prog 13 #[progV gA hs.length gc caps runes] w (RetMN runes caps (insL hs) w):=by
 have hgl:=hP.len;have HP:=lh hP;have HS:=lh hS;have EB:=Ext.alloc w (.cells #[.slice gA hs.length gc,.int .i64 caps,.bool runes] 31);have BB:=Blk.new w 31 #[.slice gA hs.length gc,.int .i64 caps,.bool runes];clear hP hS;unfold progV;go_enter Tryz.func13,Tryz.ntmps13
 go_upto_region 1 with fail
 obtain⟨gq,hgq⟩:∃q,q=w.heap.size:=⟨_,rfl⟩
 rw[<-hgq] at BB ⊢;have HGQ:=lh hgq;clear hgq;generalize w.alloc (.cells #[.slice gA hs.length gc,.int .i64 caps,.bool runes] 31)=wa at *;have q0:wa.cell? ⟨gq,0,none⟩=some (.slice gA hs.length gc):=BB.cell 0;have q1:wa.cell? ⟨gq,1,none⟩=some (.int .i64 caps):=BB.cell 1;have q2:wa.cell? ⟨gq,2,none⟩=some (.bool runes):=BB.cell 2;have HBQ:=lh BB;clear BB;have HV:=lh (progValid_any gA gc hs runes caps wa (HP.out.ext EB));unfold progV at HV;have HPE:=lh (chkE_prog (runes:=runes) (caps:=caps) (G:=insL hs));obtain⟨E0,hE0⟩:∃E0,Hid (progE runes caps (insL hs)=E0):=⟨_,lh rfl⟩;rw[hE0.out] at HV;by_cases h0:E0=0
 ·subst h0
  go_upto_region 5 with(go_at_call 67;refine HV.out.mono ?_;rintro e w2 ⟨rfl,x2⟩)
  have X2:=EB.trans x2;have h8:hs.length<=8192:=by
   rcases Nat.lt_or_ge 8192 hs.length with h|h
   ·have h1:=progE_big (runes:=runes) (caps:=caps) (G:=insL hs) (by rw[insL_len];exact h);rw[hE0.out] at h1;omega
   ·exact h
  have q0r:=x2.cell q0;have HB2:=lh (HBQ.out.ext x2);have hw2:=X2.size;clear q0 q1 q2 HV EB x2 HBQ
  go_upto_region 6 with fail
  go_loopw [5,21] (fun v5 v21 wr=>∃(i:Nat) (A:Option Addr) (c:Nat),v21=.int .i64 i/\i<=hs.length/\v5=.slice A (setH hs i).length c/\Hid (OwnS wr w.heap.size 25 1 A (setH hs i).length c (flatH (setH hs i)))/\Hid (∀j (hj:j<hs.length),j<i->hs[j].op≠5)/\Hid (Ext w wr)/\Hid (Blk wr gq 31 #[.slice gA hs.length gc,.int .i64 caps,.bool runes])) (fun _ v _=>hs.length-(intOf v).toNat)
  case atStart=>exact⟨0,none,0,rfl,om,rfl,lh (OwnS.nil _ _ _ _),lh (fun j hj h=>absurd h (Nat.not_lt_zero _)),lh X2,HB2⟩
  case round=>
   obtain⟨i,A,c,rfl,hi,rfl,HO,HN5,HX,HB⟩:=hrel;clear HB2;obtain⟨wm,hwm⟩:∃x,x=wr:=⟨_,rfl⟩;subst hwm;by_cases hlt:i<hs.length
   ·have hiI:(i:Int)<hs.length:=om;obtain⟨pb,po,hgA,c0,c1,c2,c3,c4⟩:=(HP.out.ext HX.out).get hlt;have hgA':=hgA;subst hgA';have HSU:=lh (setH_succ hlt);have HN6:=lh (show hs[i].op≠5->∀j (hj:j<hs.length),j<i+1->hs[j].op≠5 from fun h j hj hji=>by
     by_cases e:j=i
     ·subst e;exact h
     ·exact HN5.out j hj om)
    have HK5:=lh (show progE runes caps (insL hs)=0->hs[i].op=5->newE runes caps (insL hs)=10 from fun h1 h2=>by
     have h3:=chkE_kind h1 hlt h2;unfold newE;rw[if_pos (by rw[h3];decide),h3])
    have hsl:=setH_len hs i;generalize hs[i]=hh at *;obtain⟨op,zx,zy,zn,hA,hc,hl⟩:=hh
    simp only at c0 c1 c2 c3 c4 HSU HN6 HK5
    have EP:=Ext.alloc wm (.cells #[.int .i64 op,.int .i64 zx,.int .i64 zy,.int .i64 zn,.slice hA hl.length hc] 133);have BP:=Blk.new wm 133 #[.int .i64 op,.int .i64 zx,.int .i64 zy,.int .i64 zn,.slice hA hl.length hc]
    go_upto_region 8 with fail
    obtain⟨gi,hgi⟩:∃q,q=wm.heap.size:=⟨_,rfl⟩
    rw[<-hgi] at BP ⊢;clear hgi;generalize wm.alloc (.cells #[.int .i64 op,.int .i64 zx,.int .i64 zy,.int .i64 zn,.slice hA hl.length hc] 133)=wi at *;have z0:wi.cell? ⟨gi,0,none⟩=some (.int .i64 op):=BP.cell 0;have z4:wi.cell? ⟨gi,4,none⟩=some (.slice hA hl.length hc):=BP.cell 4;have HO1:=lh (OwnS.ext HO.out EP);have HX1:=lh (HX.out.trans EP);have HB1:=lh (HB.out.ext EP);have hwi:=HX1.out.size;clear c0 c1 c2 c3 c4 HO HX HB EP BP;by_cases h5:op=5
    ·subst h5
     go_wp2_with fail
     have e:=HK5.out hE0.out si;exact bodyPost_ret (v:=.tuple #[.pointer none,.int .i64 10]) (by simp[results,Tryz.results13,go_sem]) rfl ⟨HX1.out,.inl ⟨by rw[e];decide,by rw[e]⟩⟩
    ·have h5f:(op == 5)=false:=by simp[h5]
     by_cases h1:op=1
     ·subst h1;obtain⟨iS,jS0,jS1,jS2,jS3⟩:=info_parts infoSl;have hsu:=HSU.out;rw[if_pos rfl] at hsu;have HSU2:=lh hsu;clear hsu;have EP2:=Ext.alloc wi (.cells #[.slice hA hl.length hc] 25);have HAPP:=fun(w8:World) (A8:Option Addr) (hg:(wi.alloc (.cells #[.slice hA hl.length hc] 25)).grownBy w8 (A.map (·.block)))=>lh (show Ext w w8/\Blk w8 gq 31 #[.slice (some ⟨pb,po,none⟩) hs.length gc,.int .i64 caps,.bool runes] from⟨(HX1.out.trans EP2).kp (KpP.of_grown hg) (fun i hi=>OwnS.row HO1.out i hi),(KpP.of_grown hg).blk (HB1.out.ext EP2) (own_blk (OwnS.ext HO1.out EP2) (HB1.out.ext EP2) de)⟩)
      go_wp2_with (at_builtin;refine wpList_app _ rfl _ _ _ rfl w.heap.size 25 iS (.slice none 0 0) 1 24 Tryz.underlying135 jS0 jS1 jS2 jS3 rfl om A (setH hs i).length c (flatH (setH hs i)) rfl (OwnS.ext HO1.out (Ext.alloc _ _)) _ 1 1 [.slice hA hl.length hc] rfl rfl (blk_cells (Blk.new _ _ _)) (by intro u hu;simp only[List.mem_cons,List.not_mem_nil,or_false] at hu;rcases hu with rfl;rfl) um om (Nat.le_trans hwi (Ext.alloc _ _).size) ?_;intro A8 c8 w8 ho8 hg8 hat8)
      have HX8:=lh (HAPP w8 A8 hg8).out.1;have HB8:=lh (HAPP w8 A8 hg8).out.2;have e1:(setH hs i++[(⟨hA,hc,hl⟩:Hs)]).length=(setH hs i).length+1:=by simp
      have HO8:Hid (OwnS w8 w.heap.size 25 1 A8 (setH hs (i+1)).length c8 (flatH (setH hs (i+1)))):=lh (by
       rw[HSU2.out,e1];have e2:flatH (setH hs i++[(⟨hA,hc,hl⟩:Hs)])=flatH (setH hs i)++[.slice hA hl.length hc]:=by simp[flatH]
       rw[e2];exact ho8)
      have HN8:=lh (HN6.out de);have e3:(setH hs (i+1)).length=(setH hs i).length+1:=by rw[HSU2.out,e1]
      have HE3:=lh e3;clear e1 e3 ho8 hg8 hat8 HAPP;go_roundw
      case rel=>exact⟨i+1,A8,c8,by go_num,om,by rw[HE3.out],HO8,HN8,HX8,HB8⟩
      case measure=>simp[intOf];omega
     ·have h1f:(op == 1)=false:=by simp[h1]
      have hsu:=HSU.out;rw[if_neg h1] at hsu;have HSU2:=lh hsu;clear hsu;have HN8:=lh (HN6.out h5)
      go_wp2_with fail
      go_roundw
      case rel=>exact⟨i+1,A,c,by go_num,om,by rw[HSU2.out],by rw[HSU2.out];exact HO1,HN8,HX1,HB1⟩
      case measure=>simp[intOf];omega
   ·have hiI:¬(i:Int)<hs.length:=om;obtain rfl:hs.length=i:=om;have hck:=chkE_ok hE0.out (fun k hk=>HN5.out k hk hk);have HG:=lh (chkE_zero hck);have HCK:=lh hck;have HSA:=lh (setH_all hs);have hsl:=setH_len hs hs.length;have HSW:=lh (show LLS wm A c (setH hs hs.length) from LLS.of_own HO.out (fun z hz=>by
     obtain⟨y,hy,rfl⟩:=setH_mem hz;exact(HP.out.sl y hy).ext HX.out))
    obtain⟨LS,hLS⟩:∃LS,Hid (setH hs hs.length=LS):=⟨_,lh rfl⟩;rw[hLS.out] at HSA HSW hsl ⊢;have hl1:LS.length<=1024:=by
     have h:=HS.out.sets
     rw[<-HSA.out,List.length_map] at h;exact h
    have q0:wm.cell? ⟨gq,0,none⟩=some (.slice gA hs.length gc):=HB.out.cell 0;have q1:wm.cell? ⟨gq,1,none⟩=some (.int .i64 caps):=HB.out.cell 1;have q2:wm.cell? ⟨gq,2,none⟩=some (.bool runes):=HB.out.cell 2;have HT:=lh (fun w'=>top_any gA hs.length gc caps runes w');have HSP:=fun(w':World) (x:Ext wm w')=>lh (sSplitN_any A c LS (topV runes) w' (HSW.out.ext x) (by have:=topV_rng runes;unfold I64;omega) hl1 (by rw[HSA.out];exact HS.out.flat) (by rw[HSA.out];exact HS.out.ends _));rw[HSA.out] at HSP;obtain⟨SE,hSE⟩:∃SE,Hid (splitE (setsOf (insL hs)) (topV runes)=SE):=⟨_,lh rfl⟩;clear hck HO HN5;unfold progV at HT
    go_upto_region 14 with(first|(go_at_call 69;refine(HT.out wm).mono ?_;rintro e w3 ⟨rfl,x3⟩)|(go_at_call 68;refine(HSP _ (by assumption)).out.mono ?_;rintro e w4 ⟨O,cO,ks,rfl,hL4,hk4,x4⟩))
    rw[hSE.out] at hk4 ⊢;have HX4:=lh ((HX.out.trans x3).trans x4);have q0s:=(x3.trans x4).cell q0;have q2s:=(x3.trans x4).cell q2;have HB4:=lh (HB.out.ext (x3.trans x4));clear q0 q1 q2 HX HB HT HSP HSW x3 x4;by_cases hs0:SE=0
    ·subst hs0;rw[if_pos rfl] at hk4;have hks:ks.length<=1000:=by
      have h:=classes_len HS.out (topV runes)
      rw[<-hk4,List.length_map] at h;exact h
     have HINH:=lh (inhabited_any O cO ks runes w4 hL4 om);have hKL:(inhU runes ks ks.length).map (·.l)=keptG runes (insL hs):=by rw[inhU_all,hk4];rfl
     have hKS:(inhU runes ks ks.length).map (fun z=>smpP runes z.l)=symsP runes (insL hs):=by
      unfold symsP
      rw[<-hKL,List.map_map]
      rfl
     unfold RetInh at HINH;rw[hKS] at HINH;generalize inhU runes ks ks.length=KS at *;have HKL:=lh hKL;have hkn:KS.length<=1000:=by
      have h:=kept_len (runes:=runes) HS.out
      rw[<-hKL,List.length_map] at h;exact h
     have hcn:(symsP runes (insL hs)).length=KS.length:=by rw[<-hKS,List.length_map]
     obtain⟨cs,hcs⟩:∃cs,Hid (symsP runes (insL hs)=cs):=⟨_,lh rfl⟩;rw[hcs.out] at HINH hcn;have HCN:=lh hcn;clear hKL hKS hcn hL4 hk4 hks
     go_upto_region 17 with(go_at_call 70;refine HINH.out.mono ?_;rintro e w5 ⟨O5,c5,B5,d5,rfl,hL5,hI5,x5⟩)
     have q0t:=x5.cell q0s;have q2t:=x5.cell q2s;have HX5:=lh (HX4.out.trans x5);have HP5:=lh (HP.out.ext HX5.out);have HI5:=lh hI5;have HSTR:=fun(w':World) (x:Ext w5 w')=>lh (stretches_any O5 c5 KS w' (hL5.ext x) (fun l hl=>kept_good HG.out (by rw[<-HKL.out];exact hl)) hkn (fun l hl=>kept_cl HS.out (by rw[<-HKL.out];exact hl)) (by have h:=kept_strs HG.out;rw[<-HKL.out,List.length_map] at h;exact h));have j2:=kc0 q2t;clear hL5 hI5 q0s q2s x5 HINH;refine Xr.start [] kr ?_;refine Xtk 0 ?_
     iterate 2(refine Xtn ?_)
     refine Xcl 3 fun w6 hE6 hK6 K hKK=>?_;go_simp;refine(HSTR w6 hE6).out.mono ?_;rintro e wS ⟨SA,SC,sm,rfl,hsl7,hperm,hpw,x7⟩;refine hKK _ _ x7 ?_;clear hKK;refine ptm ?_;refine Xtk 4 ?_;refine Xcl 5 fun w8 hE8 hK8 K hKK=>?_;have EM:=Ext.alloc w8 (.cells #[.bool runes,.slice SA sm.length SC,.int .i32 0,.slice none 0 0,.slice none 0 0,.slice none 0 0] 145);have BM:=Blk.new w8 145 #[.bool runes,.slice SA sm.length SC,.int .i32 0,.slice none 0 0,.slice none 0 0,.slice none 0 0];go_simp;refine hKK _ _ EM ?_;clear hKK;obtain⟨g,hg⟩:∃q,q=w8.heap.size:=⟨_,rfl⟩
     rw[<-hg] at BM ⊢;have hgS:wS.heap.size<=g:=by have:=hE8.size;omega
     clear hg;generalize w8.alloc (.cells #[.bool runes,.slice SA sm.length SC,.int .i32 0,.slice none 0 0,.slice none 0 0,.slice none 0 0] 145)=w9 at *;refine ptm ?_;refine Xtk 6 ?_;refine Xdn fun wT hE9 hK9=>?_;have XST:=(hE8.trans EM).trans hE9;have x5S:=hE6.trans x7;have HXS:=lh (HX5.out.trans x5S);have HPS:=lh (HP5.out.ext x5S);have HIS0:=lh (HI5.out.ext x5S);have HST:=lh hsl7;have HPM:=lh hperm;have HPW:=lh hpw;have HMG:=lh (BM.ext hE9);have HXT:=lh XST;have q0u:=(x5S.trans XST).cell q0t;clear hE6 hK6 hE8 hK8 hE9 hK9 EM BM x7 hsl7 hperm hpw XST x5S j2 q0t q2t HSTR HX5 HP5 HI5 HX4;have hmk:=mkInts hs.length (by have:=HG.out.len;rw[insL_len] at this;omega)
     go_upto_region 18 with fail
     have j0:=kc0 q0u;refine Xr.start [] kr ?_;refine Xtk 0 ?_
     iterate 4(refine Xtn ?_)
     clear j0;refine Xr.fork2 5 6 rfl rfl dK (by rfl) (by rfl) (fun wn hE6 hK6 K hKK=>?_) (fun wn hE6 hK6 K hKK=>?_)
     ·skip
      have XN:=hE6;have EA:=Ext.alloc wn (.cells (Array.replicate hs.length (.int .i64 0)) 3);have BMk:=Blk.new wn 3 (Array.replicate hs.length (.int .i64 0));go_simp;refine hKK _ _ (KpP.of_ext EA) (hK6.ext EA) ?_;clear hKK;obtain⟨gM,hgM⟩:∃q,q=wn.heap.size:=⟨_,rfl⟩
      rw[<-hgM] at BMk ⊢;have hgMT:wT.heap.size<=gM:=by have:=XN.size;omega
      clear hgM;generalize wn.alloc (.cells (Array.replicate hs.length (.int .i64 0)) 3)=wo at *;refine ptm ?_;refine Xsp 6 fun wp hE7 hK7 K hKK=>?_;replace XN:=(XN.trans EA).trans hE7;replace BMk:=(BMk.ext hE7);clear EA;have EA:=Ext.alloc wp (.map #[] 0);have MPk:MapAt (wp.alloc (.map #[] 0)) wp.heap.size Value.string (Value.int .i32) ([]:List (ByteArray×Int)):=MapAt.made wp Value.string (Value.int .i32);go_simp;refine hKK _ _ (KpP.of_ext EA) (hK7.ext EA) ?_;clear hKK;obtain⟨gm,hgm⟩:∃q,q=wp.heap.size:=⟨_,rfl⟩
      rw[<-hgm] at MPk ⊢;have hgmT:wT.heap.size<=gm:=by have:=XN.size;omega
      clear hgm;rw[show({ heap:=wp.heap.push (Obj.map #[] 0),tape:=wp.tape,drawn:=wp.drawn,os:=wp.os,output:=wp.output }:World)=wp.alloc (.map #[] 0) from rfl];generalize wp.alloc (.map #[] 0)=wV at *;refine ptm ?_;replace BMk:=(BMk.ext EA);exact Y38z1
     ·skip
      have XN:=hE6;have EA:=Ext.alloc wn (.map #[] 0);have MPk:MapAt (wn.alloc (.map #[] 0)) wn.heap.size Value.string (Value.int .i32) ([]:List (ByteArray×Int)):=MapAt.made wn Value.string (Value.int .i32);go_simp;refine hKK _ _ (KpP.of_ext EA) (hK6.ext EA) ?_;clear hKK;obtain⟨gm,hgm⟩:∃q,q=wn.heap.size:=⟨_,rfl⟩
      rw[<-hgm] at MPk ⊢;have hgmT:wT.heap.size<=gm:=by have:=XN.size;omega
      clear hgm;rw[show({ heap:=wn.heap.push (Obj.map #[] 0),tape:=wn.tape,drawn:=wn.drawn,os:=wn.os,output:=wn.output }:World)=wn.alloc (.map #[] 0) from rfl];generalize wn.alloc (.map #[] 0)=wo at *;refine ptm ?_;refine Xsp 5 fun wp hE7 hK7 K hKK=>?_;replace XN:=(XN.trans EA).trans hE7;replace MPk:=(MPk.ext hE7);clear EA;have EA:=Ext.alloc wp (.cells (Array.replicate hs.length (.int .i64 0)) 3);have BMk:=Blk.new wp 3 (Array.replicate hs.length (.int .i64 0));go_simp;refine hKK _ _ (KpP.of_ext EA) (hK7.ext EA) ?_;clear hKK;obtain⟨gM,hgM⟩:∃q,q=wp.heap.size:=⟨_,rfl⟩
      rw[<-hgM] at BMk ⊢;have hgMT:wT.heap.size<=gM:=by have:=XN.size;omega
      clear hgM;generalize wp.alloc (.cells (Array.replicate hs.length (.int .i64 0)) 3)=wV at *;refine ptm ?_;replace MPk:=(MPk.ext EA);exact Y38z1
    ·have hsf:(SE == 0)=false:=by simp[hs0]
     go_wp2_with fail
     have hc:newE runes caps (insL hs)=SE:=by
      unfold newE;rw[HCK.out,hSE.out];simp[hs0]
     exact bodyPost_ret (v:=.tuple #[.pointer none,.int .i64 SE]) (by simp[results,Tryz.results13,go_sem]) rfl ⟨HX4.out,.inl ⟨by rw[hc];exact hs0,by rw[hc]⟩⟩
 ·have h0f:(E0 == 0)=false:=by simp[h0]
  go_wp2_with (go_at_call 67;refine HV.out.mono ?_;rintro e w2 ⟨rfl,x2⟩)
  have hc:newE runes caps (insL hs)=E0:=by
   have h1:=HPE.out (by rw[hE0.out];exact h0);unfold newE;rw[if_pos (by rw[h1,hE0.out];exact h0),h1,hE0.out]
  exact bodyPost_ret (v:=.tuple #[.pointer none,.int .i64 E0]) (by simp[results,Tryz.results13,go_sem]) rfl ⟨EB.trans x2,.inl ⟨by rw[hc];exact h0,by rw[hc]⟩⟩
def RetM1 (G:List Ins)(w:World)(e:Ending)(w':World):Prop:=Ext w w'/\∃(g:Nat) (m:Ma) (strt:List Sp) (R:List St),e=.returned (.tuple #[.pointer (some ⟨g,0,none⟩),.int .i64 0])/\NewOk w' false 0 G g m strt R
theorem RetMN.one {G:List Ins}{w:World}{e:Ending}{w':World}(h:RetMN false 0 G w e w')(h0:newE false 0 G=0):RetM1 G w e w':=by
 obtain⟨x,⟨h1,_⟩|⟨_,g,m,s,R,h2,_,h3⟩⟩:=h
 ·exact absurd h0 h1
 ·exact⟨x,g,m,s,R,h2,h3⟩
end
section
open Go.RowKit
section
variable {w:World} {runes:Bool} {caps:Int} {G:List Ins} {g:Nat} {m:Ma} {strt:List Sp} {R:List St}
theorem NewOk.syms (h:NewOk w runes caps G g m strt R){ts:List Int}(ht:ts.all (symV runes)=true):SymsOk strt (symsP runes G).length (clsF runes G strt) ts/\∀x∈ts,ClOf G (symsP runes G) (clsF runes G strt) x:=clsF_syms h.cls ht
theorem NewOk.lt (h:NewOk w runes caps G g m strt R){ts:List Int}(ht:ts.all (symV runes)=true):∀c∈ts.map (clsF runes G strt),c<(symsP runes G).length:=fun c hc=>by
 obtain⟨x,hx,rfl⟩:=List.mem_map.1 hc;exact((h.syms ht).1 x hx).2
theorem NewOk.of (h:NewOk w runes caps G g m strt R){T:Option Addr}{tc:Nat}{ts:List Int}(hT:IL w T tc ts)(ht:ts.all (symV runes)=true)(hl:ts.length<=65536) :
 Calls Tryz.prog 21 #[.pointer (some ⟨g,0,none⟩),.slice T ts.length tc] w (RetSumE m g (ts.map (clsF runes G strt)) w):=
 of_any2 w g m _ strt h.at_ _ T tc ts hT (by rw[h.run];unfold textE;rw[if_neg om,if_pos ht]) om (h.syms ht).1
theorem NewOk.join (h:NewOk w runes caps G g m strt R){ga gb:Nat}{sa sb:Sm}{ta tb:List Int}(ha:SmAt w ga sa)(ka:SumOf m g (ta.map (clsF runes G strt)) sa)(hb:SmAt w gb sb)(kb:SumOf m g (tb.map (clsF runes G strt)) sb)(hta:ta.all (symV runes)=true)(htb:tb.all (symV runes)=true)(hl:ta.length+tb.length<=65536) :
 Calls Tryz.prog 36 #[.pointer (some ⟨g,0,none⟩),.pointer (some ⟨ga,0,none⟩),.pointer (some ⟨gb,0,none⟩)] w (RetSumE m g ((ta++tb).map (clsF runes G strt)) w):=by
 have k:=joinX_any w g m _ h.at_.at_ h.at_.ok ga gb sa sb _ _ ha ka hb kb (h.lt hta) (h.lt htb) (by simpa using hl)
 rwa [<-List.map_append] at k
end
end
end Go.Proofs.YtmpcoifnpflapaaGreat
