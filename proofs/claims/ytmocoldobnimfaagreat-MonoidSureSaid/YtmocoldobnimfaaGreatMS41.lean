/- Texts of this proof: MS2. -/
import Derived.Test.YtmocoldobnimfaaGreatMS12
import Derived.Test.YtmocoldobnimfaaGreatMS37
import Derived.Test.YtmocoldobnimfaaGreatMS39
import Derived.Test.YtmocoldobnimfaaGreatMS40
set_option linter.all false
set_option maxRecDepth 100000
set_option maxHeartbeats 16000000
namespace Go.Proofs.YtmocoldobnimfaaGreat
section
open Go.RowKit
attribute [local go_sem ↓] Go.wp_at_zero Go.wp_at_succ
theorem Ev {rn:Bool}{ts:List Int}(h:∀x∈ts,0<=x/\x<=200):ts.all (Qy rn)=true:=
 List.all_eq_true.2 fun x hx=>by
  have:=h x hx;unfold Qy
  cases rn<;>simp<;>omega
theorem I8 {w:World}{runes:Bool}{caps:Int}{G:List Ins}{g:Nat}{m:Ma}{strt:List Sp}{R sts:List St}{op:List Bool}(h:WK w runes caps G g m strt R)(hs:VS G (Zj runes G)=some sts)(ho:VE G (Zj runes G) sts op):R=sts/\m.opn=op:=by
 have e:=h.sts;rw[jU h.ok,hs] at e;injection e with e
 subst e;exact⟨rfl,VE.uniq h.opn ((dQ h.ok).2 ho)⟩
theorem RP {rn:Bool}{cp:Int}{G:List Ins}(h:ZW rn cp G=0):WG rn cp G=0:=by
 by_cases e:WG rn cp G=0
 ·exact e
 ·have h1:=vx e;unfold ZW at h;rw[if_pos (by rw[h1];exact e),h1] at h;exact h
theorem monoidSure_any (w:World)(LA:Option Addr)(lc:Nat)(ls:List Int)(MA:Option Addr)(mc:Nat)(ms:List Int)(KA:Option Addr)(kc:Nat)(ks:List Int)(plain:Bool)(hl:IL w LA lc ls)(hm:IL w MA mc ms)(hk:IL w KA kc ks) :
 Calls Tryz.prog 8 #[.slice LA ls.length lc,.slice MA ms.length mc,.slice KA ks.length kc,.bool plain] w (QD (.bool true) w):=by
 have hll:=hl.len;have hmm:=hm.len;have hkk:=hk.len;have HSO:=lh (RN w LA lc ls MA mc ms plain hl hm);have HKI:=lh hk;clear hl hm hk;go_enter Tryz.func8,Tryz.ntmps8
 go_upto_region 2 with(go_at_call 24;refine HSO.out.mono ?_;rintro e w1 ⟨A,c,hs,cp,rn,TA,tc,ts,rfl,hg,hcp,hT,htb,htl,x1⟩)
 have E2:=Ext.alloc w1 (.cells #[.slice A hs.length c,.int .i64 cp,.bool rn] 33);have B2:=Blk.new w1 33 #[.slice A hs.length c,.int .i64 cp,.bool rn];change Code.wp _ _ _ _ (w1.alloc (.cells #[.slice A hs.length c,.int .i64 cp,.bool rn] 33));have D:=lh ((hg.gd ix.1 ix.2).ext E2);have HT2:=lh (hT.ext E2);have HTS:=lh htb;have HX2:=lh (x1.trans E2);have hl2:=hg.pl.len;have ht2:=hT.len;obtain⟨g11,hg11⟩:∃g,g=w1.heap.size:=⟨_,rfl⟩
 rw[<-hg11] at B2 ⊢;clear hg11 hg hcp hT htb x1 HSO E2;generalize w1.alloc (.cells #[.slice A hs.length c,.int .i64 cp,.bool rn] 33)=w2 at *;obtain⟨v0,v1,v2,_⟩:=B2.c3;have HR10:=lh (IK w2 A c hs cp rn D.out.pl D.out.len);have HBg:=lh B2;clear B2
 go_upto_region 3 with(first|(have hq:=HRL;go_at_call 20;refine(yD w15 A15 c15 hs rn cp HP15.out D.out.sm).mono ?_;rintro e w16 ⟨x16,hN⟩;have HX16:=lh (HRL.out.trans x16);have u0:=x16.cell t0;have u1:=x16.cell t1;have u2:=x16.cell t2;clear x16;rcases hN with⟨hn0,rfl⟩|⟨hn0,g5,m5,s5,R5,rfl,hg5,hok5⟩)|(go_at_call 21;refine HR10.out.mono ?_;rintro e w15 ⟨A15,c15,rfl,hp15,x15⟩;have HRL:=lh x15;have HP15:=lh hp15;have t0:=x15.cell v0;have t1:=x15.cell v1;have t2:=x15.cell v2;clear x15 hp15))
 ·go_upto_region 4 with(go_at_call 22;refine(Iq w16 A c hs rn cp (D.out.pl.ext HX16.out) D.out.sm).mono ?_;rintro e w17 ⟨x17,hQ⟩;have HX17:=lh (HX2.out.trans (HX16.out.trans x17));clear x17;rcases hQ with⟨hq0,rfl⟩|⟨hq0,SA,sc,xs,YA,yc,OA,oc,op,rfl,_⟩<;>first|exact absurd hq0 hn0|unfold JU)
  have hb:(ZW rn cp (QW hs) == 0)=false:=by simpa using hn0
  have hb2:(ZW rn cp (QW hs) != 0)=true:=by simpa using hn0
  clear u0 u1 u2
  go_wp2_with (go_at_call 23;refine(AP _).mono ?_;rintro e w19 ⟨rfl,x19⟩;have HXE:=lh (HX17.out.trans ((Ext.alloc _ _).trans x19)))
  go_ret
  exact⟨rfl,HXE.out⟩
 ·have HOK:=lh hok5;clear hok5
  go_upto_region 4 with(go_at_call 22;refine(Iq w16 A c hs rn cp (D.out.pl.ext HX16.out) D.out.sm).mono ?_;rintro e w17 ⟨x17,hQ⟩;have HX17:=lh (HX16.out.trans x17);have HOK:=lh (HOK.out.ext x17);rcases hQ with⟨hq0,rfl⟩|⟨hq0,SA,sc,xs,YA,yc,OA,oc,op,rfl,hLN,hYY,hOO,hGO,hst,hop⟩<;>first|exact absurd hn0 hq0|unfold JU)
  obtain⟨hRe,hOe⟩:=I8 HOK.out hst hop;subst hRe;subst hOe;have E18:=Ext.alloc w17 (.cells #[.slice A hs.length c,.int .i64 cp,.bool rn,.slice SA xs.length sc,.slice YA (Zj rn (QW hs)).length yc,.slice OA m5.opn.length oc] 53);have B18:=Blk.new w17 53 #[.slice A hs.length c,.int .i64 cp,.bool rn,.slice SA xs.length sc,.slice YA (Zj rn (QW hs)).length yc,.slice OA m5.opn.length oc];obtain⟨g15,hg15⟩:∃g,g=w17.heap.size:=⟨_,rfl⟩
  rw[<-hg15] at B18 ⊢;have X218:=HX17.out.trans E18;have HX18:=lh (HX2.out.trans X218);have HT18:=lh (HT2.out.ext X218);have HP18:=lh (D.out.pl.ext X218);have HOK18:=lh (HOK.out.ext E18);have HLN:=lh (hLN.ext E18);have HOO:=lh (hOO.ext E18);have hol:m5.opn.length=xs.length:=by have:=hop.1;rw[QF] at this;exact this
  have HOL:=lh hol;have hLl:=hLN.len;have hOl:=hOO.len;have HGO:=lh hGO;have HB18:=lh B18;have HBG:=lh (HBg.out.ext X218);have HPE:=lh (RP hn0);have D1000:=D.out.len;have hyl:(Zj rn (QW hs)).length<=10000:=by rw[vR];have:=Hk (runes:=rn) D.out.sm;omega
  have HYY:=lh (hYY.ext E18);have hst2:=lh hst;clear hg15 E18 B18 X218 HX17 HX16 HX2 HT2 D HOK hLN hYY hOO hst hop hGO hol u0 u1 u2 HR10 HP15 HRL hn0 hq0;generalize w17.alloc (.cells #[.slice A hs.length c,.int .i64 cp,.bool rn,.slice SA xs.length sc,.slice YA (Zj rn (QW hs)).length yc,.slice OA m5.opn.length oc] 53)=w18 at *;have HSY:=lh (Ev (rn:=rn) HTS.out);have HO1:=lh (HOK18.out.of HT18.out HSY.out om)
  go_upto_region 6 with fail
  go_upto_region 7 with(go_at_call 26;refine HO1.out.mono ?_;rintro e w19 ⟨ga,sa,rfl,ha,ka,y19⟩)
  have HA19:=lh ha;have HKA:=lh ka;have X19:=lh y19;have HTX:=lh (CO KA kc ks 8 w19 (HKI.out.ext (HX18.out.trans y19)) om);have hxb:=jF ks 8;have hxl:=vX ks 8;generalize rtext ks 8=kt at *;have HKS:=lh (Ev (rn:=rn) hxb);clear ha ka y19 HO1 hxb
  go_upto_region 8 with(first|(have hq:=HK20;go_at_call 26;refine((HOK18.out.ext (X19.out.trans X20.out)).of HK20.out HKS.out om).mono ?_;rintro e w21 ⟨gb,sb,rfl,hb,kb,y21⟩)|(go_at_call 25;refine HTX.out.mono ?_;rintro e w20 ⟨KA2,kc2,rfl,hK2,x20,_⟩;have HK20:=lh hK2;have X20:=lh x20;clear hK2 x20))
  have X21:=lh ((X19.out.trans X20.out).trans y21);have HJ:=lh ((HOK18.out.ext X21.out).join (HA19.out.ext (X20.out.trans y21)) HKA.out hb kb HSY.out HKS.out om);have HA21:=lh (HA19.out.ext (X20.out.trans y21));clear hb kb y21 HA19 HTX
  go_upto_region 9 with(go_at_call 27;refine HJ.out.mono ?_;rintro e w22 ⟨gj,sj,rfl,hj,kj,y22⟩)
  have X22:=lh (X21.out.trans y22);have HSB:Hid ((ts++kt).all (Qy rn)=true):=lh (by rw[List.all_append,HSY.out,HKS.out];rfl);have hbl:(ts++kt).length<=1000000:=by rw[List.length_append];omega
  have HF1:=fun(w':World) (x:Ext w22 w')=>lh ((HOK18.out.ext (X22.out.trans x)).sure (HA21.out.ext (y22.trans x)) HKA.out HSY.out om);have HF2:=fun(w':World) (x:Ext w22 w')=>lh ((HOK18.out.ext (X22.out.trans x)).found (hj.ext x) kj HSB.out hbl);have HF3:=fun(w':World) (x:Ext w22 w')=>lh ((HOK18.out.ext (X22.out.trans x)).sure (hj.ext x) kj HSB.out hbl);obtain⟨S,hS⟩:∃S,S=ZQ (QW hs) (QV xs) m5.opn ts true:=⟨_,rfl⟩;obtain⟨F,hF⟩:∃F,F=ZQ (QW hs) (QV xs) m5.opn (ts++kt) false:=⟨_,rfl⟩;obtain⟨L,hL⟩:∃L,L=ZQ (QW hs) (QV xs) m5.opn (ts++kt) true:=⟨_,rfl⟩
  rw[<-hS] at HF1
  rw[<-hF] at HF2
  rw[<-hL] at HF3;have HIN:Hid (∀p∈S,p∈F/\p∈L):=lh (fun p hp=>by
   rw[hS] at hp;rw[hF,hL];exact⟨HOK18.out.more HSY.out HKS.out hp false,HOK18.out.more HSY.out HKS.out hp true⟩)
  have hSl:S.length<=13:=by
   have:=DK (QW hs) (QV xs) m5.opn ts true (ts.length+1);rw[hS];unfold ZQ;omega
  have HSS:=lh hS;clear hS hF hL hbl HJ HA21 HSB
  go_upto_region 10 with(go_at_call 29;refine(HF1 _ (Ext.rfl' _)).out.mono ?_;rintro e w23 ⟨A1,c1,rfl,f1,y23⟩)
  go_upto_region 11 with(go_at_call 28;refine(HF2 _ y23).out.mono ?_;rintro e w24 ⟨A2,c2,rfl,f2,y24⟩)
  go_upto_region 12 with(go_at_call 29;refine(HF3 _ (y23.trans y24)).out.mono ?_;rintro e w25 ⟨A3,c3,rfl,f3,y25⟩)
  have X25:=lh (X22.out.trans ((y23.trans y24).trans y25));have F1:=lh (f1.ext (y24.trans y25));have F2:=lh (f2.ext y25);have F3:=lh f3;clear f1 f2 f3 y22 y23 y24 y25 HF1 HF2 HF3 hj kj X19 X20 X21 X22 HK20 HKS HKA hxl
  go_upto_region 14 with fail
  go_wp2_with fail
  go_loopw [27] (fun v wr=>∃k:Nat,v=.int .i64 k/\k<=S.length/\Ext w25 wr) (fun v _=>S.length-(intOf v).toNat)
  case atStart=>exact⟨0,rfl,om,Ext.rfl' _⟩
  case round=>
   obtain⟨k,rfl,hk,x1⟩:=hrel;by_cases hlt:k<S.length
   ·obtain⟨sb,so,rfl,g1,g2⟩:=(F1.out.ext x1).get hlt;have hI:(k:Int)<S.length:=om;have hS1:=F1.out.len;have hp:=HIN.out S[k] (List.getElem_mem hlt);have P1:=fun(w':World) (x:Ext wr w')=>lh (show Calls Tryz.prog 38 #[.slice A2 F.length c2,.agg #[.int .i64 S[k].1,.int .i64 S[k].2]] w' (QD (.bool true) w') by
     have h:=xU A2 c2 F S[k].1 S[k].2 w' (F2.out.ext (x1.trans x))
     rwa [decide_eq_true hp.1] at h)
    have P2:=fun(w':World) (x:Ext wr w')=>lh (show Calls Tryz.prog 38 #[.slice A3 L.length c3,.agg #[.int .i64 S[k].1,.int .i64 S[k].2]] w' (QD (.bool true) w') by
     have h:=xU A3 c3 L S[k].1 S[k].2 w' (F3.out.ext (x1.trans x))
     rwa [decide_eq_true hp.2] at h)
    clear hp;generalize S[k]=s at *;obtain⟨s1,s2⟩:=s
    simp only at g1 g2 P1 P2
    go_wp2_with (first|(have hq:=z1;go_at_call 38;refine(P2 _ z1.out).out.mono ?_;rintro e w27 ⟨rfl,y27⟩;have z2:=lh (z1.out.trans y27))|(go_at_call 38;refine(P1 _ (Ext.rfl' _)).out.mono ?_;rintro e w26 ⟨rfl,y26⟩;have z1:=lh y26;have g1':=y26.cell g1;have g2':=y26.cell g2;clear y26))
    go_roundw
    case rel=>exact⟨k+1,by go_num,om,x1.trans z2.out⟩
    case measure=>simp[intOf];omega
   ·have hI:¬(k:Int)<S.length:=om;have XR:=lh (X25.out.trans x1);have HTo:=lh (HT18.out.ext XR.out);have HPo:=lh (HP18.out.ext XR.out);have HYo:=lh (HYY.out.ext XR.out);have HGo:=lh (HBG.out.ext XR.out);have HMo:=lh (HB18.out.ext XR.out);have HSo:=lh (F1.out.ext x1);have HXo:=lh (HX18.out.trans XR.out);obtain⟨wo,hwo⟩:∃wo,wo=wr:=⟨_,rfl⟩
    rw[<-hwo] at HTo HPo HYo HGo HMo HSo HXo ⊢;clear hwo;have hcT:=HTo.out.len;clear hk hlt x1 F1 F2 F3 HIN X25 XR HT18 HP18 HYY HBG HB18 HX18 HLN HOO
    go_upto_region 19 with fail
    clear hI
    go_wp2_with fail
    go_loopw [28] (fun v wr=>∃i:Nat,v=.int .i64 i/\i<=ts.length+1/\Ext wo wr) (fun v _=>ts.length+1-(intOf v).toNat)
    case atStart=>exact⟨0,rfl,om,Ext.rfl' _⟩
    case round=>
     obtain⟨i,rfl,hi,x2⟩:=hrel;by_cases hle:i<=ts.length
     ·have hiI:(i:Int)<=ts.length:=om;have hiI2:(i:Int)<=tc:=om;have bG:=HGo.out.ext x2;obtain⟨r0,r1,r2,_⟩:=bG.c3;have k0:=kc0 r0;have k1:=kc0 r1;have k2:=kc0 r2;have hdl:(ts.drop i).length=ts.length-i:=List.length_drop;have HDL:=lh hdl;have HBD:=Lw (QW hs) (QX (QW hs) [0]) (ts.drop i) 0;rw[hdl] at HBD;have hn8:=HGO.out.len;rw[Qw] at hn8;have hs0:GJ hs.length (QX (QW hs) [0]):=⟨YI _,by have h1:=qY (G:=QW hs) [0];rw[Qw] at h1;omega⟩;have HSN:=fun(w':World) (x:Ext wr w') F fc hF=>lh (vj A c hs rn cp HGO.out w' (HPo.out.ext (x2.trans x)) F fc [0] hF (fun i hi=>by have h0:i=0:=(by simpa using hi);omega));have HRN:=fun(w':World) (x:Ext wr w') A' c' hS=>lh (Sk A c hs rn cp HGO.out w' (HPo.out.ext (x2.trans x)) A' c' (QX (QW hs) [0]) hS hs0 (WS TA tc i) (tc-i) (ts.drop i) ((HTo.out.ext (x2.trans x)).dropN hle) 0);have hro:=lh (Bj HGO.out (ts.drop i) 0 (QX (QW hs) [0]) (if Qk (QW hs) (QX (QW hs) [0])=true/\(0:Int)=0 then 0 else -1) hs0);have hst3:=lh (HOK18.out.stat HSY.out i);have HLS:=fun wd e hw hc hd=>lh (HOK18.out.less (wd:=wd) HSY.out (i:=i) hw hc hd e);have HFS:=lh (yE (QW hs) (QX (QW hs) [0]) (ts.drop i) 0)
      rw[<-HSS.out] at HLS;rw[show(WE (QZ (QW hs)) (Qk (QW hs)) (ts.drop i) 0 (QX (QW hs) [0]) (if Qk (QW hs) (QX (QW hs) [0])=true/\(0:Int)=0 then 0 else -1))=rrun (QW hs) (QX (QW hs) [0]) (ts.drop i) 0 from rfl] at hro;generalize rrun (QW hs) (QX (QW hs) [0]) (ts.drop i) 0=r at *;obtain⟨rs,rl⟩:=r
      simp only at HBD hro hst3 HLS HFS
      have HWD:=fun(w':World) (x:Ext wr w') A' c' hS=>lh (GK A c hs rn cp HGO.out w' (HPo.out.ext (x2.trans x)) SA xs.length sc YA yc (Zj rn (QW hs)) (HYo.out.ext (x2.trans x)) hyl OA m5.opn.length oc A' c' rs hS hro.out.1 hro.out.2 (QV xs) HOK18.out.mo.len (fun x hx=>HOK18.out.clR (.inr hx)) (HOK18.out.clR hst3.out) (iY hn8.2 hst2.out));unfold QN at HSN HRN;unfold JU at HWD;clear r0 r1 r2 hdl hs0 hro hst3 bG
      go_upto_region 22 with fail
      refine Xr.start [] kr ?_;refine Xtk 0 ?_;refine Xtn ?_;refine Xtk 4 ?_;refine Xtn ?_;refine Xr.take 6 (some 169) (v:=.slice (WS TA tc i) (ts.length-i) (tc-i)) rfl rfl dK (by rfl) (fun w' hk=>?_) ?_
      ·by_cases hcc:tc=i
       ·have hd:WS TA tc i=TA:=by unfold WS;rw[if_pos hcc]
        rw[hd];go_simp
       ·have hd:WS TA tc i=TA.map (fun x=>x.add i):=by unfold WS;rw[if_neg hcc]
        rw[hd];go_simp
      refine ptm ?_;refine Xr.lazy 2 165 3 (fun g=>.slice (some ⟨g,0,none⟩) 1 1) 3 #[.int .i64 0] rfl si dK si (fun w'=>by go_simp) ?_;refine Xr.stepZ rfl dK (fun _=>by rfl) (fun w2 gq hE2 hK2 hgq hq _ K hKK=>?_);go_simp;refine(HSN w2 hK2.nil (some ⟨gq,0,none⟩) 1 (IL.one (x:=0) hq (by unfold I64;omega))).out.mono ?_;rintro e w3 ⟨A3',c3',rfl,hA3,x3,f3⟩;refine hKK _ _ (dE x3) (hK2.ext x3) ?_;clear hKK;refine ptm ?_;refine Xcl 7 fun w4 hE4 hK4 K hKK=>?_;go_simp;have HR4:=HRN w4 hK4.nil A3' c3' (hA3.ext hE4);rw[HDL.out] at HR4;refine HR4.out.mono ?_;rintro e w5 ⟨A5',c5',rfl,hA5,x5⟩;refine hKK _ _ x5 ?_;clear hKK;refine ptm ?_;refine Xtk 8 ?_
      iterate 4(refine Xtn ?_)
      refine Xdn fun w6 hE6 hK6=>?_;have y6:=hK6.nil;have HW6:=lh ((HWD w6 y6 A5' c5' (hA5.ext hE6)).out);have Y6:=lh (x2.trans y6);have BM:=HMo.out.ext Y6.out;have m0:w6.cell? ⟨g15,0,none⟩=some (.slice A hs.length c):=BM.cell 0;have m1:w6.cell? ⟨g15,1,none⟩=some (.int .i64 cp):=BM.cell 1;have m2:w6.cell? ⟨g15,2,none⟩=some (.bool rn):=BM.cell 2;have m3:w6.cell? ⟨g15,3,none⟩=some (.slice SA xs.length sc):=BM.cell 3;have m4:w6.cell? ⟨g15,4,none⟩=some (.slice YA (Zj rn (QW hs)).length yc):=BM.cell 4;have m5':w6.cell? ⟨g15,5,none⟩=some (.slice OA m5.opn.length oc):=BM.cell 5;clear k0 k1 k2 hE2 hK2 hgq hq hA3 x3 f3 hE4 hK4 hE6 hK6 hA5 x5 HR4 HRN HSN HWD BM y6 x2
      go_upto_region 24 with(go_at_call 41;refine HW6.out.mono ?_;rintro e w7 ⟨WA,wc,wd,b,rfl,hWI,x7,hb1,hb2,hwl⟩)
      have HWI:=lh hWI;have HB1:=lh hb1;have Y7:=lh (Y6.out.trans x7);clear hWI hb1 hb2 m0 m1 m2 m3 m4 m5' HW6
      cases b with
      | false=>
       clear x7
       go_wp2_with fail
       go_roundw
       case rel=>exact⟨i+1,by go_num,om,Y7.out⟩
       case measure=>simp[intOf];omega
      | true=>
       obtain⟨hw1,hw2,hw3⟩:=HB1.out rfl;have HPR:Hid (pkR (QW hs) ((ts++wd).drop i) i (QX (QW hs) [0]) (false,0)=(true,(ts.length:Int)+wd.length)):=lh (by
        have hd:(ts++wd).drop i=ts.drop i++wd:=List.drop_append_of_le_length hle;rw[hd,Iy _ _ _ _ (by rw[List.foldl_append,<-HFS.out];exact hw3),List.length_append,HDL.out]
        congr 1;omega)
       have HLB:=lh (HLS wd ((i:Int)+rl) hw1 hw2 hw3).out;have bG:=HGo.out.ext Y7.out;obtain⟨r0,r1,r2,_⟩:=bG.c3;have hl2:=D1000;have HRE:=lh (IK w7 A c hs cp rn (HPo.out.ext Y7.out) hl2);have HP3:Hid (∀(w':World),Ext wo w'->Calls Tryz.prog 38 #[.slice A1 S.length c1,.agg #[.int .i64 i,.int .i64 ((i:Int)+rl)]] w' (QD (.bool false) w')):=lh (fun w' x=>by
        have h:=xU A1 c1 S i ((i:Int)+rl) w' (HSo.out.ext x)
        rwa [decide_eq_false HLB.out] at h)
       have HPK:Hid (∀(w':World) (A5:Option Addr) (c5:Nat) (A3:Option Addr) (c3:Nat),PL w' A5 c5 hs->IL w' A3 c3 (ts++wd)->Calls Tryz.prog 42 #[.agg #[.slice A5 hs.length c5,.int .i64 cp,.bool rn],.slice A3 (ts.length+wd.length) c3,.int .i64 i] w' (N2 w' (true,(ts.length:Int)+wd.length) #[.int .i64 0])):=lh (fun w' A5 c5 A3 c3 hp ht=>by
        have h:=RO w' A5 c5 hs cp rn A3 c3 (ts++wd) i HGO.out HPE.out hp ht (by rw[List.length_append];omega) (by rw[List.length_append];omega);rw[HPR.out,List.length_append] at h;exact h)
       have HRG:Hid (∀x∈ts++wd,I64 x):=lh (fun x hx=>by
        rcases List.mem_append.1 hx with hx|hx
        ·exact HTo.out.rng x hx
        ·exact HWI.out.rng x hx)
       obtain⟨i0,hi0,hz0,hz1,hz2⟩:=info_parts VV;clear hw1 hw2 hw3 HB1 HLS HFS x7 bG
       go_upto_region 26 with(first|(have hq:=HO2;go_at_call 42;refine(HPK.out w17 A5 c5 A3 c3 (HP15.out.ext X17.out) (IL.of_own HO2.out HRG.out)).mono ?_;rintro e w18 ⟨pst,pA,pn,pc,rfl,x18⟩;have X18:=lh (X17.out.trans x18);have BS:=Blk.new w18 89 #[.int .i64 pst,.int .i64 ((ts.length:Int)+wd.length),.slice pA pn pc];have ES:=Ext.alloc w18 (.cells #[.int .i64 pst,.int .i64 ((ts.length:Int)+wd.length),.slice pA pn pc] 89);clear x18)|(have hq:=HO1;at_builtin;refine Qv _ rfl _ _ _ rfl w15.heap.size 3 i0 (.int .i64 0) 1 8 Tryz.underlying22 hi0 hz0 hz1 hz2 rfl om A2 ts.length c2 (ts.map (Value.int .i64)) rfl HO1.out _ wd.length wc (wd.map (Value.int .i64)) rfl si (HCW w16 HX16.out).out (ZP wd) um om HX16.out.size ?_;intro A3 c3 w17 ho3 hg3 hat3;have X17:=lh (HX16.out.grown hg3 (fun b hb=>QQ.row HO1.out b hb));have HO2:Hid (WO w17 w15.heap.size 3 A3 c3 (ts++wd)):=lh (by unfold WO;rw[List.length_append,List.map_append];exact ho3);clear ho3 hg3 hat3)|(have hq:=HOE;at_builtin;refine Qv _ rfl _ _ _ rfl w15.heap.size 3 i0 (.int .i64 0) 1 8 Tryz.underlying22 hi0 hz0 hz1 hz2 rfl om _ 0 0 [] rfl HOE.out _ ts.length tc (ts.map (Value.int .i64)) rfl si HCL.out (ZP ts) um om HEE.out.size ?_;intro A2 c2 w16 ho2 hg2 hat2;have HX16:=lh (HEE.out.grown hg2 si);simp only[Nat.zero_add,List.nil_append] at ho2 ⊢;have HO1:Hid (WO w16 w15.heap.size 3 A2 c2 ts):=lh ho2;clear ho2 hg2 hat2)|(go_at_call 21;refine HRE.out.mono ?_;rintro e w15 ⟨A5,c5,rfl,hp15,x15⟩;have HP15:=lh hp15;have Y15:=lh (Y7.out.trans x15);have EE:=Ext.alloc w15 (.cells #[] 3);have HOE:Hid (QQ (w15.alloc (.cells #[] 3)) w15.heap.size 3 1 (some ⟨w15.heap.size,0,none⟩) 0 0 []):=lh (QQ.of_blk (n:=0) (c:=0) (Blk.new w15 _ #[]) (Nat.le_refl _) si si um);have HCL:=lh ((HTo.out.ext (Y15.out.trans EE)).cells);have HCW:=fun(w':World) (x:Ext w15 w')=>lh ((HWI.out.ext (x15.trans x)).cells);have HEE:=lh EE;clear hp15 EE))
       have X19:=lh (Y15.out.trans (X18.out.trans ES));have e1:(w18.alloc (.cells #[.int .i64 pst,.int .i64 ((ts.length:Int)+wd.length),.slice pA pn pc] 89)).cell? ⟨w18.heap.size,1,none⟩=some (.int .i64 ((ts.length:Int)+wd.length)):=BS.cell 1;generalize w18.alloc (.cells #[.int .i64 pst,.int .i64 ((ts.length:Int)+wd.length),.slice pA pn pc] 89)=w19 at *;clear BS ES HO1 HO2 HOE HCL HCW HEE HX16 X17 X18 HP15 Y15 HPK HRE HRG HPR r0 r1 r2;by_cases hr0:0<=rl
       ·go_wp2_with (go_at_call 38;refine(HP3.out _ X19.out).mono ?_;rintro e w20 ⟨rfl,y20⟩;have X20:=lh (X19.out.trans y20))
        go_roundw
        case rel=>exact⟨i+1,by go_num,om,X20.out⟩
        case measure=>simp[intOf];omega
       ·go_wp2_with fail
        go_roundw
        case rel=>exact⟨i+1,by go_num,om,X19.out⟩
        case measure=>simp[intOf];omega
     ·have hiI:¬(i:Int)<=ts.length:=om;have hx2:=x2;clear HTo HPo HYo HGo HMo HSo
      go_wp2_with (go_at_call 23;refine(AP wr).mono ?_;rintro e w5 ⟨rfl,x5⟩;have HXE:=lh (HXo.out.trans (hx2.trans x5)))
      go_ret
      exact⟨rfl,HXE.out⟩
end
