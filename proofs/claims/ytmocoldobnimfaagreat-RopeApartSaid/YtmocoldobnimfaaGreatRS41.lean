/- Texts of this proof: RX. -/
import Derived.Test.YtmocoldobnimfaaGreatRS13
import Derived.Test.YtmocoldobnimfaaGreatRS40
set_option linter.all false
set_option maxRecDepth 100000
set_option maxHeartbeats 16000000
namespace Go.Proofs.YtmocoldobnimfaaGreat
section
open Go.RowKit
attribute [local go_sem ↓] Go.wp_at_zero Go.wp_at_succ
theorem ropeApart_any (w:World)(A0:Option Addr)(c0:Nat)(l0:List Int)(A1:Option Addr)(c1:Nat)(l1:List Int)(a b:Int)(A4:Option Addr)(c4:Nat)(l4:List Int)(i0:IL w A0 c0 l0)(i1:IL w A1 c1 l1)(i4:IL w A4 c4 l4)(ha:I64 a)(hb:I64 b) :
 Calls Tryz.prog 13 #[.slice A0 l0.length c0,.slice A1 l1.length c1,.int .i64 a,.int .i64 b,.slice A4 l4.length c4] w (RetV (.bool true) w):=by
 have HP:=lh (xplain_any w A0 c0 l0 none 0 [] false i0 (IL.nil w));have HI1:=lh i1;have HI3:=lh i4;clear i0 i1 i4;go_enter Tryz.func13,Tryz.ntmps13
 go_upto_region 2 with(go_at_call 15;refine HP.out.mono ?_;rintro e w1 ⟨n,gr,TA,tc,ts,he,ht,hgr,hT,hfr,htb,htl,x1⟩;have he2:e=.returned (.tuple #[.agg (ptC n gr false),.slice TA ts.length tc]):=he;subst he2;clear he;unfold ptC)
 change Code.wp _ _ _ _ (w1.alloc (.cells (ptC n gr false) 28));have E2:=Ext.alloc w1 (.cells (ptC n gr false) 28);have B2:=Blk.new w1 28 (ptC n gr false);have HX2:=lh (x1.trans E2);have HT2:=lh (ht.ext E2);clear hT hfr htb htl x1 ht HP;obtain⟨g2,hg2⟩:∃g,g=w1.heap.size:=⟨_,rfl⟩
 rw[<-hg2] at B2 ⊢;clear hg2 E2;generalize w1.alloc (.cells (ptC n gr false) 28)=w2 at *;have HMC:=lh (rmo_any _ w2 n gr false HT2.out (by unfold I64;omega));unfold patN at HMC;obtain⟨p0,p1,p2,p3,p4,p5,p6,p7,p8,p9⟩:=pt_cells B2;clear B2
 go_upto_region 3 with(go_at_call 58;refine HMC.out.mono ?_;rintro e w3 ⟨x3,h⟩;have HX3:=lh (HX2.out.trans x3);clear x3;rcases h with rfl|⟨g,ok,S,rfl,hm⟩)
 ·have HTX:=lh (rText_any A1 c1 l1 40 w3 (HI1.out.ext HX3.out) om);clear p0 p1 p2 p3 p4 p5 p6 p7 p8 p9
  go_upto_region 4 with(go_at_call 25;refine HTX.out.mono ?_;rintro e w4 ⟨A4,c4,rfl,hi4,x4,_⟩;have HX4:=lh (HX3.out.trans x4);have HLV:=lh (rlives_any w4);clear hi4 x4)
  go_wp2_with (go_at_call 52;refine HLV.out.mono ?_;rintro e w14 ⟨rfl,x14⟩;have HX14:=lh (HX4.out.trans x14);clear x14)
  go_ret
  exact⟨rfl,HX14.out⟩
 ·have HMX:=lh hm;have HM:=hm.mo;clear hm;clear p0 p1 p2 p3 p4 p5 p6 p7 p8 p9 HMC HT2 HX2;have HTX:=lh (rText_any A1 c1 l1 40 w3 (HI1.out.ext HX3.out) om)
  go_upto_region 4 with(go_at_call 25;refine HTX.out.mono ?_;rintro e w4 ⟨T,tc,rfl,hi4,x4,_⟩;have HI:=lh hi4;have HX4:=lh x4;clear hi4 x4)
  have HTB:=lh (rtext_bd l1 40);have HTL:=rtext_len l1 40;generalize rtext l1 40=ts at *;clear HTX HI1;by_cases h4:ts.length<4
  ·have HLV:=lh (rlives_any w4)
   go_wp2_with (go_at_call 52;refine HLV.out.mono ?_;rintro e w14 ⟨rfl,x14⟩;have HX14:=lh (HX3.out.trans (HX4.out.trans x14));clear x14)
   go_ret
   exact⟨rfl,HX14.out⟩
  ·obtain⟨n,hn⟩:∃n,n=ts.length:=⟨_,rfl⟩
   rw[<-hn] at h4 HTL;obtain⟨m,hm⟩:∃m,m=n / 2:=⟨_,rfl⟩;have hmI:(n:Int) / 2=(m:Int):=om;have hm2:2<=m:=om;have hmn:m+2<=n:=om;have b1:=around_bd a (m:Int) om;have HA1:=fun(W:World)=>lh (around_any a (m:Int) W ha om om);obtain⟨p,hp1,hp2⟩:∃p:Nat,p<m/\around a (m:Int)=(p:Int):=⟨(around a (m:Int)).toNat,om,om⟩;rw[hp2] at HA1;obtain⟨r,hr⟩:∃r:Nat,(r:Int)=(n:Int)-(m:Int)-1:=⟨n-m-1,om⟩;have b2:=around_bd b (r:Int) om;have HA2:=fun(W:World)=>lh (around_any b (r:Int) W hb om om);obtain⟨q,hq1,hq2⟩:∃q:Nat,q<r/\around b (r:Int)=(q:Int):=⟨(around b (r:Int)).toNat,om,om⟩;rw[hq2] at HA2
   rw[<-hn];have HN:=lh hn;clear hn b1 b2 hp2 hq2 hm;have h4I:¬(n:Int)<4:=om
   go_upto_region 6 with fail
   clear h4I
   go_upto_region 7 with(go_at_call 17;refine(HA1 w4).out.mono ?_;rintro e w5 h5;obtain⟨rfl,x5⟩:=h5.v;clear h5;have X5:=lh x5;clear x5)
   go_upto_region 8 with(go_at_call 17;rw[show((n:Int)-(m:Int)-1)=(r:Int) from hr.symm];refine(HA2 w5).out.mono ?_;rintro e w6 h6;obtain⟨rfl,x6⟩:=h6.v;clear h6;have X6:=lh (X5.out.trans x6);clear x6)
   obtain⟨k,hk⟩:∃k:Nat,(m:Int)+1+(q:Int)=(k:Int):=⟨m+1+q,om⟩;have hkn:k<n:=om;have hmk:m<k:=om;rw[hk];clear hk hr HA1 HA2;have X6b:=lh (HX4.out.trans X6.out);have HT1:=fun(W:World) (x:Ext w6 W)=>lh (rText_any A4 c4 l4 3 W (HI3.out.ext (HX3.out.trans (X6b.out.trans x))) om);have HT2:=fun(W:World) (x:Ext w6 W)=>lh (rText_any A4 c4 l4 5 W (HI3.out.ext (HX3.out.trans (X6b.out.trans x))) om)
   go_upto_region 9 with(go_at_call 25;refine(HT1 w6 (Ext.rfl' _)).out.mono ?_;rintro e w7 ⟨A7,c7,rfl,hi7,x7,_⟩;have HI7:=lh hi7;have X7:=lh x7;clear hi7 x7)
   obtain⟨d1,hd1,hd1m⟩:∃d1:Nat,min 1 ((m:Int)-(p:Int))=(d1:Int)/\p+d1<=m:=⟨(min 1 ((m:Int)-(p:Int))).toNat,om,om⟩;rw[hd1];clear hd1 hmI;have hR7:=rtext_bd l4 3;have hL7:=rtext_len l4 3;generalize rtext l4 3=s1 at *;have B17:=Blk.new w7 102 #[.int .i64 p,.int .i64 d1,.slice A7 s1.length c7];have E17:=Ext.alloc w7 (.cells #[.int .i64 p,.int .i64 d1,.slice A7 s1.length c7] 102);obtain⟨g17,hg17⟩:∃g,g=w7.heap.size:=⟨_,rfl⟩
   rw[<-hg17] at B17 ⊢;clear hg17;generalize w7.alloc (.cells #[.int .i64 (p:Int),.int .i64 (d1:Int),.slice A7 s1.length c7] 102)=w8 at *;have X8:=lh (X7.out.trans E17);have HI8:=lh (HI7.out.ext E17);have HB8:=lh B17;clear B17 E17 X7 HI7 HT1
   go_upto_region 10 with(go_at_call 25;refine(HT2 w8 X8.out).out.mono ?_;rintro e w9 ⟨A9,c9,rfl,hi9,x9,_⟩;have HI9:=lh hi9;have X9:=lh (X8.out.trans x9);have HB9:=lh (HB8.out.ext x9);have HI79:=lh (HI8.out.ext x9);clear hi9 x9)
   obtain⟨d2,hd2,hd2m⟩:∃d2:Nat,min 2 ((n:Int)-(k:Int))=(d2:Int)/\k+d2<=n:=⟨(min 2 ((n:Int)-(k:Int))).toNat,om,om⟩;rw[hd2];clear hd2 HT2 HI8 HB8;have hR9:=rtext_bd l4 5;have hL9:=rtext_len l4 5;generalize rtext l4 5=s2 at *;have B18:=Blk.new w9 102 #[.int .i64 k,.int .i64 d2,.slice A9 s2.length c9];have E18:=Ext.alloc w9 (.cells #[.int .i64 k,.int .i64 d2,.slice A9 s2.length c9] 102);obtain⟨g18,hg18⟩:∃g,g=w9.heap.size:=⟨_,rfl⟩
   rw[<-hg18] at B18 ⊢;clear hg18;generalize w9.alloc (.cells #[.int .i64 (k:Int),.int .i64 (d2:Int),.slice A9 s2.length c9] 102)=w10 at *;have X10:=lh (X9.out.trans E18);have HI10:=lh (HI9.out.ext E18);have HI710:=lh (HI79.out.ext E18);have HB10:=lh (HB9.out.ext E18);obtain⟨v0,v1,v2,_⟩:=B18.c3;have HC10:=lh B18;clear B18 E18 HI9 HI79 HB9 X9
   go_upto_region 11 with fail
   have B19:=Blk.new w10 102 #[.int .i64 k,.int .i64 d2,.slice A9 s2.length c9];have E19:=Ext.alloc w10 (.cells #[.int .i64 k,.int .i64 d2,.slice A9 s2.length c9] 102);obtain⟨g19,hg19⟩:∃g,g=w10.heap.size:=⟨_,rfl⟩;have hg19l:Hid (w10.heap.size<=g19):=lh om
   rw[<-hg19] at B19 ⊢;clear hg19 v0 v1 v2;generalize w10.alloc (.cells #[.int .i64 (k:Int),.int .i64 (d2:Int),.slice A9 s2.length c9] 102)=w11 at *;obtain⟨y0,y1,y2,_,_,_,_⟩:=(HB10.out.ext E19).c3;obtain⟨z0,z1,z2,f0,f1,f2,_⟩:=B19.c3;obtain⟨k2,hk2,hk2d⟩:∃k2:Nat,(k:Int)+(s1.length:Int)-(d1:Int)=(k2:Int)/\k2+d1=k+s1.length:=⟨k+s1.length-d1,om,om⟩
   go_upto_region 12 with fail
   have hne17:g17≠g19:=by have:=HB10.out.lt;have:=hg19l.out;omega
   have hne18:g18≠g19:=by have:=HC10.out.lt;have:=hg19l.out;omega
   have X12:=lh (E19.setNew (p:=⟨g19,0,none⟩) hg19l.out (.int .i64 k2));have HD12:=lh (B19.set 0 (.int .i64 k2));generalize w11.setCell ⟨g19,0,none⟩ (.int .i64 (k2:Int))=w12 at *;clear y0 y1 y2 z0 z1 z2 f0 f1 f2 B19 E19 hk2 hne17 hne18;have XA:=lh (X6.out.trans (X10.out.trans X12.out));have X3A:=lh (HX4.out.trans XA.out);have HF1:=lh (fun(W:World) (x:Ext w12 W)=>(HB10.out.ext (X12.out.trans x)).c3);have HF2:=lh (fun(W:World) (x:Ext w12 W)=>(HC10.out.ext (X12.out.trans x)).c3);have HF3:Hid (∀(W:World) (x:Ext w12 W),W.cell? ⟨g19,0,none⟩=some (.int .i64 k2)/\W.cell? ⟨g19,1,none⟩=some (.int .i64 d2)/\W.cell? ⟨g19,2,none⟩=some (.slice A9 s2.length c9)):=lh (fun W x=>by
    have h:=HD12.out.ext x;exact⟨h.cell 0,h.cell 1,h.cell 2⟩)
   have HS1:=lh (fun(W:World) (x:Ext w12 W)=>HI710.out.ext (X12.out.trans x));have HS2:=lh (fun(W:World) (x:Ext w12 W)=>HI10.out.ext (X12.out.trans x));clear HD12 HB10 HC10 HI10 HI710 X10 X12 X6b hg19l X5 X6 X8;have hsy1:=all_symOk hR7;have hsy2:=all_symOk hR9;have hln:ts.length=n:=HN.out.symm;have HNEW:=lh (onew_any HM w12 X3A.out T tc ts (HI.out.ext XA.out) (fun x hx=>HMX.out.ok x (HTB.out x hx).1 (HTB.out x hx).2) om);obtain⟨to1,to2,_⟩:=treeS_ok ts;have hev1:editErr (txtO (treeS ts).1).length p d1 s1=0:=by rw[to2,hln];exact undo_err om hsy1 om
   have hev2:editErr (txtO (treeS ts).1).length k d2 s2=0:=by rw[to2,hln];exact undo_err om hsy2 om
   have hrt:∀x∈txtO (treeS ts).1,0<=x/\x<=200:=by rw[to2];exact HTB.out
   rw[hln] at HNEW;generalize (treeS ts).1=o at *;generalize (treeS ts).2=kk at *;obtain⟨u1,u2,u3,u4⟩:=edS_rng to1 hrt hR7 hev1;obtain⟨v1,v2,v3,v4⟩:=edS_rng to1 hrt hR9 hev2;have HE1:=fun(W:World) (x:Ext w12 W) (gr:Nat) (h:RpAt S ok W gr g o kk)=>lh ((oedit_any HM W (X3A.out.trans x) gr kk o h to1 (by rw[to2];omega) p d1 A7 c7 s1 (HS1.out W x) (fun x hx=>HMX.out.ok x (hR7 x hx).1 (hR7 x hx).2) (by unfold I64;omega) om).mono (fun e w h=>RetEd.ok4 h hev1));have HE2:=fun(W:World) (x:Ext w12 W) (gr:Nat) (h:RpAt S ok W gr g o kk)=>lh ((oedit_any HM W (X3A.out.trans x) gr kk o h to1 (by rw[to2];omega) k d2 A9 c9 s2 (HS2.out W x) (fun x hx=>HMX.out.ok x (hR9 x hx).1 (hR9 x hx).2) (by unfold I64;omega) om).mono (fun e w h=>RetEd.ok4 h hev2));simp only[Int.toNat_natCast] at u1 u2 u3 u4 v1 v2 v3 v4 HE1 HE2;generalize (edS o p d1 s1).1=o1 at *;generalize (edS o p d1 s1).2=kk1 at *;generalize (edS o k d2 s2).1=o2 at *;generalize (edS o k d2 s2).2=kk2 at *;have hn1:(txtO o1).length+d1=n+s1.length:=by rw[u4,to2];simp only[List.length_append,List.length_take,List.length_drop];omega
   have hn2:(txtO o2).length+d2=n+s2.length:=by rw[v4,to2];simp only[List.length_append,List.length_take,List.length_drop];omega
   have hev3:editErr (txtO o1).length k2 d2 s2=0:=undo_err om hsy2 om;have hev4:editErr (txtO o2).length p d1 s1=0:=undo_err om hsy1 om;obtain⟨y1,y2,y3,y4⟩:=edS_rng u1 u3 hR9 hev3;obtain⟨z1,z2,z3,z4⟩:=edS_rng v1 v3 hR7 hev4;have HE3:=fun(W:World) (x:Ext w12 W) (gr:Nat) (h:RpAt S ok W gr g o1 kk1)=>lh ((oedit_any HM W (X3A.out.trans x) gr kk1 o1 h u1 u2 k2 d2 A9 c9 s2 (HS2.out W x) (fun x hx=>HMX.out.ok x (hR9 x hx).1 (hR9 x hx).2) (by unfold I64;omega) om).mono (fun e w h=>RetEd.ok4 h hev3));have HE4:=fun(W:World) (x:Ext w12 W) (gr:Nat) (h:RpAt S ok W gr g o2 kk2)=>lh ((oedit_any HM W (X3A.out.trans x) gr kk2 o2 h v1 v2 p d1 A7 c7 s1 (HS1.out W x) (fun x hx=>HMX.out.ok x (hR7 x hx).1 (hR7 x hx).2) (by unfold I64;omega) om).mono (fun e w h=>RetEd.ok4 h hev4));simp only[Int.toNat_natCast] at y1 y2 y3 y4 z1 z2 z3 z4 HE3 HE4;have htt:txtO (edS o1 k2 d2 s2).1=txtO (edS o2 p d1 s1).1:=by
    rw[y4,z4,u4,v4,to2];exact apart_text ts s1 s2 p d1 k d2 k2 om om hk2d
   generalize (edS o1 k2 d2 s2).1=oy at *;generalize (edS o1 k2 d2 s2).2=ky at *;generalize (edS o2 p d1 s1).1=oz at *;generalize (edS o2 p d1 s1).2=kz at *;have HTT:=lh htt;have HYL:=lh y2;have HZL:=lh z2;clear htt y1 y2 y3 y4 z1 z2 z3 z4 u1 u2 u3 u4 v1 v2 v3 v4 hev1 hev2 hev3 hev4 hn1 hn2 hrt to1 to2 hsy1 hsy2 hR7 hR9 hL7 hL9 hln HTB HN HI hk2d hd1m hd2m hkn hmk hq1 hp1 hm2 hmn h4 HTL
   go_upto_region 13 with(go_at_call 45;refine HNEW.out.mono ?_;rintro e w13 ⟨gr0,rfl,hr,x13⟩;have HR:=lh hr;have X13:=lh x13;clear hr x13)
   clear HNEW;obtain⟨p0,p1,p2,_⟩:=HF1.out w13 X13.out
   go_upto_region 16 with(go_at_call 50;refine(HE1 w13 X13.out gr0 HR.out).out.mono ?_;rintro e w14 ⟨gr1,rfl,hr,x14⟩;have HR1:=lh hr;have Y14:=lh x14;have X14:=lh (X13.out.trans x14);clear hr x14)
   clear p0 p1 p2 HE1;obtain⟨p0,p1,p2,_⟩:=HF2.out w14 X14.out
   go_upto_region 17 with(go_at_call 50;refine(HE2 w14 X14.out gr0 (HR.out.ext HM Y14.out)).out.mono ?_;rintro e w15 ⟨gr2,rfl,hr,x15⟩;have HR2:=lh hr;have Y15:=lh x15;have X15:=lh (X14.out.trans x15);clear hr x15)
   clear p0 p1 p2 HE2;obtain⟨p0,p1,p2⟩:=HF3.out w15 X15.out
   go_upto_region 20 with(go_at_call 50;refine(HE3 w15 X15.out gr1 (HR1.out.ext HM Y15.out)).out.mono ?_;rintro e w16 ⟨gr3,rfl,hr,x16⟩;have HR3:=lh hr;have Y16:=lh x16;have X16:=lh (X15.out.trans x16);clear hr x16)
   clear p0 p1 p2 HE3;obtain⟨p0,p1,p2,_⟩:=HF1.out w16 X16.out
   go_upto_region 21 with(go_at_call 50;refine(HE4 w16 X16.out gr2 (HR2.out.ext HM Y16.out)).out.mono ?_;rintro e w17 ⟨gr4,rfl,hr,x17⟩;have HR4:=lh hr;have Y17:=lh x17;have X17:=lh (X16.out.trans x17);clear hr x17)
   clear p0 p1 p2 HE4 HF1 HF2 HF3 HS1 HS2;have HR3b:=lh (HR3.out.ext HM Y17.out);have X3B:=lh (X3A.out.trans X17.out);have hyl:=HYL.out
   go_wp2_with (first|(have hq:=E2;go_at_call 52;refine(rlives_any w23).mono ?_;rintro e w24 ⟨rfl,x24⟩;have W24:=lh (W23.out.trans x24);clear x24)|(have hq:=S2;go_at_call 33;refine(HMX.out.eq w22 (X3B.out.trans W22.out) gs4 gs1 (txtO oz) (HM.ext S1.out V22.out) S2.out).mono ?_;rintro e w23 ⟨rfl,x23⟩;have E2:=lh trivial;have W23:=lh (W22.out.trans x23);clear x23)|(have hq:=S1;go_at_call 59;refine(osum_any HM w21 (X3B.out.trans W21.out) gr4 kz oz (HR4.out.ext HM W21.out)).mono ?_;rintro e w22 ⟨gs1,rfl,s22,x22⟩;have S2:=lh s22;have V22:=lh x22;have W22:=lh (W21.out.trans x22);clear s22 x22)|(have hq:=E1;go_at_call 59;refine(osum_any HM w20 (X3B.out.trans W20.out) gr3 ky oy (HR3b.out.ext HM W20.out)).mono ?_;rintro e w21 ⟨gs4,rfl,s21,x21⟩;rw[HTT.out] at s21;have S1:=lh s21;have W21:=lh (W20.out.trans x21);clear s21 x21)|(have hq:=T2;go_at_call 54;refine(sameInts_any A24 A25 c24 c25 (txtO oy) (txtO oz) w19 (HI24.out.ext V19.out) HI25.out).mono ?_;rintro e w20 h20;obtain⟨rfl,x20⟩:=h20.v;clear h20;have heq:(txtO oy == txtO oz)=true:=(by simp[HTT.out]);have E1:=lh trivial;have W20:=lh (W19.out.trans x20);clear x20)|(have hq:=T1;go_at_call 55;refine(otext_any HM w18 gr4 kz oz (HR4.out.ext HM W18.out) HZL.out).mono ?_;rintro e w19 ⟨A25,c25,rfl,ho25,hr25,x25⟩;have HI25:=lh (IL.of_own ho25 hr25);have V19:=lh x25;have T2:=lh trivial;have W19:=lh (W18.out.trans x25);clear ho25 hr25 x25)|(go_at_call 55;refine(otext_any HM w17 gr3 ky oy HR3b.out HYL.out).mono ?_;rintro e w18 ⟨A24,c24,rfl,ho24,hr24,x24⟩;have HI24:=lh (IL.of_own ho24 hr24);have T1:=lh trivial;have W18:=lh x24;clear ho24 hr24 x24))
   go_ret
   exact⟨rfl,HX3.out.trans (X3B.out.trans W24.out)⟩
end
end Go.Proofs.YtmocoldobnimfaaGreat
