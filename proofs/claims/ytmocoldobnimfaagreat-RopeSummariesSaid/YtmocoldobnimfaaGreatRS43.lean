/- Texts of this proof: RN. -/
import Derived.Test.YtmocoldobnimfaaGreatRS40
set_option linter.all false
set_option maxRecDepth 100000
set_option maxHeartbeats 16000000
namespace Go.Proofs.YtmocoldobnimfaaGreat
section
open Go.RowKit
attribute [local go_sem ↓] Go.wp_at_zero Go.wp_at_succ
theorem ropeSummaries_any (w:World)(A0:Option Addr)(c0:Nat)(l0:List Int)(A1:Option Addr)(c1:Nat)(l1:List Int)(A3:Option Addr)(c3:Nat)(l3:List Int)(i0:IL w A0 c0 l0)(i1:IL w A1 c1 l1)(i3:IL w A3 c3 l3) :
 Calls Tryz.prog 12 #[.slice A0 l0.length c0,.slice A1 l1.length c1,.slice A3 l3.length c3] w (RetV (.bool true) w):=by
 have HP:=lh (xplain_any w A0 c0 l0 none 0 [] false i0 (IL.nil w));have HI1:=lh i1;have HI3:=lh i3;clear i0 i1 i3;go_enter Tryz.func12,Tryz.ntmps12
 go_upto_region 2 with(go_at_call 15;refine HP.out.mono ?_;rintro e w1 ⟨n,gr,TA,tc,ts,he,ht,hgr,hT,hfr,htb,htl,x1⟩;have he2:e=.returned (.tuple #[.agg (ptC n gr false),.slice TA ts.length tc]):=he;subst he2;clear he;unfold ptC)
 change Code.wp _ _ _ _ (w1.alloc (.cells (ptC n gr false) 28));have E2:=Ext.alloc w1 (.cells (ptC n gr false) 28);have B2:=Blk.new w1 28 (ptC n gr false);have HX2:=lh (x1.trans E2);have HT2:=lh (ht.ext E2);clear hT hfr htb htl x1 ht HP;obtain⟨g2,hg2⟩:∃g,g=w1.heap.size:=⟨_,rfl⟩
 rw[<-hg2] at B2 ⊢;clear hg2 E2;generalize w1.alloc (.cells (ptC n gr false) 28)=w2 at *;have HMC:=lh (rmo_any _ w2 n gr false HT2.out (by unfold I64;omega));unfold patN at HMC;obtain⟨p0,p1,p2,p3,p4,p5,p6,p7,p8,p9⟩:=pt_cells B2;clear B2
 go_upto_region 3 with(go_at_call 58;refine HMC.out.mono ?_;rintro e w3 ⟨x3,h⟩;have HX3:=lh (HX2.out.trans x3);clear x3;rcases h with rfl|⟨g,ok,S,rfl,hm⟩)
 ·have HLV:=lh (rlives_any w3)
  go_wp2_with (go_at_call 52;refine HLV.out.mono ?_;rintro e w14 ⟨rfl,x14⟩;have HX14:=lh (HX3.out.trans x14);clear x14)
  go_ret
  exact⟨rfl,HX14.out⟩
 ·have HMX:=lh hm;have HM:=hm.mo;clear hm;clear p0 p1 p2 p3 p4 p5 p6 p7 p8 p9 HMC HT2 HX2;have HTX:=lh (rText_any A1 c1 l1 40 w3 (HI1.out.ext HX3.out) om)
  go_upto_region 6 with(go_at_call 25;refine HTX.out.mono ?_;rintro e w4 ⟨A4,c4,rfl,hi4,x4,_⟩;have HI4:=lh hi4;have HX4:=lh x4;clear hi4 x4)
  have HTB:=lh (rtext_bd l1 40);have HTL:=lh (rtext_len l1 40);generalize rtext l1 40=ts at *;have hln:=HTL.out;have HNEW:=lh (onew_any HM w4 HX4.out A4 c4 ts HI4.out (fun x hx=>HMX.out.ok x (HTB.out x hx).1 (HTB.out x hx).2) om);clear hln HTX HI1
  go_upto_region 7 with(go_at_call 45;refine HNEW.out.mono ?_;rintro e w5 ⟨gr,rfl,hr,x5⟩;have HR:=lh hr;have HX5:=lh (HX4.out.trans x5);have HI5:=lh (HI4.out.ext x5);clear hr x5)
  clear HNEW HI4 HX4;have HED:=lh (eEdits_any w5 A4 c4 ts HI5.out (by have:=HTL.out;omega) A3 c3 l3 (HI3.out.ext (HX3.out.trans HX5.out)) 8 om)
  go_upto_region 8 with(go_at_call 49;refine HED.out.mono ?_;rintro e w6 ⟨EA,ec,es,rfl,hel,heo,hea,x6⟩;have HEO:=lh heo;have HEA:=lh hea;have HR6:=lh (HR.out.ext HM x6);have HX6:=lh (HX5.out.trans x6);clear heo hea x6)
  have HR0:Hid (∃o k,RpOk S ok w6 gr g o k):=lh (by
   obtain⟨to1,to2,_⟩:=treeS_ok ts;exact⟨_,_,HR6.out,to1,by rw[to2];have:=HTL.out;omega,by rw[to2];exact HTB.out⟩)
  clear HED HR HR6 HX5 HI5 HI3 HTB HTL;have HXW:=lh (HX3.out.trans HX6.out)
  go_wp2
  go_loopw [11,12,14] (fun r e i wr=>∃(j gr k:Nat) (o:Option Sh),j<=es.length+1/\r=.pointer (some ⟨gr,0,none⟩)/\e=.int .i64 0/\i=.int .i64 j/\Hid (RpOk S ok wr gr g o k)/\Hid (Ext w6 wr)) (fun _ _ i _=>es.length+1-(intOf i).toNat)
  case atStart=>
   obtain⟨o,k,h⟩:=HR0.out;exact⟨0,gr,k,o,om,rfl,rfl,rfl,lh h,lh (Ext.rfl' _)⟩
  case round=>
   clear HR0;obtain⟨j,gr,k,o,hj,rfl,rfl,rfl,HR,HX⟩:=hrel;by_cases hle:j<=es.length
   ·have hleI:(j:Int)<=es.length:=om;have X3r:=lh (HX6.out.trans HX.out);have HT1:=lh (otext_any HM wr gr k o HR.out.rp HR.out.le);have HOK:=lh (fun(x:Int) (hx:x∈txtO o)=>HMX.out.ok x (HR.out.rng x hx).1 (HR.out.rng x hx).2)
    go_upto_region 11 with fail
    clear hleI
    go_upto_region 15 with fail
    go_upto_region 16 with(first|(have hq:=HI7;go_at_call 26;refine(HM.of w7 X7.out A7 c7 (txtO o) HI7.out HOK.out HR.out.le).mono ?_;rintro e w8 ⟨gs,rfl,hs8,x8⟩;have HS8:=lh hs8;have X8:=lh (X7.out.trans x8);have Y8:=lh (Y7.out.trans x8);clear hs8 x8)|(go_at_call 55;refine HT1.out.mono ?_;rintro e w7 ⟨A7,c7,rfl,ho7,hr7,x7⟩;have HI7:=lh (IL.of_own ho7 hr7);have X7:=lh (X3r.out.trans x7);have Y7:=lh x7;clear ho7 hr7 x7))
    have HT2:=lh (otext_any HM w8 gr k o (HR.out.rp.ext HM Y8.out) HR.out.le)
    go_upto_region 17 with(first|(have hq:=HI9;go_at_call 45;refine(onew_any HM w9 X9.out A9 c9 (txtO o) HI9.out HOK.out HR.out.le).mono ?_;rintro e w10 ⟨gr2,rfl,hr10,x10⟩;have HR10:=lh hr10;have X10:=lh (X9.out.trans x10);have Y10:=lh (Y9.out.trans x10);have Z10:=lh (Z9.out.trans x10);clear hr10 x10)|(go_at_call 55;refine HT2.out.mono ?_;rintro e w9 ⟨A9,c9,rfl,ho9,hr9,x9⟩;have HI9:=lh (IL.of_own ho9 hr9);have X9:=lh (X8.out.trans x9);have Y9:=lh (Y8.out.trans x9);have Z9:=lh x9;clear ho9 hr9 x9))
    have HTX2:=(treeS_ok (txtO o)).2.1;generalize (treeS (txtO o)).1=o2 at *;generalize (treeS (txtO o)).2=k2 at *;have HTX:=lh HTX2;clear HTX2 HT1 HT2 HI7 HI9
    go_upto_region 19 with(first|(have hq:=S3;go_at_call 33;refine(HMX.out.eq w14 X14.out gs2 gs3 (txtO o) (HM.ext S2.out V14.out) S3.out).mono ?_;rintro e w15 ⟨rfl,x15⟩;have Y15:=lh (Y10.out.trans (W14.out.trans x15));clear x15)|(have hq:=S2;go_at_call 59;refine(osum_any HM w13 X13.out gr2 k2 o2 (HR10.out.ext HM W13.out)).mono ?_;rintro e w14 ⟨gs3,rfl,s14,x14⟩;rw[HTX.out] at s14;have S3:=lh s14;have V14:=lh x14;have X14:=lh (X13.out.trans x14);have W14:=lh (W13.out.trans x14);clear s14 x14)|(have hq:=E1;go_at_call 59;refine(osum_any HM w12 X12.out gr k o (HR.out.rp.ext HM (Y10.out.trans W12.out))).mono ?_;rintro e w13 ⟨gs2,rfl,s13,x13⟩;have S2:=lh s13;have X13:=lh (X12.out.trans x13);have W13:=lh (W12.out.trans x13);clear s13 x13)|(have hq:=S1;go_at_call 33;refine(HMX.out.eq w11 X11.out gs1 gs (txtO o) S1.out (HM.ext HS8.out (Z10.out.trans W11.out))).mono ?_;rintro e w12 ⟨rfl,x12⟩;have E1:=lh trivial;have X12:=lh (X11.out.trans x12);have W12:=lh (W11.out.trans x12);clear x12)|(go_at_call 59;refine(osum_any HM w10 X10.out gr k o (HR.out.rp.ext HM Y10.out)).mono ?_;rintro e w11 ⟨gs1,rfl,s11,x11⟩;have S1:=lh s11;have X11:=lh (X10.out.trans x11);have W11:=lh x11;clear s11 x11))
    have HRz:=lh (HR.out.ext HM Y15.out);have HXz:=lh (HX.out.trans Y15.out);clear HS8 HR10 HTX hq S1 S2 S3 E1 V14 X8 X9 X10 X11 X12 X13 X14 Y8 Y9 Y10 Z9 Z10 W11 W12 W13 W14 Y15 HR HX X3r X7 Y7 HOK;by_cases hlt:j<es.length
    ·have hltI:(j:Int)<es.length:=om;obtain⟨pb,po,hpe,q0,q1,q2⟩:=edit_cells (OwnS.cells (OwnS.ext HEO.out HXz.out)) hlt;subst hpe;obtain⟨ei,en⟩:=HEA.out es[j] (List.getElem_mem _);generalize es[j]=e0 at *;have HEI:=lh (ei.ext HXz.out);obtain⟨n1,n2,n3,n4,n5,n6⟩:=en;have HN1:=lh n1;have hle2:=HRz.out.le;obtain⟨er,her⟩:∃er,er=editErr (txtO o).length e0.e.at_ e0.e.del e0.e.ins:=⟨_,rfl⟩;have HER:=lh her;have HCK:=fun(W:World) (x:Ext w15 W) (B:Option Addr) (d:Nat)=>lh (rCheck_any B (txtO o).length d e0.e.at_ e0.e.del e0.A e0.c e0.e.ins W (HEI.out.ext x) om om (by unfold I64;omega))
     rw[<-her] at HCK;have HED:=fun(W:World) (x:Ext w15 W)=>lh (oedit_any HM W (HX6.out.trans (HXz.out.trans x)) gr k o (HRz.out.rp.ext HM x) HRz.out.av HRz.out.le e0.e.at_ e0.e.del e0.A e0.c e0.e.ins (HEI.out.ext x) (fun x hx=>HMX.out.ok x (HN1.out x hx).1 (HN1.out x hx).2) (by unfold I64;omega) om);have HTW:=fun(W:World) (x:Ext w15 W)=>lh (otext_any HM W gr k o (HRz.out.rp.ext HM x) HRz.out.le);have HQ:=lh (fun(W:World) (x:Ext w15 W)=>And.intro (x.cell q0) (And.intro (x.cell q1) (x.cell q2)));have L0:=kc0 q0;have L1:=kc0 q1;have L2:=kc0 q2;clear her q0 q1 q2 n1 n2 n3 n4 n5 n6 ei hle2;refine Xr.start [] kr ?_;refine Xtk 0 ?_
     iterate 4(refine Xtn ?_)
     first|refine Xtn ?_|refine Xsn ?_
     first|refine Xtk 7 ?_|refine Xsk 7 ?_
     iterate 3(first|refine Xtn ?_|refine Xsn ?_)
     clear L0 L1 L2;refine Xcl 6 fun w16 hE16 hK16 K hKK=>?_;go_simp;refine(HTW w16 hK16.nil).out.mono ?_;rintro e w17 ⟨A17,c17,rfl,ho17,hr17,x17⟩;refine hKK _ _ x17 ?_;clear hKK ho17 hr17;refine ptm ?_;refine Xcl 11 fun w18 hE18 hK18 K hKK=>?_;go_simp;refine(HCK w18 hK18.nil A17 c17).out.mono ?_;rintro e w19 ⟨rfl,x19⟩;refine hKK _ _ x19 ?_;clear hKK;refine ptm ?_
     first|refine Xtk 12 ?_|refine Xsk 12 ?_
     refine Xtn ?_;refine Xdn fun w20 hE20 hK20=>?_;have X20:=lh hK20.nil;clear hE16 hK16 x17 hE18 hK18 x19 hE20 hK20 HTW HCK;by_cases he:er=0
     ·have he2:=HER.out.symm.trans he;have hb:(er == 0)=true:=by simp[he]
      obtain⟨s1,s2,s3,s4⟩:=edS_rng HRz.out.av HRz.out.rng HN1.out he2;have HEK:=lh ((HED w20 X20.out).out.mono (fun e w h=>RetEd.ok4 h he2));generalize (edS o e0.e.at_.toNat e0.e.del.toNat e0.e.ins).1=o3 at *;generalize (edS o e0.e.at_.toNat e0.e.del.toNat e0.e.ins).2=k3 at *;have HS:=lh (And.intro s1 (And.intro s2 s3));clear s1 s2 s3 s4 he he2 HED;obtain⟨r0,r1,r2⟩:=HQ.out w20 X20.out
      go_upto_region 10 with(go_at_call 50;refine HEK.out.mono ?_;rintro e w21 ⟨gr3,rfl,hrp,x21⟩;have HRP:=lh hrp;have X21:=lh x21;clear hrp x21)
      go_wp2_with fail
      go_roundw
      case rel=>exact⟨j+1,gr3,k3,o3,om,rfl,rfl,by go_num,lh ⟨HRP.out,HS.out.1,HS.out.2.1,HS.out.2.2⟩,lh (HXz.out.trans (X20.out.trans X21.out))⟩
      case measure=>simp[intOf];omega
     ·have hb:(er == 0)=false:=by simp[he]
      clear HED HQ
      go_wp2_with fail
      go_roundw
      case rel=>exact⟨j+1,gr,k,o,om,rfl,rfl,by go_num,lh (HRz.out.ext HM X20.out),lh (HXz.out.trans X20.out)⟩
      case measure=>simp[intOf];omega
    ·have hltI:¬(j:Int)<es.length:=om
     go_quiet (fail)
     go_wp2_with fail
     go_roundw
     case rel=>exact⟨j+1,gr,k,o,om,rfl,rfl,by go_num,lh (HRz.out.ext HM (Ext.drewN _ _)),lh (HXz.out.trans (Ext.drewN _ _))⟩
     case measure=>simp[intOf];omega
   ·have hgt:¬(j:Int)<=es.length:=om;have HLV:=lh (rlives_any wr)
    go_wp2_with (go_at_call 52;refine HLV.out.mono ?_;rintro e w14 ⟨rfl,x14⟩;have HX14:=lh (HX3.out.trans (HX6.out.trans (HX.out.trans x14)));clear x14)
    go_ret
    exact⟨rfl,HX14.out⟩
end
end Go.Proofs.YtmocoldobnimfaaGreat
