/- Texts of this proof: RO. -/
import Derived.Test.YtmocoldobnimfaaGreatRS13
import Derived.Test.YtmocoldobnimfaaGreatRS40
set_option linter.all false
set_option maxRecDepth 100000
set_option maxHeartbeats 16000000
namespace Go.Proofs.YtmocoldobnimfaaGreat
section
open Go.RowKit
attribute [local go_sem ↓] Go.wp_at_zero Go.wp_at_succ
theorem ropeUndo_any (w:World)(A0:Option Addr)(c0:Nat)(l0:List Int)(A1:Option Addr)(c1:Nat)(l1:List Int)(A3:Option Addr)(c3:Nat)(l3:List Int)(i0:IL w A0 c0 l0)(i1:IL w A1 c1 l1)(i3:IL w A3 c3 l3) :
 Calls Tryz.prog 14 #[.slice A0 l0.length c0,.slice A1 l1.length c1,.slice A3 l3.length c3] w (RetV (.bool true) w):=by
 have HP:=lh (xplain_any w A0 c0 l0 none 0 [] false i0 (IL.nil w));have HI1:=lh i1;have HI3:=lh i3;clear i0 i1 i3;go_enter Tryz.func14,Tryz.ntmps14
 go_upto_region 2 with(go_at_call 15;refine HP.out.mono ?_;rintro e w1 ⟨n,gr,TA,tc,ts,he,ht,hgr,hT,hfr,htb,htl,x1⟩;have he2:e=.returned (.tuple #[.agg (ptC n gr false),.slice TA ts.length tc]):=he;subst he2;clear he;unfold ptC)
 change Code.wp _ _ _ _ (w1.alloc (.cells (ptC n gr false) 28));have E2:=Ext.alloc w1 (.cells (ptC n gr false) 28);have B2:=Blk.new w1 28 (ptC n gr false);have HX2:=lh (x1.trans E2);have HT2:=lh (ht.ext E2);clear hT hfr htb htl x1 ht HP;obtain⟨g2,hg2⟩:∃g,g=w1.heap.size:=⟨_,rfl⟩
 rw[<-hg2] at B2 ⊢;clear hg2 E2;generalize w1.alloc (.cells (ptC n gr false) 28)=w2 at *;have HMC:=lh (rmo_any _ w2 n gr false HT2.out (by unfold I64;omega));unfold patN at HMC;obtain⟨p0,p1,p2,p3,p4,p5,p6,p7,p8,p9⟩:=pt_cells B2;clear B2
 go_upto_region 3 with(go_at_call 58;refine HMC.out.mono ?_;rintro e w3 ⟨x3,h⟩;have HX3:=lh (HX2.out.trans x3);clear x3;rcases h with rfl|⟨g,ok,S,rfl,hm⟩)
 ·have HLV:=lh (rlives_any w3)
  go_wp2_with (go_at_call 52;refine HLV.out.mono ?_;rintro e w14 ⟨rfl,x14⟩;have HX14:=lh (HX3.out.trans x14);clear x14)
  go_ret
  exact⟨rfl,HX14.out⟩
 ·have HMX:=lh hm;have HM:=hm.mo;clear hm;clear p0 p1 p2 p3 p4 p5 p6 p7 p8 p9 HMC HT2 HX2;have HTX:=lh (rText_any A1 c1 l1 40 w3 (HI1.out.ext HX3.out) om)
  go_upto_region 6 with(go_at_call 25;refine HTX.out.mono ?_;rintro e w4 ⟨A4,c4,rfl,hi4,x4,_⟩;have HI4:=lh hi4;have HX4:=lh x4;clear hi4 x4)
  have HTB:=lh (rtext_bd l1 40);have HTL:=lh (rtext_len l1 40);generalize rtext l1 40=ts at *;have hln:=HTL.out;have HNEW:=lh (onew_any HM w4 HX4.out A4 c4 ts HI4.out (fun x hx=>HMX.out.ok x (HTB.out x hx).1 (HTB.out x hx).2) om);clear hln HTX HI1
  go_upto_region 7 with(go_at_call 45;refine HNEW.out.mono ?_;rintro e w5 ⟨gr,rfl,hr,x5⟩;have HR:=lh hr;have HX5:=lh (HX4.out.trans x5);have HI5:=lh (HI4.out.ext x5);clear hr x5)
  clear HNEW HI4 HX4;have HED:=lh (eEdits_any w5 A4 c4 ts HI5.out (by have:=HTL.out;omega) A3 c3 l3 (HI3.out.ext (HX3.out.trans HX5.out)) 5 om)
  go_upto_region 9 with fail
  go_upto_region 10 with(go_at_call 49;refine HED.out.mono ?_;rintro e w6 ⟨EA,ec,es,rfl,hel,heo,hea,x6⟩;have HEO:=lh heo;have HEA:=lh hea;have HR6:=lh (HR.out.ext HM x6);have HX6:=lh (HX5.out.trans x6);clear heo hea x6)
  have HR0:Hid (∃o k,RpOk S ok w6 gr g o k):=lh (by
   obtain⟨to1,to2,_⟩:=treeS_ok ts;exact⟨_,_,HR6.out,to1,by rw[to2];have:=HTL.out;omega,by rw[to2];exact HTB.out⟩)
  clear HED HR HR6 HX5 HI5 HI3 HTB HTL;have HXW:=lh (HX3.out.trans HX6.out)
  go_wp2
  go_loopw [11,14] (fun r i wr=>∃(j gr k:Nat) (o:Option Sh),j<=es.length/\r=.pointer (some ⟨gr,0,none⟩)/\i=.int .i64 j/\Hid (RpOk S ok wr gr g o k)/\Hid (Ext w6 wr)) (fun _ i _=>es.length-(intOf i).toNat)
  case atStart=>
   obtain⟨o,k,h⟩:=HR0.out;exact⟨0,gr,k,o,om,rfl,rfl,lh h,lh (Ext.rfl' _)⟩
  case round=>
   clear HR0;obtain⟨j,gr,k,o,hj,rfl,rfl,HRz,HXz⟩:=hrel;by_cases hlt:j<es.length
   ·have hltI:(j:Int)<es.length:=om;obtain⟨pb,po,hpe,q0,q1,q2⟩:=edit_cells (OwnS.cells (OwnS.ext HEO.out HXz.out)) hlt;subst hpe;obtain⟨ei,en⟩:=HEA.out es[j] (List.getElem_mem _);generalize es[j]=e0 at *;have HEI:=lh (ei.ext HXz.out);obtain⟨n1,n2,n3,n4,n5,n6⟩:=en;have HN1:=lh n1;have hle2:=HRz.out.le;obtain⟨er,her⟩:∃er,er=editErr (txtO o).length e0.e.at_ e0.e.del e0.e.ins:=⟨_,rfl⟩;have HER:=lh her;have HUN:=fun(W:World) (x:Ext wr W) (B:Option Addr) (d:Nat) (hi:IL W B d (txtO o))=>lh (tundo_any B d (txtO o) e0.e.at_ e0.e.del e0.A e0.c e0.e.ins W hi (HEI.out.ext x) (by unfold I64;omega) om om)
    rw[<-her] at HUN;have HED:=fun(W:World) (x:Ext wr W)=>lh (oedit_any HM W (HX6.out.trans (HXz.out.trans x)) gr k o (HRz.out.rp.ext HM x) HRz.out.av HRz.out.le e0.e.at_ e0.e.del e0.A e0.c e0.e.ins (HEI.out.ext x) (fun x hx=>HMX.out.ok x (HN1.out x hx).1 (HN1.out x hx).2) (by unfold I64;omega) om);have HTW:=fun(W:World) (x:Ext wr W)=>lh (otext_any HM W gr k o (HRz.out.rp.ext HM x) HRz.out.le);have HQ:=lh (fun(W:World) (x:Ext wr W)=>And.intro (x.cell q0) (And.intro (x.cell q1) (x.cell q2)));have L0:=kc0 q0;have L1:=kc0 q1;have L2:=kc0 q2;have HI80:=lh n2;have h64:Hid (I64 e0.e.at_):=lh (by unfold I64;omega);clear her q0 q1 q2 n1 n2 n3 n4 n5 n6 ei hle2
    go_upto_region 13 with fail
    refine Xr.start [] kr ?_;refine Xtk 0 ?_;refine Xtk 2 ?_
    iterate 3(refine Xtn ?_)
    clear L0 L1 L2;refine Xr.lazy 10 15 11 (fun g=>.pointer (some ⟨g,0,none⟩)) 102 #[.int .i64 0,.int .i64 0,.slice none 0 0] rfl si dK si (fun w'=>by go_simp) ?_;refine Xcl 1 fun w16 hE16 hK16 K hKK=>?_;go_simp;refine(HTW w16 hK16.nil).out.mono ?_;rintro e w17 ⟨A17,c17,rfl,ho17,hr17,x17⟩;have HI17:=lh (IL.of_own ho17 hr17);refine hKK _ _ x17 ?_;clear hKK ho17 hr17;refine ptm ?_;refine Xcl 6 fun w18 hE18 hK18 K hKK=>?_;go_simp;refine(HUN w18 hK18.nil A17 c17 (HI17.out.ext hE18)).out.mono ?_;rintro e w19 ⟨a2,d2,A2,c2,l2,rfl,hi2,x19,hf2,hun⟩;refine hKK _ _ x19 ?_;clear hKK;refine ptm ?_;refine Xtk 7 ?_
    iterate 2(refine Xtn ?_)
    refine Xr.stepZ rfl dK (fun _=>by rfl) (fun w20 g20 hE20 hK20 hg20 hB20 hno K hKK=>?_);obtain⟨y0,y1,y2,f0,f1,f2,_⟩:=hB20.c3;go_simp;change K _ (setEd w20 g20 a2 d2 A2 l2.length c2);refine hKK _ _ (setEd_kpp (KpP.refl _ _) (.inr (InI_head _ _)) _ _ _ _ _) (setEd_kpN hK20 hg20 _ _ _ _ _) ?_;clear hKK y0 y1 y2 f0 f1 f2;refine ptm ?_;refine Xtk 12 ?_;refine Xdn fun w21 hE21 hK21=>?_;have HB:=lh ((setEd_blk hB20 a2 d2 A2 l2.length c2).ext hE21);have X21:=lh hK21.nil;have HI2:Hid (IL w21 A2 c2 l2):=lh (((hi2.ext hE20).kp (setEd_kpp (p:=(·=g20)) (KpP.refl _ w20) rfl a2 d2 A2 l2.length c2) (fun h0 b hb e=>by
     have e':b=g20:=e;exact hno ⟨(w18.heap.size,w19.heap.size),by simp,by rw[<-e'];exact hf2 b hb,by rw[<-e'];exact hi2.blt h0 hb⟩)).ext hE21)
    have HUU:=lh hun;clear hE16 hK16 x17 hE18 hK18 x19 hE20 hK20 hE21 hK21 HTW HUN hB20 hno hg20 hf2 hun hi2 HI17;obtain⟨v0,v1,v2,_⟩:=HB.out.c3;obtain⟨r0,r1,r2⟩:=HQ.out w21 X21.out;by_cases he:er=0
    ·have he2:=HER.out.symm.trans he;obtain⟨s1,s2,s3,s4⟩:=edS_rng HRz.out.av HRz.out.rng HN1.out he2;obtain⟨f1,f2,f3,f4,f5⟩:=editErr_ok he2;obtain⟨u1,u2,u3⟩:=HUU.out he;have HEK:=lh ((HED w21 X21.out).out.mono (fun e w h=>RetEd.ok4 h he2));generalize (edS o e0.e.at_.toNat e0.e.del.toNat e0.e.ins).1=o3 at *;generalize (edS o e0.e.at_.toNat e0.e.del.toNat e0.e.ins).2=k3 at *;have hle2:=HRz.out.le;have hi80:=HI80.out;have hl2r:∀x∈l2,0<=x/\x<=200:=fun x hx=>by rw[u3] at hx;exact HRz.out.rng x (List.mem_of_mem_take (List.mem_of_mem_drop hx))
     have hl2n:l2.length=e0.e.del.toNat:=by rw[u3,List.length_drop,List.length_take];omega
     have h3n:(txtO o3).length+e0.e.del.toNat=(txtO o).length+e0.e.ins.length:=by rw[s4];simp only[List.length_append,List.length_take,List.length_drop];omega
     have hev:editErr (txtO o3).length a2 d2 l2=0:=by
      rw[u1,u2];have h:=undo_err (n:=(txtO o3).length) (k:=e0.e.at_.toNat) (m:=e0.e.ins.length) (l:=l2) om (all_symOk hl2r) om
      rwa [show((e0.e.at_.toNat:Nat):Int)=e0.e.at_ by omega] at h
     obtain⟨t1,t2,t3,t4⟩:=edS_rng s1 s3 hl2r hev;have ht4:txtO (edS o3 a2.toNat d2.toNat l2).1=txtO o:=by
      rw[t4,u1,u2,u3,s4];simp only[Int.toNat_natCast];exact undo_text (txtO o) e0.e.ins e0.e.at_.toNat e0.e.del.toNat om
     have HEV:=fun(W:World) (x:Ext w21 W) (grn:Nat) (hr:RpAt S ok W grn g o3 k3)=>lh ((oedit_any HM W (HX6.out.trans (HXz.out.trans (X21.out.trans x))) grn k3 o3 hr s1 s2 a2 d2 A2 c2 l2 (HI2.out.ext x) (fun x hx=>HMX.out.ok x (hl2r x hx).1 (hl2r x hx).2) (by unfold I64;omega) om).mono (fun e w h=>RetEd.ok4 h hev));generalize (edS o3 a2.toNat d2.toNat l2).1=o4 at *;generalize (edS o3 a2.toNat d2.toNat l2).2=k4 at *;have HS:=lh (And.intro s1 (And.intro s2 (And.intro s3 ht4)));clear s1 s2 s3 s4 he2 HED f1 f2 f3 f4 f5 u1 u2 u3 hle2 hi80 hl2r hl2n h3n hev t1 t2 t3 t4 ht4 HUU;subst he;have HVB:=lh (fun(W:World) (x:Ext w21 W)=>And.intro (x.cell v0) (And.intro (x.cell v1) (x.cell v2)));clear v0 v1 v2
     go_upto_region 15 with(go_at_call 50;refine HEK.out.mono ?_;rintro e w22 ⟨gr3,rfl,hrp,x22⟩;have HRP:=lh hrp;have X22:=lh x22;clear hrp x22)
     clear r0 r1 r2;obtain⟨v0,v1,v2⟩:=HVB.out w22 X22.out
     go_upto_region 19 with(go_at_call 50;refine(HEV w22 X22.out gr3 HRP.out).out.mono ?_;rintro e w23 ⟨gr4,rfl,hrp,x23⟩;have HRQ:=lh hrp;have X23:=lh x23;clear hrp x23)
     clear v0 v1 v2 HEV HEK HVB;have X23w:=lh (X21.out.trans (X22.out.trans X23.out));have HR23:=lh (HRz.out.rp.ext HM X23w.out);have X3w:=lh (HX6.out.trans (HXz.out.trans X23w.out));have HT4:=lh HS.out.2.2.2;have hl4:(txtO o4).length<=65536:=by rw[HT4.out];exact HRz.out.le
     have HL4:=lh hl4;clear hl4
     go_upto_region 23 with(first|(have hq:=S2;go_at_call 33;refine(HMX.out.eq w28 (X3w.out.trans W28.out) gs4 gs1 (txtO o) (HM.ext S1.out V28.out) S2.out).mono ?_;rintro e w29 ⟨rfl,x29⟩;have W29:=lh (W28.out.trans x29);clear x29)|(have hq:=S1;go_at_call 59;refine(osum_any HM w27 (X3w.out.trans W27.out) gr k o (HR23.out.ext HM W27.out)).mono ?_;rintro e w28 ⟨gs1,rfl,s28,x28⟩;have S2:=lh s28;have V28:=lh x28;have W28:=lh (W27.out.trans x28);clear s28 x28)|(have hq:=E1;go_at_call 59;refine(osum_any HM w26 (X3w.out.trans W26.out) gr4 k4 o4 (HRQ.out.ext HM W26.out)).mono ?_;rintro e w27 ⟨gs4,rfl,s27,x27⟩;rw[HT4.out] at s27;have S1:=lh s27;have W27:=lh (W26.out.trans x27);clear s27 x27)|(have hq:=T2;go_at_call 54;refine(sameInts_any A24 A25 c24 c25 (txtO o4) (txtO o) w25 (HI24.out.ext V25.out) HI25.out).mono ?_;rintro e w26 h26;obtain⟨rfl,x26⟩:=h26.v;clear h26;have heq:(txtO o4 == txtO o)=true:=(by simp[HT4.out]);have E1:=lh trivial;have W26:=lh (W25.out.trans x26);clear x26)|(have hq:=T1;go_at_call 55;refine(otext_any HM w24 gr k o (HR23.out.ext HM W24.out) HRz.out.le).mono ?_;rintro e w25 ⟨A25,c25,rfl,ho25,hr25,x25⟩;have HI25:=lh (IL.of_own ho25 hr25);have V25:=lh x25;have T2:=lh trivial;have W25:=lh (W24.out.trans x25);clear ho25 hr25 x25)|(go_at_call 55;refine(otext_any HM w23 gr4 k4 o4 HRQ.out HL4.out).mono ?_;rintro e w24 ⟨A24,c24,rfl,ho24,hr24,x24⟩;have HI24:=lh (IL.of_own ho24 hr24);have T1:=lh trivial;have W24:=lh x24;clear ho24 hr24 x24))
     have W30:=lh (X23w.out.trans W29.out);have HRN:=lh (HRP.out.ext HM (X23.out.trans W29.out));clear HR23 X3w HT4 HL4 hq S1 S2 E1 T1 T2 V25 V28 W24 W25 W26 W27 W28 W29 HRQ HRP HI24 HI25
     go_wp2_with fail
     go_roundw
     case rel=>exact⟨j+1,gr3,k3,o3,om,rfl,by go_num,lh ⟨HRN.out,HS.out.1,HS.out.2.1,HS.out.2.2.1⟩,lh (HXz.out.trans W30.out)⟩
     case measure=>simp[intOf];omega
    ·have hb:(er != 0)=true:=by simp[he]
     have hbb:(er != er)=false:=by simp
     have he2:editErr (txtO o).length e0.e.at_ e0.e.del e0.e.ins≠0:=by rw[<-HER.out];exact he
     have HEK:=lh ((HED w21 X21.out).out.mono (fun e w h=>RetEd.bad4 h he2))
     rw[<-HER.out] at HEK;clear HED he2 he
     go_wp2_with (go_at_call 50;refine HEK.out.mono ?_;rintro e w22 ⟨rfl,x22⟩;have X22:=lh (X21.out.trans x22);clear x22)
     go_roundw
     case rel=>exact⟨j+1,gr,k,o,om,rfl,by go_num,lh (HRz.out.ext HM X22.out),lh (HXz.out.trans X22.out)⟩
     case measure=>simp[intOf];omega
   ·have hgt:¬(j:Int)<es.length:=om;have HLV:=lh (rlives_any wr)
    go_wp2_with (go_at_call 52;refine HLV.out.mono ?_;rintro e w14 ⟨rfl,x14⟩;have HX14:=lh (HX3.out.trans (HX6.out.trans (HXz.out.trans x14)));clear x14)
    go_ret
    exact⟨rfl,HX14.out⟩
end
end Go.Proofs.YtmocoldobnimfaaGreat
