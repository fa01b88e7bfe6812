/- Texts of this proof: VE VK VJ. -/
import Derived.Test.YtmgpefenkilffaaGreatSP49
import Derived.Test.YtmgpefenkilffaaGreatSP52
set_option linter.all false
set_option maxRecDepth 100000
set_option maxHeartbeats 16000000
namespace Go.Proofs.YtmgpefenkilffaaGreat
section
open Go.RowKit
attribute [local go_sem ↓] Go.wp_at_zero Go.wp_at_succ
theorem VEz1 {P:Prop} (h:P:=by
 go_upto_region 15 with(go_at_call 16;refine HFD.out.mono ?_;rintro e w12 ⟨A12,c12,R12,rfl,ho⟩)
 have HO12:=lh (And.intro ho.so ho.pm);obtain⟨tt,rr⟩:=ho.t;have K12:=lh (K11.out.trans (ho.kp.mono HU2.out));have HR9101112:=lh (HR91011.out.kp ho.kp HS2x11.out.np);have HR101112:=lh (HR1011.out.kp ho.kp HS2x11.out.np);have HR1112:=lh (HR11.out.kp ho.kp HS2x11.out.np);have HS1x12:=lh (HS1x11.out.other ho.kp (fun b h h'=>HD12x10.out b h' h) (fun w'' kk=>HC1.out w'' (K12.out.trans (kk.mono HU1x10.out))));have HS3x12:=lh (HS3x11.out.other ho.kp HD23x11.out (fun w'' kk=>HC3.out w'' (K12.out.trans (kk.mono HU3x11.out))));have HD12x12:=lh (fun b h h'=>F2.apart (w':=w12) (fun b h h'=>HD12x10.out b h' h) HS1x11.out.s.lt b h' h);have HD23x12:=lh (F2.apart (w':=w12) HD23x11.out HS3x11.out.s.lt);have HU2x12:=lh (F2.sub (w:=w11) (w':=w12) HU2.out HUW.out K11.out.size);have HR12:=lh rr;obtain⟨IW,hIW⟩:∃I2,Hid (I2=(feedI (insL q2.cd.hs) (decL q2.cd.ls) ts (0:Nat) [] false).1):=⟨_,lh rfl⟩;have HS2x12:=lh (show StT w12 (F2 w11 w12 F2') gs2 q2 rn caps ts.length IW true by
  have h:=tt;rw[hIW.out];have e:0+ts.length=ts.length:=om
  rwa [e] at h)
 clear tt rr ho HFD K11 HU2 HR91011 HR1011 HR11 HD12x10 HD23x11 HS1x11 HS2x11 HS3x11;generalize F2 w11 w12 F2'=F2x12 at *;have HFD:=lh (show Calls Tryz.prog 16 #[.pointer (some ⟨gs1,0,none⟩),.slice none 0 0] w12 (RetFd F1x10 gs1 q1 rn caps ts.length IB true [] w12) by
  have h:=feed_any w12 F1x10 gs1 q1 rn caps ts.length IB true HS1x12.out.s none 0 [] (fun w' kk=>HIN.out w' (K12.out.trans (kk.mono HU1x10.out))) rfl (by rw[HLN.out];omega)
  rwa [HLN.out] at h)
 go_upto_region 16 with(go_at_call 16;refine HFD.out.mono ?_;rintro e w13 ⟨A13,c13,R13,rfl,ho⟩)
 have HO13:=lh (And.intro ho.so ho.pm);obtain⟨tt,rr⟩:=ho.t;have K13:=lh (K12.out.trans (ho.kp.mono HU1x10.out));have HR910111213:=lh (HR9101112.out.kp ho.kp HS1x12.out.np);have HR10111213:=lh (HR101112.out.kp ho.kp HS1x12.out.np);have HR111213:=lh (HR1112.out.kp ho.kp HS1x12.out.np);have HR1213:=lh (HR12.out.kp ho.kp HS1x12.out.np);have HS2x13:=lh (HS2x12.out.other ho.kp HD12x12.out (fun w'' kk=>HC2.out w'' (K13.out.trans (kk.mono HU2x12.out))));have HS3x13:=lh (HS3x12.out.other ho.kp HD13x11.out (fun w'' kk=>HC3.out w'' (K13.out.trans (kk.mono HU3x11.out))));have HD12x13:=lh (F2.apart (w':=w13) HD12x12.out HS2x12.out.s.lt);have HD13x13:=lh (F2.apart (w':=w13) HD13x11.out HS3x12.out.s.lt);have HU1x13:=lh (F2.sub (w:=w12) (w':=w13) HU1x10.out HUW.out K12.out.size);have HR13:=lh rr;obtain⟨IN,hIN⟩:∃I2,Hid (I2=(feedI (insL q1.cd.hs) (decL q1.cd.ls) [] (ts.length:Nat) IB true).1):=⟨_,lh rfl⟩;have HS1x13:=lh (show StT w13 (F2 w12 w13 F1x10) gs1 q1 rn caps ts.length IN true by
  have h:=tt;rw[HLN.out] at h;rw[hIN.out];have e:ts.length+0=ts.length:=om
  rwa [e] at h)
 clear tt rr ho HFD K12 HU1x10 HR9101112 HR101112 HR1112 HR12 HD12x12 HD13x11 HS1x12 HS2x12 HS3x12;generalize F2 w12 w13 F1x10=F1x13 at *;have HLAW:=lh (pieces_law (G:=insL q1.cd.hs) (D:=decL q1.cd.ls) hnl htl hI1.out hIB.out HO8.out.pm HO10.out.2 HO10.out.1 (by have h:=HO11.out.2;rwa [HG3.out.1,HG3.out.2] at h) HO11.out.1 (by have h:=HO12.out.2;rwa [HG2.out,HL2.out] at h) HO12.out.1);have eW:IW=IB:=by rw[hIW.out,HG2.out,HL2.out];exact HLAW.out.1
 have eC:IC=IB:=by rw[hIC.out,HG3.out.1,HG3.out.2,hIB.out]
 have eN:IN=IB:=by rw[hIN.out,feed_nil]
 have eR:R13=[]:=by have h:=HO13.out.2;rw[feed_nil] at h;exact List.nil_perm.1 h
 have eR11:R11=R10:=HLAW.out.2.1;rw[eN] at HS1x13;rw[eW] at HS2x13;rw[eC] at HS3x13;rw[eR11] at HR111213;rw[eR11,eR];have HO8s:=lh HO8.out.so;clear eR eR11 eW eC eN hIW hIC hIN hI1 hIB HO8 HO10 HO11 HO12 HO13 HR13;have HXT1:=lh (fun(W:World) (x:Ext w13 W)=>HS1x13.out.other (KpP.of_ext (p:=fun _=>False) x) (fun b h=>h.elim) (fun w'' kk=>HC1.out w'' ((K13.out.trans (KpP.of_ext x)).trans (kk.mono HU1x13.out))));have HOP1:=fun(W:World) (x:Ext w13 W)=>lh (show Calls Tryz.prog 18 #[.pointer (some ⟨gs1,0,none⟩)] W (RetV (.int .i64 (IB.length:Int)) W) from open_any W F1x13 gs1 q1 rn caps ts.length IB true (HXT1.out W x).s);have HXT2:=lh (fun(W:World) (x:Ext w13 W)=>HS2x13.out.other (KpP.of_ext (p:=fun _=>False) x) (fun b h=>h.elim) (fun w'' kk=>HC2.out w'' ((K13.out.trans (KpP.of_ext x)).trans (kk.mono HU2x12.out))));have HOP2:=fun(W:World) (x:Ext w13 W)=>lh (show Calls Tryz.prog 18 #[.pointer (some ⟨gs2,0,none⟩)] W (RetV (.int .i64 (IB.length:Int)) W) from open_any W F2x12 gs2 q2 rn caps ts.length IB true (HXT2.out W x).s);have HXT3:=lh (fun(W:World) (x:Ext w13 W)=>HS3x13.out.other (KpP.of_ext (p:=fun _=>False) x) (fun b h=>h.elim) (fun w'' kk=>HC3.out w'' ((K13.out.trans (KpP.of_ext x)).trans (kk.mono HU3x11.out))));have HOP3:=fun(W:World) (x:Ext w13 W)=>lh (show Calls Tryz.prog 18 #[.pointer (some ⟨gs3,0,none⟩)] W (RetV (.int .i64 (IB.length:Int)) W) from open_any W F3x11 gs3 q3 rn caps ts.length IB true (HXT3.out W x).s)
 go_wp2_with fail
 refine(HOP1 _ (Ext.rfl' _)).out.mono ?_;rintro e wa ⟨rfl,xa⟩
 go_wp2_with fail
 refine(HOP2 _ (xa)).out.mono ?_;rintro e wb ⟨rfl,ywb⟩;have xb:=xa.trans ywb
 go_wp2_with fail
 refine(HOP3 _ (xb)).out.mono ?_;rintro e wc ⟨rfl,ywc⟩;have xc:=xb.trans ywc
 go_wp2_with fail
 refine(HOP2 _ (xc)).out.mono ?_;rintro e wd ⟨rfl,ywd⟩;have xd:=xc.trans ywd;have HS1y:=lh (HXT1.out wd xd);have HS2y:=lh (HXT2.out wd xd);have HS3y:=lh (HXT3.out wd xd);have Ky:=lh (K13.out.trans (KpP.of_ext (p:=U) xd));have HR910111213y:=lh (HR910111213.out.ext xd);have HR10111213y:=lh (HR10111213.out.ext xd);have HR111213y:=lh (HR111213.out.ext xd);have HR1213y:=lh (HR1213.out.ext xd);clear HXT1 HXT2 HXT3 HOP1 HOP2 HOP3 xa xb xc xd ywb ywc ywd HS1x13 HS2x13 HS3x13 K13 HR910111213 HR10111213 HR111213 HR1213
 go_upto_region 18 with fail
 have HCL:=lh (close_any wd F1x13 gs1 q1 rn caps ts.length IB true HS1y.out.s om)
 go_upto_region 19 with(go_at_call 19;refine HCL.out.mono ?_;rintro e w18 ⟨A18,c18,R18,rfl,ho,hfr,hso,hpm,hkp⟩)
 have HO18:=lh (And.intro hso hpm);have K18:=lh (Ky.out.trans (hkp.mono HU1x13.out));have HR910111213y18:=lh (HR910111213y.out.kp hkp HS1y.out.np);have HR10111213y18:=lh (HR10111213y.out.kp hkp HS1y.out.np);have HR111213y18:=lh (HR111213y.out.kp hkp HS1y.out.np);have HR1213y18:=lh (HR1213y.out.kp hkp HS1y.out.np);have HR18:=lh (show RsL w18 A18 c18 R18 from ho);have HS2x18:=lh (HS2y.out.other hkp HD12x13.out (fun w'' kk=>HC2.out w'' (K18.out.trans (kk.mono HU2x12.out))));have HS3x18:=lh (HS3y.out.other hkp HD13x13.out (fun w'' kk=>HC3.out w'' (K18.out.trans (kk.mono HU3x11.out))));clear HCL ho hfr hso hpm hkp HS1y HS2y HS3y HR910111213y HR10111213y HR111213y HR1213y Ky;have HCL:=lh (close_any w18 F2x12 gs2 q2 rn caps ts.length IB true HS2x18.out.s om)
 go_upto_region 20 with(go_at_call 19;refine HCL.out.mono ?_;rintro e w19 ⟨A19,c19,R19,rfl,ho,hfr,hso,hpm,hkp⟩)
 have HO19:=lh (And.intro hso hpm);have K19:=lh (K18.out.trans (hkp.mono HU2x12.out));have HR910111213y1819:=lh (HR910111213y18.out.kp hkp HS2x18.out.np);have HR10111213y1819:=lh (HR10111213y18.out.kp hkp HS2x18.out.np);have HR111213y1819:=lh (HR111213y18.out.kp hkp HS2x18.out.np);have HR1213y1819:=lh (HR1213y18.out.kp hkp HS2x18.out.np);have HR1819:=lh (HR18.out.kp hkp HS2x18.out.np);have HR19:=lh (show RsL w19 A19 c19 R19 from ho);have HS3x19:=lh (HS3x18.out.other hkp HD23x12.out (fun w'' kk=>HC3.out w'' (K19.out.trans (kk.mono HU3x11.out))));clear HCL ho hfr hso hpm hkp HS2x18 HS3x18 HR910111213y18 HR10111213y18 HR111213y18 HR1213y18 HR18 K18;have HCL:=lh (close_any w19 F3x11 gs3 q3 rn caps ts.length IB true HS3x19.out.s om)
 go_upto_region 21 with(go_at_call 19;refine HCL.out.mono ?_;rintro e w20 ⟨A20,c20,R20,rfl,ho,hfr,hso,hpm,hkp⟩)
 have HO20:=lh (And.intro hso hpm);have K20:=lh (K19.out.trans (hkp.mono HU3x11.out));have HR910111213y181920:=lh (HR910111213y1819.out.kp hkp HS3x19.out.np);have HR10111213y181920:=lh (HR10111213y1819.out.kp hkp HS3x19.out.np);have HR111213y181920:=lh (HR111213y1819.out.kp hkp HS3x19.out.np);have HR1213y181920:=lh (HR1213y1819.out.kp hkp HS3x19.out.np);have HR181920:=lh (HR1819.out.kp hkp HS3x19.out.np);have HR1920:=lh (HR19.out.kp hkp HS3x19.out.np);have HR20:=lh (show RsL w20 A20 c20 R20 from ho);clear HCL ho hfr hso hpm hkp HS3x19 HR910111213y1819 HR10111213y1819 HR111213y1819 HR1213y1819 HR1819 HR19 K19;have e19:R19=R18:=(close_law HLAW.out.2.2.2.2.2.1 HO18.out.2 HO19.out.2 HO18.out.1 HO19.out.1).symm;have e20:R20=R18:=(close_law HLAW.out.2.2.2.2.2.1 HO18.out.2 HO20.out.2 HO18.out.1 HO20.out.1).symm;rw[e19] at HR1920;rw[e20] at HR20;rw[e19,e20];clear e19 e20;have h18:∀s∈R18,S64 s:=fun s hs=>HLAW.out.2.2.2.2.2.2 s (HO18.out.2.mem_iff.2 hs);have hS64:=HLAW.out.2.2.2.1;have hLEN:=HLAW.out.2.2.2.2.1;have HM1:=fun(W:World) (x:Ext w20 W)=>lh (show Calls Tryz.prog 20 #[.slice A11 R10.length c11,.slice A10 R10.length c10] W (RetV (.bool true) W) by
  have h:=sSame_any A11 A10 c11 c10 R10 R10 W ((HR111213y181920.out.ext x).sl hS64.2.1) ((HR10111213y181920.out.ext x).sl hS64.2.1)
  simpa using h)
 have HM3:=fun(W:World) (x:Ext w20 W)=>lh (show Calls Tryz.prog 20 #[.slice A18 R18.length c18,.slice A19 R18.length c19] W (RetV (.bool true) W) by
  have h:=sSame_any A18 A19 c18 c19 R18 R18 W ((HR181920.out.ext x).sl h18) ((HR1920.out.ext x).sl h18)
  simpa using h)
 have HM4:=fun(W:World) (x:Ext w20 W)=>lh (show Calls Tryz.prog 20 #[.slice A18 R18.length c18,.slice A20 R18.length c20] W (RetV (.bool true) W) by
  have h:=sSame_any A18 A20 c18 c20 R18 R18 W ((HR181920.out.ext x).sl h18) ((HR20.out.ext x).sl h18)
  simpa using h)
 have HMG:=fun(W:World) (x:Ext w20 W)=>lh (merged_any R8 R10 A8 A10 c8 c10 W ((HR910111213y181920.out.ext x).sl hS64.1) ((HR10111213y181920.out.ext x).sl hS64.2.1) HO8s.out hLEN.1 hLEN.2 (fun s hs=>by
  rcases List.mem_append.1 hs with hs|hs
  ·exact hS64.1 s hs
  ·exact hS64.2.1 s hs))
 have HM2:=fun(AM:Option Addr) (cM:Nat) (W:World) (x:Ext w20 W) (hm:SL W AM cM R12)=>lh (show Calls Tryz.prog 20 #[.slice AM R12.length cM,.slice A12 R12.length c12] W (RetV (.bool true) W) by
  have h:=sSame_any AM A12 cM c12 R12 R12 W hm ((HR1213y181920.out.ext x).sl hS64.2.2)
  simpa using h)
 have HMQ:=HLAW.out.2.2.1;clear h18 hS64 hLEN
 go_wp2_with fail
 refine(HM1 _ (Ext.rfl' _)).out.mono ?_;rintro e wa ⟨rfl,xa⟩
 go_wp2_with fail
 refine(HMG _ xa).out.mono ?_;rintro e wb ⟨RM,AM,cM,rfl,hsm,hpm,hso,xb'⟩;have eM:=HMQ RM hpm hso;rw[eM] at hsm;rw[eM];clear eM hpm hso HMQ;have xb:=xa.trans xb';have HM2':=HM2 AM cM wb xb hsm
 go_wp2_with fail
 refine HM2'.out.mono ?_;rintro e wc ⟨rfl,xc'⟩;have xc:=xb.trans xc'
 go_wp2_with fail
 refine(HM3 _ xc).out.mono ?_;rintro e wd2 ⟨rfl,xd'⟩;have xd:=xc.trans xd'
 go_wp2_with fail
 refine(HM4 _ xd).out.mono ?_;rintro e we ⟨rfl,xe'⟩;have xe:=xd.trans xe'
 go_wp2_with fail
 refine(HLV.out we).mono ?_;rintro e wf ⟨rfl,xf'⟩;have HF:=lh (show Ext w wf from X0.out.kp (K20.out.trans (KpP.of_ext (p:=U) (xe.trans xf'))) HUB.out)
 go_wp2_with fail
 go_ret
 exact⟨rfl,HF.out⟩):P:=h
theorem streamPieces_any (hlv:∀w,Calls Tryz.prog 22 #[] w (RetV (.bool true) w))(w:World)(LA:Option Addr)(lc:Nat)(ls:List Int)(MA:Option Addr)(mc:Nat)(ms:List Int)(cut:Int)(kd:Bool)(hl:IL w LA lc ls)(hm:IL w MA mc ms)(hc:I64 cut) :
 Calls Tryz.prog 3 #[.slice LA ls.length lc,.slice MA ms.length mc,.int .i64 cut,.bool kd] w (RetV (.bool true) w):=by
 have HLV:=lh hlv;have HM:=lh hm;have HC:=lh hc;have HPG:=lh (sProgram_any w LA lc ls MA mc ms kd hl hm);clear hl hm hc hlv;go_enter Tryz.func3,Tryz.ntmps3
 go_upto_region 1 with fail
 go_upto_region 2 with(go_at_call 11;refine HPG.out.mono ?_;rintro e w1 ⟨PA,pc,hs,caps,rn,rfl,hp,hg,x1⟩)
 have HP1:=lh hp;have HG:=lh hg;have BP:=Blk.new w1 25 #[.slice PA hs.length pc,.int .i64 caps,.bool rn];have EP:=Ext.alloc w1 (.cells #[.slice PA hs.length pc,.int .i64 caps,.bool rn] 25);have X2:=lh (x1.trans EP);have HP2:=lh (hp.ext EP);clear hp hg x1 HP1 HPG;obtain⟨g9,hg9⟩:∃g,g=w1.heap.size:=⟨_,rfl⟩
 rw[<-hg9] at BP ⊢;clear hg9 EP;generalize w1.alloc (.cells #[.slice PA hs.length pc,.int .i64 caps,.bool rn] 25)=w2 at *;obtain⟨z0,z1,z2,_⟩:=BP.c3;have HSY:=lh (sSymbols_any w2 PA hs.length pc caps rn MA mc ms (HM.out.ext X2.out))
 go_upto_region 3 with(go_at_call 12;refine HSY.out.mono ?_;rintro e w3 ⟨TA,tc,ts,rfl,hto,hti,hta,htl,x3⟩)
 have HTO:=lh hto;have HTI:=lh hti;have HTA:=lh hta;have X3:=lh (X2.out.trans x3);have HP3:=lh (HP2.out.ext x3);have HB3:=lh (BP.ext x3);have hcapT:=OwnS.caps hto;have HTS:=lh (show(TA=none/\tc=0)\/∃g,TA=some ⟨g,0,none⟩ by
  rcases OwnS.form hto with⟨h1,_,h2,_⟩|⟨g,cur,h1,_⟩
  ·exact .inl ⟨h1,h2⟩
  ·exact .inr ⟨g,h1⟩)
 have HTS:=lh (show(TA=none/\tc=0)\/∃g,TA=some ⟨g,0,none⟩ by
  rcases OwnS.form hto with⟨h1,_,h2,_⟩|⟨g,cur,h1,_⟩
  ·exact .inl ⟨h1,h2⟩
  ·exact .inr ⟨g,h1⟩)
 have HTS:=lh (show(TA=none/\tc=0)\/∃g,TA=some ⟨g,0,none⟩ by
  rcases OwnS.form hto with⟨h1,_,h2,_⟩|⟨g,cur,h1,_⟩
  ·exact .inl ⟨h1,h2⟩
  ·exact .inr ⟨g,h1⟩)
 have HTS:=lh (show(TA=none/\tc=0)\/∃g,TA=some ⟨g,0,none⟩ by
  rcases OwnS.form hto with⟨h1,_,h2,_⟩|⟨g,cur,h1,_⟩
  ·exact .inl ⟨h1,h2⟩
  ·exact .inr ⟨g,h1⟩)
 have HTS:=lh (show(TA=none/\tc=0)\/∃g,TA=some ⟨g,0,none⟩ by
  rcases OwnS.form hto with⟨h1,_,h2,_⟩|⟨g,cur,h1,_⟩
  ·exact .inl ⟨h1,h2⟩
  ·exact .inr ⟨g,h1⟩)
 have HTS:=lh (show(TA=none/\tc=0)\/∃g,TA=some ⟨g,0,none⟩ by
  rcases OwnS.form hto with⟨h1,_,h2,_⟩|⟨g,cur,h1,_⟩
  ·exact .inl ⟨h1,h2⟩
  ·exact .inr ⟨g,h1⟩)
 have HTS:=lh (show(TA=none/\tc=0)\/∃g,TA=some ⟨g,0,none⟩ by
  rcases OwnS.form hto with⟨h1,_,h2,_⟩|⟨g,cur,h1,_⟩
  ·exact .inl ⟨h1,h2⟩
  ·exact .inr ⟨g,h1⟩)
 have HTS:=lh (show(TA=none/\tc=0)\/∃g,TA=some ⟨g,0,none⟩ by
  rcases OwnS.form hto with⟨h1,_,h2,_⟩|⟨g,cur,h1,_⟩
  ·exact .inl ⟨h1,h2⟩
  ·exact .inr ⟨g,h1⟩)
 have HTS:=lh (show(TA=none/\tc=0)\/∃g,TA=some ⟨g,0,none⟩ by
  rcases OwnS.form hto with⟨h1,_,h2,_⟩|⟨g,cur,h1,_⟩
  ·exact .inl ⟨h1,h2⟩
  ·exact .inr ⟨g,h1⟩)
 clear hto hti hta z0 z1 z2 BP HSY HP2 X2 x3;have HAR:=lh (around_any cut ((ts.length:Int)+1) w3 HC.out om om);have hbd:=around_bd cut ((ts.length:Int)+1) om
 go_upto_region 4 with(go_at_call 13;refine HAR.out.mono ?_;rintro e w4 h4;obtain⟨rfl,x4⟩:=h4.v)
 obtain⟨n,hn⟩:∃n:Nat,around cut ((ts.length:Int)+1)=(n:Int):=⟨(around cut ((ts.length:Int)+1)).toNat,om⟩;rw[hn] at hbd ⊢;have hnl:n<=ts.length:=om;clear hn hbd HAR HC;have HTO4:=lh (OwnS.ext HTO.out x4);have X4:=lh (X3.out.trans x4);have HP4:=lh (HP3.out.ext x4);have HB4:=lh (HB3.out.ext x4);clear HTO X3 HP3 HB3 x4;obtain⟨z0,z1,z2,_⟩:=HB4.out.c3;have HOW:=lh (sOwn_any w4 PA pc hs caps rn HP4.out (by have:=HG.out.len;omega))
 go_wp2_with fail
 refine HOW.out.mono ?_;rintro e w5 ⟨A5,c5,rfl,hp5,x5⟩;have HNW:=lh (snew_any A5 c5 hs rn caps HG.out.ok w5 hp5 HG.out.sz HG.out.gd);have X5:=lh (X4.out.trans x5);have HW5:=lh X5.out.size;have HTO5:=lh (OwnS.ext HTO4.out x5);have HP5:=lh (HP4.out.ext x5);have HB5:=lh (HB4.out.ext x5);clear X4 HTO4 HP4 HB4 HOW z0 z1 z2 hp5 x5
 go_wp2_with fail
 refine HNW.out.mono ?_;rintro e w6 ⟨gs1,q1,F1,rfl,hi1,hs1,hf1,x6,hck1⟩;have HS1:=lh (⟨hs1,fun b hb=>(hf1 b hb).2.2⟩:StT w6 F1 gs1 q1 rn caps 0 [] false);have HI1:=lh hi1;have HF1:=lh (fun b hb=>(show w5.heap.size<=b by rcases(hf1 b hb).1 with h|h;exact h.elim;exact h):∀b,F1 b->w5.heap.size<=b);have HCK1:=lh hck1;have X6:=lh (X5.out.trans x6);have HTO6:=lh (OwnS.ext HTO5.out x6);have HP6:=lh (HP5.out.ext x6);have HB6:=lh (HB5.out.ext x6);have HTW:=lh (show ∀b,TA.map (·.block)=some b->b<w5.heap.size from fun b hb=>(OwnS.blt HTO5.out hb).1);have hs56:=x6.size;clear X5 HTO5 HP5 HB5 HNW hi1 hs1 hf1 hck1 x6
 go_upto_region 5 with fail
 obtain⟨z0,z1,z2,_⟩:=HB6.out.c3;have HOW:=lh (sOwn_any w6 PA pc hs caps rn HP6.out (by have:=HG.out.len;omega))
 go_wp2_with fail
 refine HOW.out.mono ?_;rintro e w7 ⟨A7,c7,rfl,hp7,x7⟩;have HNW:=lh (snew_any A7 c7 hs rn caps HG.out.ok w7 hp7 HG.out.sz HG.out.gd);have hs67:=x7.size;have X7:=lh x7;clear HOW z0 z1 z2 hp7 x7 HP6 HB6
 go_wp2_with fail
 refine HNW.out.mono ?_;rintro e w0 ⟨gs2,q2,F2',rfl,hi2,hs2,hf2,x8,hck2⟩;have X0:=lh (X6.out.trans (X7.out.trans x8));have hs78:=x8.size;have HF2:=lh (fun b hb=>(show w7.heap.size<=b by rcases(hf2 b hb).1 with h|h;exact h.elim;exact h):∀b,F2' b->w7.heap.size<=b);obtain⟨U,hU⟩:∃U:Nat->Prop,U=fun b=>F1 b\/F2' b\/w0.heap.size<=b:=⟨_,rfl⟩;have HU1:=lh (show ∀b,F1 b->U b by rw[hU];exact fun b h=>.inl h);have HU2:=lh (show ∀b,F2' b->U b by rw[hU];exact fun b h=>.inr (.inl h));have HUB:=lh (show ∀b,U b->w.heap.size<=b by
  rw[hU];intro b h;have a1:=X6.out.size;have a2:=X0.out.size;have a3:=HW5.out;rcases h with h|h|h
  ·have:=HF1.out b h;omega
  ·have:=HF2.out b h;omega
  ·omega)
 have HUW:=lh (show ∀b,w0.heap.size<=b->U b by rw[hU];exact fun b h=>.inr (.inr h));have HT:=lh (show ∀w',KpP U w0 w'->IL w' TA tc ts from fun w' kk=>IL.of_own (OwnS.kp (OwnS.ext HTO6.out (X7.out.trans x8)) kk (fun b hb hu=>by
  have h1:=HTW.out b hb;rw[hU] at hu;rcases hu with h|h|h
  ·have:=HF1.out b h;omega
  ·have:=HF2.out b h;omega
  ·omega)) HTI.out)
 have HC1:=lh (show ∀w',KpP U w0 w'->CdAt w' q1.gc q1.cd from fun w' kk=>HCK1.out w' (KpP.chain (KpP.of_ext (X7.out.trans x8)) kk (fun b hu=>by
  rw[hU] at hu;rcases hu with h|h|h
  ·exact .inl (.inl h)
  ·exact .inr (by have:=HF2.out b h;omega)
  ·exact .inr om)))
 have HC2:=lh (show ∀w',KpP U w0 w'->CdAt w' q2.gc q2.cd from fun w' kk=>hck2 w' (KpP.chain (KpP.refl _ w0) kk (fun b hu=>by
  rw[hU] at hu;rcases hu with h|h|h
  ·exact .inl (.inr (by have:=HS1.out.s.lt b h;omega))
  ·exact .inl (.inl h)
  ·exact .inr h)))
 have HK0:=lh (KpP.refl U w0);have HS2:=lh (⟨hs2,fun b hb=>(hf2 b hb).2.2⟩:StT w0 F2' gs2 q2 rn caps 0 [] false);have HI2:=lh hi2;have HD12:=lh (show ∀b,F1 b->¬F2' b from fun b h1 h2=>by have a1:=HS1.out.s.lt b h1;have a2:=HF2.out b h2;omega);have HS10:=lh (HS1.out.other (KpP.of_ext (p:=fun _=>False) (X7.out.trans x8)) (fun b h=>h.elim) (fun w'' kk=>HCK1.out w'' (KpP.chain (KpP.of_ext (X7.out.trans x8)) kk (fun b hb=>.inl (.inl hb)))));clear hU HW5 hi2 hs2 hf2 hck2 x8 X6 X7 HTO6 HTI HTW HCK1 HF1 HF2 HS1 HNW hs56 hs67 hs78
 go_upto_region 6 with fail
 have HG2:=lh (show insL q2.cd.hs=insL q1.cd.hs by rw[HI1.out,HI2.out]);have HL2:=lh (show q2.cd.ls=q1.cd.ls from ls_eq HS2.out.s.ok HS10.out.s.ok HG2.out (by rw[HS2.out.s.rn,HS10.out.s.rn]));have hnI:(n:Int)<=(ts.length:Int):=om;have hnT:(n:Int)<=(tc:Int):=om;have htk:(ts.take n).length=n:=by rw[List.length_take];omega
 have htd:(ts.drop n).length=ts.length-n:=by rw[List.length_drop]
 have HF1:=lh (show Calls Tryz.prog 16 #[.pointer (some ⟨gs1,0,none⟩),.slice TA n tc] w0 (RetFd F1 gs1 q1 rn caps 0 [] false (ts.take n) w0) by
  have h:=feed_any w0 F1 gs1 q1 rn caps 0 [] false HS10.out.s TA tc (ts.take n) (fun w' kk=>IL.takeV (HT.out w' (kk.mono HU1.out)) n) (List.all_eq_true.2 (fun x hx=>List.all_eq_true.1 HTA.out x (List.mem_of_mem_take hx))) om
  rwa [htk] at h)
 have hw08:=htk;clear htk htd
 go_upto_region 8 with fail
 go_upto_region 9 with(go_at_call 16;refine HF1.out.mono ?_;rintro e w8 ⟨A8,c8,R8,rfl,ho8⟩)
 obtain⟨t8,r8⟩:=ho8.t;have HO8:=lh ho8;have HR8:=lh r8;have K8:=lh (HK0.out.trans (ho8.kp.mono HU1.out));have HS2b:=lh (HS2.out.other ho8.kp HD12.out (fun w'' kk=>HC2.out w'' (K8.out.trans (kk.mono HU2.out))));have HD12b:=lh (F2.apart (w':=w8) HD12.out HS2.out.s.lt);have HU1b:=lh (F2.sub (w:=w0) (w':=w8) HU1.out HUW.out (Nat.le_refl _));have HS1b:=lh t8;clear t8 r8 ho8 HF1 HS10 HS2 HK0 HD12 HU1;generalize F2 w0 w8 F1=F1b at *;obtain⟨I1,hI1⟩:∃I1,Hid (I1=(feedI (insL q1.cd.hs) (decL q1.cd.ls) (ts.take n) 0 [] false).1):=⟨_,lh rfl⟩;have HS1c:=lh (show StT w8 F1b gs1 q1 rn caps n I1 true by
  have h:=HS1b.out;rw[hw08,Nat.zero_add] at h;rw[hI1.out];exact h)
 clear HS1b;have HCP:=lh (copy_any w8 F1b gs1 q1 rn caps n I1 true HS1c.out.s om)
 go_upto_region 10 with(go_at_call 17;refine HCP.out.mono ?_;rintro e w9 ⟨gs3,q3,rfl,hgc3,hcd3,hs3,x9⟩)
 have K9:=lh (K8.out.trans (KpP.of_ext (p:=U) x9));have HE9:=fun(P:Nat->Prop)=>KpP.of_ext (p:=P) x9;have HC3:=lh (show ∀w',KpP U w0 w'->CdAt w' q3.gc q3.cd by rw[hgc3,hcd3];exact HC1.out);have HG3:=lh (show insL q3.cd.hs=insL q1.cd.hs/\q3.cd.ls=q1.cd.ls by rw[hcd3];exact⟨rfl,rfl⟩);have HS3d:=lh (⟨hs3,fun b hb=>hb.2.2⟩:StT w9 (F2 w8 w9 (fun _=>False)) gs3 q3 rn caps n I1 true);have HS1d:=lh (HS1c.out.other (HE9 (fun _=>False)) (fun b h=>h.elim) (fun w'' kk=>HC1.out w'' (K9.out.trans (kk.mono HU1b.out))));have HS2d:=lh (HS2b.out.other (HE9 (fun _=>False)) (fun b h=>h.elim) (fun w'' kk=>HC2.out w'' (K9.out.trans (kk.mono HU2.out))));have HR9:=lh (HR8.out.ext x9);have HF3:∀b,F2 w8 w9 (fun _=>False) b->w8.heap.size<=b:=fun b hb=>by
  rcases hb.1 with h|h
  ·exact h.elim
  ·exact h
 have HD13:=lh (show ∀b,F1b b->¬F2 w8 w9 (fun _=>False) b from fun b h1 h2=>by
  have:=HF3 b h2;have:=HS1c.out.s.lt b h1;omega)
 have HD23:=lh (show ∀b,F2' b->¬F2 w8 w9 (fun _=>False) b from fun b h1 h2=>by
  have:=HF3 b h2;have:=HS2b.out.s.lt b h1;omega)
 have HU3:=lh (show ∀b,F2 w8 w9 (fun _=>False) b->U b from fun b h=>HUW.out b (Nat.le_trans K8.out.size (HF3 b h)));clear HF3 hs3 HE9 hgc3 hcd3 HCP HS1c HS2b HR8 K8 x9;generalize F2 w8 w9 (fun _=>False)=F3 at *;have HLN:=lh (show([]:List Int).length=0 from rfl);have HIN:=lh (show ∀w',KpP U w0 w'->IL w' none 0 [] from fun w' _=>⟨Nat.le_refl _,Nat.zero_le _,by simp,fun h=>absurd rfl h⟩);have HLD:=lh (show(ts.drop n).length=ts.length-n by rw[List.length_drop]);have HAD:=lh (show(ts.drop n).all (symV rn)=true from List.all_eq_true.2 (fun x hx=>List.all_eq_true.1 HTA.out x (List.mem_of_mem_drop hx)));by_cases hce:tc=n
 ·have hceI:(tc:Int)=(n:Int):=om;have HTD:=lh (show ∀w',KpP U w0 w'->IL w' TA (tc-n) (ts.drop n) from fun w' kk=>by
   have h:=IL.dropN (HT.out w' kk) hnl;have e:dropI TA tc n=TA:=by unfold dropI;rw[if_pos hce]
   rwa [e] at h)
  clear hce
  go_upto_region 12 with fail
  have HFD:=lh (show Calls Tryz.prog 16 #[.pointer (some ⟨gs1,0,none⟩),.slice TA (ts.length-n) (tc-n)] w9 (RetFd F1b gs1 q1 rn caps n I1 true (ts.drop n) w9) by
   have h:=feed_any w9 F1b gs1 q1 rn caps n I1 true HS1d.out.s TA (tc-n) (ts.drop n) (fun w' kk=>HTD.out w' (K9.out.trans (kk.mono HU1b.out))) HAD.out (by rw[HLD.out];omega)
   rwa [HLD.out] at h)
  go_upto_region 13 with(go_at_call 16;refine HFD.out.mono ?_;rintro e w10 ⟨A10,c10,R10,rfl,ho⟩)
  have HO10:=lh (And.intro ho.so ho.pm);obtain⟨tt,rr⟩:=ho.t;have K10:=lh (K9.out.trans (ho.kp.mono HU1b.out));have HR910:=lh (HR9.out.kp ho.kp HS1d.out.np);have HS2x10:=lh (HS2d.out.other ho.kp HD12b.out (fun w'' kk=>HC2.out w'' (K10.out.trans (kk.mono HU2.out))));have HS3x10:=lh (HS3d.out.other ho.kp HD13.out (fun w'' kk=>HC3.out w'' (K10.out.trans (kk.mono HU3.out))));have HD12x10:=lh (F2.apart (w':=w10) HD12b.out HS2d.out.s.lt);have HD13x10:=lh (F2.apart (w':=w10) HD13.out HS3d.out.s.lt);have HU1x10:=lh (F2.sub (w:=w9) (w':=w10) HU1b.out HUW.out K9.out.size);have HR10:=lh rr;obtain⟨IB,hIB⟩:∃I2,Hid (I2=(feedI (insL q1.cd.hs) (decL q1.cd.ls) (ts.drop n) (n:Nat) I1 true).1):=⟨_,lh rfl⟩;have HS1x10:=lh (show StT w10 (F2 w9 w10 F1b) gs1 q1 rn caps ts.length IB true by
   have h:=tt;rw[HLD.out] at h;rw[hIB.out];have e:n+(ts.length-n)=ts.length:=om
   rwa [e] at h)
  clear tt rr ho HFD K9 HU1b HR9 HD12b HD13 HS1d HS2d HS3d;generalize F2 w9 w10 F1b=F1x10 at *;have HFD:=lh (show Calls Tryz.prog 16 #[.pointer (some ⟨gs3,0,none⟩),.slice TA (ts.length-n) (tc-n)] w10 (RetFd F3 gs3 q3 rn caps n I1 true (ts.drop n) w10) by
   have h:=feed_any w10 F3 gs3 q3 rn caps n I1 true HS3x10.out.s TA (tc-n) (ts.drop n) (fun w' kk=>HTD.out w' (K10.out.trans (kk.mono HU3.out))) HAD.out (by rw[HLD.out];omega)
   rwa [HLD.out] at h)
  go_upto_region 14 with(go_at_call 16;refine HFD.out.mono ?_;rintro e w11 ⟨A11,c11,R11,rfl,ho⟩)
  have HO11:=lh (And.intro ho.so ho.pm);obtain⟨tt,rr⟩:=ho.t;have K11:=lh (K10.out.trans (ho.kp.mono HU3.out));have HR91011:=lh (HR910.out.kp ho.kp HS3x10.out.np);have HR1011:=lh (HR10.out.kp ho.kp HS3x10.out.np);have HS1x11:=lh (HS1x10.out.other ho.kp (fun b h h'=>HD13x10.out b h' h) (fun w'' kk=>HC1.out w'' (K11.out.trans (kk.mono HU1x10.out))));have HS2x11:=lh (HS2x10.out.other ho.kp (fun b h h'=>HD23.out b h' h) (fun w'' kk=>HC2.out w'' (K11.out.trans (kk.mono HU2.out))));have HD13x11:=lh (fun b h h'=>F2.apart (w':=w11) (fun b h h'=>HD13x10.out b h' h) HS1x10.out.s.lt b h' h);have HD23x11:=lh (fun b h h'=>F2.apart (w':=w11) (fun b h h'=>HD23.out b h' h) HS2x10.out.s.lt b h' h);have HU3x11:=lh (F2.sub (w:=w10) (w':=w11) HU3.out HUW.out K10.out.size);have HR11:=lh rr;obtain⟨IC,hIC⟩:∃I2,Hid (I2=(feedI (insL q3.cd.hs) (decL q3.cd.ls) (ts.drop n) (n:Nat) I1 true).1):=⟨_,lh rfl⟩;have HS3x11:=lh (show StT w11 (F2 w10 w11 F3) gs3 q3 rn caps ts.length IC true by
   have h:=tt;rw[HLD.out] at h;rw[hIC.out];have e:n+(ts.length-n)=ts.length:=om
   rwa [e] at h)
  clear tt rr ho HFD K10 HU3 HR910 HR10 HD13x10 HD23 HS1x10 HS2x10 HS3x10;generalize F2 w10 w11 F3=F3x11 at *;have HFD:=lh (show Calls Tryz.prog 16 #[.pointer (some ⟨gs2,0,none⟩),.slice TA ts.length tc] w11 (RetFd F2' gs2 q2 rn caps 0 [] false ts w11) by
   have h:=feed_any w11 F2' gs2 q2 rn caps 0 [] false HS2x11.out.s TA tc ts (fun w' kk=>HT.out w' (K11.out.trans (kk.mono HU2.out))) HTA.out om;exact h)
  exact VEz1
 ·have hceI:¬(tc:Int)=(n:Int):=om;obtain⟨tg,htg⟩:∃tg,TA=some ⟨tg,0,none⟩:=by
   rcases HTS.out with⟨_,h⟩|h
   ·omega
   ·exact h
  have HTD:=lh (show ∀w',KpP U w0 w'->IL w' (some ⟨tg,n,none⟩) (tc-n) (ts.drop n) from fun w' kk=>by
   have h:=IL.dropN (HT.out w' kk) hnl;have e:dropI TA tc n=some ⟨tg,n,none⟩:=by unfold dropI;rw[if_neg hce,htg,Option.map_some,Addr.add_lit,Nat.zero_add]
   rwa [e] at h)
  subst htg;clear hce
  go_upto_region 12 with fail
  have HFD:=lh (show Calls Tryz.prog 16 #[.pointer (some ⟨gs1,0,none⟩),.slice (some ⟨tg,n,none⟩) (ts.length-n) (tc-n)] w9 (RetFd F1b gs1 q1 rn caps n I1 true (ts.drop n) w9) by
   have h:=feed_any w9 F1b gs1 q1 rn caps n I1 true HS1d.out.s (some ⟨tg,n,none⟩) (tc-n) (ts.drop n) (fun w' kk=>HTD.out w' (K9.out.trans (kk.mono HU1b.out))) HAD.out (by rw[HLD.out];omega)
   rwa [HLD.out] at h)
  go_upto_region 13 with(go_at_call 16;refine HFD.out.mono ?_;rintro e w10 ⟨A10,c10,R10,rfl,ho⟩)
  have HO10:=lh (And.intro ho.so ho.pm);obtain⟨tt,rr⟩:=ho.t;have K10:=lh (K9.out.trans (ho.kp.mono HU1b.out));have HR910:=lh (HR9.out.kp ho.kp HS1d.out.np);have HS2x10:=lh (HS2d.out.other ho.kp HD12b.out (fun w'' kk=>HC2.out w'' (K10.out.trans (kk.mono HU2.out))));have HS3x10:=lh (HS3d.out.other ho.kp HD13.out (fun w'' kk=>HC3.out w'' (K10.out.trans (kk.mono HU3.out))));have HD12x10:=lh (F2.apart (w':=w10) HD12b.out HS2d.out.s.lt);have HD13x10:=lh (F2.apart (w':=w10) HD13.out HS3d.out.s.lt);have HU1x10:=lh (F2.sub (w:=w9) (w':=w10) HU1b.out HUW.out K9.out.size);have HR10:=lh rr;obtain⟨IB,hIB⟩:∃I2,Hid (I2=(feedI (insL q1.cd.hs) (decL q1.cd.ls) (ts.drop n) (n:Nat) I1 true).1):=⟨_,lh rfl⟩;have HS1x10:=lh (show StT w10 (F2 w9 w10 F1b) gs1 q1 rn caps ts.length IB true by
   have h:=tt;rw[HLD.out] at h;rw[hIB.out];have e:n+(ts.length-n)=ts.length:=om
   rwa [e] at h)
  clear tt rr ho HFD K9 HU1b HR9 HD12b HD13 HS1d HS2d HS3d;generalize F2 w9 w10 F1b=F1x10 at *;have HFD:=lh (show Calls Tryz.prog 16 #[.pointer (some ⟨gs3,0,none⟩),.slice (some ⟨tg,n,none⟩) (ts.length-n) (tc-n)] w10 (RetFd F3 gs3 q3 rn caps n I1 true (ts.drop n) w10) by
   have h:=feed_any w10 F3 gs3 q3 rn caps n I1 true HS3x10.out.s (some ⟨tg,n,none⟩) (tc-n) (ts.drop n) (fun w' kk=>HTD.out w' (K10.out.trans (kk.mono HU3.out))) HAD.out (by rw[HLD.out];omega)
   rwa [HLD.out] at h)
  go_upto_region 14 with(go_at_call 16;refine HFD.out.mono ?_;rintro e w11 ⟨A11,c11,R11,rfl,ho⟩)
  have HO11:=lh (And.intro ho.so ho.pm);obtain⟨tt,rr⟩:=ho.t;have K11:=lh (K10.out.trans (ho.kp.mono HU3.out));have HR91011:=lh (HR910.out.kp ho.kp HS3x10.out.np);have HR1011:=lh (HR10.out.kp ho.kp HS3x10.out.np);have HS1x11:=lh (HS1x10.out.other ho.kp (fun b h h'=>HD13x10.out b h' h) (fun w'' kk=>HC1.out w'' (K11.out.trans (kk.mono HU1x10.out))));have HS2x11:=lh (HS2x10.out.other ho.kp (fun b h h'=>HD23.out b h' h) (fun w'' kk=>HC2.out w'' (K11.out.trans (kk.mono HU2.out))));have HD13x11:=lh (fun b h h'=>F2.apart (w':=w11) (fun b h h'=>HD13x10.out b h' h) HS1x10.out.s.lt b h' h);have HD23x11:=lh (fun b h h'=>F2.apart (w':=w11) (fun b h h'=>HD23.out b h' h) HS2x10.out.s.lt b h' h);have HU3x11:=lh (F2.sub (w:=w10) (w':=w11) HU3.out HUW.out K10.out.size);have HR11:=lh rr;obtain⟨IC,hIC⟩:∃I2,Hid (I2=(feedI (insL q3.cd.hs) (decL q3.cd.ls) (ts.drop n) (n:Nat) I1 true).1):=⟨_,lh rfl⟩;have HS3x11:=lh (show StT w11 (F2 w10 w11 F3) gs3 q3 rn caps ts.length IC true by
   have h:=tt;rw[HLD.out] at h;rw[hIC.out];have e:n+(ts.length-n)=ts.length:=om
   rwa [e] at h)
  clear tt rr ho HFD K10 HU3 HR910 HR10 HD13x10 HD23 HS1x10 HS2x10 HS3x10;generalize F2 w10 w11 F3=F3x11 at *;have HFD:=lh (show Calls Tryz.prog 16 #[.pointer (some ⟨gs2,0,none⟩),.slice (some ⟨tg,0,none⟩) ts.length tc] w11 (RetFd F2' gs2 q2 rn caps 0 [] false ts w11) by
   have h:=feed_any w11 F2' gs2 q2 rn caps 0 [] false HS2x11.out.s (some ⟨tg,0,none⟩) tc ts (fun w' kk=>HT.out w' (K11.out.trans (kk.mono HU2.out))) HTA.out om;exact h)
  exact VEz1
end
section
open Go.RowKit
theorem ins_of {hs:List Hin}{G:List Ins}(h:insL hs=G){P:List Sp->Prop}(hP:∀i∈G,P i.set):∀z∈hs,P z.l:=fun z hz=>by
 have h1:z.ins∈G:=by rw[<-h];unfold insL;exact List.mem_map_of_mem hz
 exact hP _ h1
theorem one_valid {x:Int}(h:0<=x/\x<=255):validE [(x,x)]=0:=validE_zeroV (okL_one (by unfold goodS;simp only;omega)) si
theorem gok_plus:GOk false 0 gPlus:=by
 have h1:=one_valid (x:=97) om;refine⟨by simp[gPlus],om,fun k hk=>?_,fun _=>.inl rfl,fun k hk=>?_⟩
 ·have:k=0\/k=1\/k=2\/k=3\/k=4:=by simp[gPlus] at hk;omega
  rcases this with rfl|rfl|rfl|rfl|rfl<;>simp[gPlus,InsOk,h1,topV]
 ·have:k=0\/k=1\/k=2\/k=3\/k=4:=by simp[gPlus] at hk;omega
  rcases this with rfl|rfl|rfl|rfl|rfl<;>simp[gPlus]
theorem gok_alt:GOk false 0 gAlt:=by
 have h1:=one_valid (x:=97) om;have h2:=one_valid (x:=98) om;refine⟨by simp[gAlt],om,fun k hk=>?_,fun _=>.inl rfl,fun k hk=>?_⟩
 ·have:k=0\/k=1\/k=2\/k=3\/k=4\/k=5:=by simp[gAlt] at hk;omega
  rcases this with rfl|rfl|rfl|rfl|rfl|rfl<;>simp[gAlt,InsOk,h1,h2,topV]
 ·have:k=0\/k=1\/k=2\/k=3\/k=4\/k=5:=by simp[gAlt] at hk;omega
  rcases this with rfl|rfl|rfl|rfl|rfl|rfl<;>simp[gAlt]
theorem plus_small:∀i∈gPlus,i.set.length<=40/\∀s∈i.set,-1000000000<=s.1/\s.1<=1000000000/\-1000000000<=s.2/\s.2<=1000000000:=by
 intro i hi;simp only[gPlus,List.mem_cons,List.not_mem_nil,or_false] at hi;rcases hi with rfl|rfl|rfl|rfl|rfl<;>simp
theorem alt_small:∀i∈gAlt,i.set.length<=40/\∀s∈i.set,-1000000000<=s.1/\s.1<=1000000000/\-1000000000<=s.2/\s.2<=1000000000:=by
 intro i hi;simp only[gAlt,List.mem_cons,List.not_mem_nil,or_false] at hi;rcases hi with rfl|rfl|rfl|rfl|rfl|rfl<;>simp
end
section
open Go.RowKit
attribute [local go_sem ↓] Go.wp_at_zero Go.wp_at_succ
theorem RsL_caps {w:World}{A:Option Addr}{c:Nat}{R:List (Int×Int)}(h:RsL w A c R):R.length<=c/\c<=9223372036854775807:=OwnS.caps h
theorem sl_lit {w:World}{g T:Nat}{l:List Sp}{n:Nat}(hb:Blk w g T (flatS l).toArray)(hn:n=l.length)(hl:l.length<=100)(hr:∀s∈l,S64 s):SL w (some ⟨g,0,none⟩) n l:=by
 subst hn;have h:=OwnS.of_blk (base:=0) (size:=2) (n:=l.length) (c:=l.length) hb (Nat.zero_le _) (by simp[flatS_len]) (Nat.le_refl _) um;exact SL.of_ownT (by simpa[List.take_of_length_le,flatS_len] using h) hr
theorem sl_lit2 {w:World}{g T:Nat}(hb:Blk w g T #[.int .i64 0,.int .i64 2,.int .i64 1,.int .i64 2]):SL w (some ⟨g,0,none⟩) 2 [(0,2),(1,2)]:=
 sl_lit (l:=[(0,2),(1,2)]) hb rfl de (by intro s hs;simp only[List.mem_cons,List.not_mem_nil,or_false] at hs;rcases hs with rfl|rfl<;>exact⟨by unfold I64;simp,by unfold I64;simp⟩)
theorem sl_lit1 {w:World}{g T:Nat}(hb:Blk w g T #[.int .i64 0,.int .i64 1]):SL w (some ⟨g,0,none⟩) 1 [(0,1)]:=
 sl_lit (l:=[(0,1)]) hb rfl de (by intro s hs;simp only[List.mem_cons,List.not_mem_nil,or_false] at hs;subst hs;exact⟨by unfold I64;simp,by unfold I64;simp⟩)
theorem sLives_any (hcp:CmpP)(hca:CmpA)(w:World):Calls Tryz.prog 22 #[] w (RetV (.bool true) w):=by
 have HCP:=lh hcp;have HCA:=lh hca;clear hcp hca;have HL1:=lh (letter_any w 97);go_enter Tryz.func22,Tryz.ntmps22
 go_upto_region 2 with(go_at_call 73;refine HL1.out.mono ?_;rintro e w1 ⟨sb,he,hsb,x1⟩;have he2:e=.returned (.agg (ndL sb 97).cs.toArray):=he;subst he2;clear he;simp only[ndL,Nd.cs,List.length_cons,List.length_nil])
 change Code.wp _ _ _ _ (w1.alloc (.cells (ndL sb 97).cs.toArray 61));have E1:=Ext.alloc w1 (.cells (ndL sb 97).cs.toArray 61);have B1:=Blk.new w1 61 (ndL sb 97).cs.toArray;have HSB:=lh (hsb.ext E1);have X2:=lh (x1.trans E1);obtain⟨g1,hg1⟩:∃g,g=w1.heap.size:=⟨_,rfl⟩
 rw[<-hg1] at B1 ⊢;clear hg1 E1 hsb x1 HL1;generalize w1.alloc (.cells (ndL sb 97).cs.toArray 61)=w2 at *;have HB1:=lh B1;obtain⟨n0,n1,n2,n3,n4,n5,n6,n7⟩:=nd_cells B1;simp only[ndL,List.length_cons,List.length_nil,Nat.zero_add] at n0 n1 n2 n3 n4 n5 n6 n7;have EK:=Ext.alloc w2 (.cells (ndL sb 97).cs.toArray 61);have BK:=Blk.new w2 61 (ndL sb 97).cs.toArray;have HC:=lh (HCP.out _ w2.heap.size sb BK (HSB.out.ext EK));clear B1
 go_upto_region 3 with(go_at_call 27;refine HC.out.mono ?_;rintro e w3 ⟨PA,pc,hs,rfl,hin,hp,x3⟩)
 have EP:=Ext.alloc w3 (.cells #[.slice PA hs.length pc,.int .i64 0,.bool false] 35);have BP:=Blk.new w3 35 #[.slice PA hs.length pc,.int .i64 0,.bool false];have X4:=lh (X2.out.trans (EK.trans (x3.trans EP)));have HP4:=lh (hp.ext EP);have HI1:=lh hin;have HB4:=lh (HB1.out.ext (EK.trans (x3.trans EP)));have HSB4:=lh (HSB.out.ext (EK.trans (x3.trans EP)));obtain⟨g2,hg2⟩:∃g,g=w3.heap.size:=⟨_,rfl⟩
 rw[<-hg2] at BP ⊢;clear hg2 n0 n1 n2 n3 n4 n5 n6 n7 EK BK HC hin hp x3 HB1 HSB X2 EP;generalize w3.alloc (.cells #[.slice PA hs.length pc,.int .i64 0,.bool false] 35)=w4 at *;have HBP:=lh BP;clear BP;obtain⟨n0,n1,n2,n3,n4,n5,n6,n7⟩:=nd_cells HB4.out;simp only[ndL,List.length_cons,List.length_nil,Nat.zero_add] at n0 n1 n2 n3 n4 n5 n6 n7;have m0:=kc0 n0;have m1:=kc0 n1;have m2:=kc0 n2;have m3:=kc0 n3;have m4:=kc0 n4;have m5:=kc0 n5;have m6:=kc0 n6;have m7:=kc0 n7;refine Xr.start [] kr ?_;refine Xtk 0 ?_;refine Xtn ?_;refine Xr.lazy 12 4 13 (fun g=>.pointer (some ⟨g,0,none⟩)) 35 #[.slice none 0 0,.int .i64 0,.bool false] rfl si dK si (fun w'=>by go_simp) ?_;refine Xcl 2 fun w5 hE5 hK5 K hKK=>?_;go_simp;refine(letter_any w5 98).mono ?_;rintro en w6 ⟨sc,he,hsc,x6⟩;have he2:en=.returned (.agg #[.int .i64 1,.slice (some ⟨sc,0,none⟩) 1 1,.slice none 0 0,.int .i64 0,.int .i64 0,.int .i64 0,.int .i64 0,.bool false]):=he;subst he2;clear he;refine hKK _ _ x6 ?_;clear hKK;refine ptm ?_;have HSC6:=lh hsc;refine Xcl 3 fun w7 hE7 hK7 K hKK=>?_;have EKC:=Ext.alloc w7 (.cells #[.int .i64 1,.slice (some ⟨sb,0,none⟩) 1 1,.slice none 0 0,.int .i64 0,.int .i64 0,.int .i64 0,.int .i64 0,.bool false,.int .i64 1,.slice (some ⟨sc,0,none⟩) 1 1,.slice none 0 0,.int .i64 0,.int .i64 0,.int .i64 0,.int .i64 0,.bool false] 61);have BKC:=Blk.new w7 61 #[.int .i64 1,.slice (some ⟨sb,0,none⟩) 1 1,.slice none 0 0,.int .i64 0,.int .i64 0,.int .i64 0,.int .i64 0,.bool false,.int .i64 1,.slice (some ⟨sc,0,none⟩) 1 1,.slice none 0 0,.int .i64 0,.int .i64 0,.int .i64 0,.int .i64 0,.bool false]
 go_simp;refine hKK _ _ EKC ?_;clear hKK;obtain⟨kc,hkc⟩:∃g,g=w7.heap.size:=⟨_,rfl⟩
 rw[<-hkc] at BKC ⊢;clear hkc;have HSC8:=lh ((HSC6.out.ext hE7).ext EKC);generalize w7.alloc (.cells #[.int .i64 1,.slice (some ⟨sb,0,none⟩) 1 1,.slice none 0 0,.int .i64 0,.int .i64 0,.int .i64 0,.int .i64 0,.bool false,.int .i64 1,.slice (some ⟨sc,0,none⟩) 1 1,.slice none 0 0,.int .i64 0,.int .i64 0,.int .i64 0,.int .i64 0,.bool false] 61)=w8 at *;have HKC8:=lh BKC;clear BKC HSC6;refine ptm ?_;refine Xtk 4 ?_;refine Xcl 5 fun w9 hE9 hK9 K hKK=>?_;have EKB:=Ext.alloc w9 (.cells #[.int .i64 1,.slice (some ⟨sb,0,none⟩) 1 1,.slice none 0 0,.int .i64 0,.int .i64 0,.int .i64 0,.int .i64 0,.bool false,.int .i64 2,.slice none 0 0,.slice (some ⟨kc,0,none⟩) 2 2,.int .i64 0,.int .i64 0,.int .i64 0,.int .i64 0,.bool false] 61);have BKB:=Blk.new w9 61 #[.int .i64 1,.slice (some ⟨sb,0,none⟩) 1 1,.slice none 0 0,.int .i64 0,.int .i64 0,.int .i64 0,.int .i64 0,.bool false,.int .i64 2,.slice none 0 0,.slice (some ⟨kc,0,none⟩) 2 2,.int .i64 0,.int .i64 0,.int .i64 0,.int .i64 0,.bool false];go_simp;refine hKK _ _ EKB ?_;clear hKK;obtain⟨kb,hkb⟩:∃g,g=w9.heap.size:=⟨_,rfl⟩
 rw[<-hkb] at BKB ⊢;clear hkb;have HSC10:=lh ((HSC8.out.ext hE9).ext EKB);have HKC10:=lh ((HKC8.out.ext hE9).ext EKB);generalize w9.alloc (.cells #[.int .i64 1,.slice (some ⟨sb,0,none⟩) 1 1,.slice none 0 0,.int .i64 0,.int .i64 0,.int .i64 0,.int .i64 0,.bool false,.int .i64 2,.slice none 0 0,.slice (some ⟨kc,0,none⟩) 2 2,.int .i64 0,.int .i64 0,.int .i64 0,.int .i64 0,.bool false] 61)=w10 at *;have HKB10:=lh BKB;clear BKB HSC8 HKC8;refine ptm ?_;refine Xtk 6 ?_;refine Xtn ?_;have HX10:=lh ((((((hE5.trans x6).trans hE7).trans EKC).trans hE9).trans EKB));clear EKC EKB hE5 x6 hE7 hE9;refine Xcl 8 fun w11 hE11 hK11 K hKK=>?_;have HCA11:=lh (HCA.out w11 kb kc sb sc (ndL sb 97).val (ndL sc 98).val (HKB10.out.ext hE11) (HKC10.out.ext hE11) (HSB4.out.ext (HX10.out.trans hE11)) (HSC10.out.ext hE11));go_simp;refine HCA11.out.mono ?_;rintro en w12 ⟨QA,qc,ks,rfl,hin2,hq,x12⟩;refine hKK _ _ x12 ?_;clear hKK;refine ptm ?_;refine Xtk 9 ?_
 iterate 2(refine Xtn ?_)
 have HQ12:=lh hq;have HI12:=lh hin2;clear hq hin2 HCA11 HKB10 HKC10 HSC10;refine Xr.stepZ rfl dK (fun _=>by rfl) (fun w13 g4 hE13 hK13 hg4 hB4 hno K hKK=>?_);have hbz:=hB4.lt;have s0:=hB4.frz 0;have s1:=hB4.frz 1;have s2:=hB4.frz 2;have t0:=hB4.cell 0;have t1:=hB4.cell 1;have t2:=hB4.cell 2;simp only[List.getElem?_toArray,List.getElem?_cons_succ,List.getElem?_cons_zero] at t0 t1 t2;go_simp;refine hKK _ _ (WI_set (WI_set (WI_set (WI_refl _ _ _) _ _) _ _) _ _) (((hK13.setN hg4 _ _).setN hg4 _ _).setN hg4 _ _) ?_;clear hKK;refine ptm ?_;refine Xtk 14 ?_;refine Xdn fun w14 hE14 hK14=>?_;have X14:=hK14.nil;have HB14:=lh (show Blk w14 g4 35 #[.slice QA ks.length qc,.int .i64 0,.bool false] by
  have h:=((hB4.set 0 (.slice QA ks.length qc)).set 1 (.int .i64 0)).set 2 (.bool false);have h2:=h.ext hE14
  simpa using h2)
 have HX14:=lh X14;have HQ14:=lh (show PL w14 QA qc ks from((HQ12.out.ext hE13).kp3V hB4 (setGp_kpp (p:=(·=g4)) (KpP.refl _ w13) rfl QA ks.length qc 0 false)).ext hE14);have HP14:=lh (HP4.out.ext X14);have HBP14:=lh (HBP.out.ext X14);have XW:=lh (X4.out.trans X14);clear HQ12 hB4 hno hK13 hg4 hbz s0 s1 s2 t0 t1 t2 hE13 hE14 hK14 X14 HX14 HP4 HBP X4 m0 m1 m2 m3 m4 m5 m6 m7 n0 n1 n2 n3 n4 n5 n6 n7 HB4 HSB4 HX10;obtain⟨z0,z1,z2,_⟩:=HBP14.out.c3;have HNW:=lh (snew_any PA pc hs false 0 (by rw[HI1.out];exact gok_plus) w14 HP14.out (ins_of (P:=fun l=>l.length<=40) HI1.out (fun i hi=>(plus_small i hi).1)) (ins_of (P:=fun l=>∀s∈l,-1000000000<=s.1/\s.1<=1000000000/\-1000000000<=s.2/\s.2<=1000000000) HI1.out (fun i hi=>(plus_small i hi).2)))
 go_wp2_with fail
 refine HNW.out.mono ?_;rintro e w16 ⟨gs1,q1,F1,rfl,hi1,hs1,hf1,x16,hck1⟩;have HS1:=lh (⟨hs1,fun b hb=>(hf1 b hb).2.2⟩:StT w16 F1 gs1 q1 false 0 0 [] false);have HI1':=lh (show insL q1.cd.hs=gPlus by rw[hi1,HI1.out]);have HF1:=lh (fun b hb=>(show w14.heap.size<=b by rcases(hf1 b hb).1 with h|h;exact h.elim;exact h):∀b,F1 b->w14.heap.size<=b);have HCK1:=lh hck1;have X16:=lh (XW.out.trans x16);have HQ16:=lh (HQ14.out.ext x16);have HB16:=lh (HB14.out.ext x16);have hs56:=x16.size;clear HP14 HBP14 z0 z1 z2 HNW hi1 hs1 hf1 hck1 HQ14 HB14 x16 HI1
 go_upto_region 5 with fail
 obtain⟨z0,z1,z2,_⟩:=HB16.out.c3;have HNW:=lh (snew_any QA qc ks false 0 (by rw[HI12.out];exact gok_alt) w16 HQ16.out (ins_of (P:=fun l=>l.length<=40) HI12.out (fun i hi=>(alt_small i hi).1)) (ins_of (P:=fun l=>∀s∈l,-1000000000<=s.1/\s.1<=1000000000/\-1000000000<=s.2/\s.2<=1000000000) HI12.out (fun i hi=>(alt_small i hi).2)))
 go_wp2_with fail
 refine HNW.out.mono ?_;rintro e w0 ⟨gs2,q2,F2',rfl,hi2,hs2,hf2,x8,hck2⟩;have X0:=lh (X16.out.trans x8);have hs78:=x8.size;have HF2:=lh (fun b hb=>(show w16.heap.size<=b by rcases(hf2 b hb).1 with h|h;exact h.elim;exact h):∀b,F2' b->w16.heap.size<=b);obtain⟨U,hU⟩:∃U:Nat->Prop,U=fun b=>F1 b\/F2' b\/w0.heap.size<=b:=⟨_,rfl⟩;have HU1:=lh (show ∀b,F1 b->U b by rw[hU];exact fun b h=>.inl h);have HU2:=lh (show ∀b,F2' b->U b by rw[hU];exact fun b h=>.inr (.inl h));have HUW:=lh (show ∀b,w0.heap.size<=b->U b by rw[hU];exact fun b h=>.inr (.inr h));have HUB:=lh (show ∀b,U b->w.heap.size<=b by
  rw[hU];intro b h;have a1:=XW.out.size;have a2:=X0.out.size;rcases h with h|h|h
  ·have:=HF1.out b h;omega
  ·have:=HF2.out b h;omega
  ·omega)
 have HC1:=lh (show ∀w',KpP U w0 w'->CdAt w' q1.gc q1.cd from fun w' kk=>HCK1.out w' (KpP.chain (KpP.of_ext x8) kk (fun b hu=>by
  rw[hU] at hu;rcases hu with h|h|h
  ·exact .inl (.inl h)
  ·exact .inr (HF2.out b h)
  ·exact .inr om)))
 have HC2:=lh (show ∀w',KpP U w0 w'->CdAt w' q2.gc q2.cd from fun w' kk=>hck2 w' (KpP.chain (KpP.refl _ w0) kk (fun b hu=>by
  rw[hU] at hu;rcases hu with h|h|h
  ·exact .inl (.inr (HS1.out.s.lt b h))
  ·exact .inl (.inl h)
  ·exact .inr h)))
 have HK0:=lh (KpP.refl U w0);have HS2:=lh (⟨hs2,fun b hb=>(hf2 b hb).2.2⟩:StT w0 F2' gs2 q2 false 0 0 [] false);have HI2':=lh (show insL q2.cd.hs=gAlt by rw[hi2,HI12.out]);have HD12:=lh (show ∀b,F1 b->¬F2' b from fun b h1 h2=>by have a1:=HS1.out.s.lt b h1;have a2:=HF2.out b h2;omega);have HS10:=lh (HS1.out.other (KpP.of_ext (p:=fun _=>False) x8) (fun b h=>h.elim) (fun w'' kk=>HCK1.out w'' (KpP.chain (KpP.of_ext x8) kk (fun b hb=>.inl (.inl hb)))));clear hU hi2 hs2 hf2 hck2 x8 X16 HCK1 HF1 HF2 HS1 HNW hs56 hs78 HI12 HQ16 HB16 z0 z1 z2;have HL1:=lh (show q1.cd.ls=lPlus from ls_known HS10.out.s.ok HI1'.out HS10.out.s.rn rfl plus_lead);have HL2:=lh (show q2.cd.ls=lAlt from ls_known HS2.out.s.ok HI2'.out HS2.out.s.rn rfl alt_lead)
 go_upto_region 8 with fail
 have EA:=Ext.alloc w0 (.cells #[.int .i64 97,.int .i64 97] 3);have BA:=Blk.new w0 3 #[.int .i64 97,.int .i64 97];have HS1a:=lh (HS10.out.other (KpP.of_ext (p:=fun _=>False) EA) (fun b h=>h.elim) (fun w'' kk=>HC1.out w'' (KpP.trans (KpP.of_ext EA) (kk.mono HU1.out))));have HS2a:=lh (HS2.out.other (KpP.of_ext (p:=fun _=>False) EA) (fun b h=>h.elim) (fun w'' kk=>HC2.out w'' (KpP.trans (KpP.of_ext EA) (kk.mono HU2.out))));have Ka:=lh (KpP.of_ext (p:=U) EA);have hga:∀b,F1 b->b<w0.heap.size:=HS10.out.s.lt;generalize hwa:w0.alloc (.cells #[.int .i64 97,.int .i64 97] 3)=wa at *;have HFD:=lh (show Calls Tryz.prog 16 #[.pointer (some ⟨gs1,0,none⟩),.slice (some ⟨w0.heap.size,0,none⟩) 2 2] wa (RetFd F1 gs1 q1 false 0 0 [] false [97,97] wa) from
  feed_any wa F1 gs1 q1 false 0 0 [] false HS1a.out.s (some ⟨w0.heap.size,0,none⟩) 2 [97,97] (fun w' kk=>IL.of_own (base:=0) (e:=3) (by
   have hb:=kk.blk BA (fun h=>Nat.lt_irrefl _ (hga _ h));have h:=OwnS.of_blk (n:=2) (c:=2) (size:=1) (base:=0) hb (Nat.zero_le _) si si um
   simpa[OwnI] using h) (by unfold I64;simp)) de de)
 go_upto_region 9 with(go_at_call 16;refine HFD.out.mono ?_;rintro e w8 ⟨A8,c8,R8,rfl,ho8⟩)
 obtain⟨t8,r8⟩:=ho8.t;have K8:=lh ((HK0.out.trans Ka.out).trans (ho8.kp.mono HU1.out));have HS2b:=lh (HS2a.out.other ho8.kp HD12.out (fun w'' kk=>HC2.out w'' (K8.out.trans (kk.mono HU2.out))));have HU1b:=lh (F2.sub (w:=wa) (w':=w8) HU1.out HUW.out Ka.out.size);have HD12b:=lh (F2.apart (w':=w8) HD12.out HS2a.out.s.lt);have eR8:R8=[]:=by
  have h:=ho8.pm;rw[HI1'.out,HL1.out] at h;have h2:(feedI gPlus (decL lPlus) [97,97] 0 [] false).2.Perm R8:=h;rw[plus_feed] at h2;exact List.nil_perm.1 h2
 have HS1b:=lh (show StT w8 (F2 wa w8 F1) gs1 q1 false 0 2 [⟨0,[2,4],2⟩,⟨1,[2,4],2⟩,⟨2,[0],-1⟩] true by
  have h:=t8;rw[HI1'.out,HL1.out] at h;have h2:StT w8 (F2 wa w8 F1) gs1 q1 false 0 2 (feedI gPlus (decL lPlus) [97,97] 0 [] false).1 true:=h;rw[plus_feed] at h2;exact h2)
 subst eR8;clear t8 r8 ho8 HFD HS10 HS2 HS1a HS2a HK0 Ka HD12 HU1 hga hwa BA EA;generalize F2 wa w8 F1=F1b at *;have HOP:=lh (show Calls Tryz.prog 18 #[.pointer (some ⟨gs1,0,none⟩)] w8 (RetV (.int .i64 3) w8) from open_any w8 F1b gs1 q1 false 0 2 _ true HS1b.out.s)
 go_upto_region 10 with(go_at_call 18;refine HOP.out.mono ?_;rintro e w9 ⟨rfl,x9⟩)
 have EB:=Ext.alloc w9 (.cells #[.int .i64 98] 3);have BB:=Blk.new w9 3 #[.int .i64 98];have XB:=x9.trans EB;have HS1c:=lh (HS1b.out.other (KpP.of_ext (p:=fun _=>False) XB) (fun b h=>h.elim) (fun w'' kk=>HC1.out w'' ((K8.out.trans (KpP.of_ext XB)).trans (kk.mono HU1b.out))));have HS2c:=lh (HS2b.out.other (KpP.of_ext (p:=fun _=>False) XB) (fun b h=>h.elim) (fun w'' kk=>HC2.out w'' ((K8.out.trans (KpP.of_ext XB)).trans (kk.mono HU2.out))));have Kb:=lh (K8.out.trans (KpP.of_ext (p:=U) XB));have hgb:∀b,F1b b->b<w9.heap.size:=fun b hb=>Nat.lt_of_lt_of_le (HS1b.out.s.lt b hb) x9.size;generalize hwb:w9.alloc (.cells #[.int .i64 98] 3)=wb at *;have HFD:=lh (show Calls Tryz.prog 16 #[.pointer (some ⟨gs1,0,none⟩),.slice (some ⟨w9.heap.size,0,none⟩) 1 1] wb (RetFd F1b gs1 q1 false 0 2 [⟨0,[2,4],2⟩,⟨1,[2,4],2⟩,⟨2,[0],-1⟩] true [98] wb) from
  feed_any wb F1b gs1 q1 false 0 2 _ true HS1c.out.s (some ⟨w9.heap.size,0,none⟩) 1 [98] (fun w' kk=>IL.of_own (base:=0) (e:=3) (by
   have hb:=kk.blk BB (fun h=>Nat.lt_irrefl _ (hgb _ h));have h:=OwnS.of_blk (n:=1) (c:=1) (size:=1) (base:=0) hb (Nat.zero_le _) si si um
   simpa[OwnI] using h) (by unfold I64;simp)) de de)
 clear HOP HS1b HS2b K8
 go_upto_region 11 with(go_at_call 16;refine HFD.out.mono ?_;rintro e w10 ⟨A10,c10,R10,rfl,ho10⟩)
 obtain⟨t10,r10⟩:=ho10.t;have HR10:=lh r10;have K10:=lh (Kb.out.trans (ho10.kp.mono HU1b.out));have HS2d:=lh (HS2c.out.other ho10.kp HD12b.out (fun w'' kk=>HC2.out w'' (K10.out.trans (kk.mono HU2.out))));have HU1d:=lh (F2.sub (w:=wb) (w':=w10) HU1b.out HUW.out Kb.out.size);have HD12d:=lh (F2.apart (w':=w10) HD12b.out HS2c.out.s.lt);have eR10:R10=[(0,2),(1,2)]:=by
  have h:=ho10.pm;rw[HI1'.out,HL1.out] at h;have h2:(feedI gPlus (decL lPlus) [98] 2 [⟨0,[2,4],2⟩,⟨1,[2,4],2⟩,⟨2,[0],-1⟩] true).2.Perm R10:=h;rw[plus_feed2] at h2;exact(sorted_uniq h2 de de ho10.so).symm
 have HS1d:=lh (show StT w10 (F2 wb w10 F1b) gs1 q1 false 0 3 [⟨3,[0],-1⟩] true by
  have h:=t10;rw[HI1'.out,HL1.out] at h;have h2:StT w10 (F2 wb w10 F1b) gs1 q1 false 0 3 (feedI gPlus (decL lPlus) [98] 2 [⟨0,[2,4],2⟩,⟨1,[2,4],2⟩,⟨2,[0],-1⟩] true).1 true:=h;rw[plus_feed2] at h2;exact h2)
 subst eR10;clear t10 r10 ho10 HFD HS1c HS2c Kb HD12b HU1b hgb hwb BB EB XB x9;generalize F2 wb w10 F1b=F1d at *;have HOP:=lh (show Calls Tryz.prog 18 #[.pointer (some ⟨gs1,0,none⟩)] w10 (RetV (.int .i64 1) w10) from open_any w10 F1d gs1 q1 false 0 3 _ true HS1d.out.s)
 go_upto_region 12 with(go_at_call 18;refine HOP.out.mono ?_;rintro e w11 ⟨rfl,x11⟩)
 have K11:=lh (K10.out.trans (KpP.of_ext (p:=U) x11));have HS1e:=lh (HS1d.out.other (KpP.of_ext (p:=fun _=>False) x11) (fun b h=>h.elim) (fun w'' kk=>HC1.out w'' (K11.out.trans (kk.mono HU1d.out))));have HS2e:=lh (HS2d.out.other (KpP.of_ext (p:=fun _=>False) x11) (fun b h=>h.elim) (fun w'' kk=>HC2.out w'' (K11.out.trans (kk.mono HU2.out))));have HR11:=lh (HR10.out.ext x11);have HCL:=lh (close_any w11 F1d gs1 q1 false 0 3 [⟨3,[0],-1⟩] true HS1e.out.s de);clear HOP HS1d HS2d K10 HR10 x11
 go_upto_region 13 with(go_at_call 19;refine HCL.out.mono ?_;rintro e w12 ⟨A12,c12,R12,rfl,ho12,hfr12,hso12,hpm12,hkp12⟩)
 have K12:=lh (K11.out.trans (hkp12.mono HU1d.out));have HS2f:=lh (HS2e.out.other hkp12 HD12d.out (fun w'' kk=>HC2.out w'' (K12.out.trans (kk.mono HU2.out))));have HR12:=lh (HR11.out.kp hkp12 HS1e.out.np);have eR12:R12=[]:=by
  have h2:([]:List (Int×Int)).Perm R12:=hpm12;exact List.nil_perm.1 h2
 subst eR12;clear HCL ho12 hfr12 hso12 hpm12 hkp12 HS1e HS2e HR11 K11 HD12d;have EC:=Ext.alloc w12 (.cells #[.int .i64 97] 3);have BC:=Blk.new w12 3 #[.int .i64 97];have HS2g:=lh (HS2f.out.other (KpP.of_ext (p:=fun _=>False) EC) (fun b h=>h.elim) (fun w'' kk=>HC2.out w'' ((K12.out.trans (KpP.of_ext EC)).trans (kk.mono HU2.out))));have HRg:=lh (HR12.out.ext EC);have Kc:=lh (K12.out.trans (KpP.of_ext (p:=U) EC));have hgc:∀b,F2' b->b<w12.heap.size:=HS2f.out.s.lt;generalize hwc:w12.alloc (.cells #[.int .i64 97] 3)=wc at *;have HFD:=lh (show Calls Tryz.prog 16 #[.pointer (some ⟨gs2,0,none⟩),.slice (some ⟨w12.heap.size,0,none⟩) 1 1] wc (RetFd F2' gs2 q2 false 0 0 [] false [97] wc) from
  feed_any wc F2' gs2 q2 false 0 0 [] false HS2g.out.s (some ⟨w12.heap.size,0,none⟩) 1 [97] (fun w' kk=>IL.of_own (base:=0) (e:=3) (by
   have hb:=kk.blk BC (fun h=>Nat.lt_irrefl _ (hgc _ h));have h:=OwnS.of_blk (n:=1) (c:=1) (size:=1) (base:=0) hb (Nat.zero_le _) si si um
   simpa[OwnI] using h) (by unfold I64;simp)) de de)
 clear HS2f K12 HR12
 go_upto_region 14 with(go_at_call 16;refine HFD.out.mono ?_;rintro e w13 ⟨A13,c13,R13,rfl,ho13⟩)
 have HR13:=lh ho13.t.2;have K13:=lh (Kc.out.trans (ho13.kp.mono HU2.out));have HRh:=lh (HRg.out.kp ho13.kp HS2g.out.np);have eR13:R13=[(0,1)]:=by
  have h:=ho13.pm;rw[HI2'.out,HL2.out] at h;have h2:(feedI gAlt (decL lAlt) [97] 0 [] false).2.Perm R13:=h;rw[alt_feed] at h2;exact(sorted_uniq h2 de de ho13.so).symm
 subst eR13;have HXX:=lh (show ∀wf,Ext w13 wf->Ext w wf from fun wf x=>X0.out.kp (K13.out.trans (KpP.of_ext (p:=U) x)) HUB.out);clear ho13 HFD HS2g HRg Kc hgc hwc BC EC HC1 HC2 HU2 HUW HUB HI1' HI2' HL1 HL2 HU1d X0 K13;have S12:∀s∈([(0,2),(1,2)]:List Sp),S64 s:=by intro s hs;simp only[List.mem_cons,List.not_mem_nil,or_false] at hs;rcases hs with rfl|rfl<;>exact⟨by unfold I64;simp,by unfold I64;simp⟩
 have S01:∀s∈([(0,1)]:List Sp),S64 s:=by intro s hs;simp only[List.mem_cons,List.not_mem_nil,or_false] at hs;subst hs;exact⟨by unfold I64;simp,by unfold I64;simp⟩
 have HM1:=fun(W:World) (x:Ext w13 W) (B:Option Addr) (hb:SL W B 2 [(0,2),(1,2)])=>lh (show Calls Tryz.prog 20 #[.slice A10 2 c10,.slice B 2 2] W (RetV (.bool true) W) by
  have h:=sSame_any A10 B c10 2 [(0,2),(1,2)] [(0,2),(1,2)] W ((HRh.out.ext x).sl S12) hb
  simpa using h)
 have HM2:=fun(W:World) (x:Ext w13 W) (B:Option Addr) (hb:SL W B 1 [(0,1)])=>lh (show Calls Tryz.prog 20 #[.slice A13 1 c13,.slice B 1 1] W (RetV (.bool true) W) by
  have h:=sSame_any A13 B c13 1 [(0,1)] [(0,1)] W ((HR13.out.ext x).sl S01) hb
  simpa using h)
 have hq:=RsL_caps HRh.out;have hq2:=RsL_caps HR13.out;simp only[List.length_cons,List.length_nil] at hq hq2
 go_upto_region 16 with fail
 have ED:=Ext.alloc w13 (.cells #[.int .i64 0,.int .i64 2,.int .i64 1,.int .i64 2] 54);have BD:=Blk.new w13 54 #[.int .i64 0,.int .i64 2,.int .i64 1,.int .i64 2];have HD1:=HM1 _ ED (some ⟨w13.heap.size,0,none⟩) (sl_lit2 BD);have HXD:=lh ED;clear BD ED HM1
 go_wp2_with fail
 refine HD1.out.mono ?_;rintro e w14 ⟨rfl,x14⟩;have EF:=Ext.alloc w14 (.cells #[.int .i64 0,.int .i64 1] 54);have BF:=Blk.new w14 54 #[.int .i64 0,.int .i64 1];have HXF:=lh ((HXD.out.trans x14).trans EF);have HD2:=HM2 _ HXF.out (some ⟨w14.heap.size,0,none⟩) (sl_lit1 BF);clear BF EF HM2 HD1 x14
 go_wp2_with fail
 refine HD2.out.mono ?_;rintro e w15 ⟨rfl,x15⟩;have HFN:=lh (HXX.out w15 (HXF.out.trans x15))
 go_wp2_with fail
 go_ret
 exact⟨rfl,HFN.out⟩
end
end Go.Proofs.YtmgpefenkilffaaGreat
