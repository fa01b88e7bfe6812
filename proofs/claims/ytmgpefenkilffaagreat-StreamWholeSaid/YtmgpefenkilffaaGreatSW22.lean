/- Texts of this proof: J8 J9 J10 J11 J12 J13 J14 J15. -/
import Derived.Test.YtmgpefenkilffaaGreatSW13
set_option linter.all false
set_option maxRecDepth 100000
set_option maxHeartbeats 16000000
namespace Go.Proofs.YtmgpefenkilffaaGreat
section
open Go.RowKit
attribute [local go_sem ↓] Go.wp_at_zero Go.wp_at_succ
theorem fin_pass {uses C k:Int}{d d':Nat}{w w3 w4:World}{gr:Nat}{nd:Nd}(h:TrN uses (fun k=>w3.heap.size<=k) w4 d nd.val C k)(hw:w.heap.size<=w3.heap.size)(hg:gr<w3.heap.size)(hd:d<=d'):TrN uses (fun k=>w.heap.size<=k) (setRe w4 gr nd) d' nd.val C k:=by
 have kk:=setRe_kp (p:=(·=gr)) (KpP.refl _ w4) (g:=gr) (.inl rfl) nd;exact((h.kp kk (fun i hi hs=>by have e:i=gr:=hi;omega)).imp (fun i hi _=>om)).mono hd
theorem J8z5 {P:Prop} (h:P:=by
 have hb9:=setRe_blk HR4.out nd;have hk9:=setRe_kp (p:=(·=gm)) HK4.out (g:=gr) (.inr hgw) nd;have M9:=HM4.out.kpR (setRe_kp (p:=(·=gr)) (KpP.refl _ w4) (g:=gr) (.inl rfl) nd) hgne (by have:=HSW.out;omega);change bodyPost _ _ _ _ _ (setRe w4 gr nd);generalize setRe w4 gr nd=w9 at *;obtain⟨r0,r1,r2,r3,r4,r5,r6,r7⟩:=nd_cells hb9
 try simp only[List.length_nil,List.length_cons,Nat.zero_add] at r1 r2
 clear f0 f1 f2 f3 f4 f5 f6 f7 z0 z1 z2 z3 z4 z5 z6 z7;refine bodyPost_ret (v:=Nd.val nd) (by simp[results,Tryz.results214,go_sem,r0,r1,r2,r3,r4,r5,r6,r7,Nd.val]) rfl ⟨_,left-1,caps,rfl,HT9.out.up (Int.le_refl _) om,M9.mono om,by push_cast;omega,om,Int.le_refl _,hk9⟩):P:=h
theorem J8z1 {P:Prop} (h:P:=by
 go_wp2_with (go_at_call 274;refine(yset_any w0 wc gm A c ls uses _ _ _ HMc.out om).mono ?_;rintro e w4 ⟨v,rfl,⟨nd,rfl,hvg,hhd,hop⟩,M4,K4⟩;have HV:Hid (TrN uses (fun k=>wc.heap.size<=k) w4 1 nd.val caps 1):=lh ⟨_,hvg,.mk _ hhd (by simp[Tm.kids]),by rw[cnt_eq];simp[Tm.kids]⟩;clear hvg hhd hop;have HM4:=lh M4;have HK4:=lh (HKc.out.trans K4);have br:=K4.blk HRc.out hgne.symm;have HR4:=lh br;obtain⟨f0,f1,f2,f3,f4,f5,f6,f7⟩:=nd_frz br;have z0:=br.cell 0;have z1:=br.cell 1;have z2:=br.cell 2;have z3:=br.cell 3;have z4:=br.cell 4;have z5:=br.cell 5;have z6:=br.cell 6;have z7:=br.cell 7;clear M4 br;unfold Nd.val)
 have HT9:Hid (TrN uses (fun k=>w.heap.size<=k) (setRe w4 gr nd) (d'+1+1) (Nd.val nd) caps 1):=lh (fin_pass HV.out (by have:=HKc.out.size;omega) hgrc om);exact J8z5):P:=h
theorem J8z2 {P:Prop} (h:P:=by
 by_cases hk0:k=0
 ·have hkt:((k:Int) == 0)=true:=by simp[hk0]
  obtain⟨f0,f1,f2,f3,f4,f5,f6,f7⟩:=nd_frz HRc.out;have z0:=HRc.out.cell 0;have z1:=HRc.out.cell 1;have z2:=HRc.out.cell 2;have z3:=HRc.out.cell 3;have z4:=HRc.out.cell 4;have z5:=HRc.out.cell 5;have z6:=HRc.out.cell 6;have z7:=HRc.out.cell 7
  go_wp2_with fail
  have HT9:Hid (TrN uses (fun k=>w.heap.size<=k) (setRe wc gr (⟨0,none,0,[],none,0,[],0,0,0,0,false⟩:Nd)) (d+1) (Nd.val (⟨0,none,0,[],none,0,[],0,0,0,0,false⟩:Nd)) caps (0+1)):=lh (by
   refine(fin_node (k:=0) (w:=w) (d:=0) _ [] ⟨by simp,by simp,by simp,by simp,by simp,by simp,by simp,by simp,by simp,by simp[SetOk]⟩ ⟨rfl,.inl ⟨rfl,rfl,rfl,rfl,rfl,rfl,rfl⟩⟩ (SL.nil _) si (by unfold maxLen;simp) (fun h=>by simp at h) rfl (fun i hi=>by simp at hi) si si si si).mono om)
  have hb9:=setRe_blk HRc.out (⟨0,none,0,[],none,0,[],0,0,0,0,false⟩:Nd);have hk9:=setRe_kp (p:=(·=gm)) HKc.out (g:=gr) (.inr hgw) (⟨0,none,0,[],none,0,[],0,0,0,0,false⟩:Nd);have M9:=HMc.out.kpR (setRe_kp (p:=(·=gr)) (KpP.refl _ wc) (g:=gr) (.inl rfl) (⟨0,none,0,[],none,0,[],0,0,0,0,false⟩:Nd)) hgne (by have:=HSW.out;omega);change bodyPost _ _ _ _ _ (setRe wc gr (⟨0,none,0,[],none,0,[],0,0,0,0,false⟩:Nd));generalize setRe wc gr (⟨0,none,0,[],none,0,[],0,0,0,0,false⟩:Nd)=w9 at *;obtain⟨r0,r1,r2,r3,r4,r5,r6,r7⟩:=nd_cells hb9
  try simp only[List.length_nil,List.length_cons,Nat.zero_add] at r1 r2
  clear f0 f1 f2 f3 f4 f5 f6 f7 z0 z1 z2 z3 z4 z5 z6 z7;refine bodyPost_ret (v:=Nd.val (⟨0,none,0,[],none,0,[],0,0,0,0,false⟩:Nd)) (by simp[results,Tryz.results214,go_sem,r0,r1,r2,r3,r4,r5,r6,r7,Nd.val]) rfl ⟨_,left-1,caps,rfl,HT9.out.up (Int.le_refl _) om,M9.mono om,by push_cast;omega,om,Int.le_refl _,hk9⟩
 ·have hkf:((k:Int) == 0)=false:=by simp;omega
  go_wp2_with (go_at_call 274;refine(yset_any w0 wc gm A c ls uses _ _ _ HMc.out om).mono ?_;rintro e w4 ⟨v,rfl,⟨nd,rfl,hvg,hhd,hop⟩,M4,K4⟩;have HV:Hid (TrN uses (fun k=>wc.heap.size<=k) w4 1 nd.val caps 1):=lh ⟨_,hvg,.mk _ hhd (by simp[Tm.kids]),by rw[cnt_eq];simp[Tm.kids]⟩;clear hvg hhd hop;have HM4:=lh M4;have HK4:=lh (HKc.out.trans K4);have br:=K4.blk HRc.out hgne.symm;have HR4:=lh br;obtain⟨f0,f1,f2,f3,f4,f5,f6,f7⟩:=nd_frz br;have z0:=br.cell 0;have z1:=br.cell 1;have z2:=br.cell 2;have z3:=br.cell 3;have z4:=br.cell 4;have z5:=br.cell 5;have z6:=br.cell 6;have z7:=br.cell 7;clear M4 br;unfold Nd.val)
  have HT9:Hid (TrN uses (fun k=>w.heap.size<=k) (setRe w4 gr nd) (d+1) (Nd.val nd) caps 1):=lh (fin_pass HV.out (by have:=HKc.out.size;omega) hgrc om);exact J8z5):P:=h
theorem J8z4 {P:Prop} (h:P:=by
 have HT9:Hid (TrN uses (fun k=>w.heap.size<=k) (setRe w4 gr nd) (d'+1+1) (Nd.val nd) C2 (left-1-L2+1)):=lh (fin_pass HV.out (by have:=HKc.out.size;omega) hgrc om);have hb9:=setRe_blk HR4.out nd;have hk9:=setRe_kp (p:=(·=gm)) HK4.out (g:=gr) (.inr hgw) nd;have M9:=HM4.out.kpR (setRe_kp (p:=(·=gr)) (KpP.refl _ w4) (g:=gr) (.inl rfl) nd) hgne (by have:=HSW.out;omega);change bodyPost _ _ _ _ _ (setRe w4 gr nd);generalize setRe w4 gr nd=w9 at *;obtain⟨r0,r1,r2,r3,r4,r5,r6,r7⟩:=nd_cells hb9
 try simp only[List.length_nil,List.length_cons,Nat.zero_add] at r1 r2
 clear f0 f1 f2 f3 f4 f5 f6 f7 z0 z1 z2 z3 z4 z5 z6 z7;refine bodyPost_ret (v:=Nd.val nd) (by simp[results,Tryz.results214,go_sem,r0,r1,r2,r3,r4,r5,r6,r7,Nd.val]) rfl ⟨_,L2,C2,rfl,HT9.out.up (Int.le_refl _) om,M9.mono om,by have:=HB4.out;push_cast at this ⊢;omega,by have:=HB4.out;omega,HB4.out.2.2,hk9⟩):P:=h
theorem J8z3 {P:Prop} (h:P:=by
 clear hkI5 hkI8 hkI12;by_cases hb64:0<Go.bits BinOp.and IntKind.i64 uses 64
 ·have hbt:decide (0<Go.bits BinOp.and IntKind.i64 uses 64)=true:=by simp[hb64]
  go_wp2_with (go_at_call 277;refine(ycap_any d' w0 gm A c ls uses om om HIH' wc _ _ _ HMc.out om om).mono ?_;rintro e w4 ⟨v,L2,C2,rfl,hv,M4,hb4,hd4,hc4,K4⟩;have HB4:=lh (And.intro hb4 (And.intro hd4 hc4));clear hb4 hd4 hc4;obtain⟨nd,hnd,_⟩:=hv.at_.node;subst hnd;have HV:=lh hv;have HM4:=lh M4;have HK4:=lh (HKc.out.trans K4);have br:=K4.blk HRc.out hgne.symm;have HR4:=lh br;obtain⟨f0,f1,f2,f3,f4,f5,f6,f7⟩:=nd_frz br;have z0:=br.cell 0;have z1:=br.cell 1;have z2:=br.cell 2;have z3:=br.cell 3;have z4:=br.cell 4;have z5:=br.cell 5;have z6:=br.cell 6;have z7:=br.cell 7;clear hv M4 br;unfold Nd.val)
  exact J8z4
 ·have hbf:decide (0<Go.bits BinOp.and IntKind.i64 uses 64)=false:=by simp;omega
  exact J8z1):P:=h
theorem J8z6 {P:Prop} (h:P:=by
 go_upto_region 4 with(go_quiet (fail))
 have hE:Ext wb (wb.drewN nq):=Ext.drewN _ _;generalize wb.drewN nq=wc at *;have HRc:=lh (HRb.out.ext hE);have HKc:=lh (HKb.out.trans (KpP.of_ext hE));have HMc:=lh (HMb.out.extW hE);have hgrc:gr<wc.heap.size:=HRc.out.lt;have cu:=hE.cell c2;clear c0 c1 c2 c3 HRb HKb HMb hE;exact J8z2):P:=h
theorem ytree_step (w0:World)(gm:Nat)(A:Option Addr)(c:Nat)(ls:List Int)(uses:Int)(hu:UsesOk uses)(d:Nat)(hd:d<=100)
 (IH:∀d',d=d'+1->∀(w:World) (B L C:Int),MkM w w0 gm A c ls uses B L C->B+numT d'<=100000000->Calls Tryz.prog 214 #[.pointer (some ⟨gm,0,none⟩),.int .i64 d'] w (RetNd (d'+1) w0 gm A c ls uses (B+numT d') L C w))
 (w:World) (B left caps:Int) (h:MkM w w0 gm A c ls uses B left caps) (hB:B+numT d<=100000000) :
 Calls Tryz.prog 214 #[.pointer (some ⟨gm,0,none⟩),.int .i64 d] w (RetNd (d+1) w0 gm A c ls uses (B+numT d) left caps w):=by
 obtain⟨x0,il,lo,at_,hb,hat,hl1,hl2,hc1,hc2⟩:=h;have hgm:=hb.lt;have HSW:=lh x0.size;have hT:=numT_pos d;have hll:=il.len;have EX:=Ext.alloc w (.cells #[.int .i64 0,.slice none 0 0,.slice none 0 0,.int .i64 0,.int .i64 0,.int .i64 0,.int .i64 0,.bool false] 61);have HR:=lh (Blk.new w 61 #[.int .i64 0,.slice none 0 0,.slice none 0 0,.int .i64 0,.int .i64 0,.int .i64 0,.int .i64 0,.bool false]);have hba:=hb.ext EX;have xa:=x0.trans EX;obtain⟨hu1,hu2,hu4,hu8,hu32⟩:=hu;have HU:=lh (show UsesOk uses from⟨hu1,hu2,hu4,hu8,hu32⟩);have HIH:=lh IH;have ewl:IntKind.i64.wrap (left-1)=left-1:=wj;clear hb IH;go_enter Tryz.func214,Tryz.ntmps214
 go_upto_region 1 with fail
 obtain⟨gr,hgr⟩:∃gr,gr=w.heap.size:=⟨_,rfl⟩
 rw[<-hgr] at HR ⊢;have hgw:w.heap.size<=gr:=om;have hgne:gm≠gr:=om;clear hgr;generalize w.alloc (.cells #[.int .i64 0,.slice none 0 0,.slice none 0 0,.int .i64 0,.int .i64 0,.int .i64 0,.int .i64 0,.bool false] 61)=wa at *;have HKa:Hid (KpP (·=gm) w wa):=lh (KpP.of_ext EX);have ca3:wa.cell? ⟨gm,3,none⟩=some (.int .i64 left):=hba.cell 3;have fa3:=hba.frz 3;clear EX
 go_upto_region 2 with fail
 have hb2:=hba.set 3 (.int .i64 (left-1));have hr2:=HR.out.far (p:=⟨gm,3,none⟩) hgne.symm (.int .i64 (left-1));have xs:Ext w0 (wa.setCell ⟨gm,3,none⟩ (.int .i64 (left-1))):=xa.setNew (p:=⟨gm,3,none⟩) lo _;have hk2:KpP (·=gm) w (wa.setCell ⟨gm,3,none⟩ (.int .i64 (left-1))):=KpP.set (p:=(·=gm)) (x:=⟨gm,3,none⟩) HKa.out (.inl rfl) _;generalize wa.setCell ⟨gm,3,none⟩ (.int .i64 (left-1))=ws at *;have hb2':Blk ws gm 336 (mkC A ls.length c (at_:Int) uses (left-1) caps):=by simpa[mkC] using hb2
 have HC:=lh (ynext_at w0 ws gm A c ls uses 20 xs il lo at_ (left-1) caps hb2' om om om);have hp:=pick_bd ls at_ 20 om;generalize pick ls at_ 20=k at *;clear ca3 fa3 hba HR HKa hb2 xa
 go_upto_region 3 with(go_at_call 273;refine HC.out.mono ?_;rintro e wb ⟨rfl,Hbb,Xb,Kb⟩)
 have hgrs:gr<ws.heap.size:=hr2.lt;have HRb:=lh (Kb.blk hr2 hgne.symm);have HKb:=lh (hk2.trans Kb);have hgrb:gr<wb.heap.size:=HRb.out.lt;have HMb:Hid (MkM wb w0 gm A c ls uses (B+2) (left-1) caps):=lh ⟨Xb,il,lo,at_+1,by simpa using Hbb,om,om,om,hc1,hc2⟩;have c0:wb.cell? ⟨gm,0,none⟩=some (.slice A ls.length c):=Hbb.cell 0;have c1:wb.cell? ⟨gm,1,none⟩=some (.int .i64 ((at_:Int)+1)):=Hbb.cell 1;have c2:wb.cell? ⟨gm,2,none⟩=some (.int .i64 uses):=Hbb.cell 2;have c3:wb.cell? ⟨gm,3,none⟩=some (.int .i64 (left-1)):=Hbb.cell 3;clear HC hr2 hk2 Kb hb2' xs Xb Hbb;have HZ:=lh (nd_frz HRb.out);obtain⟨k,rfl⟩:∃q:Nat,k=q:=⟨k.toNat,om⟩;by_cases hd0:d=0
 ·have hdt:((d:Int) == 0)=true:=by simp[hd0]
  exact J8z6
 ·have hdf:((d:Int) == 0)=false:=by simp;omega
  by_cases hl3:left-1<3
  ·have hlt3:decide (left-1<3)=true:=by simp[hl3]
   exact J8z6
  ·have hlf3:decide (left-1<3)=false:=by simp;omega
   by_cases haL:(ls.length:Int)<(at_:Int)+1
   ·have hat1:decide ((ls.length:Int)<(at_:Int)+1)=true:=by simp;omega
    go_upto_region 3 with fail
    have j0:=kc0 c0;have j1:=kc0 c1;have j2:=kc0 c2;have j3:=kc0 c3;refine Xr.start [] kr ?_;refine Xtk 0 ?_
    iterate 2(refine Xtn ?_)
    iterate 5(first|refine Xtn ?_|refine Xsn ?_)
    iterate 2(refine Xtn ?_)
    iterate 10(first|refine Xtn ?_|refine Xsn ?_)
    refine Xtn ?_;refine Xdn fun wc hE hK=>?_;clear j0 j1 j2 j3 hK;have HRc:=lh (HRb.out.ext hE);have HKc:=lh (HKb.out.trans (KpP.of_ext hE));have HMc:=lh (HMb.out.extW hE);have hgrc:gr<wc.heap.size:=HRc.out.lt;have cu:=hE.cell c2;clear c0 c1 c2 c3 HRb HKb HMb hE
    go_upto_region 4 with fail
    exact J8z2
   ·have haf1:decide ((ls.length:Int)<(at_:Int)+1)=false:=by simp;omega
    go_upto_region 3 with fail
    have j0:=kc0 c0;have j1:=kc0 c1;have j2:=kc0 c2;have j3:=kc0 c3;refine Xr.start [] kr ?_;refine Xtk 0 ?_
    iterate 2(refine Xtn ?_)
    iterate 5(first|refine Xtn ?_|refine Xsn ?_)
    iterate 2(refine Xtn ?_)
    iterate 10(first|refine Xtn ?_|refine Xsn ?_)
    refine Xtn ?_;refine Xdn fun wc hE hK=>?_;clear j0 j1 j2 j3 hK;have HRc:=lh (HRb.out.ext hE);have HKc:=lh (HKb.out.trans (KpP.of_ext hE));have HMc:=lh (HMb.out.extW hE);have hgrc:gr<wc.heap.size:=HRc.out.lt;have cu:=hE.cell c2;clear c0 c1 c2 c3 HRb HKb HMb hE;obtain⟨d',rfl⟩:∃q,d=q+1:=⟨d-1,om⟩;have hTd:numT (d'+1)=3*numT d'+10:=rfl;have hTp:=numT_pos d';have HIH':=HIH.out d' rfl;clear HIH
    go_upto_region 7 with fail
    have ecd:((d'+1:Nat):Int)=(d':Int)+1:=om;rw[ecd];clear ecd;by_cases hk5:k<5
    ·have hkI5:(k:Int)<5:=om
     go_wp2_with (go_at_call 275;refine(ykids_any d' w0 gm A c ls uses om HIH' wc _ _ _ HMc.out om om).mono ?_;rintro e w4 ⟨K,kc,ks,L2,C2,rfl,hk2,hk3,hkc,hkm,hcl,htr,hKb,M4,hb4,hd4,hc4,K4⟩;have HB4:=lh (And.intro hb4 (And.intro hd4 hc4));clear hb4 hd4 hc4;have HCL:=lh hcl;have HTR:=lh htr;have HM4:=lh M4;have HK4:=lh (HKc.out.trans K4);have br:=K4.blk HRc.out hgne.symm;have HR4:=lh br;obtain⟨f0,f1,f2,f3,f4,f5,f6,f7⟩:=nd_frz br;have z0:=br.cell 0;have z1:=br.cell 1;have z2:=br.cell 2;have z3:=br.cell 3;have z4:=br.cell 4;have z5:=br.cell 5;have z6:=br.cell 6;have z7:=br.cell 7;have HKB:=lh hKb;clear hcl htr hKb M4 br)
     have HT9:Hid (TrN uses (fun k=>w.heap.size<=k) (setRe w4 gr (⟨2,none,0,[],K,kc,ks,0,0,0,0,false⟩:Nd)) (d'+1+1) (Nd.val (⟨2,none,0,[],K,kc,ks,0,0,0,0,false⟩:Nd)) C2 (left-1-L2+1)):=lh (by
      obtain⟨ts,hts1,hts2,hts3,hts4⟩:=HTR.out;refine fin_node (k:=left-1-L2) (w:=w) (d:=d'+1) _ ts ⟨by simp,by simp only;omega,by simp,by simp only;omega,by simp,by simp,by simp,by simp,by simp,by simp[SetOk]⟩ ⟨rfl,.inr (.inr (.inl ⟨.inl rfl,rfl,rfl,rfl,rfl,rfl,by rw[<-hts1];exact hk2,by rw[<-hts1];exact hk3⟩))⟩ (SL.nil _) hkc hkm HCL.out hts1 (fun i hi hj=>(hts2 i hi hj).imp (fun k hk _=>by have:=HKc.out.size;omega)) hts3 hts4 si (fun _ k hk=>by have:=HKB.out k hk;have:=HKc.out.size;omega))
     have hb9:=setRe_blk HR4.out (⟨2,none,0,[],K,kc,ks,0,0,0,0,false⟩:Nd);have hk9:=setRe_kp (p:=(·=gm)) HK4.out (g:=gr) (.inr hgw) (⟨2,none,0,[],K,kc,ks,0,0,0,0,false⟩:Nd);have M9:=HM4.out.kpR (setRe_kp (p:=(·=gr)) (KpP.refl _ w4) (g:=gr) (.inl rfl) (⟨2,none,0,[],K,kc,ks,0,0,0,0,false⟩:Nd)) hgne (by have:=HSW.out;omega);change bodyPost _ _ _ _ _ (setRe w4 gr (⟨2,none,0,[],K,kc,ks,0,0,0,0,false⟩:Nd));generalize setRe w4 gr (⟨2,none,0,[],K,kc,ks,0,0,0,0,false⟩:Nd)=w9 at *;obtain⟨r0,r1,r2,r3,r4,r5,r6,r7⟩:=nd_cells hb9
     try simp only[List.length_nil,List.length_cons,Nat.zero_add] at r1 r2
     clear f0 f1 f2 f3 f4 f5 f6 f7 z0 z1 z2 z3 z4 z5 z6 z7;refine bodyPost_ret (v:=Nd.val (⟨2,none,0,[],K,kc,ks,0,0,0,0,false⟩:Nd)) (by simp[results,Tryz.results214,go_sem,r0,r1,r2,r3,r4,r5,r6,r7,Nd.val]) rfl ⟨_,L2,C2,rfl,HT9.out.up (Int.le_refl _) om,M9.mono om,by have:=HB4.out;push_cast at this ⊢;omega,by have:=HB4.out;omega,HB4.out.2.2,hk9⟩
    ·have hkI5:¬(k:Int)<5:=om;by_cases hk8:k<8
     ·have hkI8:(k:Int)<8:=om
      go_wp2_with (go_at_call 275;refine(ykids_any d' w0 gm A c ls uses om HIH' wc _ _ _ HMc.out om om).mono ?_;rintro e w4 ⟨K,kc,ks,L2,C2,rfl,hk2,hk3,hkc,hkm,hcl,htr,hKb,M4,hb4,hd4,hc4,K4⟩;have HB4:=lh (And.intro hb4 (And.intro hd4 hc4));clear hb4 hd4 hc4;have HCL:=lh hcl;have HTR:=lh htr;have HM4:=lh M4;have HK4:=lh (HKc.out.trans K4);have br:=K4.blk HRc.out hgne.symm;have HR4:=lh br;obtain⟨f0,f1,f2,f3,f4,f5,f6,f7⟩:=nd_frz br;have z0:=br.cell 0;have z1:=br.cell 1;have z2:=br.cell 2;have z3:=br.cell 3;have z4:=br.cell 4;have z5:=br.cell 5;have z6:=br.cell 6;have z7:=br.cell 7;have HKB:=lh hKb;clear hcl htr hKb M4 br)
      have HT9:Hid (TrN uses (fun k=>w.heap.size<=k) (setRe w4 gr (⟨3,none,0,[],K,kc,ks,0,0,0,0,false⟩:Nd)) (d'+1+1) (Nd.val (⟨3,none,0,[],K,kc,ks,0,0,0,0,false⟩:Nd)) C2 (left-1-L2+1)):=lh (by
       obtain⟨ts,hts1,hts2,hts3,hts4⟩:=HTR.out;refine fin_node (k:=left-1-L2) (w:=w) (d:=d'+1) _ ts ⟨by simp,by simp only;omega,by simp,by simp only;omega,by simp,by simp,by simp,by simp,by simp,by simp[SetOk]⟩ ⟨rfl,.inr (.inr (.inl ⟨.inr rfl,rfl,rfl,rfl,rfl,rfl,by rw[<-hts1];exact hk2,by rw[<-hts1];exact hk3⟩))⟩ (SL.nil _) hkc hkm HCL.out hts1 (fun i hi hj=>(hts2 i hi hj).imp (fun k hk _=>by have:=HKc.out.size;omega)) hts3 hts4 si (fun _ k hk=>by have:=HKB.out k hk;have:=HKc.out.size;omega))
      have hb9:=setRe_blk HR4.out (⟨3,none,0,[],K,kc,ks,0,0,0,0,false⟩:Nd);have hk9:=setRe_kp (p:=(·=gm)) HK4.out (g:=gr) (.inr hgw) (⟨3,none,0,[],K,kc,ks,0,0,0,0,false⟩:Nd);have M9:=HM4.out.kpR (setRe_kp (p:=(·=gr)) (KpP.refl _ w4) (g:=gr) (.inl rfl) (⟨3,none,0,[],K,kc,ks,0,0,0,0,false⟩:Nd)) hgne (by have:=HSW.out;omega);change bodyPost _ _ _ _ _ (setRe w4 gr (⟨3,none,0,[],K,kc,ks,0,0,0,0,false⟩:Nd));generalize setRe w4 gr (⟨3,none,0,[],K,kc,ks,0,0,0,0,false⟩:Nd)=w9 at *;obtain⟨r0,r1,r2,r3,r4,r5,r6,r7⟩:=nd_cells hb9
      try simp only[List.length_nil,List.length_cons,Nat.zero_add] at r1 r2
      clear f0 f1 f2 f3 f4 f5 f6 f7 z0 z1 z2 z3 z4 z5 z6 z7;refine bodyPost_ret (v:=Nd.val (⟨3,none,0,[],K,kc,ks,0,0,0,0,false⟩:Nd)) (by simp[results,Tryz.results214,go_sem,r0,r1,r2,r3,r4,r5,r6,r7,Nd.val]) rfl ⟨_,L2,C2,rfl,HT9.out.up (Int.le_refl _) om,M9.mono om,by have:=HB4.out;push_cast at this ⊢;omega,by have:=HB4.out;omega,HB4.out.2.2,hk9⟩
     ·have hkI8:¬(k:Int)<8:=om;by_cases hk12:k<12
      ·have hkI12:(k:Int)<12:=om
       go_wp2_with (go_at_call 276;refine(yrep_any d' w0 gm A c ls uses HU.out om HIH' wc _ _ _ HMc.out om om).mono ?_;rintro e w4 ⟨v,L2,C2,rfl,hv,M4,hb4,hd4,hc4,K4⟩;have HB4:=lh (And.intro hb4 (And.intro hd4 hc4));clear hb4 hd4 hc4;obtain⟨nd,hnd,_⟩:=hv.at_.node;subst hnd;have HV:=lh hv;have HM4:=lh M4;have HK4:=lh (HKc.out.trans K4);have br:=K4.blk HRc.out hgne.symm;have HR4:=lh br;obtain⟨f0,f1,f2,f3,f4,f5,f6,f7⟩:=nd_frz br;have z0:=br.cell 0;have z1:=br.cell 1;have z2:=br.cell 2;have z3:=br.cell 3;have z4:=br.cell 4;have z5:=br.cell 5;have z6:=br.cell 6;have z7:=br.cell 7;clear hv M4 br;unfold Nd.val)
       exact J8z4
      ·have hkI12:¬(k:Int)<12:=om;by_cases hk12:k=12
       ·subst hk12;exact J8z3
       ·have hkF12:((k:Int) == 12)=false:=by simp;omega
        by_cases hk13:k=13
        ·subst hk13;exact J8z3
        ·have hkF13:((k:Int) == 13)=false:=by simp;omega
         by_cases hk14:k=14
         ·subst hk14;clear hkI5 hkI8 hkI12;by_cases hb16:0<Go.bits BinOp.and IntKind.i64 uses 16
          ·have hbt:decide (0<Go.bits BinOp.and IntKind.i64 uses 16)=true:=by simp[hb16]
           go_wp2_with (go_at_call 273;refine(ynext_any w0 wc gm A c ls uses _ _ _ 6 HMc.out om om om).mono ?_;rintro e w4 ⟨v,rfl,hv0,hv1,M4,K4⟩;have HM4:=lh M4;have HK4:=lh (HKc.out.trans K4);have br:=K4.blk HRc.out hgne.symm;have HR4:=lh br;obtain⟨f0,f1,f2,f3,f4,f5,f6,f7⟩:=nd_frz br;have z0:=br.cell 0;have z1:=br.cell 1;have z2:=br.cell 2;have z3:=br.cell 3;have z4:=br.cell 4;have z5:=br.cell 5;have z6:=br.cell 6;have z7:=br.cell 7;clear M4 br)
           have HT9:Hid (TrN uses (fun k=>w.heap.size<=k) (setRe w4 gr (⟨11,none,0,[],none,0,[],0,0,0,v,false⟩:Nd)) (d'+1+1) (Nd.val (⟨11,none,0,[],none,0,[],0,0,0,v,false⟩:Nd)) caps (0+1)):=lh (by
            refine(fin_node (k:=0) (w:=w) (d:=0) (⟨11,none,0,[],none,0,[],0,0,0,v,false⟩:Nd) [] ⟨by simp,by simp,by simp,by simp,by simp,by simp,by simp,by simp,⟨by simp only;omega,by simp only;omega⟩,by simp[SetOk]⟩ ⟨rfl,.inr (.inr (.inr (.inr (.inr ⟨rfl,om,rfl,rfl,rfl,rfl,hv0,(show v<=5 by omega),rfl⟩))))⟩ (SL.nil _) si (by unfold maxLen;simp) (fun h=>by simp at h) rfl (fun i hi=>by simp at hi) si si si si).mono om)
           have hb9:=setRe_blk HR4.out (⟨11,none,0,[],none,0,[],0,0,0,v,false⟩:Nd);have hk9:=setRe_kp (p:=(·=gm)) HK4.out (g:=gr) (.inr hgw) (⟨11,none,0,[],none,0,[],0,0,0,v,false⟩:Nd);have M9:=HM4.out.kpR (setRe_kp (p:=(·=gr)) (KpP.refl _ w4) (g:=gr) (.inl rfl) (⟨11,none,0,[],none,0,[],0,0,0,v,false⟩:Nd)) hgne (by have:=HSW.out;omega);change bodyPost _ _ _ _ _ (setRe w4 gr (⟨11,none,0,[],none,0,[],0,0,0,v,false⟩:Nd));generalize setRe w4 gr (⟨11,none,0,[],none,0,[],0,0,0,v,false⟩:Nd)=w9 at *;obtain⟨r0,r1,r2,r3,r4,r5,r6,r7⟩:=nd_cells hb9
           try simp only[List.length_nil,List.length_cons,Nat.zero_add] at r1 r2
           clear f0 f1 f2 f3 f4 f5 f6 f7 z0 z1 z2 z3 z4 z5 z6 z7;refine bodyPost_ret (v:=Nd.val (⟨11,none,0,[],none,0,[],0,0,0,v,false⟩:Nd)) (by simp[results,Tryz.results214,go_sem,r0,r1,r2,r3,r4,r5,r6,r7,Nd.val]) rfl ⟨_,left-1,caps,rfl,HT9.out.up (Int.le_refl _) om,M9.mono om,by push_cast;omega,om,Int.le_refl _,hk9⟩
          ·have hbf:decide (0<Go.bits BinOp.and IntKind.i64 uses 16)=false:=by simp;omega
           exact J8z1
         ·have hkF14:((k:Int) == 14)=false:=by simp;omega
          by_cases hk15:k=15
          ·subst hk15;clear hkI5 hkI8 hkI12;exact J8z1
          ·have hkF15:((k:Int) == 15)=false:=by simp;omega
           by_cases hk16:k=16
           ·subst hk16;clear hkI5 hkI8 hkI12;exact J8z1
           ·have hkF16:((k:Int) == 16)=false:=by simp;omega
            by_cases hk17:k=17
            ·subst hk17;clear hkI5 hkI8 hkI12;exact J8z1
            ·have hkF17:((k:Int) == 17)=false:=by simp;omega
             by_cases hk18:k=18
             ·subst hk18;clear hkI5 hkI8 hkI12;exact J8z1
             ·have hkF18:((k:Int) == 18)=false:=by simp;omega
              exact J8z1
theorem ytree_any (w0:World)(gm:Nat)(A:Option Addr)(c:Nat)(ls:List Int)(uses:Int)(hu:UsesOk uses):∀(d:Nat),d<=100->∀(w:World) (B L C:Int),MkM w w0 gm A c ls uses B L C->B+numT d<=100000000->
 Calls Tryz.prog 214 #[.pointer (some ⟨gm,0,none⟩),.int .i64 d] w (RetNd (d+1) w0 gm A c ls uses (B+numT d) L C w)
 | 0,hd,w,B,L,C,h,hB=>ytree_step w0 gm A c ls uses hu 0 hd (fun d' e=>absurd e om) w B L C h hB
 | d+1,hd,w,B,L,C,h,hB=>ytree_step w0 gm A c ls uses hu (d+1) hd (fun d' e w2 B2 L2 C2 h2 hB2=>by
  obtain rfl:d=d':=om;exact ytree_any w0 gm A c ls uses hu d om w2 B2 L2 C2 h2 hB2) w B L C h hB
def RetPat (uses left:Int)(w:World)(e:Ending)(w':World):Prop:=
 ∃(n:Nd) (caps:Int),e=.returned (.agg (n.cs++[Value.int .i64 caps,Value.bool false]).toArray)/\TrN uses (fun k=>w.heap.size<=k) w' 6 n.val caps (left+10)/\0<=caps/\caps<=4/\Ext w w'
theorem ypattern_any (w:World)(A:Option Addr)(c:Nat)(ls:List Int)(uses left:Int)(hu:UsesOk uses)(hI:IL w A c ls)(hl:0<=left/\left<=1000) :
 Calls Tryz.prog 151 #[.slice A ls.length c,.int .i64 uses,.int .i64 left] w (RetPat uses left w):=by
 have hll:=hI.len;have HI:=lh hI;have HU:=lh hu;have HL:=lh hl;clear hI hu hl;go_enter Tryz.func151,Tryz.ntmps151
 go_upto_region 2 with fail
 have ER:=Ext.alloc w (.cells #[.int .i64 0,.slice none 0 0,.slice none 0 0,.int .i64 0,.int .i64 0,.int .i64 0,.int .i64 0,.bool false,.int .i64 0,.bool false] 63);have BR:=Blk.new w 63 #[.int .i64 0,.slice none 0 0,.slice none 0 0,.int .i64 0,.int .i64 0,.int .i64 0,.int .i64 0,.bool false,.int .i64 0,.bool false];obtain⟨gr,hgr⟩:∃q,q=w.heap.size:=⟨_,rfl⟩;generalize hwa:w.alloc (.cells #[.int .i64 0,.slice none 0 0,.slice none 0 0,.int .i64 0,.int .i64 0,.int .i64 0,.int .i64 0,.bool false,.int .i64 0,.bool false] 63)=wa at *;have hsa:wa.heap.size=w.heap.size+1:=by rw[<-hwa];simp
 rw[<-hsa]
 rw[<-hgr] at BR ⊢;have hgra:gr<wa.heap.size:=om;have EM:=Ext.alloc wa (.cells #[.slice A ls.length c,.int .i64 0,.int .i64 uses,.int .i64 left,.int .i64 0] 336);have BM:=Blk.new wa 336 (mkC A ls.length c 0 uses left 0);have HM:Hid (MkM (wa.alloc (.cells #[.slice A ls.length c,.int .i64 0,.int .i64 uses,.int .i64 left,.int .i64 0] 336)) wa wa.heap.size A c ls uses 0 left 0):=lh ⟨EM,HI.out.ext ER,Nat.le_refl _,0,BM,om,by have:=HL.out;omega,HL.out.2,om,om⟩;obtain⟨gm,hgm⟩:∃q,q=wa.heap.size:=⟨_,rfl⟩
 rw[<-hgm] at HM ⊢;have HBR:=lh (BR.ext EM);have HER:=lh (ER.trans EM);have hwb:(wa.alloc (.cells #[.slice A ls.length c,.int .i64 0,.int .i64 uses,.int .i64 left,.int .i64 0] 336)).heap.size=gm+1:=by simp;omega
 generalize wa.alloc (.cells #[.slice A ls.length c,.int .i64 0,.int .i64 uses,.int .i64 left,.int .i64 0] 336)=wb at *;have hgrm:gr<gm:=om;have hgrw:w.heap.size<=gr:=om;have HWB:=lh hwb;have HT:Hid (Calls Tryz.prog 214 #[.pointer (some ⟨gm,0,none⟩),.int .i64 5] wb (RetNd 6 wa gm A c ls uses (0+numT 5) left 0 wb)):=lh (ytree_any wa gm A c ls uses HU.out 5 om wb 0 left 0 HM.out (by simp[numT]));clear hgr hgm hsa hwa hwb BR EM BM ER
 go_upto_region 3 with(go_at_call 214;refine HT.out.mono ?_;rintro e wc ⟨v,L2,caps,rfl,hv0,hm,hb2,hd2,hc2,kk⟩;have hv:=hv0.up (Int.le_refl _) (show left-L2<=left+10 by have:=HL.out;omega);clear hv0 hb2 hd2 hc2;obtain⟨n,rfl,_⟩:=hv.at_.node;simp only[Nd.val])
 have HV:=lh hv;obtain⟨xm,_,_,at_,hbm,_,_,_,hc0,hc4⟩:=hm;have hgrc:gr<wc.heap.size:=by have:=kk.size;have:=HWB.out;omega
 have hgmc:gm<wc.heap.size:=hbm.lt;have EN:=Ext.alloc wc (.cells #[.int .i64 n.op,.slice n.A n.l.length n.c,.slice n.K n.ks.length n.kc,.int .i64 n.mn,.int .i64 n.mx,.int .i64 n.md,.int .i64 n.n,.bool n.neg] 61);have BN:=Blk.new wc 61 #[.int .i64 n.op,.slice n.A n.l.length n.c,.slice n.K n.ks.length n.kc,.int .i64 n.mn,.int .i64 n.mx,.int .i64 n.md,.int .i64 n.n,.bool n.neg];have HRc:=lh ((kk.blk HBR.out om).ext EN);have HMc:=lh (hbm.ext EN);have HXc:Hid (Ext w wc):=lh (HER.out.kp kk (fun i hi=>by have e:i=gm:=hi;omega));have HXd:=lh (HXc.out.trans EN);have HVd:=lh (HV.out.ext EN);obtain⟨gn,hgn⟩:∃q,q=wc.heap.size:=⟨_,rfl⟩
 rw[<-hgn] at BN ⊢;have hgrn:gr<gn:=om;generalize wc.alloc (.cells #[.int .i64 n.op,.slice n.A n.l.length n.c,.slice n.K n.ks.length n.kc,.int .i64 n.mn,.int .i64 n.mx,.int .i64 n.md,.int .i64 n.n,.bool n.neg] 61)=wd at *;clear hgn EN kk xm hbm hv HT;have m4:wd.cell? ⟨gm,4,none⟩=some (.int .i64 caps):=HMc.out.cell 4;obtain⟨n0,n1,n2,n3,n4,n5,n6,n7⟩:wd.cell? ⟨gn,0,none⟩=some (.int .i64 n.op)/\wd.cell? ⟨gn,1,none⟩=some (.slice n.A n.l.length n.c)/\wd.cell? ⟨gn,2,none⟩=some (.slice n.K n.ks.length n.kc)/\wd.cell? ⟨gn,3,none⟩=some (.int .i64 n.mn)/\wd.cell? ⟨gn,4,none⟩=some (.int .i64 n.mx)/\wd.cell? ⟨gn,5,none⟩=some (.int .i64 n.md)/\wd.cell? ⟨gn,6,none⟩=some (.int .i64 n.n)/\wd.cell? ⟨gn,7,none⟩=some (.bool n.neg):=⟨BN.cell 0,BN.cell 1,BN.cell 2,BN.cell 3,BN.cell 4,BN.cell 5,BN.cell 6,BN.cell 7⟩;have k0:=fun(w':World) (h:Kp [gr] wd w')=>h.cell n0 (by simp;omega);have k1:=fun(w':World) (h:Kp [gr] wd w')=>h.cell n1 (by simp;omega);have k2:=fun(w':World) (h:Kp [gr] wd w')=>h.cell n2 (by simp;omega);have k3:=fun(w':World) (h:Kp [gr] wd w')=>h.cell n3 (by simp;omega);have k4:=fun(w':World) (h:Kp [gr] wd w')=>h.cell n4 (by simp;omega);have k5:=fun(w':World) (h:Kp [gr] wd w')=>h.cell n5 (by simp;omega);have k6:=fun(w':World) (h:Kp [gr] wd w')=>h.cell n6 (by simp;omega);have k7:=fun(w':World) (h:Kp [gr] wd w')=>h.cell n7 (by simp;omega);have k8:=fun(w':World) (h:Kp [gr] wd w')=>h.cell m4 (by simp;omega);refine Xr.start [gr] kr ?_;refine Xtk 0 ?_
 iterate 5(refine Xtn ?_)
 refine Xsp 6 fun wp hEp hKp K hKK=>?_;have HRp:=HRc.out.ext hEp;obtain⟨r0,r1,r2,r3,r4,r5,r6,r7,r8,r9⟩:wp.cell? ⟨gr,0,none⟩=some (.int .i64 0)/\wp.cell? ⟨gr,1,none⟩=some (.slice none 0 0)/\wp.cell? ⟨gr,2,none⟩=some (.slice none 0 0)/\wp.cell? ⟨gr,3,none⟩=some (.int .i64 0)/\wp.cell? ⟨gr,4,none⟩=some (.int .i64 0)/\wp.cell? ⟨gr,5,none⟩=some (.int .i64 0)/\wp.cell? ⟨gr,6,none⟩=some (.int .i64 0)/\wp.cell? ⟨gr,7,none⟩=some (.bool false)/\wp.cell? ⟨gr,8,none⟩=some (.int .i64 0)/\wp.cell? ⟨gr,9,none⟩=some (.bool false):=⟨HRp.cell 0,HRp.cell 1,HRp.cell 2,HRp.cell 3,HRp.cell 4,HRp.cell 5,HRp.cell 6,HRp.cell 7,HRp.cell 8,HRp.cell 9⟩;obtain⟨f0,f1,f2,f3,f4,f5,f6,f7,f8,f9⟩:wp.frozen? ⟨gr,0,none⟩=false/\wp.frozen? ⟨gr,1,none⟩=false/\wp.frozen? ⟨gr,2,none⟩=false/\wp.frozen? ⟨gr,3,none⟩=false/\wp.frozen? ⟨gr,4,none⟩=false/\wp.frozen? ⟨gr,5,none⟩=false/\wp.frozen? ⟨gr,6,none⟩=false/\wp.frozen? ⟨gr,7,none⟩=false/\wp.frozen? ⟨gr,8,none⟩=false/\wp.frozen? ⟨gr,9,none⟩=false:=⟨HRp.frz 0,HRp.frz 1,HRp.frz 2,HRp.frz 3,HRp.frz 4,HRp.frz 5,HRp.frz 6,HRp.frz 7,HRp.frz 8,HRp.frz 9⟩;go_simp;refine hKK _ _ (WI_setL (WI_setL (WI_setL (WI_setL (WI_setL (WI_setL (WI_setL (WI_setL (WI_setL (WI_setL (WI_refl _ _ _) List.mem_cons_self _ _) List.mem_cons_self _ _) List.mem_cons_self _ _) List.mem_cons_self _ _) List.mem_cons_self _ _) List.mem_cons_self _ _) List.mem_cons_self _ _) List.mem_cons_self _ _) List.mem_cons_self _ _) List.mem_cons_self _ _) (((((((((((hKp).setL List.mem_cons_self _ _).setL List.mem_cons_self _ _).setL List.mem_cons_self _ _).setL List.mem_cons_self _ _).setL List.mem_cons_self _ _).setL List.mem_cons_self _ _).setL List.mem_cons_self _ _).setL List.mem_cons_self _ _).setL List.mem_cons_self _ _).setL List.mem_cons_self _ _) ?_
 clear hKK;have kq:KpP (·=gr) wp ((((((((((wp.setCell ⟨gr,0,none⟩ (.int .i64 n.op)).setCell ⟨gr,1,none⟩ (.slice n.A n.l.length n.c)).setCell ⟨gr,2,none⟩ (.slice n.K n.ks.length n.kc)).setCell ⟨gr,3,none⟩ (.int .i64 n.mn)).setCell ⟨gr,4,none⟩ (.int .i64 n.mx)).setCell ⟨gr,5,none⟩ (.int .i64 n.md)).setCell ⟨gr,6,none⟩ (.int .i64 n.n)).setCell ⟨gr,7,none⟩ (.bool n.neg)).setCell ⟨gr,8,none⟩ (.int .i64 caps)).setCell ⟨gr,9,none⟩ (.bool false)):=KpP.set (p:=(·=gr)) (x:=⟨gr,9,none⟩) (KpP.set (p:=(·=gr)) (x:=⟨gr,8,none⟩) (KpP.set (p:=(·=gr)) (x:=⟨gr,7,none⟩) (KpP.set (p:=(·=gr)) (x:=⟨gr,6,none⟩) (KpP.set (p:=(·=gr)) (x:=⟨gr,5,none⟩) (KpP.set (p:=(·=gr)) (x:=⟨gr,4,none⟩) (KpP.set (p:=(·=gr)) (x:=⟨gr,3,none⟩) (KpP.set (p:=(·=gr)) (x:=⟨gr,2,none⟩) (KpP.set (p:=(·=gr)) (x:=⟨gr,1,none⟩) (KpP.set (p:=(·=gr)) (x:=⟨gr,0,none⟩) (KpP.refl _ wp) (.inl rfl) (.int .i64 n.op)) (.inl rfl) (.slice n.A n.l.length n.c)) (.inl rfl) (.slice n.K n.ks.length n.kc)) (.inl rfl) (.int .i64 n.mn)) (.inl rfl) (.int .i64 n.mx)) (.inl rfl) (.int .i64 n.md)) (.inl rfl) (.int .i64 n.n)) (.inl rfl) (.bool n.neg)) (.inl rfl) (.int .i64 caps)) (.inl rfl) (.bool false);have bq:Blk ((((((((((wp.setCell ⟨gr,0,none⟩ (.int .i64 n.op)).setCell ⟨gr,1,none⟩ (.slice n.A n.l.length n.c)).setCell ⟨gr,2,none⟩ (.slice n.K n.ks.length n.kc)).setCell ⟨gr,3,none⟩ (.int .i64 n.mn)).setCell ⟨gr,4,none⟩ (.int .i64 n.mx)).setCell ⟨gr,5,none⟩ (.int .i64 n.md)).setCell ⟨gr,6,none⟩ (.int .i64 n.n)).setCell ⟨gr,7,none⟩ (.bool n.neg)).setCell ⟨gr,8,none⟩ (.int .i64 caps)).setCell ⟨gr,9,none⟩ (.bool false)) gr 63 #[.int .i64 n.op,.slice n.A n.l.length n.c,.slice n.K n.ks.length n.kc,.int .i64 n.mn,.int .i64 n.mx,.int .i64 n.md,.int .i64 n.n,.bool n.neg,.int .i64 caps,.bool false]:=by
  have b:=((((((((((((((((((((HRp).set 0 (.int .i64 n.op))).set 1 (.slice n.A n.l.length n.c))).set 2 (.slice n.K n.ks.length n.kc))).set 3 (.int .i64 n.mn))).set 4 (.int .i64 n.mx))).set 5 (.int .i64 n.md))).set 6 (.int .i64 n.n))).set 7 (.bool n.neg))).set 8 (.int .i64 caps))).set 9 (.bool false))
  simpa using b
 have xq:Ext w ((((((((((wp.setCell ⟨gr,0,none⟩ (.int .i64 n.op)).setCell ⟨gr,1,none⟩ (.slice n.A n.l.length n.c)).setCell ⟨gr,2,none⟩ (.slice n.K n.ks.length n.kc)).setCell ⟨gr,3,none⟩ (.int .i64 n.mn)).setCell ⟨gr,4,none⟩ (.int .i64 n.mx)).setCell ⟨gr,5,none⟩ (.int .i64 n.md)).setCell ⟨gr,6,none⟩ (.int .i64 n.n)).setCell ⟨gr,7,none⟩ (.bool n.neg)).setCell ⟨gr,8,none⟩ (.int .i64 caps)).setCell ⟨gr,9,none⟩ (.bool false)):=(((((((((((HXd.out.trans hEp).setNew (p:=⟨gr,0,none⟩) hgrw (.int .i64 n.op)).setNew (p:=⟨gr,1,none⟩) hgrw (.slice n.A n.l.length n.c)).setNew (p:=⟨gr,2,none⟩) hgrw (.slice n.K n.ks.length n.kc)).setNew (p:=⟨gr,3,none⟩) hgrw (.int .i64 n.mn)).setNew (p:=⟨gr,4,none⟩) hgrw (.int .i64 n.mx)).setNew (p:=⟨gr,5,none⟩) hgrw (.int .i64 n.md)).setNew (p:=⟨gr,6,none⟩) hgrw (.int .i64 n.n)).setNew (p:=⟨gr,7,none⟩) hgrw (.bool n.neg)).setNew (p:=⟨gr,8,none⟩) hgrw (.int .i64 caps)).setNew (p:=⟨gr,9,none⟩) hgrw (.bool false));have tq:TrN uses (fun k=>w.heap.size<=k) ((((((((((wp.setCell ⟨gr,0,none⟩ (.int .i64 n.op)).setCell ⟨gr,1,none⟩ (.slice n.A n.l.length n.c)).setCell ⟨gr,2,none⟩ (.slice n.K n.ks.length n.kc)).setCell ⟨gr,3,none⟩ (.int .i64 n.mn)).setCell ⟨gr,4,none⟩ (.int .i64 n.mx)).setCell ⟨gr,5,none⟩ (.int .i64 n.md)).setCell ⟨gr,6,none⟩ (.int .i64 n.n)).setCell ⟨gr,7,none⟩ (.bool n.neg)).setCell ⟨gr,8,none⟩ (.int .i64 caps)).setCell ⟨gr,9,none⟩ (.bool false)) 6 n.val caps (left+10):=((HVd.out.ext hEp).kp kq (fun i hi hs=>by have e:i=gr:=hi;have:=HWB.out;omega)).imp (fun i hi _=>by have:=HER.out.size;omega)
 generalize ((((((((((wp.setCell ⟨gr,0,none⟩ (.int .i64 n.op)).setCell ⟨gr,1,none⟩ (.slice n.A n.l.length n.c)).setCell ⟨gr,2,none⟩ (.slice n.K n.ks.length n.kc)).setCell ⟨gr,3,none⟩ (.int .i64 n.mn)).setCell ⟨gr,4,none⟩ (.int .i64 n.mx)).setCell ⟨gr,5,none⟩ (.int .i64 n.md)).setCell ⟨gr,6,none⟩ (.int .i64 n.n)).setCell ⟨gr,7,none⟩ (.bool n.neg)).setCell ⟨gr,8,none⟩ (.int .i64 caps)).setCell ⟨gr,9,none⟩ (.bool false))=wq at *;refine ptm ?_;refine Xdn fun wz hEz hKz=>?_;have bz:=bq.ext hEz;have tz:=tq.ext hEz;have xz:=xq.trans hEz;obtain⟨z0,z1,z2,z3,z4,z5,z6,z7,z8,z9⟩:wz.cell? ⟨gr,0,none⟩=some (.int .i64 n.op)/\wz.cell? ⟨gr,1,none⟩=some (.slice n.A n.l.length n.c)/\wz.cell? ⟨gr,2,none⟩=some (.slice n.K n.ks.length n.kc)/\wz.cell? ⟨gr,3,none⟩=some (.int .i64 n.mn)/\wz.cell? ⟨gr,4,none⟩=some (.int .i64 n.mx)/\wz.cell? ⟨gr,5,none⟩=some (.int .i64 n.md)/\wz.cell? ⟨gr,6,none⟩=some (.int .i64 n.n)/\wz.cell? ⟨gr,7,none⟩=some (.bool n.neg)/\wz.cell? ⟨gr,8,none⟩=some (.int .i64 caps)/\wz.cell? ⟨gr,9,none⟩=some (.bool false):=⟨bz.cell 0,bz.cell 1,bz.cell 2,bz.cell 3,bz.cell 4,bz.cell 5,bz.cell 6,bz.cell 7,bz.cell 8,bz.cell 9⟩;clear k0 k1 k2 k3 k4 k5 k6 k7 k8 r0 r1 r2 r3 r4 r5 r6 r7 r8 r9 f0 f1 f2 f3 f4 f5 f6 f7 f8 f9 n0 n1 n2 n3 n4 n5 n6 n7 m4
 go_wp2_with fail
 exact bodyPost_ret (v:=.agg #[.int .i64 n.op,.slice n.A n.l.length n.c,.slice n.K n.ks.length n.kc,.int .i64 n.mn,.int .i64 n.mx,.int .i64 n.md,.int .i64 n.n,.bool n.neg,.int .i64 caps,.bool false]) (by simp[results,Tryz.results151,go_sem,z0,z1,z2,z3,z4,z5,z6,z7,z8,z9]) rfl ⟨n,caps,rfl,tz,hc0,hc4,xz⟩
def RetAn (w:World)(e:Ending)(w':World):Prop:=∃x:Int,e=.returned (.int .i64 x)/\Ext w w'
theorem ysize_any (bd:Nat)(S:Nat->Prop):∀(d:Nat) (w:World) (v:Value),TreeAt bd S w d v->Calls Tryz.prog 181 #[v] w (RetAn w):=by
 intro d;induction d with
 | zero=>intro w v h;obtain⟨e,he⟩:=h.pos;omega
 | succ d ih=>
  intro w v h;obtain⟨n,rfl,hok,hsl,hkl,hkc,hcl,hks⟩:=h.node;obtain⟨op,A,c,l,K,kc,ks,mn,mx,md,nn,neg⟩:=n
  simp only at hsl hkl hkc hcl hks
  unfold Nd.val
  simp only
  have HIH:=lh ih;clear ih h hok;have B0:=Blk.new w 61 #[.int .i64 op,.slice A l.length c,.slice K ks.length kc,.int .i64 mn,.int .i64 mx,.int .i64 md,.int .i64 nn,.bool neg];have E0:=Ext.alloc w (.cells #[.int .i64 op,.slice A l.length c,.slice K ks.length kc,.int .i64 mn,.int .i64 mx,.int .i64 md,.int .i64 nn,.bool neg] 61);have HC:=lh (hcl.ext E0);have HK:=lh (fun u hu=>(hks u hu).ext E0);have HKL:ks.length<=kc/\kc<=9223372036854775807:=⟨hkl,by unfold maxLen at hkc;omega⟩;clear hcl hks hsl hkl hkc;go_enter Tryz.func181,Tryz.ntmps181
  go_upto_region 1 with fail
  obtain⟨gx,hgx⟩:∃gx,gx=w.heap.size:=⟨_,rfl⟩
  rw[<-hgx] at B0 ⊢;clear hgx;generalize w.alloc (.cells #[.int .i64 op,.slice A l.length c,.slice K ks.length kc,.int .i64 mn,.int .i64 mx,.int .i64 md,.int .i64 nn,.bool neg] 61)=wa at *;have z2:wa.cell? ⟨gx,2,none⟩=some (.slice K ks.length kc):=B0.cell 2
  go_upto_region 3 with fail
  go_loopw [3,4] (fun v3 v wr=>∃(x:Int) (i:Nat),v3=.int .i64 x/\v=.int .i64 i/\i<=ks.length/\Ext wa wr) (fun _ v _=>ks.length-(intOf v).toNat)
  case atStart=>exact⟨_,0,rfl,rfl,om,Ext.rfl' _⟩
  case round=>
   obtain⟨x,i,rfl,rfl,hi,x1⟩:=hrel;have z2r:=x1.cell z2;by_cases hlt:i<ks.length
   ·have hiI:(i:Int)<ks.length:=om;obtain⟨b,o,hK,n,ht,k0,k1,k2,k3,k4,k5,k6,k7⟩:=kid8 (HC.out.ext x1) (fun u hu=>(HK.out u hu).ext x1) hlt;have hK':=hK;subst hK';have HT:=lh ht;clear ht
    go_wp2_with (go_at_call 181;refine(HIH.out wr _ HT.out).mono ?_;rintro e w3 ⟨b3,rfl,x3⟩)
    go_roundw
    case rel=>exact⟨_,i+1,rfl,by go_num,om,x1.trans x3⟩
    case measure=>simp[intOf];omega
   ·have hiI:¬(i:Int)<ks.length:=om
    go_wp2_with fail
    go_ret
    exact⟨_,rfl,E0.trans x1⟩
theorem ydepth_any (bd:Nat)(S:Nat->Prop):∀(d:Nat) (w:World) (v:Value),TreeAt bd S w d v->Calls Tryz.prog 182 #[v] w (RetAn w):=by
 intro d;induction d with
 | zero=>intro w v h;obtain⟨e,he⟩:=h.pos;omega
 | succ d ih=>
  intro w v h;obtain⟨n,rfl,hok,hsl,hkl,hkc,hcl,hks⟩:=h.node;obtain⟨op,A,c,l,K,kc,ks,mn,mx,md,nn,neg⟩:=n
  simp only at hsl hkl hkc hcl hks
  unfold Nd.val
  simp only
  have HIH:=lh ih;clear ih h hok;have B0:=Blk.new w 61 #[.int .i64 op,.slice A l.length c,.slice K ks.length kc,.int .i64 mn,.int .i64 mx,.int .i64 md,.int .i64 nn,.bool neg];have E0:=Ext.alloc w (.cells #[.int .i64 op,.slice A l.length c,.slice K ks.length kc,.int .i64 mn,.int .i64 mx,.int .i64 md,.int .i64 nn,.bool neg] 61);have HC:=lh (hcl.ext E0);have HK:=lh (fun u hu=>(hks u hu).ext E0);have HKL:ks.length<=kc/\kc<=9223372036854775807:=⟨hkl,by unfold maxLen at hkc;omega⟩;clear hcl hks hsl hkl hkc;go_enter Tryz.func182,Tryz.ntmps182
  go_upto_region 1 with fail
  obtain⟨gx,hgx⟩:∃gx,gx=w.heap.size:=⟨_,rfl⟩
  rw[<-hgx] at B0 ⊢;clear hgx;generalize w.alloc (.cells #[.int .i64 op,.slice A l.length c,.slice K ks.length kc,.int .i64 mn,.int .i64 mx,.int .i64 md,.int .i64 nn,.bool neg] 61)=wa at *;have z2:wa.cell? ⟨gx,2,none⟩=some (.slice K ks.length kc):=B0.cell 2
  go_upto_region 3 with fail
  go_loopw [3,4] (fun v3 v wr=>∃(x:Int) (i:Nat),v3=.int .i64 x/\v=.int .i64 i/\i<=ks.length/\Ext wa wr) (fun _ v _=>ks.length-(intOf v).toNat)
  case atStart=>exact⟨_,0,rfl,rfl,om,Ext.rfl' _⟩
  case round=>
   obtain⟨x,i,rfl,rfl,hi,x1⟩:=hrel;have z2r:=x1.cell z2;by_cases hlt:i<ks.length
   ·have hiI:(i:Int)<ks.length:=om;obtain⟨b,o,hK,n,ht,k0,k1,k2,k3,k4,k5,k6,k7⟩:=kid8 (HC.out.ext x1) (fun u hu=>(HK.out u hu).ext x1) hlt;have hK':=hK;subst hK';have HT:=lh ht;clear ht
    go_wp2_with (go_at_call 182;refine(HIH.out wr _ HT.out).mono ?_;rintro e w3 ⟨b3,rfl,x3⟩;rcases Int.le_total b3 x with hbx|hbx)
    all_goals
     go_roundw
     case rel=>exact⟨_,i+1,rfl,by go_num,om,x1.trans x3⟩
     case measure=>simp[intOf];omega
   ·have hiI:¬(i:Int)<ks.length:=om
    go_wp2_with fail
    go_ret
    exact⟨_,rfl,E0.trans x1⟩
def RetTwo (w:World)(e:Ending)(w':World):Prop:=∃x y:Int,e=.returned (.tuple #[.int .i64 x,.int .i64 y])/\Ext w w'
theorem ykidsN_any (op:Int)(w:World):Calls Tryz.prog 299 #[.int .i64 op] w (RetTwo w):=by
 go_enter Tryz.func299,Tryz.ntmps299
 go_wp2_with fail
 all_goals
  go_ret2
  exact⟨_,_,rfl,Ext.rfl' _⟩
theorem J12z1 {P:Prop} (h:P:=by
 refine Xr.start [] kr ?_;refine Xtk 0 ?_
 iterate 6(refine Xtn ?_)
 iterate 11(first|refine Xtn ?_|refine Xsn ?_)
 iterate 2(refine Xtn ?_)
 iterate 7(first|refine Xtn ?_|refine Xsn ?_)
 iterate 2(refine Xtn ?_)
 iterate 17(first|refine Xtn ?_|refine Xsn ?_)
 refine Xtn ?_;refine Xdn fun w2 hE2 hK2=>?_;have x3:=x1.trans hK2.nil;clear k1 k2 k3 g1 g2 g3 hE2 hK2
 go_wp2_with fail
 go_ret
 exact⟨_,rfl,x3⟩):P:=h
theorem J12z2 {P:Prop} (h:P:=by
 refine Xr.start [] kr ?_;refine Xtk 0 ?_
 iterate 6(refine Xtn ?_)
 iterate 11(first|refine Xtn ?_|refine Xsn ?_)
 iterate 2(refine Xtn ?_)
 iterate 7(first|refine Xtn ?_|refine Xsn ?_)
 iterate 2(refine Xtn ?_)
 iterate 17(first|refine Xtn ?_|refine Xsn ?_)
 refine Xtn ?_;refine Xdn fun w2 hE2 hK2=>?_;have x3:=x1.trans hK2.nil;clear k1 k2 g1 g2 hE2 hK2
 go_wp2_with fail
 go_ret
 exact⟨_,rfl,x3⟩):P:=h
theorem yspans_any (A:Option Addr)(c:Nat)(l:List Sp)(top:Int)(w:World)(hl:SL w A c l):Calls Tryz.prog 300 #[.slice A l.length c,.int .i64 top] w (RetB w):=by
 have hlen:=hl.len;go_enter Tryz.func300,Tryz.ntmps300;by_cases h64:64<l.length
 ·have h64I:(64:Int)<l.length:=om
  go_wp2_with fail
  go_ret
  exact⟨_,rfl,Ext.rfl' _⟩
 ·have h64I:¬(64:Int)<l.length:=om
  go_upto_region 4 with fail
  go_loopw [5] (fun v wr=>∃i:Nat,v=.int .i64 i/\i<=l.length/\Ext w wr) (fun v _=>l.length-(intOf v).toNat)
  case atStart=>exact⟨0,rfl,om,Ext.rfl' _⟩
  case round=>
   obtain⟨i,rfl,hi,x1⟩:=hrel;by_cases hlt:i<l.length
   ·have hI:(i:Int)<l.length:=om;obtain⟨b,o,hA,g1,g2⟩:=(hl.ext x1).get hlt;have hA':=hA;subst hA';by_cases h0:0<i
    ·obtain⟨b2,o2,hA2,g4,g3⟩:=(hl.ext x1).get (show i-1<l.length by omega);obtain⟨rfl,rfl⟩:b=b2/\o=o2:=by injection hA2 with h1;injection h1 with h2 h3 h4;exact⟨h2,h3⟩
     obtain⟨k,rfl⟩:∃k,i=k+1:=⟨i-1,om⟩;simp only[Nat.add_sub_cancel] at g3;generalize l[k+1]=s at *;generalize l[k]=p at *;obtain⟨lo,hi2⟩:=s;obtain⟨plo,phi⟩:=p
     simp only at g1 g2 g3
     clear g4 hA2 hA;have hki:(0:Int)<(k:Int)+1:=om;have hwk2:IntKind.i64.wrap (k:Int)=(k:Int):=wj;have hk0:(0:Int)<=(k:Int)+1:=om;have hk1:(k:Int)+1<(l.length:Int):=om;have hk2:(k:Int)<(l.length:Int):=om;have hto:((k:Int)+1).toNat=k+1:=om;have hwk:IntKind.i64.wrap ((k:Int)+1-1)=(k:Int):=wj
     go_upto_region 6 with fail
     have k1:=kc0 g1;have k2:=kc0 g2;have k3:=kc0 g3;by_cases c1:lo<0
     ·exact J12z1
     ·by_cases c2:hi2<lo
      ·exact J12z1
      ·by_cases c3:top<hi2
       ·exact J12z1
       ·by_cases c5:lo<=IntKind.i64.wrap (phi+1)
        ·exact J12z1
        ·refine Xr.start [] kr ?_;refine Xtk 0 ?_
         iterate 6(refine Xtn ?_)
         iterate 11(first|refine Xtn ?_|refine Xsn ?_)
         iterate 2(refine Xtn ?_)
         iterate 7(first|refine Xtn ?_|refine Xsn ?_)
         iterate 2(refine Xtn ?_)
         iterate 17(first|refine Xtn ?_|refine Xsn ?_)
         refine Xtn ?_;refine Xdn fun w2 hE2 hK2=>?_;have x3:=x1.trans hK2.nil;clear k1 k2 k3 g1 g2 g3 hE2 hK2
         go_wp2_with fail
         go_roundw
         case rel=>exact⟨k+1+1,by go_num,om,x3⟩
         case measure=>simp[intOf];omega
    ·obtain rfl:i=0:=om;generalize l[0]=s at *;obtain⟨lo,hi2⟩:=s;simp only[Nat.zero_mul,Nat.add_zero] at g1 g2
     go_upto_region 6 with fail
     have k1:=kc0 g1;have k2:=kc0 g2;by_cases c1:lo<0
     ·exact J12z2
     ·by_cases c2:hi2<lo
      ·exact J12z2
      ·by_cases c3:top<hi2
       ·exact J12z2
       ·refine Xr.start [] kr ?_;refine Xtk 0 ?_
        iterate 6(refine Xtn ?_)
        iterate 11(first|refine Xtn ?_|refine Xsn ?_)
        iterate 2(refine Xtn ?_)
        iterate 7(first|refine Xtn ?_|refine Xsn ?_)
        iterate 2(refine Xtn ?_)
        iterate 17(first|refine Xtn ?_|refine Xsn ?_)
        refine Xtn ?_;refine Xdn fun w2 hE2 hK2=>?_;have x3:=x1.trans hK2.nil;clear k1 k2 g1 g2 hE2 hK2
        go_wp2_with fail
        go_roundw
        case rel=>exact⟨1,by go_num,om,x3⟩
        case measure=>simp[intOf];omega
   ·have hI:¬(i:Int)<l.length:=om
    go_wp2_with fail
    go_ret
    exact⟨_,rfl,x1⟩
theorem ywhole_of (bd:Nat)(S:Nat->Prop)(p q:Int)(hF:∀(d:Nat) (w:World) (v:Value),TreeAt bd S w d v->Calls Tryz.prog 245 #[v,.int .i64 p,.int .i64 q] w (RetB w)):∀(d:Nat) (w:World) (v:Value),TreeAt bd S w d v->Calls Tryz.prog 183 #[v,.int .i64 p,.int .i64 q] w (RetB w):=by
 intro d;induction d with
 | zero=>intro w v h;obtain⟨e,he⟩:=h.pos;omega
 | succ d ih=>
  intro w v h;obtain⟨n,rfl,hok,hsl,hkl,hkc,hcl,hks⟩:=h.node;have HF:=fun(w':World) (x:Ext w w')=>lh (hF (d+1) w' n.val (h.ext x));obtain⟨op,A,c,l,K,kc,ks,mn,mx,md,nn,neg⟩:=n
  simp only at hsl hkl hkc hcl hks
  unfold Nd.val at HF ⊢
  simp only at HF ⊢
  have HIH:=lh ih;clear ih h hok hF;have B0:=Blk.new w 61 #[.int .i64 op,.slice A l.length c,.slice K ks.length kc,.int .i64 mn,.int .i64 mx,.int .i64 md,.int .i64 nn,.bool neg];have E0:=Ext.alloc w (.cells #[.int .i64 op,.slice A l.length c,.slice K ks.length kc,.int .i64 mn,.int .i64 mx,.int .i64 md,.int .i64 nn,.bool neg] 61);have HC:=lh (hcl.ext E0);have HK:=lh (fun u hu=>(hks u hu).ext E0);have HKL:ks.length<=kc/\kc<=9223372036854775807:=⟨hkl,by unfold maxLen at hkc;omega⟩;have HFa:=HF _ E0;clear hcl hks hsl hkl hkc HF;go_enter Tryz.func183,Tryz.ntmps183
  go_upto_region 1 with fail
  obtain⟨gx,hgx⟩:∃gx,gx=w.heap.size:=⟨_,rfl⟩
  rw[<-hgx] at B0 ⊢;clear hgx;generalize w.alloc (.cells #[.int .i64 op,.slice A l.length c,.slice K ks.length kc,.int .i64 mn,.int .i64 mx,.int .i64 md,.int .i64 nn,.bool neg] 61)=wa at *;have z0:wa.cell? ⟨gx,0,none⟩=some (.int .i64 op):=B0.cell 0;have z1:wa.cell? ⟨gx,1,none⟩=some (.slice A l.length c):=B0.cell 1;have z2:wa.cell? ⟨gx,2,none⟩=some (.slice K ks.length kc):=B0.cell 2;have z3:wa.cell? ⟨gx,3,none⟩=some (.int .i64 mn):=B0.cell 3;have z4:wa.cell? ⟨gx,4,none⟩=some (.int .i64 mx):=B0.cell 4;have z5:wa.cell? ⟨gx,5,none⟩=some (.int .i64 md):=B0.cell 5;have z6:wa.cell? ⟨gx,6,none⟩=some (.int .i64 nn):=B0.cell 6;have z7:wa.cell? ⟨gx,7,none⟩=some (.bool neg):=B0.cell 7
  go_wp2_with (go_at_call 245;refine HFa.out.mono ?_;rintro e wb ⟨bb,rfl,xb⟩;cases bb)
  ·go_ret
   exact⟨_,rfl,E0.trans xb⟩
  ·have z2b:=xb.cell z2
   go_loopw [7] (fun v wr=>∃(i:Nat),v=.int .i64 i/\i<=ks.length/\Ext wa wr) (fun v _=>ks.length-(intOf v).toNat)
   case atStart=>exact⟨0,rfl,om,xb⟩
   case round=>
    obtain⟨i,rfl,hi,x1⟩:=hrel;have z2r:=x1.cell z2;by_cases hlt:i<ks.length
    ·have hiI:(i:Int)<ks.length:=om;obtain⟨b,o,hK,n,ht,k0,k1,k2,k3,k4,k5,k6,k7⟩:=kid8 (HC.out.ext x1) (fun u hu=>(HK.out u hu).ext x1) hlt;have hK':=hK;subst hK';have HT:=lh ht;clear ht
     go_wp2_with (go_at_call 183;refine(HIH.out wr _ HT.out).mono ?_;rintro e w3 ⟨b3,rfl,x3⟩;cases b3)
     ·go_ret
      exact⟨_,rfl,E0.trans (x1.trans x3)⟩
     ·go_roundw
      case rel=>exact⟨i+1,by go_num,om,x1.trans x3⟩
      case measure=>simp[intOf];omega
    ·have hiI:¬(i:Int)<ks.length:=om
     go_wp2_with fail
     go_ret
     exact⟨_,rfl,E0.trans x1⟩
theorem J14z1 {P:Prop} (h:P:=by
 cases rn
 all_goals
  go_wp2_with (first|(go_at_call 181;refine(HS _ (by first|exact Ext.rfl' _|assumption)).out.mono ?_;rintro e wb ⟨x,rfl,xb⟩;obtain⟨y0,y1,y2,y3,y4,y5,y6,y7,y8,y9⟩:=HB _ xb;rcases Int.lt_or_le 256 x with hx|hx)|(go_at_call 182;refine(HD _ (by assumption)).out.mono ?_;rintro e wd ⟨x2,rfl,xd0⟩;have xd:=Ext.trans (by assumption) xd0;clear xd0;obtain⟨u0,u1,u2,u3,u4,u5,u6,u7,u8,u9⟩:=HB _ xd;rcases Int.lt_or_le 24 x2 with hx2|hx2)|(go_at_call 183;refine(HW _ _ xd).out.mono ?_;rintro e we ⟨b,rfl,xe0⟩;have xe:=Ext.trans xd xe0;cases b))
  all_goals
   go_ret
   first|exact⟨_,rfl,E0.trans xe⟩|exact⟨_,rfl,E0.trans xd⟩|exact⟨_,rfl,E0.trans xb⟩):P:=h
theorem yvalid_of (bd:Nat)(S:Nat->Prop)(hF:∀(p q:Int) (d:Nat) (w:World) (v:Value),TreeAt bd S w d v->Calls Tryz.prog 245 #[v,.int .i64 p,.int .i64 q] w (RetB w))(d:Nat)(w:World)(n:Nd)(gr:Int)(rn:Bool)(ht:TreeAt bd S w d n.val) :
 Calls Tryz.prog 99 #[.agg #[.int .i64 n.op,.slice n.A n.l.length n.c,.slice n.K n.ks.length n.kc,.int .i64 n.mn,.int .i64 n.mx,.int .i64 n.md,.int .i64 n.n,.bool n.neg,.int .i64 gr,.bool rn]] w (RetAn w):=by
 have B0:=Blk.new w 63 #[.int .i64 n.op,.slice n.A n.l.length n.c,.slice n.K n.ks.length n.kc,.int .i64 n.mn,.int .i64 n.mx,.int .i64 n.md,.int .i64 n.n,.bool n.neg,.int .i64 gr,.bool rn];have E0:=Ext.alloc w (.cells #[.int .i64 n.op,.slice n.A n.l.length n.c,.slice n.K n.ks.length n.kc,.int .i64 n.mn,.int .i64 n.mx,.int .i64 n.md,.int .i64 n.n,.bool n.neg,.int .i64 gr,.bool rn] 63);have HT:=lh (ht.ext E0);clear ht;go_enter Tryz.func99,Tryz.ntmps99
 go_upto_region 1 with fail
 obtain⟨gx,hgx⟩:∃gx,gx=w.heap.size:=⟨_,rfl⟩
 rw[<-hgx] at B0 ⊢;clear hgx;generalize w.alloc (.cells #[.int .i64 n.op,.slice n.A n.l.length n.c,.slice n.K n.ks.length n.kc,.int .i64 n.mn,.int .i64 n.mx,.int .i64 n.md,.int .i64 n.n,.bool n.neg,.int .i64 gr,.bool rn] 63)=wa at *;have HB:=fun(w':World) (x:Ext wa w')=>show w'.cell? ⟨gx,0,none⟩=some (.int .i64 n.op)/\w'.cell? ⟨gx,1,none⟩=some (.slice n.A n.l.length n.c)/\w'.cell? ⟨gx,2,none⟩=some (.slice n.K n.ks.length n.kc)/\w'.cell? ⟨gx,3,none⟩=some (.int .i64 n.mn)/\w'.cell? ⟨gx,4,none⟩=some (.int .i64 n.mx)/\w'.cell? ⟨gx,5,none⟩=some (.int .i64 n.md)/\w'.cell? ⟨gx,6,none⟩=some (.int .i64 n.n)/\w'.cell? ⟨gx,7,none⟩=some (.bool n.neg)/\w'.cell? ⟨gx,8,none⟩=some (.int .i64 gr)/\w'.cell? ⟨gx,9,none⟩=some (.bool rn) from⟨(B0.ext x).cell 0,(B0.ext x).cell 1,(B0.ext x).cell 2,(B0.ext x).cell 3,(B0.ext x).cell 4,(B0.ext x).cell 5,(B0.ext x).cell 6,(B0.ext x).cell 7,(B0.ext x).cell 8,(B0.ext x).cell 9⟩
 have HS:=fun(w':World) (x:Ext wa w')=>lh (ysize_any bd S d w' n.val (HT.out.ext x));have HD:=fun(w':World) (x:Ext wa w')=>lh (ydepth_any bd S d w' n.val (HT.out.ext x));have HW:=fun(q:Int) (w':World) (x:Ext wa w')=>lh (ywhole_of bd S gr q (hF gr q) d w' n.val (HT.out.ext x));unfold Nd.val at HS HD HW;obtain⟨z0,z1,z2,z3,z4,z5,z6,z7,z8,z9⟩:=HB _ (Ext.rfl' _);have HHF:=lh hF;clear hF;by_cases hg0:gr<0
 ·exact J14z1
 ·by_cases hg9:9<gr
  ·exact J14z1
  ·exact J14z1
end
section
open Go.RowKit
theorem usesOk_0:UsesOk 0:=by unfold UsesOk;decide +kernel
theorem usesOk_64:UsesOk 64:=by unfold UsesOk;decide +kernel
end
end Go.Proofs.YtmgpefenkilffaaGreat
