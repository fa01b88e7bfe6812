/- Texts of this proof: R4. -/
import Derived.Test.YtmpcoifnpflapaaGreatER12
set_option linter.all false
set_option maxRecDepth 100000
set_option maxHeartbeats 16000000
namespace Go.Proofs.YtmpcoifnpflapaaGreat
section
open Go.RowKit
attribute [local go_sem ↓] Go.wp_at_zero Go.wp_at_succ
theorem R4z2 {P:Prop} (h:P:=by
 rintro e w9 ⟨v2,rfl,k9⟩;refine hKK _ _ (WI_kp k9.kp si) (hK8.kpP k9.kp si) ?_;clear hKK;refine ptm ?_;refine Xtk 13 ?_;refine Xdn fun wz hEz hKz=>?_
 go_wp2_with fail
 go_ret
 exact⟨v2,rfl,k9.tr.ext M hEz,k9.bd.ext hEz,KpP.extThen X4.out hKz.kpPs⟩):P:=h
theorem b6 {P:Prop}(h:P:=by
 have hb4:=hb.ext X4.out;have hl4:=lh (hl.ext M X4.out);have hx4:=lh (hx.ext M X4.out);have hy4:=lh (hy.ext M X4.out);have d0:=fun(w':World) (h:Kp [gb] w4 w')=>h.cell (X4.out.cell c0) (by simpa using Blk.neT hbr hb de);have d1:=fun(w':World) (h:Kp [gb] w4 w')=>h.cell (X4.out.cell c1) (by simpa using Blk.neT hbr hb de);have XX4:=lh (x0.trans X4.out);clear c0 c1 HM1 HM2 HM3 HM4 hl hr hx hy hbr hs1 hs2 hs3 hs4 hb S0 n1 n2 n3 n4 n5 n6 n7 n8 n9 na nb nc;simp only[Sh.text,List.length_append] at hn;simp only[Sh.hgt] at hh
 go_upto_region 6 with fail
 refine Xr.start [gb] kr ?_;refine Xtk 0 ?_
 iterate 6(refine Xtn ?_)
 refine Xtk 8 ?_
 iterate 3(refine Xtn ?_)
 clear d0 d1;refine Xsp 7 fun w6 hE6 hK6 K hKK=>?_;go_simp;refine(pair_any M w6 (KpP.extOf hK6.kpPs XX4.out hgb) gb (k) hgb (hb4.ext hE6) om _ _ _ _ (hl4.out.kp M hb4 hK6.kpPs) (hx4.out.kp M hb4 hK6.kpPs) (by(try simp only[Sh.text,List.length_append]);omega) (by simp only[Sh.hgt];omega)).mono ?_;rintro e w7 ⟨v1,rfl,k7⟩;refine hKK _ _ (WI_kp k7.kp si) (hK6.kpP k7.kp si) ?_;clear hKK;refine ptm ?_;refine Xsp 12 fun w8 hE8 hK8 K hKK=>?_;go_simp;refine(pair_any M w8 (KpP.extOf hK8.kpPs XX4.out hgb) gb (k+1) hgb (k7.bd.ext hE8) om _ _ _ _ (k7.tr.ext M hE8) (hy4.out.kp M hb4 hK8.kpPs) (by(try simp only[Sh.text,List.length_append]);omega) (by simp only[Sh.hgt];omega)).mono ?_;exact R4z2):P:=h
theorem bal6 {w0:World}{g:Nat}{ok:Int->Prop}{S:World->Nat->List Int->Prop}(M:Mo w0 g ok S)(w:World)(x0:Ext w0 w)(gb k:Nat)(hgb:w0.heap.size<=gb)(hb:BdAt w gb g k)(hk:k<=900000)(vl vr:Value)(l x y:Sh)(hl:Tr S ok w vl l)(hr:Tr S ok w vr (.nd x y))
 (hn:l.text.length+(Sh.nd x y).text.length<=65536) (h1:l.hgt+1<(Sh.nd x y).hgt) (h2:∀a b,x=.nd a b->¬y.hgt<x.hgt) (hh:(Sh.nd (.nd l x) y).hgt<=1000) :
 Calls Tryz.prog 148 #[.pointer (some ⟨gb,0,none⟩),vl,vr] w (RetTr S ok gb g (k+2) (.nd (.nd l x) y) w):=by
 obtain⟨b2,vx,vy,gs,rfl,hbr,hx,hy⟩:=hr.nd;obtain⟨T1,b1,s1,K1,K2,K3,rfl,hm1,hs1⟩:=hl.at_.meth;obtain⟨_,_,s2,K4,K5,K6,e2,hm2,hs2⟩:=hr.at_.meth;obtain⟨Tx,bx,s3,K7,K8,K9,rfl,hm3,hs3⟩:=hx.at_.meth;obtain⟨Ty,by_,s4,Ka,Kb,Kc,rfl,hm4,hs4⟩:=hy.at_.meth;cases e2
 have n1:=hm1.height.nil_;have n2:=hm1.height.mth;have n3:=hm1.height.ent;have n4:=hm2.height.nil_;have n5:=hm2.height.mth;have n6:=hm2.height.ent;have n7:=hm3.height.nil_;have n8:=hm3.height.mth;have n9:=hm3.height.ent;have na:=hm4.height.nil_;have nb:=hm4.height.mth;have nc:=hm4.height.ent;have HM1:=lh hm1;have HM2:=lh hm2;have HM3:=lh hm3;have HM4:=lh hm4;have c0:w.cell? ⟨b2,0,none⟩=some (.iface Tx (.pointer (some ⟨bx,0,none⟩))):=hbr.cell 0;have c1:w.cell? ⟨b2,1,none⟩=some (.iface Ty (.pointer (some ⟨by_,0,none⟩))):=hbr.cell 1;have h1I:((Sh.nd x y).hgt:Int)>(l.hgt:Int)+1:=om;have ta:=asIn;have tb:=asLfIn;have S0:=Ext.rfl' w;have hlh:=hl.h;have hrh:=hr.h;clear hm1 hm2 hm3 hm4;unfold inV;rcases hx.as with⟨a,b,rfl,rfl⟩|⟨ts,rfl,rfl⟩
 ·have h2':=h2 a b rfl;have h2I:¬((Sh.nd a b).hgt:Int)>(y.hgt:Int):=om;have h2J:¬(y.hgt:Int)<((Sh.nd a b).hgt:Int):=om;clear h2 h2';go_enter Tryz.func148,Tryz.ntmps148
  go_upto_region 4 with(first|(go_at_fn K5;refine(HM2.out.height.call _ S0).mono ?_;rintro e wa ⟨rfl,rfl⟩)|(go_at_fn K2;refine(HM1.out.height.call _ S0).mono ?_;rintro e wa ⟨rfl,rfl⟩))
  have j0:=kc0 c0;have j1:=kc0 c1;refine Xr.start [] kr ?_;refine Xtk 0 ?_;refine Xtn ?_
  iterate 4(first|refine Xtn ?_|refine Xsn ?_)
  first|refine Xtk 7 ?_|refine Xsk 7 ?_
  iterate 3(first|refine Xtn ?_|refine Xsn ?_)
  refine Xcl 6 fun w1 hE1 hK1 K hKK=>?_;go_simp;refine(HM3.out.height.call w1 hE1).mono ?_;rintro e w2 ⟨rfl,rfl⟩;refine hKK _ _ (Ext.rfl' _) ?_;clear hKK;refine ptm ?_;refine Xcl 11 fun w3 hE3 hK3 K hKK=>?_;go_simp;refine(HM4.out.height.call w3 (hE1.trans hE3)).mono ?_;rintro e w2 ⟨rfl,rfl⟩;refine hKK _ _ (Ext.rfl' _) ?_;clear hKK;refine ptm ?_
  first|refine Xtk 12 ?_|refine Xsk 12 ?_
  refine Xtn ?_;refine Xdn fun w4 hE4 hK4=>?_;have X4:=lh hK4.nil;clear hE1 hK1 hE3 hK3 hE4 hK4 j0 j1;exact b6
 ·clear h2;go_enter Tryz.func148,Tryz.ntmps148
  go_upto_region 4 with(first|(go_at_fn K5;refine(HM2.out.height.call _ S0).mono ?_;rintro e wa ⟨rfl,rfl⟩)|(go_at_fn K2;refine(HM1.out.height.call _ S0).mono ?_;rintro e wa ⟨rfl,rfl⟩))
  refine Xr.start [] kr ?_;refine Xtk 0 ?_;refine Xtn ?_
  iterate 4(first|refine Xtn ?_|refine Xsn ?_)
  try refine Xsk 6 ?_
  first|refine Xtk 7 ?_|refine Xsk 7 ?_
  iterate 3(first|refine Xtn ?_|refine Xsn ?_)
  try refine Xsk 11 ?_
  first|refine Xtk 12 ?_|refine Xsk 12 ?_
  refine Xtn ?_;refine Xdn fun w4 hE4 hK4=>?_;have X4:=lh hK4.nil;clear hE4 hK4;exact b6
theorem b11 {P:Prop}(h:P:=by
 have hb4:=hb.ext X4.out;have hr4:=lh (hr.ext M X4.out);have hx4:=lh (hx.ext M X4.out);have ha4:=lh (ha.ext M X4.out);have hbb4:=lh (hbb.ext M X4.out);have d0:=fun(w':World) (h:Kp [gb] w4 w')=>h.cell (X4.out.cell c0) (by simpa using Blk.neT hbl hb de);have d2:=fun(w':World) (h:Kp [gb] w4 w')=>h.cell (X4.out.cell c2) (by simpa using Blk.neT hby hb de);have d3:=fun(w':World) (h:Kp [gb] w4 w')=>h.cell (X4.out.cell c3) (by simpa using Blk.neT hby hb de);have XX4:=lh (x0.trans X4.out);clear c0 c1 c2 c3 HM1 HM2 HM3 HM4 hl hr hx hy ha hbb hby hbl hs1 hs2 hs3 hs4 hb S0 n1 n2 n3 n4 n5 n6 n7 n8 n9 na nb nc;simp only[Sh.text,List.length_append] at hn;simp only[Sh.hgt] at hh
 go_upto_region 11 with fail
 refine Xr.start [gb] kr ?_;refine Xtk 0 ?_
 iterate 9(refine Xtn ?_)
 refine Xtk 11 ?_
 iterate 5(refine Xtn ?_)
 clear d0 d2 d3;refine Xsp 10 fun w6 hE6 hK6 K hKK=>?_;go_simp;refine(pair_any M w6 (KpP.extOf hK6.kpPs XX4.out hgb) gb (k) hgb (hb4.ext hE6) om _ _ _ _ (hx4.out.kp M hb4 hK6.kpPs) (ha4.out.kp M hb4 hK6.kpPs) (by(try simp only[Sh.text,List.length_append]);omega) (by simp only[Sh.hgt];omega)).mono ?_;rintro e w7 ⟨v1,rfl,k7⟩;refine hKK _ _ (WI_kp k7.kp si) (hK6.kpP k7.kp si) ?_;clear hKK;refine ptm ?_;refine Xsp 17 fun w8 hE8 hK8 K hKK=>?_;go_simp;refine(pair_any M w8 (KpP.extOf hK8.kpPs XX4.out hgb) gb (k+1) hgb (k7.bd.ext hE8) om _ _ _ _ (hbb4.out.kp M hb4 hK8.kpPs) (hr4.out.kp M hb4 hK8.kpPs) (by(try simp only[Sh.text,List.length_append]);omega) (by simp only[Sh.hgt];omega)).mono ?_;rintro e w9 ⟨v2,rfl,k9⟩;refine hKK _ _ (WI_kp k9.kp si) (hK8.kpP k9.kp si) ?_;clear hKK;refine ptm ?_;refine Xsp 18 fun w10 hE10 hK10 K hKK=>?_;go_simp;refine(pair_any M w10 (KpP.extOf hK10.kpPs XX4.out hgb) gb (k+1+1) hgb (k9.bd.ext hE10) om _ _ _ _ (((k7.tr.ext M hE8).kp M (k7.bd.ext hE8) k9.kp).ext M hE10) (k9.tr.ext M hE10) (by(try simp only[Sh.text,List.length_append]);omega) (by simp only[Sh.hgt];omega)).mono ?_;rintro e w11 ⟨v3,rfl,k11⟩;refine hKK _ _ (WI_kp k11.kp si) (hK10.kpP k11.kp si) ?_;clear hKK;refine ptm ?_;refine Xtk 19 ?_;refine Xdn fun wz hEz hKz=>?_
 go_wp2_with fail
 go_ret
 exact⟨v3,rfl,k11.tr.ext M hEz,k11.bd.ext hEz,KpP.extThen X4.out hKz.kpPs⟩):P:=h
theorem b12 {P:Prop}(h:P:=by
 have hb4:=hb.ext X4.out;have hr4:=lh (hr.ext M X4.out);have hx4:=lh (hx.ext M X4.out);have hy4:=lh (hy.ext M X4.out);have d0:=fun(w':World) (h:Kp [gb] w4 w')=>h.cell (X4.out.cell c0) (by simpa using Blk.neT hbl hb de);have d1:=fun(w':World) (h:Kp [gb] w4 w')=>h.cell (X4.out.cell c1) (by simpa using Blk.neT hbl hb de);have XX4:=lh (x0.trans X4.out);clear c0 c1 HM1 HM2 HM3 HM4 hl hr hx hy hbl hs1 hs2 hs3 hs4 hb S0 n1 n2 n3 n4 n5 n6 n7 n8 n9 na nb nc;simp only[Sh.text,List.length_append] at hn;simp only[Sh.hgt] at hh
 go_upto_region 12 with fail
 refine Xr.start [gb] kr ?_;refine Xtk 0 ?_
 iterate 10(refine Xtn ?_)
 clear d0 d1;refine Xsp 11 fun w6 hE6 hK6 K hKK=>?_;go_simp;refine(pair_any M w6 (KpP.extOf hK6.kpPs XX4.out hgb) gb (k) hgb (hb4.ext hE6) om _ _ _ _ (hy4.out.kp M hb4 hK6.kpPs) (hr4.out.kp M hb4 hK6.kpPs) (by(try simp only[Sh.text,List.length_append]);omega) (by simp only[Sh.hgt];omega)).mono ?_;rintro e w7 ⟨v1,rfl,k7⟩;refine hKK _ _ (WI_kp k7.kp si) (hK6.kpP k7.kp si) ?_;clear hKK;refine ptm ?_;refine Xsp 12 fun w8 hE8 hK8 K hKK=>?_;go_simp;refine(pair_any M w8 (KpP.extOf hK8.kpPs XX4.out hgb) gb (k+1) hgb (k7.bd.ext hE8) om _ _ _ _ (hx4.out.kp M hb4 hK8.kpPs) (k7.tr.ext M hE8) (by(try simp only[Sh.text,List.length_append]);omega) (by simp only[Sh.hgt];omega)).mono ?_;exact R4z2):P:=h
theorem b10 {P:Prop}(h:P:=by
 go_upto_region 10 with(first|(go_at_fn K2;refine(HM1.out.height.call _ S0).mono ?_;rintro e wa ⟨rfl,rfl⟩)|(go_at_fn K5;refine(HM2.out.height.call _ S0).mono ?_;rintro e wa ⟨rfl,rfl⟩))
 have j0:=kc0 c0;have j1:=kc0 c1;refine Xr.start [] kr ?_;refine Xtk 0 ?_;refine Xtn ?_
 iterate 4(first|refine Xtn ?_|refine Xsn ?_)
 first|refine Xtk 7 ?_|refine Xsk 7 ?_
 iterate 3(first|refine Xtn ?_|refine Xsn ?_)
 refine Xcl 6 fun w1 hE1 hK1 K hKK=>?_;go_simp;refine(HM4.out.height.call w1 hE1).mono ?_;rintro e w2 ⟨rfl,rfl⟩;refine hKK _ _ (Ext.rfl' _) ?_;clear hKK;refine ptm ?_;refine Xcl 11 fun w3 hE3 hK3 K hKK=>?_;go_simp;refine(HM3.out.height.call w3 (hE1.trans hE3)).mono ?_;rintro e w2 ⟨rfl,rfl⟩;refine hKK _ _ (Ext.rfl' _) ?_;clear hKK;refine ptm ?_
 first|refine Xtk 12 ?_|refine Xsk 12 ?_
 refine Xtn ?_;refine Xdn fun w4 hE4 hK4=>?_;have X4:=lh hK4.nil;clear hE1 hK1 hE3 hK3 hE4 hK4 j0 j1;exact b11):P:=h
theorem b10b {P:Prop}(h:P:=by
 go_upto_region 10 with(first|(go_at_fn K2;refine(HM1.out.height.call _ S0).mono ?_;rintro e wa ⟨rfl,rfl⟩)|(go_at_fn K5;refine(HM2.out.height.call _ S0).mono ?_;rintro e wa ⟨rfl,rfl⟩))
 have j0:=kc0 c0;have j1:=kc0 c1;refine Xr.start [] kr ?_;refine Xtk 0 ?_;refine Xtn ?_
 iterate 4(first|refine Xtn ?_|refine Xsn ?_)
 first|refine Xtk 7 ?_|refine Xsk 7 ?_
 iterate 3(first|refine Xtn ?_|refine Xsn ?_)
 refine Xcl 6 fun w1 hE1 hK1 K hKK=>?_;go_simp;refine(HM4.out.height.call w1 hE1).mono ?_;rintro e w2 ⟨rfl,rfl⟩;refine hKK _ _ (Ext.rfl' _) ?_;clear hKK;refine ptm ?_;refine Xcl 11 fun w3 hE3 hK3 K hKK=>?_;go_simp;refine(HM3.out.height.call w3 (hE1.trans hE3)).mono ?_;rintro e w2 ⟨rfl,rfl⟩;refine hKK _ _ (Ext.rfl' _) ?_;clear hKK;refine ptm ?_
 first|refine Xtk 12 ?_|refine Xsk 12 ?_
 refine Xtn ?_;refine Xdn fun w4 hE4 hK4=>?_;have X4:=lh hK4.nil;clear hE1 hK1 hE3 hK3 hE4 hK4 j0 j1;exact b12):P:=h
theorem b10l {P:Prop}(h:P:=by
 go_upto_region 10 with(first|(go_at_fn K2;refine(HM1.out.height.call _ S0).mono ?_;rintro e wa ⟨rfl,rfl⟩)|(go_at_fn K5;refine(HM2.out.height.call _ S0).mono ?_;rintro e wa ⟨rfl,rfl⟩))
 refine Xr.start [] kr ?_;refine Xtk 0 ?_;refine Xtn ?_
 iterate 4(first|refine Xtn ?_|refine Xsn ?_)
 try refine Xsk 6 ?_
 first|refine Xtk 7 ?_|refine Xsk 7 ?_
 iterate 3(first|refine Xtn ?_|refine Xsn ?_)
 try refine Xsk 11 ?_
 first|refine Xtk 12 ?_|refine Xsk 12 ?_
 refine Xtn ?_;refine Xdn fun w4 hE4 hK4=>?_;have X4:=lh hK4.nil;clear hE4 hK4;exact b12):P:=h
theorem balL11 {w0:World}{g:Nat}{ok:Int->Prop}{S:World->Nat->List Int->Prop}(M:Mo w0 g ok S)(w:World)(x0:Ext w0 w)(gb k:Nat)(hgb:w0.heap.size<=gb)(hb:BdAt w gb g k)(hk:k<=900000)(vl vr:Value)(x a b r:Sh)(hl:Tr S ok w vl (.nd x (.nd a b)))(hr:Tr S ok w vr r)
 (hn:(Sh.nd x (.nd a b)).text.length+r.text.length<=65536) (hr1:∀r1 r2,r=.nd r1 r2->¬(Sh.nd x (.nd a b)).hgt+1<r.hgt) (h1:r.hgt+1<(Sh.nd x (.nd a b)).hgt) (h2:x.hgt<(Sh.nd a b).hgt) (hh:(Sh.nd (.nd x a) (.nd b r)).hgt<=1000) :
 Calls Tryz.prog 148 #[.pointer (some ⟨gb,0,none⟩),vl,vr] w (RetTr S ok gb g (k+3) (.nd (.nd x a) (.nd b r)) w):=by
 obtain⟨b1,vx,vy,gs,rfl,hbl,hx,hy⟩:=hl.nd;obtain⟨by_,va,vb,gs',rfl,hby,ha,hbb⟩:=hy.nd;obtain⟨_,_,s1,K1,K2,K3,e1,hm1,hs1⟩:=hl.at_.meth;obtain⟨T2,b2,s2,K4,K5,K6,rfl,hm2,hs2⟩:=hr.at_.meth;obtain⟨Tx,bx,s3,K7,K8,K9,rfl,hm3,hs3⟩:=hx.at_.meth;obtain⟨_,_,s4,Ka,Kb,Kc,e4,hm4,hs4⟩:=hy.at_.meth;cases e1
 cases e4
 have n1:=hm1.height.nil_;have n2:=hm1.height.mth;have n3:=hm1.height.ent;have n4:=hm2.height.nil_;have n5:=hm2.height.mth;have n6:=hm2.height.ent;have n7:=hm3.height.nil_;have n8:=hm3.height.mth;have n9:=hm3.height.ent;have na:=hm4.height.nil_;have nb:=hm4.height.mth;have nc:=hm4.height.ent;have HM1:=lh hm1;have HM2:=lh hm2;have HM3:=lh hm3;have HM4:=lh hm4;have c0:w.cell? ⟨b1,0,none⟩=some (.iface Tx (.pointer (some ⟨bx,0,none⟩))):=hbl.cell 0;have c1:w.cell? ⟨b1,1,none⟩=some (inV by_):=hbl.cell 1;have c2:w.cell? ⟨by_,0,none⟩=some va:=hby.cell 0;have c3:w.cell? ⟨by_,1,none⟩=some vb:=hby.cell 1;unfold inV at c1;obtain⟨l,hlE⟩:∃l,l=Sh.nd x (.nd a b):=⟨_,rfl⟩
 rw[<-hlE] at hr1;have h1I:((Sh.nd x (.nd a b)).hgt:Int)>(r.hgt:Int)+1:=om;have h2I:((Sh.nd a b).hgt:Int)>(x.hgt:Int):=om;have hlh:=hl.h;have hrh:=hr.h;have ta:=asIn;have tb:=asLfIn;have S0:=Ext.rfl' w;clear hm1 hm2 hm3 hm4;unfold inV;subst hlE;rcases hr.as with⟨r1,r2,rfl,rfl⟩|⟨ts,rfl,rfl⟩
 ·have hr1':=hr1 r1 r2 rfl;have hrI:¬((Sh.nd r1 r2).hgt:Int)>((Sh.nd x (.nd a b)).hgt:Int)+1:=om;have hrJ:¬((Sh.nd x (.nd a b)).hgt:Int)+1<((Sh.nd r1 r2).hgt:Int):=om;clear hr1 hr1';go_enter Tryz.func148,Tryz.ntmps148
  go_upto_region 7 with(first|(go_at_fn K5;refine(HM2.out.height.call _ S0).mono ?_;rintro e wa ⟨rfl,rfl⟩)|(go_at_fn K2;refine(HM1.out.height.call _ S0).mono ?_;rintro e wa ⟨rfl,rfl⟩))
  clear hrI hrJ;exact b10
 ·clear hr1;go_enter Tryz.func148,Tryz.ntmps148
  go_upto_region 7 with fail
  exact b10
theorem balL12 {w0:World}{g:Nat}{ok:Int->Prop}{S:World->Nat->List Int->Prop}(M:Mo w0 g ok S)(w:World)(x0:Ext w0 w)(gb k:Nat)(hgb:w0.heap.size<=gb)(hb:BdAt w gb g k)(hk:k<=900000)(vl vr:Value)(x y r:Sh)(hl:Tr S ok w vl (.nd x y))(hr:Tr S ok w vr r)
 (hn:(Sh.nd x y).text.length+r.text.length<=65536) (hr1:∀r1 r2,r=.nd r1 r2->¬(Sh.nd x y).hgt+1<r.hgt) (h1:r.hgt+1<(Sh.nd x y).hgt) (h2:∀a b,y=.nd a b->¬x.hgt<y.hgt) (hh:(Sh.nd x (.nd y r)).hgt<=1000) :
 Calls Tryz.prog 148 #[.pointer (some ⟨gb,0,none⟩),vl,vr] w (RetTr S ok gb g (k+2) (.nd x (.nd y r)) w):=by
 obtain⟨b1,vx,vy,gs,rfl,hbl,hx,hy⟩:=hl.nd;obtain⟨_,_,s1,K1,K2,K3,e1,hm1,hs1⟩:=hl.at_.meth;obtain⟨T2,b2,s2,K4,K5,K6,rfl,hm2,hs2⟩:=hr.at_.meth;obtain⟨Tx,bx,s3,K7,K8,K9,rfl,hm3,hs3⟩:=hx.at_.meth;obtain⟨Ty,by_,s4,Ka,Kb,Kc,rfl,hm4,hs4⟩:=hy.at_.meth;cases e1
 have n1:=hm1.height.nil_;have n2:=hm1.height.mth;have n3:=hm1.height.ent;have n4:=hm2.height.nil_;have n5:=hm2.height.mth;have n6:=hm2.height.ent;have n7:=hm3.height.nil_;have n8:=hm3.height.mth;have n9:=hm3.height.ent;have na:=hm4.height.nil_;have nb:=hm4.height.mth;have nc:=hm4.height.ent;have HM1:=lh hm1;have HM2:=lh hm2;have HM3:=lh hm3;have HM4:=lh hm4;have c0:w.cell? ⟨b1,0,none⟩=some (.iface Tx (.pointer (some ⟨bx,0,none⟩))):=hbl.cell 0;have c1:w.cell? ⟨b1,1,none⟩=some (.iface Ty (.pointer (some ⟨by_,0,none⟩))):=hbl.cell 1;have h1I:((Sh.nd x y).hgt:Int)>(r.hgt:Int)+1:=om;have hlh:=hl.h;have hrh:=hr.h;have ta:=asIn;have tb:=asLfIn;have S0:=Ext.rfl' w;clear hm1 hm2 hm3 hm4;unfold inV;rcases hy.as with⟨a,b,rfl,rfl⟩|⟨ts',rfl,rfl⟩
 ·have h2':=h2 a b rfl;have h2I:¬((Sh.nd a b).hgt:Int)>(x.hgt:Int):=om;have h2J:¬(x.hgt:Int)<((Sh.nd a b).hgt:Int):=om;clear h2 h2';rcases hr.as with⟨r1,r2,rfl,rfl⟩|⟨ts,rfl,rfl⟩
  ·have hr1':=hr1 r1 r2 rfl;have hrI:¬((Sh.nd r1 r2).hgt:Int)>((Sh.nd x (.nd a b)).hgt:Int)+1:=om;have hrJ:¬((Sh.nd x (.nd a b)).hgt:Int)+1<((Sh.nd r1 r2).hgt:Int):=om;clear hr1 hr1';go_enter Tryz.func148,Tryz.ntmps148
   go_upto_region 7 with(first|(go_at_fn K5;refine(HM2.out.height.call _ S0).mono ?_;rintro e wa ⟨rfl,rfl⟩)|(go_at_fn K2;refine(HM1.out.height.call _ S0).mono ?_;rintro e wa ⟨rfl,rfl⟩))
   clear hrI hrJ;exact b10b
  ·clear hr1;go_enter Tryz.func148,Tryz.ntmps148
   go_upto_region 7 with fail
   exact b10b
 ·clear h2;rcases hr.as with⟨r1,r2,rfl,rfl⟩|⟨ts,rfl,rfl⟩
  ·have hr1':=hr1 r1 r2 rfl;have hrI:¬((Sh.nd r1 r2).hgt:Int)>((Sh.nd x (.lf ts')).hgt:Int)+1:=om;have hrJ:¬((Sh.nd x (.lf ts')).hgt:Int)+1<((Sh.nd r1 r2).hgt:Int):=om;clear hr1 hr1';go_enter Tryz.func148,Tryz.ntmps148
   go_upto_region 7 with(first|(go_at_fn K5;refine(HM2.out.height.call _ S0).mono ?_;rintro e wa ⟨rfl,rfl⟩)|(go_at_fn K2;refine(HM1.out.height.call _ S0).mono ?_;rintro e wa ⟨rfl,rfl⟩))
   clear hrI hrJ;exact b10l
  ·clear hr1;go_enter Tryz.func148,Tryz.ntmps148
   go_upto_region 7 with fail
   exact b10l
theorem b13 {P:Prop}(h:P:=by
 go_upto_region 13 with(first|(go_at_fn K2;refine(HM1.out.height.call _ S0).mono ?_;rintro e wa ⟨rfl,rfl⟩)|(go_at_fn K5;refine(HM2.out.height.call _ S0).mono ?_;rintro e wa ⟨rfl,rfl⟩))
 have HP:=lh (pair_any M w x0 gb k hgb hb om _ _ _ _ hl hr hn hh);clear hl hr hn hh HM1 HM2 n1 n2 n3 n4 n5 n6 hs1 hs2
 go_wp2_with (go_at_call 149;refine HP.out.mono ?_;rintro e w1 ⟨v1,rfl,k1⟩)
 go_ret
 exact⟨v1,rfl,k1⟩):P:=h
theorem R4z1 {P:Prop} (h:P:=by
 rcases hr.as with⟨r1,r2,rfl,rfl⟩|⟨ts,rfl,rfl⟩
 ·have hr1':=hr1 r1 r2 rfl;have hrI:¬((Sh.nd r1 r2).hgt:Int)>(l.hgt:Int)+1:=om;have hrJ:¬(l.hgt:Int)+1<((Sh.nd r1 r2).hgt:Int):=om;clear hr1 hr1';go_enter Tryz.func148,Tryz.ntmps148
  go_upto_region 7 with(first|(go_at_fn K5;refine(HM2.out.height.call _ S0).mono ?_;rintro e wa ⟨rfl,rfl⟩)|(go_at_fn K2;refine(HM1.out.height.call _ S0).mono ?_;rintro e wa ⟨rfl,rfl⟩))
  clear hrI hrJ;exact b13
 ·clear hr1;go_enter Tryz.func148,Tryz.ntmps148
  go_upto_region 7 with fail
  exact b13):P:=h
theorem balL13 {w0:World}{g:Nat}{ok:Int->Prop}{S:World->Nat->List Int->Prop}(M:Mo w0 g ok S)(w:World)(x0:Ext w0 w)(gb k:Nat)(hgb:w0.heap.size<=gb)(hb:BdAt w gb g k)(hk:k<=900000)(vl vr:Value)(l r:Sh)(hl:Tr S ok w vl l)(hr:Tr S ok w vr r)
 (hn:l.text.length+r.text.length<=65536) (hr1:∀r1 r2,r=.nd r1 r2->¬l.hgt+1<r.hgt) (hl1:∀l1 l2,l=.nd l1 l2->¬r.hgt+1<l.hgt) (hh:(Sh.nd l r).hgt<=1000) :
 Calls Tryz.prog 148 #[.pointer (some ⟨gb,0,none⟩),vl,vr] w (RetTr S ok gb g (k+1) (.nd l r) w):=by
 obtain⟨T1,b1,s1,K1,K2,K3,rfl,hm1,hs1⟩:=hl.at_.meth;obtain⟨T2,b2,s2,K4,K5,K6,rfl,hm2,hs2⟩:=hr.at_.meth;have n1:=hm1.height.nil_;have n2:=hm1.height.mth;have n3:=hm1.height.ent;have n4:=hm2.height.nil_;have n5:=hm2.height.mth;have n6:=hm2.height.ent;have HM1:=lh hm1;have HM2:=lh hm2;have hlh:=hl.h;have hrh:=hr.h;have ta:=asIn;have tb:=asLfIn;have S0:=Ext.rfl' w;clear hm1 hm2;obtain⟨l,hl0⟩:∃l',l'=l:=⟨_,rfl⟩
 rw[<-hl0] at hl hl1 hn hh hr1 hlh HM1 hs1 ⊢;clear hl0;rcases hl.as with⟨l1,l2,hl2,rfl⟩|⟨ts',hl2,rfl⟩
 ·have hl1':=hl1 l1 l2 hl2;have hlI:¬(l.hgt:Int)>(r.hgt:Int)+1:=om;have hlJ:¬(r.hgt:Int)+1<(l.hgt:Int):=om;clear hl1 hl1' hl2;exact R4z1
 ·clear hl1 hl2;exact R4z1
theorem balance_any {w0:World}{g:Nat}{ok:Int->Prop}{S:World->Nat->List Int->Prop}(M:Mo w0 g ok S)(w:World)(x0:Ext w0 w)(gb k:Nat)(hgb:w0.heap.size<=gb)(hb:BdAt w gb g k)(hk:k<=900000)(vl vr:Value)(l r:Sh)(hl:Tr S ok w vl l)(hr:Tr S ok w vr r)
 (hn:l.text.length+r.text.length<=65536) (hh:max l.hgt r.hgt<=900) :
 Calls Tryz.prog 148 #[.pointer (some ⟨gb,0,none⟩),vl,vr] w (RetTr S ok gb g (k+(Sh.bal l r).2) (Sh.bal l r).1 w):=by
 have hL:(∀r1 r2,r=.nd r1 r2->¬l.hgt+1<r.hgt)->Calls Tryz.prog 148 #[.pointer (some ⟨gb,0,none⟩),vl,vr] w (RetTr S ok gb g (k+(Sh.balL l r).2) (Sh.balL l r).1 w):=fun hr1=>by
  unfold Sh.balL
  cases l with
  | lf ts=>exact balL13 M w x0 gb k hgb hb hk vl vr _ r hl hr hn hr1 (fun _ _ e=>by cases e) (by simp only[Sh.hgt] at hh ⊢;omega)
  | nd x y=>
   simp only
   by_cases h1:r.hgt+1<(Sh.nd x y).hgt
   ·rw[if_pos h1]
    cases y with
    | lf ts=>exact balL12 M w x0 gb k hgb hb hk vl vr x _ r hl hr hn hr1 h1 (fun _ _ e=>by cases e) (by simp only[Sh.hgt] at hh ⊢;omega)
    | nd a b=>
     simp only
     by_cases h2:x.hgt<(Sh.nd a b).hgt
     ·rw[if_pos h2];exact balL11 M w x0 gb k hgb hb hk vl vr x a b r hl hr hn hr1 h1 h2 (by simp only[Sh.hgt] at hh ⊢;omega)
     ·rw[if_neg h2];exact balL12 M w x0 gb k hgb hb hk vl vr x _ r hl hr hn hr1 h1 (fun _ _ e=>by cases e;exact h2) (by simp only[Sh.hgt] at hh ⊢;omega)
   ·rw[if_neg h1];exact balL13 M w x0 gb k hgb hb hk vl vr _ r hl hr hn hr1 (fun _ _ e=>by cases e;exact h1) (by simp only[Sh.hgt] at hh ⊢;omega)
 unfold Sh.bal
 cases r with
 | lf ts=>exact hL (fun _ _ e=>by cases e)
 | nd x y=>
  simp only
  by_cases h1:l.hgt+1<(Sh.nd x y).hgt
  ·rw[if_pos h1]
   cases x with
   | lf ts=>exact bal6 M w x0 gb k hgb hb hk vl vr l _ y hl hr hn h1 (fun _ _ e=>by cases e) (by simp only[Sh.hgt] at hh ⊢;omega)
   | nd a b=>
    simp only
    by_cases h2:y.hgt<(Sh.nd a b).hgt
    ·rw[if_pos h2];exact bal5 M w x0 gb k hgb hb hk vl vr l a b y hl hr hn h1 h2 (by simp only[Sh.hgt] at hh ⊢;omega)
    ·rw[if_neg h2];exact bal6 M w x0 gb k hgb hb hk vl vr l _ y hl hr hn h1 (fun _ _ e=>by cases e;exact h2) (by simp only[Sh.hgt] at hh ⊢;omega)
  ·rw[if_neg h1];exact hL (fun _ _ e=>by cases e;exact h1)
end
end Go.Proofs.YtmpcoifnpflapaaGreat
