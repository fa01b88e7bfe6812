/- Texts of this proof: C8g Z8 Z9. -/
import Derived.Test.YtmgpefenkilffaaGreatSW25
import Derived.Test.YtmgpefenkilffaaGreatSW31
import Derived.Test.YtmgpefenkilffaaGreatSW36
import Derived.OwnWalk
set_option linter.all false
set_option maxRecDepth 100000
set_option maxHeartbeats 16000000
namespace Go.Proofs.YtmgpefenkilffaaGreat
section
open Go.RowKit
attribute [local go_sem ↓] Go.wp_at_zero Go.wp_at_succ
structure GpV (w:World)(A:Option Addr)(c:Nat)(hs:List Hin)(C:Int):Prop where
 pl:PL w A c hs
 sets:∀h∈hs,SetE rimE h.l
 code:∃(ks:List Hin) (N:Nat),hs=ks++[(⟨0,0,0,0,none,0,[]⟩:Hin)]/\CdP C 0 N ks/\N<=1456
theorem GpV.ext {w w':World}{A:Option Addr}{c:Nat}{hs:List Hin}{C:Int}(h:GpV w A c hs C)(x:Ext w w'):GpV w' A c hs C:=⟨h.pl.ext x,h.sets,h.code⟩
def RetGv (C:Int)(rn:Bool)(w:World)(e:Ending)(w':World):Prop:=
 ∃(A:Option Addr) (c:Nat) (hs:List Hin),e=.returned (.tuple #[.agg #[.slice A hs.length c,.int .i64 C,.bool rn],.int .i64 0])/\GpV w' A c hs C/\Ext w w'
theorem xcompile_G (S:Nat->Prop)(d:Nat)(hd:d<=6)(w:World)(n:Nd)(gr:Int)(T:Tm)(ht:TreeG 3 S w d n.val T)(hg:GdT 64 gr T)(hcn:cnt T<=256)(hcm:comp T []=true)(hgr:0<=gr/\gr<=9) :
 Calls Tryz.prog 33 #[.agg #[.int .i64 n.op,.slice n.A n.l.length n.c,.slice n.K n.ks.length n.kc,.int .i64 n.mn,.int .i64 n.mx,.int .i64 n.md,.int .i64 n.n,.bool n.neg,.int .i64 gr,.bool false]] w (RetGv gr false w):=by
 obtain⟨B0,B2,E0⟩:=alloc2 w 63 #[.int .i64 n.op,.slice n.A n.l.length n.c,.slice n.K n.ks.length n.kc,.int .i64 n.mn,.int .i64 n.mx,.int .i64 n.md,.int .i64 n.n,.bool n.neg,.int .i64 gr,.bool false] 25 #[.slice none 0 0,.int .i64 0,.bool false];obtain⟨iI,jI0,jI1,jI2,jI3⟩:=info_parts infoIn;have HT:=lh ht;have HG:=lh hgr;have HGD:=lh hg;have HCN:=lh hcn;have HCM:=lh hcm;have HSE:=lh (Nat.le_trans (szF_le ht hg) (szB_le hd));clear ht hgr hg hcn hcm;go_enter Tryz.func33,Tryz.ntmps33
 go_upto_region 1 with fail
 obtain⟨g1,hg1⟩:∃g,g=w.heap.size:=⟨_,rfl⟩;obtain⟨g2,hg2e⟩:∃g,g=w.heap.size+1:=⟨_,rfl⟩
 rw[<-hg2e] at B2 ⊢
 rw[<-hg1] at B0 ⊢;have hne:g1≠g2:=om;have hg2:w.heap.size<=g2:=om;clear hg1 hg2e;generalize ((w.alloc (.cells #[.int .i64 n.op,.slice n.A n.l.length n.c,.slice n.K n.ks.length n.kc,.int .i64 n.mn,.int .i64 n.mx,.int .i64 n.md,.int .i64 n.n,.bool n.neg,.int .i64 gr,.bool false] 63)).alloc (.cells #[.slice none 0 0,.int .i64 0,.bool false] 25))=wa at *;have HXa:=lh E0;have HTa:=lh (HT.out.ext E0);have HV:=lh (yvalid_T 64 S d om wa n gr T HTa.out HGD.out HG.out HCN.out);have HC:=fun(w':World) (x:Ext wa w')=>lh (xcompiles_G 64 gr S d w' _ T (HTa.out.ext x) HGD.out none 0 [] (IL.nil w') (by simp;omega));have HS:=fun(w':World) (x:Ext wa w')=>lh (xsize_G 64 gr S d w' _ T hd (HTa.out.ext x) HGD.out);rw[HCM.out] at HC;obtain⟨sz,hsz⟩:∃k,k=szF T:=⟨_,rfl⟩;have hsl:sz<=1456:=by rw[hsz];exact HSE.out
 rw[<-hsz] at HS;have HSQ:=lh hsz;clear hsz;unfold Nd.val at HC HS;have z0:=B0.cell 0;have z1:=B0.cell 1;have z2:=B0.cell 2;have z3:=B0.cell 3;have z4:=B0.cell 4;have z5:=B0.cell 5;have z6:=B0.cell 6;have z7:=B0.cell 7;have z8:=B0.cell 8;have z9:=B0.cell 9;clear E0
 go_upto_region 2 with(go_at_call 99;refine HV.out.mono ?_;rintro e w3 ⟨rfl,x3⟩)
 clear HV;have B03:=B0.ext x3;have B3:=B2.ext x3;have HX3:=lh (HXa.out.trans x3);have H13:=lh x3;have z0:=B03.cell 0;have z1:=B03.cell 1;have z2:=B03.cell 2;have z3:=B03.cell 3;have z4:=B03.cell 4;have z5:=B03.cell 5;have z6:=B03.cell 6;have z7:=B03.cell 7;have z8:=B03.cell 8;have z9:=B03.cell 9;obtain⟨y0,y1,y2,f0,f1,f2,_⟩:=B3.c3;clear x3 B0 B2
 go_upto_region 6 with(go_at_call 77;refine(HC _ H13.out).out.mono ?_;rintro e w4 ⟨rfl,x4⟩;have B4:=B3.ext x4;have B04:=B03.ext x4;have HX4:=lh (HX3.out.trans x4);have H14:=lh (H13.out.trans x4);clear x4;obtain⟨y0,y1,y2,f0,f1,f2,_⟩:=B4.c3;have k0:=B04.cell 0;have k1:=B04.cell 1;have k2:=B04.cell 2;have k3:=B04.cell 3;have k4:=B04.cell 4;have k5:=B04.cell 5;have k6:=B04.cell 6;have k7:=B04.cell 7;have k8:=B04.cell 8;have k9:=B04.cell 9)
 clear HC z0 z1 z2 z3 z4 z5 z6 z7 z8 z9
 go_upto_region 8 with(go_at_call 100;refine(HS _ H14.out).out.mono ?_;rintro e w5 ⟨rfl,x5⟩;have B5:=B4.ext x5;have B05:=B04.ext x5;have HX5:=lh (HX4.out.trans x5);have H15:=lh (H14.out.trans x5);clear x5;obtain⟨y0,y1,y2,f0,f1,f2,_⟩:=B5.c3;have k0:=B05.cell 0;have k1:=B05.cell 1;have k2:=B05.cell 2;have k3:=B05.cell 3;have k4:=B05.cell 4;have k5:=B05.cell 5;have k6:=B05.cell 6;have k7:=B05.cell 7;have k8:=B05.cell 8;have k9:=B05.cell 9;have hbig:¬8192<(sz:Int)+1:=om)
 have HGG:=lh B5.lt;have HB5:=lh B5;clear y0 y1 y2 f0 f1 f2;have q0:=fun(w':World) (h:Kp [g2] w5 w')=>h.cell k0 (by simp[hne]);have q1:=fun(w':World) (h:Kp [g2] w5 w')=>h.cell k1 (by simp[hne]);have q2:=fun(w':World) (h:Kp [g2] w5 w')=>h.cell k2 (by simp[hne]);have q3:=fun(w':World) (h:Kp [g2] w5 w')=>h.cell k3 (by simp[hne]);have q4:=fun(w':World) (h:Kp [g2] w5 w')=>h.cell k4 (by simp[hne]);have q5:=fun(w':World) (h:Kp [g2] w5 w')=>h.cell k5 (by simp[hne]);have q6:=fun(w':World) (h:Kp [g2] w5 w')=>h.cell k6 (by simp[hne]);have q7:=fun(w':World) (h:Kp [g2] w5 w')=>h.cell k7 (by simp[hne]);have q8:=fun(w':World) (h:Kp [g2] w5 w')=>h.cell k8 (by simp[hne]);have q9:=fun(w':World) (h:Kp [g2] w5 w')=>h.cell k9 (by simp[hne]);refine Xr.start [g2] kr ?_;refine Xtk 0 ?_;refine Xtn ?_;refine Xtk 3 ?_;refine Xtk 6 ?_
 iterate 3(refine Xtn ?_)
 refine Xr.lazy 4 26 5 (fun g=>.slice (some ⟨g,0,none⟩) 1 1) 128 #[.int .i64 0,.int .i64 0,.int .i64 0,.int .i64 0,.slice none 0 0] rfl (by simpa using HGG.out) dK si (fun w'=>by go_simp) ?_;refine Xcl 2 fun w6 hE6 hK6 K hKK=>?_;have HCD:=xcode_G gr HG.out S w d hd w6 n.val T (HX5.out.trans hE6) HT.out HGD.out 0 om (by rw[<-HSQ.out];omega);unfold Nd.val at HCD;go_simp;refine HCD.mono ?_;rintro e w7 ⟨A7,c7,hs7,rfl,hp7,h7⟩;have HP7:=lh hp7;have hl7:hs7.length<=sz:=by have:=hp7.1;rw[HSQ.out];omega
 clear hp7;refine hKK _ _ h7.ext ?_;clear hKK HCD;refine ptm ?_;have x67:=h7.ext;have HAW:=OwnS.row h7.own;have hup7:∀k,A7.map (·.block)=some k->w6.heap.size<=k/\k<w7.heap.size:=fun k hk=>⟨HAW k hk,(OwnS.blt h7.own hk).1⟩;obtain⟨ys,HYS⟩:∃ys,Hid (ys=hs7++[(⟨0,0,0,0,none,0,[]⟩:Hin)]):=⟨_,lh rfl⟩;have hyl:Hid (ys.length=hs7.length+1):=lh (by rw[HYS.out,List.length_append];simp);refine Xr.stepZ rfl dK (fun _=>by rfl) (fun w8 g8 hE8 hK8 hg8 hB8 hno K hKK=>?_);refine wp_appN (w0:=w) (base:=w6) _ _ _ rfl iI Tryz.underlying23 jI0 jI1 jI2 jI3 A7 c7 hs7 rfl (h7.up hE8) _ 1 [⟨0,0,0,0,none,0,[]⟩] rfl (hin_blk hB8) (fun h hh=>by rw[List.mem_singleton.1 hh];exact HinOk.plain w (by simp[I64])) (by simp only[List.length_singleton];omega) ys HYS.out ?_;intro A9 c9 w9 h9 hr9 hg9 hat9;have x59:=hE6.trans h9.ext;refine hKK _ _ (WI_grown hg9 (fun i hi=>.inr ⟨(w6.heap.size,w7.heap.size),by simp,(hup7 i hi).1,(hup7 i hi).2⟩)) (Kp.of_ext x59) ?_;clear hKK;refine ptm ?_;refine Xtk 10 ?_;have H9:=lh h9;clear h9 hr9 hg9 hat9 h7 HAW hup7;refine Xsp 11 fun w10 hE10 hK10 K hKK=>?_;have B10:=HB5.out.ext (x59.trans hE10);obtain⟨y0,y1,y2,f0,f1,f2,_⟩:=B10.c3;go_simp;change K _ (setGp w10 g2 A9 ys.length c9 gr false);refine hKK _ _ (setGp_kpp (KpP.refl _ _) (.inl si) _ _ _ _ _) (setGp_kp hK10 si _ _ _ _ _) ?_;clear hKK;refine ptm ?_;refine Xtk 12 ?_;refine Xdn fun w12 hE12 hK12=>?_;have b9:=(setGp_blk B10 A9 ys.length c9 gr false).ext hE12;have x12:=(setGp_ext (HX5.out.trans (x59.trans hE10)) hg2 A9 ys.length c9 gr false).trans hE12
 have HP:Hid (GpV w12 A9 c9 ys gr):=lh (by
  have h6:=hE6.size;have hlt:=HGG.out;have o10:=OwnS.kp (OwnS.ext H9.out.own hE10) (setGp_kpp (p:=(·=g2)) (KpP.refl _ w10) rfl A9 ys.length c9 gr false) (fun b h1 h2=>by have h3:=OwnS.row H9.out.own b h1;have h4:b=g2:=h2;omega);exact⟨PL.of_own (OwnS.ext o10 hE12) (fun z hz=>(H9.out.ok z hz).1) (fun z hz=>(H9.out.ok z hz).2.1.ext x12),fun z hz=>(H9.out.ok z hz).2.2,⟨hs7,szF T,HYS.out,HP7.out,HSE.out⟩⟩)
 clear H9 hE12 hK12 hE10 hK10 B10;obtain⟨r0,r1,r2,_⟩:=b9.c3
 go_wp2_with fail
 refine bodyPost_ret (v:=.tuple #[.agg #[.slice A9 ys.length c9,.int .i64 gr,.bool false],.int .i64 0]) (by simp[results,Tryz.results33,go_sem,r0,r1,r2]) rfl ⟨A9,c9,ys,rfl,HP.out,x12⟩
theorem zvalid_any (bd:Nat)(S:Nat->Prop)(d:Nat)(w:World)(n:Nd)(gr:Int)(rn:Bool)(ht:TreeAt bd S w d n.val)(A:Option Addr)(c:Nat)(ts:List Int)(hl:IL w A c ts)(fuel:Int) :
 Calls Tryz.prog 215 #[.agg #[.int .i64 n.op,.slice n.A n.l.length n.c,.slice n.K n.ks.length n.kc,.int .i64 n.mn,.int .i64 n.mx,.int .i64 n.md,.int .i64 n.n,.bool n.neg,.int .i64 gr,.bool rn],.slice A ts.length c,.int .i64 fuel] w (RetAn w):=by
 have B0:=Blk.new w 63 #[.int .i64 n.op,.slice n.A n.l.length n.c,.slice n.K n.ks.length n.kc,.int .i64 n.mn,.int .i64 n.mx,.int .i64 n.md,.int .i64 n.n,.bool n.neg,.int .i64 gr,.bool rn];have E0:=Ext.alloc w (.cells #[.int .i64 n.op,.slice n.A n.l.length n.c,.slice n.K n.ks.length n.kc,.int .i64 n.mn,.int .i64 n.mx,.int .i64 n.md,.int .i64 n.n,.bool n.neg,.int .i64 gr,.bool rn] 63);have hll:=hl.len;have HL:=lh (hl.ext E0);have HT:=lh (ht.ext E0);clear ht hl;go_enter Tryz.func215,Tryz.ntmps215
 go_upto_region 1 with fail
 obtain⟨gx,hgx⟩:∃gx,gx=w.heap.size:=⟨_,rfl⟩
 rw[<-hgx] at B0 ⊢;clear hgx;generalize w.alloc (.cells #[.int .i64 n.op,.slice n.A n.l.length n.c,.slice n.K n.ks.length n.kc,.int .i64 n.mn,.int .i64 n.mx,.int .i64 n.md,.int .i64 n.n,.bool n.neg,.int .i64 gr,.bool rn] 63)=wa at *;have HV:=lh (yvalid_any bd S d wa n gr rn HT.out);have z0:=B0.cell 0;have z1:=B0.cell 1;have z2:=B0.cell 2;have z3:=B0.cell 3;have z4:=B0.cell 4;have z5:=B0.cell 5;have z6:=B0.cell 6;have z7:=B0.cell 7;have z8:=B0.cell 8;have z9:=B0.cell 9
 go_upto_region 2 with(go_at_call 99;refine HV.out.mono ?_;rintro e w3 ⟨x,rfl,x3⟩)
 have y9:=x3.cell z9;have HL3:=lh (HL.out.ext x3);have HX3:=lh (E0.trans x3);clear z0 z1 z2 z3 z4 z5 z6 z7 z8 z9 HV HT HL E0 B0 x3;by_cases hx:x=0
 ·have hx0:(x != 0)=false:=by simp[hx]
  by_cases hbig:65536<ts.length
  ·have hbI:(65536:Int)<(ts.length:Int):=om
   go_wp2_with fail
   go_ret
   exact⟨_,rfl,HX3.out⟩
  ·have hbI:¬(65536:Int)<(ts.length:Int):=om
   go_upto_region 7 with fail
   cases rn
   all_goals
    go_upto_region 10 with fail
    go_loopw [9] (fun v wr=>∃i:Nat,v=.int .i64 i/\i<=ts.length/\Ext w3 wr) (fun v _=>ts.length-(intOf v).toNat)
    case atStart=>exact⟨0,rfl,om,Ext.rfl' _⟩
    case round=>
     obtain⟨i,rfl,hi,x1⟩:=hrel;by_cases hlt:i<ts.length
     ·have hiI:(i:Int)<ts.length:=om;obtain⟨b,o,hA,hcell⟩:=(HL3.out.ext x1).get hlt;subst hA;generalize ts[i]=sym at *
      go_wp2_with fail
      all_goals first
       | (go_ret;exact⟨_,rfl,HX3.out.trans x1⟩)
       | (
        go_roundw
        case rel=>exact⟨i+1,by go_num,om,x1⟩
        case measure=>simp[intOf];omega)
     ·have hiI:¬(i:Int)<ts.length:=om
      go_wp2_with fail
      all_goals
       go_ret
       exact⟨_,rfl,HX3.out.trans x1⟩
 ·have hx1:(x != 0)=true:=by simp[hx]
  go_wp2_with fail
  go_ret
  exact⟨_,rfl,HX3.out⟩
def RetBr (n:Nat)(w:World)(e:Ending)(w':World):Prop:=∃(A:Option Addr) (c:Nat) (l:List Sp),e=.returned (.slice A l.length c)/\l.length=n/\CapAt w' A c l/\Ext w w'
theorem zbare_any (n:Nat)(hn:n<=1000)(w:World):Calls Tryz.prog 217 #[.int .i64 n] w (RetBr n w):=by
 obtain⟨iA,jA0,jA1,jA2,jA3⟩:=info_parts infoA2;go_enter Tryz.func217,Tryz.ntmps217
 go_upto_region 3 with fail
 go_loopw [4,3] (fun v4 v3 wr=>∃(i:Nat) (A:Option Addr) (c:Nat),v4=.int .i64 i/\v3=.slice A i c/\i<=n/\Hid (OwnS wr w.heap.size 54 2 A i c (flatS (List.replicate i ((-1,-1):Sp))))/\Ext w wr) (fun v _ _=>n-(intOf v).toNat)
 case atStart=>exact⟨0,none,0,rfl,rfl,om,lh (OwnS.nil _ _ _ _),Ext.rfl' _⟩
 case round=>
  obtain⟨i,A,c,rfl,rfl,hi,HO,x1⟩:=hrel;have hcc:=OwnS.caps HO.out;by_cases hlt:i<n
  ·have hiI:(i:Int)<(n:Int):=om
   go_wp2_with (at_builtin;refine wpList_app _ rfl _ _ _ rfl w.heap.size 54 iA _ 2 16 Tryz.underlying37 jA0 jA1 jA2 jA3 rfl om A i c (flatS (List.replicate i ((-1,-1):Sp))) rfl (OwnS.ext HO.out (Ext.alloc _ _)) _ 1 1 (flatS [((-1,-1):Sp)]) rfl rfl (blk_cells (Blk.new _ _ _)) (flatS_one _) um om (Nat.le_trans x1.size (Ext.alloc _ _).size) ?_;intro A8 c8 w8 ho8 hg8 hat8)
   refine⟨⟨i+1,A8,c8,by go_num,rfl,om,lh ?_,(x1.trans (Ext.alloc _ _)).grown hg8 (OwnS.row HO.out)⟩,by simp[intOf];omega⟩;have e:flatS (List.replicate (i+1) ((-1,-1):Sp))=flatS (List.replicate i ((-1,-1):Sp))++flatS [((-1,-1):Sp)]:=by
    rw[List.replicate_succ'];simp[flatS]
   rw[e];exact ho8
  ·have hiI:¬(i:Int)<(n:Int):=om
   go_wp2_with fail
   go_ret
   refine⟨A,c,List.replicate i (-1,-1),by simp,by simp;omega,?_,x1⟩;refine cap_of_own (base:=w.heap.size) ?_ (fun s hs=>?_)
   ·simpa using HO.out
   ·rw[(List.mem_replicate.1 hs).2];simp[S64,I64]
def RetAl (w:World)(e:Ending)(w':World):Prop:=∃(A:Option Addr) (n c:Nat) (s k:Int),e=.returned (.tuple #[.slice A n c,.int .i64 s,.int .i64 k])/\Ext w w'
theorem infoMt:(Tryz.prog.info? 56).map (fun i=>(i.zero,i.size,i.bytes))=some (some (.agg #[.int .i64 0,.int .i64 0,.slice none 0 0]),3,40):=by kernel_rfl
theorem zall_any (bd:Nat)(hbd:bd<=1000)(d:Nat)(w:World)(n:Nd)(gr:Nat)(rn:Bool)(ht:TreeAt bd (fun _=>True) w d n.val)(hgr:gr<=9)(A:Option Addr)(c:Nat)(ts:List Int)(hl:IL w A c ts)(hlt:ts.length<=1000)(i:Nat)(hi:i<=ts.length)(most:Int)(fuel:Nat)(hf:fuel<=1000000) :
 Calls Tryz.prog 152 #[.agg #[.int .i64 n.op,.slice n.A n.l.length n.c,.slice n.K n.ks.length n.kc,.int .i64 n.mn,.int .i64 n.mx,.int .i64 n.md,.int .i64 n.n,.bool n.neg,.int .i64 gr,.bool rn],.slice A ts.length c,.int .i64 i,.int .i64 most,.int .i64 fuel] w (RetAl w):=by
 have B0:=Blk.new w 63 #[.int .i64 n.op,.slice n.A n.l.length n.c,.slice n.K n.ks.length n.kc,.int .i64 n.mn,.int .i64 n.mx,.int .i64 n.md,.int .i64 n.n,.bool n.neg,.int .i64 gr,.bool rn];have E0:=Ext.alloc w (.cells #[.int .i64 n.op,.slice n.A n.l.length n.c,.slice n.K n.ks.length n.kc,.int .i64 n.mn,.int .i64 n.mx,.int .i64 n.md,.int .i64 n.n,.bool n.neg,.int .i64 gr,.bool rn] 63);obtain⟨iM,jM0,jM1,jM2,jM3⟩:=info_parts infoMt;have hll:=hl.len;have HL:=lh (hl.ext E0);have HT:=lh (ht.ext E0);clear ht hl;go_enter Tryz.func152,Tryz.ntmps152
 go_upto_region 1 with fail
 obtain⟨gx,hgx⟩:∃gx,gx=w.heap.size:=⟨_,rfl⟩
 rw[<-hgx] at B0 ⊢;clear hgx;generalize w.alloc (.cells #[.int .i64 n.op,.slice n.A n.l.length n.c,.slice n.K n.ks.length n.kc,.int .i64 n.mn,.int .i64 n.mx,.int .i64 n.md,.int .i64 n.n,.bool n.neg,.int .i64 gr,.bool rn] 63)=wa at *;have HV:=lh (zvalid_any bd _ d wa n gr rn HT.out A c ts HL.out fuel);have z0:=B0.cell 0;have z1:=B0.cell 1;have z2:=B0.cell 2;have z3:=B0.cell 3;have z4:=B0.cell 4;have z5:=B0.cell 5;have z6:=B0.cell 6;have z7:=B0.cell 7;have z8:=B0.cell 8;have z9:=B0.cell 9
 go_upto_region 2 with(go_at_call 215;refine HV.out.mono ?_;rintro e w3 ⟨x,rfl,x3⟩)
 have HB3:=lh (B0.ext x3);have HL3:=lh (HL.out.ext x3);have HT3:=lh (HT.out.ext x3);have HX3:=lh (E0.trans x3);clear z0 z1 z2 z3 z4 z5 z6 z7 z8 z9 HV HT HL E0 B0 x3;by_cases hx:x=0
 ·have hx0:(x != 0)=false:=by simp[hx]
  have h0i:¬(i:Int)<0:=om;have hti:¬(ts.length:Int)<(i:Int):=om;have ES:=Ext.alloc w3 (.cells #[.slice A ts.length c,.int .i64 most,.int .i64 fuel,.int .i64 0,.bool false,.slice none 0 0,.slice none 0 0] 341);have BS:=Blk.new w3 341 #[.slice A ts.length c,.int .i64 most,.int .i64 fuel,.int .i64 0,.bool false,.slice none 0 0,.slice none 0 0]
  go_upto_region 7 with fail
  obtain⟨gs,hgs⟩:∃gx,gx=w3.heap.size:=⟨_,rfl⟩
  rw[<-hgs] at BS ⊢;have hgsl:w3.heap.size<=gs:=om;have hgx3:=HB3.out.lt;have hne:gx≠gs:=om;clear hgs;generalize w3.alloc (.cells #[.slice A ts.length c,.int .i64 most,.int .i64 fuel,.int .i64 0,.bool false,.slice none 0 0,.slice none 0 0] 341)=w4 at *;have B4:=HB3.out.ext ES;have HZL:Hid (zL w4 gs=[gs]):=lh (by unfold zL;rw[BS.cell 5,BS.cell 6];rfl);have HS4:Hid (SrM w4 w3.heap.size gs A ts.length c most fuel 0 false 0):=lh ⟨⟨none,0,[],none,0,[],by simpa using BS,OwnS.nil _ _ _ _,OwnS.nil _ _ _ _,rfl,rfl,by simp,by simp⟩,hgsl⟩;have hgl4:=BS.lt;have q0:=fun(w':World) (h:Kp [gs] w4 w')=>h.cell (B4.cell 0) (by simp[hne]);have q1:=fun(w':World) (h:Kp [gs] w4 w')=>h.cell (B4.cell 1) (by simp[hne]);have q2:=fun(w':World) (h:Kp [gs] w4 w')=>h.cell (B4.cell 2) (by simp[hne]);have q3:=fun(w':World) (h:Kp [gs] w4 w')=>h.cell (B4.cell 3) (by simp[hne]);have q4:=fun(w':World) (h:Kp [gs] w4 w')=>h.cell (B4.cell 4) (by simp[hne]);have q5:=fun(w':World) (h:Kp [gs] w4 w')=>h.cell (B4.cell 5) (by simp[hne]);have q6:=fun(w':World) (h:Kp [gs] w4 w')=>h.cell (B4.cell 6) (by simp[hne]);have q7:=fun(w':World) (h:Kp [gs] w4 w')=>h.cell (B4.cell 7) (by simp[hne]);have q8:=fun(w':World) (h:Kp [gs] w4 w')=>h.cell (B4.cell 8) (by simp[hne]);have HES:=lh ES;clear ES BS B4;refine Xr.start [gs] kr ?_;refine Xtk 0 ?_
  iterate 3(refine Xtn ?_)
  refine Xtk 5 ?_
  iterate 2(refine Xtn ?_)
  refine Xr.lazy 4 41 9 (fun g=>.pointer (some ⟨g,0,none⟩)) 345 (goalC 0 n 0 0 none) rfl (by simpa using hgl4) dK si (fun w'=>by go_simp;rfl) ?_;refine Xcl 8 fun w5 hE5 hK5 K hKK=>?_;go_simp;refine(zbare_any gr om w5).mono ?_;rintro e w6 ⟨cA,cc,cl,rfl,hcl,hc6,x6⟩;refine hKK _ _ x6 ?_;clear hKK;refine ptm ?_;refine Xr.stepZ rfl dK (fun _=>by rfl) (fun w7 g7 hE7 hK7 hg7 hB7 hno K hKK=>?_);have x47:=hE5.trans (x6.trans hE7);have HON:GoalAt bd w3 w7 ((0:Nat):Int) 1 (some g7):=GoalAt.mk g7 0 0 0 n d hB7 HT3.out (.inl rfl) (by simp[I64]) .nil;have HR8:=run_all bd w3 gs A ts c HL3.out most fuel om om hbd fuel 0 om om w7 (some g7) 1 i cA cc cl 0 (HES.out.trans x47) (HS4.out.ext x47) HON hi (hc6.ext hE7) om om;rw[hcl] at HR8;go_simp;refine HR8.mono ?_;rintro e w8 h8;obtain⟨b8,rfl⟩:=h8.val;have ezl:zL w7 gs=[gs]:=(zL_ext x47 hgl4).trans HZL.out;refine hKK _ _ (h8.zf.wi ezl) (hK7.trans (h8.zf.kpL ezl)) ?_;clear hKK HR8;refine ptm ?_;refine Xdn fun w9 hE9 hK9=>?_;have HF:=lh (h8.ext hE9);clear h8 hE9 hK9 hK7 hE7 hB7 hno HON x47 ezl hE5 hK5 x6 hc6;obtain⟨b9,st',em,ns',hb9,HSf,HXf,HZf,h4,h5,h6,h7⟩:=HF.out;obtain⟨⟨eA,ec,ends,kA,kc,cps,BF,HE,HK,el1,el2,HEI,HKS⟩,_⟩:=HSf;have f3:w9.cell? ⟨gs,3,none⟩=some (.int .i64 st'):=BF.cell 3;have f4:w9.cell? ⟨gs,4,none⟩=some (.bool em):=BF.cell 4;have f5:w9.cell? ⟨gs,5,none⟩=some (.slice eA ends.length ec):=BF.cell 5;have f6:w9.cell? ⟨gs,6,none⟩=some (.slice kA cps.length kc):=BF.cell 6;cases em
  ·have hx9:=HX3.out.trans HXf;have hel:ends.length<=10000000:=om;have hkl2:ends.length=cps.length:=om;have HKL:=lh hkl2;have HEL:=lh (⟨el1,el2⟩:ends.length=ns'/\cps.length=ns');clear el1 el2 hkl2 h4 h5 h6 h7;have HEs:=lh (IL.of_own HE HEI);have HEo:=lh HE;have HKo:=lh HK;have HKs:=lh HKS;have HBF:=lh BF;clear HE HK HEI HKS BF
   go_upto_region 12 with fail
   go_loopw [16,15] (fun v16 v15 wr=>∃(j:Nat) (A5:Option Addr) (c5:Nat) (xs:List Value),v16=.int .i64 j/\v15=.slice A5 j c5/\j<=ends.length/\Hid (OwnS wr w9.heap.size 56 3 A5 j c5 xs)/\Ext w9 wr) (fun v _ _=>ends.length-(intOf v).toNat)
   case atStart=>exact⟨0,none,0,[],rfl,rfl,om,lh (OwnS.nil _ _ _ _),Ext.rfl' _⟩
   case round=>
    obtain⟨j,A5,c5,xs,rfl,rfl,hj,HO,x1⟩:=hrel;have hcc:=OwnS.caps HO.out;have f5r:=x1.cell f5;have f6r:=x1.cell f6;have f3r:=x1.cell f3;have HB9r:=lh (HBF.out.ext x1);by_cases hjl:j<ends.length
    ·have hjI:(j:Int)<(ends.length:Int):=om;have hjk:j<cps.length:=by have:=HKL.out;omega
     have hjkI:(j:Int)<(cps.length:Int):=om;obtain⟨eb,eo,heA,ecell⟩:=HEs.out.get hjl;obtain⟨kb,ko,hkA,kcell⟩:=OwnS.cells HKo.out (by intro e;rw[e] at hjk;simp at hjk);have kcj:=kcell j hjk;obtain⟨vA,vn,vc,hv⟩:=HKs.out cps[j] (List.getElem_mem hjk);rw[hv] at kcj;have ecr:=x1.cell ecell;have kcr:=x1.cell kcj;have HEA:=lh heA;have HKA:=lh hkA;rw[HEA.out] at f5r;rw[HKA.out] at f6r;generalize ends[j]=ev at *;have q5:=fun(w':World) (h:Kp (blkL A5) wr w')=>h.cell f5r (fun hm=>own_blk HO.out HB9r.out de (mem_blkL.1 hm));have q6:=fun(w':World) (h:Kp (blkL A5) wr w')=>h.cell f6r (fun hm=>own_blk HO.out HB9r.out de (mem_blkL.1 hm));have qe:=fun(w':World) (h:Kp (blkL A5) wr w')=>h.cell ecr (fun hm=>own_apart HO.out (OwnS.ext HEo.out x1) de eb (mem_blkL.1 hm) (by rw[HEA.out];rfl));have qk:=fun(w':World) (h:Kp (blkL A5) wr w')=>h.cell kcr (fun hm=>own_apart HO.out (OwnS.ext HKo.out x1) de kb (mem_blkL.1 hm) (by rw[HKA.out];rfl));have HLB:Hid (∀b∈blkL A5,b<wr.heap.size):=lh (fun b hb=>(OwnS.blt HO.out (mem_blkL.1 hb)).1);clear heA hkA kcell kcj hv
     go_upto_region 14 with fail
     refine Xr.start (blkL A5) kr ?_;refine Xtk 0 ?_
     iterate 16(refine Xtn ?_)
     refine Xr.lazy 17 77 18 (fun g=>.slice (some ⟨g,0,none⟩) 1 1) 56 #[.int .i64 i,.int .i64 ev,.slice vA vn vc] rfl HLB.out dK si (fun w'=>by go_simp) ?_;refine Xr.stepZ rfl dK (fun _=>by rfl) (fun w12 g12 hE12 hK12 hg12 hB12 hno K hKK=>?_);refine wp_app _ _ _ _ rfl w9.heap.size 56 iM _ 3 40 Tryz.underlying51 jM0 jM1 jM2 jM3 rfl om A5 j c5 xs rfl (OwnS.ext HO.out hE12) _ 1 1 [.int .i64 i,.int .i64 ev,.slice vA vn vc] rfl rfl (blk_cells hB12) (by intro u hu;simp only[List.mem_cons,List.not_mem_nil,or_false] at hu;rcases hu with rfl|rfl|rfl<;>rfl) um om (by have:=x1.size;have:=hE12.size;omega) ?_;intro A8 c8 w13 ho8 hg8 hat8;refine hKK _ _ (WI_grown hg8 (fun i hi=>.inl (mem_blkL.2 hi))) (hK12.grownL hg8 (fun i hi=>.inl (mem_blkL.2 hi))) ?_;clear hKK;refine ptm ?_;refine Xtk 19 ?_;refine Xdn fun w14 hE14 hK14=>?_;have HO14:=lh (OwnS.ext ho8 hE14);have x14:=hK14.to_ext x1 (fun g hg=>OwnS.row HO.out g (mem_blkL.1 hg));clear ho8 hg8 hat8 hE14 hK14 hK12 hE12 hB12 hno q5 q6 qe qk f5r f6r f3r ecr kcr
     go_wp2_with fail
     go_roundw
     case rel=>exact⟨j+1,A8,c8,_,by go_num,rfl,om,HO14,x14⟩
     case measure=>simp[intOf];omega
    ·have hjI:¬(j:Int)<(ends.length:Int):=om
     go_wp2_with (go_quiet (fail))
     go_ret3
     exact⟨A5,j,c5,st',0,rfl,(hx9.trans x1).trans (Ext.drewN _ _)⟩
  ·go_wp2_with fail
   go_ret3
   exact⟨none,0,0,0,11,rfl,HX3.out.trans HXf⟩
 ·have hx1:(x != 0)=true:=by simp[hx]
  go_wp2_with fail
  go_ret3
  exact⟨none,0,0,0,x,rfl,HX3.out⟩
end
end Go.Proofs.YtmgpefenkilffaaGreat
