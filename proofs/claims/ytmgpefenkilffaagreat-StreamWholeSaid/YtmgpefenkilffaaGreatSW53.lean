/- Texts of this proof: SW6 VK VJ. -/
import Derived.Test.YtmgpefenkilffaaGreatSW49
import Derived.Test.YtmgpefenkilffaaGreatSW52
set_option linter.all false
set_option maxRecDepth 100000
set_option maxHeartbeats 16000000
namespace Go.Proofs.YtmgpefenkilffaaGreat
section
open Go.RowKit
attribute [local go_sem ↓] Go.wp_at_zero Go.wp_at_succ
theorem streamWhole_any (hlv:∀w,Calls Tryz.prog 22 #[] w (RetV (.bool true) w))(w:World)(LA:Option Addr)(lc:Nat)(ls:List Int)(MA:Option Addr)(mc:Nat)(ms:List Int)(CA:Option Addr)(cc:Nat)(cs:List Int)(kd:Bool)(hl:IL w LA lc ls)(hm:IL w MA mc ms)(hc:IL w CA cc cs) :
 Calls Tryz.prog 4 #[.slice LA ls.length lc,.slice MA ms.length mc,.slice CA cs.length cc,.bool kd] w (RetV (.bool true) w):=by
 have HLV:=lh hlv;have HM:=lh hm;have HC:=lh hc;have hcl:=hc.len;have HPG:=lh (sProgram_any w LA lc ls MA mc ms kd hl hm);clear hl hm hc hlv;go_enter Tryz.func4,Tryz.ntmps4
 go_upto_region 1 with fail
 go_upto_region 2 with(go_at_call 11;refine HPG.out.mono ?_;rintro e w1 ⟨PA,pc,hs,caps,rn,rfl,hp,hg,x1⟩)
 have HP1:=lh hp;have HG:=lh hg;have BP:=Blk.new w1 25 #[.slice PA hs.length pc,.int .i64 caps,.bool rn];have EP:=Ext.alloc w1 (.cells #[.slice PA hs.length pc,.int .i64 caps,.bool rn] 25);have X2:=lh (x1.trans EP);have HP2:=lh (hp.ext EP);clear hp hg x1 HP1 HPG;obtain⟨g9,hg9⟩:∃g,g=w1.heap.size:=⟨_,rfl⟩
 rw[<-hg9] at BP ⊢;clear hg9 EP;generalize w1.alloc (.cells #[.slice PA hs.length pc,.int .i64 caps,.bool rn] 25)=w2 at *;obtain⟨z0,z1,z2,_⟩:=BP.c3;have HSY:=lh (sSymbols_any w2 PA hs.length pc caps rn MA mc ms (HM.out.ext X2.out))
 go_upto_region 3 with(go_at_call 12;refine HSY.out.mono ?_;rintro e w3 ⟨TA,tc,ts,rfl,hto,hti,hta,htl,x3⟩)
 have HTI:=lh (IL.of_own hto hti);have HTA:=lh hta;have X3:=lh (X2.out.trans x3);have HP3:=lh (HP2.out.ext x3);have HB3:=lh (BP.ext x3);have hcapT:=OwnS.caps hto;have HTS:=lh (show SomeA TA tc by
  rcases OwnS.form hto with⟨h1,_,h2,_⟩|⟨g,cur,h1,_⟩
  ·exact .inl ⟨h1,h2⟩
  ·exact .inr ⟨g,0,h1⟩)
 clear hto hti hta z0 z1 z2 BP HSY HP2 X2 x3;obtain⟨z0,z1,z2,_⟩:=HB3.out.c3;have HOW:=lh (sOwn_any w3 PA pc hs caps rn HP3.out (by have:=HG.out.len;omega))
 go_wp2_with fail
 refine HOW.out.mono ?_;rintro e w5 ⟨A5,c5,rfl,hp5,x5⟩;have X5:=lh (X3.out.trans x5);have HT5:=lh (HTI.out.ext x5);have HP5:=lh (HP3.out.ext x5);have HB5:=lh (HB3.out.ext x5);have HQ5:=lh hp5;have HPC:=lh (sPieces_any w5 TA tc ts CA cc cs HT5.out HTS.out (HC.out.ext X5.out) om);clear X3 HTI HP3 HB3 HOW z0 z1 z2 hp5 x5
 go_wp2_with fail
 refine HPC.out.mono ?_;rintro e w6 ⟨KA,kc,ps,rfl,hko,hki,hkt,hkl,x6⟩;have X6:=lh (X5.out.trans x6);have HT6:=lh (HT5.out.ext x6);have HP6:=lh (HP5.out.ext x6);have HB6:=lh (HB5.out.ext x6);have HAL:=lh (sAll_any w6 A5 c5 hs rn caps HG.out.ok (HQ5.out.ext x6) HG.out.sz HG.out.gd KA kc ps (own_base0 hko) hki ts hkt HTA.out htl hkl);unfold progV at HAL;clear X5 HT5 HP5 HB5 HQ5 HPC hko hki hkt hkl x6
 go_wp2_with fail
 refine HAL.out.mono ?_;rintro e w7 ⟨GA,gc,rfl,hsl,x7⟩;have X7:=lh (X6.out.trans x7);have HT7:=lh (HT6.out.ext x7);have HP7:=lh (HP6.out.ext x7);have HB7:=lh (HB6.out.ext x7);have HSL:=lh hsl;clear X6 HT6 HP6 HB6 HAL hsl x7
 go_upto_region 4 with fail
 obtain⟨z0,z1,z2,_⟩:=HB7.out.c3;have HOW:=lh (sOwn_any w7 PA pc hs caps rn HP7.out (by have:=HG.out.len;omega))
 go_wp2_with fail
 refine HOW.out.mono ?_;rintro e w8 ⟨A8,c8,rfl,hp8,x8⟩;have X8:=lh (X7.out.trans x8);have HEV:=lh (every_any w8 A8 c8 hs caps rn TA tc ts HG.out.ok HG.out.ok.progE0 hp8 (HT7.out.ext x8) om);unfold progV at HEV;have HSL8:=lh (HSL.out.ext x8);clear X7 HT7 HP7 HB7 HOW HSL z0 z1 z2 hp8 x8
 go_wp2_with fail
 refine HEV.out.mono ?_;rintro e w9 ⟨EA,ec,us,rfl,hev,heo,x9⟩;have X9:=lh (X8.out.trans x9);have HSL9:=lh (HSL8.out.ext x9);have HEO:=lh heo
 rw[<-hev] at HSL9
 rw[<-hev];have hll:(us.map Mt.se).length=us.length:=List.length_map ..;rw[hll];have hgc1:=HSL9.out.len;have hec1:=OwnS.caps heo;rw[hll] at hgc1;clear hev heo x9 HEV X8 HSL8 hll
 go_upto_region 8 with fail
 go_loopw [15] (fun v wr=>∃i:Nat,v=.int .i64 i/\i<=us.length/\Hid (Ext w9 wr)) (fun v _=>us.length-(intOf v).toNat)
 case atStart=>exact⟨0,rfl,Nat.zero_le _,lh (Ext.rfl' _)⟩
 case round=>
  obtain⟨i,rfl,hi,XR⟩:=hrel;by_cases hlt:i<us.length
  ·have hltI:(i:Int)<(us.length:Int):=om;obtain⟨gb,go_,hGA,g0,g1⟩:=(HSL9.out.ext XR.out).get (k:=i) (by simpa using hlt);have hse:(us.map Mt.se)[i]'(by simpa using hlt)=(us[i].st,us[i].en):=by rw[List.getElem_map];rfl
   rw[hse] at g0 g1;obtain⟨eb,eo,hEA,hec⟩:=OwnS.cells (OwnS.ext HEO.out XR.out) (by intro e;have:=flatMt_len us;rw[e] at this;simp at this;omega);have hfl:=flatMt_len us;obtain⟨f0,f1⟩:=flatMt_get us i hlt;have one:∀(k:Nat) (v:Value),(flatMt us)[k]? = some v->wr.cell? ⟨eb,eo+k,none⟩=some v:=fun k v hv=>by
    obtain⟨hk,e⟩:=List.getElem?_eq_some_iff.1 hv
    rw[<-e];exact hec k hk
   have e0:=one _ _ f0;have e1:wr.cell? ⟨eb,eo+i*3+1,none⟩=some (.int .i64 us[i].en):=by rw[Nat.add_assoc];exact one _ _ f1
   clear one f0 f1 hec hfl hse;subst hGA hEA;generalize us[i]=u at *;obtain⟨st,en,uA,un,uc⟩:=u
   simp only at g0 g1 e0 e1
   have d0:=kc0 g0;have d1:=kc0 g1;have d2:=kc0 e0;have d3:=kc0 e1;clear g0 g1 e0 e1
   go_upto_region 10 with fail
   refine Xr.start [] kr ?_;refine Xtk 0 ?_
   iterate 11(refine Xtn ?_)
   iterate 11(first|refine Xtn ?_|refine Xsn ?_)
   refine Xtn ?_;refine Xdn fun w3 hE3 hK3=>?_;have X3:=lh (XR.out.trans hK3.nil);clear d0 d1 d2 d3 hE3 hK3
   go_wp2_with fail
   go_roundw
   case rel=>exact⟨i+1,by go_num,om,X3⟩
   case measure=>simp[intOf];omega
  ·have hle:¬(i:Int)<(us.length:Int):=om;have HL:=lh (HLV.out wr)
   go_wp2_with (go_at_call 22;refine HL.out.mono ?_;rintro e wf ⟨rfl,xf⟩)
   have HF:=lh ((X9.out.trans XR.out).trans xf);go_ret
   exact⟨rfl,HF.out⟩
end
section
open Go.RowKit
theorem ins_of {hs:List Hin}{G:List Ins}(h:insL hs=G){P:List Sp->Prop}(hP:∀i∈G,P i.set):∀z∈hs,P z.l:=fun z hz=>by
 have h1:z.ins∈G:=by rw[<-h];unfold insL;exact List.mem_map_of_mem hz
 exact hP _ h1
theorem one_valid {x:Int}(h:0<=x/\x<=255):validE [(x,x)]=0:=validE_zeroV (okL_one (by unfold goodS;simp only;omega)) si
theorem gok_plus:GOk false 0 gPlus:=by
 have h1:=one_valid (x:=97) om;refine⟨by simp[gPlus],om,fun k hk=>?_,fun _=>.inl rfl,fun k hk=>?_⟩
 ·have:k=0\/k=1\/k=2\/k=3\/k=4:=by simp[gPlus] at hk;omega
  rcases this with rfl|rfl|rfl|rfl|rfl<;>simp[gPlus,InsOk,h1,topV]
 ·have:k=0\/k=1\/k=2\/k=3\/k=4:=by simp[gPlus] at hk;omega
  rcases this with rfl|rfl|rfl|rfl|rfl<;>simp[gPlus]
theorem gok_alt:GOk false 0 gAlt:=by
 have h1:=one_valid (x:=97) om;have h2:=one_valid (x:=98) om;refine⟨by simp[gAlt],om,fun k hk=>?_,fun _=>.inl rfl,fun k hk=>?_⟩
 ·have:k=0\/k=1\/k=2\/k=3\/k=4\/k=5:=by simp[gAlt] at hk;omega
  rcases this with rfl|rfl|rfl|rfl|rfl|rfl<;>simp[gAlt,InsOk,h1,h2,topV]
 ·have:k=0\/k=1\/k=2\/k=3\/k=4\/k=5:=by simp[gAlt] at hk;omega
  rcases this with rfl|rfl|rfl|rfl|rfl|rfl<;>simp[gAlt]
theorem plus_small:∀i∈gPlus,i.set.length<=40/\∀s∈i.set,-1000000000<=s.1/\s.1<=1000000000/\-1000000000<=s.2/\s.2<=1000000000:=by
 intro i hi;simp only[gPlus,List.mem_cons,List.not_mem_nil,or_false] at hi;rcases hi with rfl|rfl|rfl|rfl|rfl<;>simp
theorem alt_small:∀i∈gAlt,i.set.length<=40/\∀s∈i.set,-1000000000<=s.1/\s.1<=1000000000/\-1000000000<=s.2/\s.2<=1000000000:=by
 intro i hi;simp only[gAlt,List.mem_cons,List.not_mem_nil,or_false] at hi;rcases hi with rfl|rfl|rfl|rfl|rfl|rfl<;>simp
end
section
open Go.RowKit
attribute [local go_sem ↓] Go.wp_at_zero Go.wp_at_succ
theorem RsL_caps {w:World}{A:Option Addr}{c:Nat}{R:List (Int×Int)}(h:RsL w A c R):R.length<=c/\c<=9223372036854775807:=OwnS.caps h
theorem sl_lit {w:World}{g T:Nat}{l:List Sp}{n:Nat}(hb:Blk w g T (flatS l).toArray)(hn:n=l.length)(hl:l.length<=100)(hr:∀s∈l,S64 s):SL w (some ⟨g,0,none⟩) n l:=by
 subst hn;have h:=OwnS.of_blk (base:=0) (size:=2) (n:=l.length) (c:=l.length) hb (Nat.zero_le _) (by simp[flatS_len]) (Nat.le_refl _) um;exact SL.of_ownT (by simpa[List.take_of_length_le,flatS_len] using h) hr
theorem sl_lit2 {w:World}{g T:Nat}(hb:Blk w g T #[.int .i64 0,.int .i64 2,.int .i64 1,.int .i64 2]):SL w (some ⟨g,0,none⟩) 2 [(0,2),(1,2)]:=
 sl_lit (l:=[(0,2),(1,2)]) hb rfl de (by intro s hs;simp only[List.mem_cons,List.not_mem_nil,or_false] at hs;rcases hs with rfl|rfl<;>exact⟨by unfold I64;simp,by unfold I64;simp⟩)
theorem sl_lit1 {w:World}{g T:Nat}(hb:Blk w g T #[.int .i64 0,.int .i64 1]):SL w (some ⟨g,0,none⟩) 1 [(0,1)]:=
 sl_lit (l:=[(0,1)]) hb rfl de (by intro s hs;simp only[List.mem_cons,List.not_mem_nil,or_false] at hs;subst hs;exact⟨by unfold I64;simp,by unfold I64;simp⟩)
theorem sLives_any (hcp:CmpP)(hca:CmpA)(w:World):Calls Tryz.prog 22 #[] w (RetV (.bool true) w):=by
 have HCP:=lh hcp;have HCA:=lh hca;clear hcp hca;have HL1:=lh (letter_any w 97);go_enter Tryz.func22,Tryz.ntmps22
 go_upto_region 2 with(go_at_call 73;refine HL1.out.mono ?_;rintro e w1 ⟨sb,he,hsb,x1⟩;have he2:e=.returned (.agg (ndL sb 97).cs.toArray):=he;subst he2;clear he;simp only[ndL,Nd.cs,List.length_cons,List.length_nil])
 change Code.wp _ _ _ _ (w1.alloc (.cells (ndL sb 97).cs.toArray 61));have E1:=Ext.alloc w1 (.cells (ndL sb 97).cs.toArray 61);have B1:=Blk.new w1 61 (ndL sb 97).cs.toArray;have HSB:=lh (hsb.ext E1);have X2:=lh (x1.trans E1);obtain⟨g1,hg1⟩:∃g,g=w1.heap.size:=⟨_,rfl⟩
 rw[<-hg1] at B1 ⊢;clear hg1 E1 hsb x1 HL1;generalize w1.alloc (.cells (ndL sb 97).cs.toArray 61)=w2 at *;have HB1:=lh B1;obtain⟨n0,n1,n2,n3,n4,n5,n6,n7⟩:=nd_cells B1;simp only[ndL,List.length_cons,List.length_nil,Nat.zero_add] at n0 n1 n2 n3 n4 n5 n6 n7;have EK:=Ext.alloc w2 (.cells (ndL sb 97).cs.toArray 61);have BK:=Blk.new w2 61 (ndL sb 97).cs.toArray;have HC:=lh (HCP.out _ w2.heap.size sb BK (HSB.out.ext EK));clear B1
 go_upto_region 3 with(go_at_call 27;refine HC.out.mono ?_;rintro e w3 ⟨PA,pc,hs,rfl,hin,hp,x3⟩)
 have EP:=Ext.alloc w3 (.cells #[.slice PA hs.length pc,.int .i64 0,.bool false] 35);have BP:=Blk.new w3 35 #[.slice PA hs.length pc,.int .i64 0,.bool false];have X4:=lh (X2.out.trans (EK.trans (x3.trans EP)));have HP4:=lh (hp.ext EP);have HI1:=lh hin;have HB4:=lh (HB1.out.ext (EK.trans (x3.trans EP)));have HSB4:=lh (HSB.out.ext (EK.trans (x3.trans EP)));obtain⟨g2,hg2⟩:∃g,g=w3.heap.size:=⟨_,rfl⟩
 rw[<-hg2] at BP ⊢;clear hg2 n0 n1 n2 n3 n4 n5 n6 n7 EK BK HC hin hp x3 HB1 HSB X2 EP;generalize w3.alloc (.cells #[.slice PA hs.length pc,.int .i64 0,.bool false] 35)=w4 at *;have HBP:=lh BP;clear BP;obtain⟨n0,n1,n2,n3,n4,n5,n6,n7⟩:=nd_cells HB4.out;simp only[ndL,List.length_cons,List.length_nil,Nat.zero_add] at n0 n1 n2 n3 n4 n5 n6 n7;have m0:=kc0 n0;have m1:=kc0 n1;have m2:=kc0 n2;have m3:=kc0 n3;have m4:=kc0 n4;have m5:=kc0 n5;have m6:=kc0 n6;have m7:=kc0 n7;refine Xr.start [] kr ?_;refine Xtk 0 ?_;refine Xtn ?_;refine Xr.lazy 12 4 13 (fun g=>.pointer (some ⟨g,0,none⟩)) 35 #[.slice none 0 0,.int .i64 0,.bool false] rfl si dK si (fun w'=>by go_simp) ?_;refine Xcl 2 fun w5 hE5 hK5 K hKK=>?_;go_simp;refine(letter_any w5 98).mono ?_;rintro en w6 ⟨sc,he,hsc,x6⟩;have he2:en=.returned (.agg #[.int .i64 1,.slice (some ⟨sc,0,none⟩) 1 1,.slice none 0 0,.int .i64 0,.int .i64 0,.int .i64 0,.int .i64 0,.bool false]):=he;subst he2;clear he;refine hKK _ _ x6 ?_;clear hKK;refine ptm ?_;have HSC6:=lh hsc;refine Xcl 3 fun w7 hE7 hK7 K hKK=>?_;have EKC:=Ext.alloc w7 (.cells #[.int .i64 1,.slice (some ⟨sb,0,none⟩) 1 1,.slice none 0 0,.int .i64 0,.int .i64 0,.int .i64 0,.int .i64 0,.bool false,.int .i64 1,.slice (some ⟨sc,0,none⟩) 1 1,.slice none 0 0,.int .i64 0,.int .i64 0,.int .i64 0,.int .i64 0,.bool false] 61);have BKC:=Blk.new w7 61 #[.int .i64 1,.slice (some ⟨sb,0,none⟩) 1 1,.slice none 0 0,.int .i64 0,.int .i64 0,.int .i64 0,.int .i64 0,.bool false,.int .i64 1,.slice (some ⟨sc,0,none⟩) 1 1,.slice none 0 0,.int .i64 0,.int .i64 0,.int .i64 0,.int .i64 0,.bool false]
 go_simp;refine hKK _ _ EKC ?_;clear hKK;obtain⟨kc,hkc⟩:∃g,g=w7.heap.size:=⟨_,rfl⟩
 rw[<-hkc] at BKC ⊢;clear hkc;have HSC8:=lh ((HSC6.out.ext hE7).ext EKC);generalize w7.alloc (.cells #[.int .i64 1,.slice (some ⟨sb,0,none⟩) 1 1,.slice none 0 0,.int .i64 0,.int .i64 0,.int .i64 0,.int .i64 0,.bool false,.int .i64 1,.slice (some ⟨sc,0,none⟩) 1 1,.slice none 0 0,.int .i64 0,.int .i64 0,.int .i64 0,.int .i64 0,.bool false] 61)=w8 at *;have HKC8:=lh BKC;clear BKC HSC6;refine ptm ?_;refine Xtk 4 ?_;refine Xcl 5 fun w9 hE9 hK9 K hKK=>?_;have EKB:=Ext.alloc w9 (.cells #[.int .i64 1,.slice (some ⟨sb,0,none⟩) 1 1,.slice none 0 0,.int .i64 0,.int .i64 0,.int .i64 0,.int .i64 0,.bool false,.int .i64 2,.slice none 0 0,.slice (some ⟨kc,0,none⟩) 2 2,.int .i64 0,.int .i64 0,.int .i64 0,.int .i64 0,.bool false] 61);have BKB:=Blk.new w9 61 #[.int .i64 1,.slice (some ⟨sb,0,none⟩) 1 1,.slice none 0 0,.int .i64 0,.int .i64 0,.int .i64 0,.int .i64 0,.bool false,.int .i64 2,.slice none 0 0,.slice (some ⟨kc,0,none⟩) 2 2,.int .i64 0,.int .i64 0,.int .i64 0,.int .i64 0,.bool false];go_simp;refine hKK _ _ EKB ?_;clear hKK;obtain⟨kb,hkb⟩:∃g,g=w9.heap.size:=⟨_,rfl⟩
 rw[<-hkb] at BKB ⊢;clear hkb;have HSC10:=lh ((HSC8.out.ext hE9).ext EKB);have HKC10:=lh ((HKC8.out.ext hE9).ext EKB);generalize w9.alloc (.cells #[.int .i64 1,.slice (some ⟨sb,0,none⟩) 1 1,.slice none 0 0,.int .i64 0,.int .i64 0,.int .i64 0,.int .i64 0,.bool false,.int .i64 2,.slice none 0 0,.slice (some ⟨kc,0,none⟩) 2 2,.int .i64 0,.int .i64 0,.int .i64 0,.int .i64 0,.bool false] 61)=w10 at *;have HKB10:=lh BKB;clear BKB HSC8 HKC8;refine ptm ?_;refine Xtk 6 ?_;refine Xtn ?_;have HX10:=lh ((((((hE5.trans x6).trans hE7).trans EKC).trans hE9).trans EKB));clear EKC EKB hE5 x6 hE7 hE9;refine Xcl 8 fun w11 hE11 hK11 K hKK=>?_;have HCA11:=lh (HCA.out w11 kb kc sb sc (ndL sb 97).val (ndL sc 98).val (HKB10.out.ext hE11) (HKC10.out.ext hE11) (HSB4.out.ext (HX10.out.trans hE11)) (HSC10.out.ext hE11));go_simp;refine HCA11.out.mono ?_;rintro en w12 ⟨QA,qc,ks,rfl,hin2,hq,x12⟩;refine hKK _ _ x12 ?_;clear hKK;refine ptm ?_;refine Xtk 9 ?_
 iterate 2(refine Xtn ?_)
 have HQ12:=lh hq;have HI12:=lh hin2;clear hq hin2 HCA11 HKB10 HKC10 HSC10;refine Xr.stepZ rfl dK (fun _=>by rfl) (fun w13 g4 hE13 hK13 hg4 hB4 hno K hKK=>?_);have hbz:=hB4.lt;have s0:=hB4.frz 0;have s1:=hB4.frz 1;have s2:=hB4.frz 2;have t0:=hB4.cell 0;have t1:=hB4.cell 1;have t2:=hB4.cell 2;simp only[List.getElem?_toArray,List.getElem?_cons_succ,List.getElem?_cons_zero] at t0 t1 t2;go_simp;refine hKK _ _ (WI_set (WI_set (WI_set (WI_refl _ _ _) _ _) _ _) _ _) (((hK13.setN hg4 _ _).setN hg4 _ _).setN hg4 _ _) ?_;clear hKK;refine ptm ?_;refine Xtk 14 ?_;refine Xdn fun w14 hE14 hK14=>?_;have X14:=hK14.nil;have HB14:=lh (show Blk w14 g4 35 #[.slice QA ks.length qc,.int .i64 0,.bool false] by
  have h:=((hB4.set 0 (.slice QA ks.length qc)).set 1 (.int .i64 0)).set 2 (.bool false);have h2:=h.ext hE14
  simpa using h2)
 have HX14:=lh X14;have HQ14:=lh (show PL w14 QA qc ks from((HQ12.out.ext hE13).kp3V hB4 (setGp_kpp (p:=(·=g4)) (KpP.refl _ w13) rfl QA ks.length qc 0 false)).ext hE14);have HP14:=lh (HP4.out.ext X14);have HBP14:=lh (HBP.out.ext X14);have XW:=lh (X4.out.trans X14);clear HQ12 hB4 hno hK13 hg4 hbz s0 s1 s2 t0 t1 t2 hE13 hE14 hK14 X14 HX14 HP4 HBP X4 m0 m1 m2 m3 m4 m5 m6 m7 n0 n1 n2 n3 n4 n5 n6 n7 HB4 HSB4 HX10;obtain⟨z0,z1,z2,_⟩:=HBP14.out.c3;have HNW:=lh (snew_any PA pc hs false 0 (by rw[HI1.out];exact gok_plus) w14 HP14.out (ins_of (P:=fun l=>l.length<=40) HI1.out (fun i hi=>(plus_small i hi).1)) (ins_of (P:=fun l=>∀s∈l,-1000000000<=s.1/\s.1<=1000000000/\-1000000000<=s.2/\s.2<=1000000000) HI1.out (fun i hi=>(plus_small i hi).2)))
 go_wp2_with fail
 refine HNW.out.mono ?_;rintro e w16 ⟨gs1,q1,F1,rfl,hi1,hs1,hf1,x16,hck1⟩;have HS1:=lh (⟨hs1,fun b hb=>(hf1 b hb).2.2⟩:StT w16 F1 gs1 q1 false 0 0 [] false);have HI1':=lh (show insL q1.cd.hs=gPlus by rw[hi1,HI1.out]);have HF1:=lh (fun b hb=>(show w14.heap.size<=b by rcases(hf1 b hb).1 with h|h;exact h.elim;exact h):∀b,F1 b->w14.heap.size<=b);have HCK1:=lh hck1;have X16:=lh (XW.out.trans x16);have HQ16:=lh (HQ14.out.ext x16);have HB16:=lh (HB14.out.ext x16);have hs56:=x16.size;clear HP14 HBP14 z0 z1 z2 HNW hi1 hs1 hf1 hck1 HQ14 HB14 x16 HI1
 go_upto_region 5 with fail
 obtain⟨z0,z1,z2,_⟩:=HB16.out.c3;have HNW:=lh (snew_any QA qc ks false 0 (by rw[HI12.out];exact gok_alt) w16 HQ16.out (ins_of (P:=fun l=>l.length<=40) HI12.out (fun i hi=>(alt_small i hi).1)) (ins_of (P:=fun l=>∀s∈l,-1000000000<=s.1/\s.1<=1000000000/\-1000000000<=s.2/\s.2<=1000000000) HI12.out (fun i hi=>(alt_small i hi).2)))
 go_wp2_with fail
 refine HNW.out.mono ?_;rintro e w0 ⟨gs2,q2,F2',rfl,hi2,hs2,hf2,x8,hck2⟩;have X0:=lh (X16.out.trans x8);have hs78:=x8.size;have HF2:=lh (fun b hb=>(show w16.heap.size<=b by rcases(hf2 b hb).1 with h|h;exact h.elim;exact h):∀b,F2' b->w16.heap.size<=b);obtain⟨U,hU⟩:∃U:Nat->Prop,U=fun b=>F1 b\/F2' b\/w0.heap.size<=b:=⟨_,rfl⟩;have HU1:=lh (show ∀b,F1 b->U b by rw[hU];exact fun b h=>.inl h);have HU2:=lh (show ∀b,F2' b->U b by rw[hU];exact fun b h=>.inr (.inl h));have HUW:=lh (show ∀b,w0.heap.size<=b->U b by rw[hU];exact fun b h=>.inr (.inr h));have HUB:=lh (show ∀b,U b->w.heap.size<=b by
  rw[hU];intro b h;have a1:=XW.out.size;have a2:=X0.out.size;rcases h with h|h|h
  ·have:=HF1.out b h;omega
  ·have:=HF2.out b h;omega
  ·omega)
 have HC1:=lh (show ∀w',KpP U w0 w'->CdAt w' q1.gc q1.cd from fun w' kk=>HCK1.out w' (KpP.chain (KpP.of_ext x8) kk (fun b hu=>by
  rw[hU] at hu;rcases hu with h|h|h
  ·exact .inl (.inl h)
  ·exact .inr (HF2.out b h)
  ·exact .inr om)))
 have HC2:=lh (show ∀w',KpP U w0 w'->CdAt w' q2.gc q2.cd from fun w' kk=>hck2 w' (KpP.chain (KpP.refl _ w0) kk (fun b hu=>by
  rw[hU] at hu;rcases hu with h|h|h
  ·exact .inl (.inr (HS1.out.s.lt b h))
  ·exact .inl (.inl h)
  ·exact .inr h)))
 have HK0:=lh (KpP.refl U w0);have HS2:=lh (⟨hs2,fun b hb=>(hf2 b hb).2.2⟩:StT w0 F2' gs2 q2 false 0 0 [] false);have HI2':=lh (show insL q2.cd.hs=gAlt by rw[hi2,HI12.out]);have HD12:=lh (show ∀b,F1 b->¬F2' b from fun b h1 h2=>by have a1:=HS1.out.s.lt b h1;have a2:=HF2.out b h2;omega);have HS10:=lh (HS1.out.other (KpP.of_ext (p:=fun _=>False) x8) (fun b h=>h.elim) (fun w'' kk=>HCK1.out w'' (KpP.chain (KpP.of_ext x8) kk (fun b hb=>.inl (.inl hb)))));clear hU hi2 hs2 hf2 hck2 x8 X16 HCK1 HF1 HF2 HS1 HNW hs56 hs78 HI12 HQ16 HB16 z0 z1 z2;have HL1:=lh (show q1.cd.ls=lPlus from ls_known HS10.out.s.ok HI1'.out HS10.out.s.rn rfl plus_lead);have HL2:=lh (show q2.cd.ls=lAlt from ls_known HS2.out.s.ok HI2'.out HS2.out.s.rn rfl alt_lead)
 go_upto_region 8 with fail
 have EA:=Ext.alloc w0 (.cells #[.int .i64 97,.int .i64 97] 3);have BA:=Blk.new w0 3 #[.int .i64 97,.int .i64 97];have HS1a:=lh (HS10.out.other (KpP.of_ext (p:=fun _=>False) EA) (fun b h=>h.elim) (fun w'' kk=>HC1.out w'' (KpP.trans (KpP.of_ext EA) (kk.mono HU1.out))));have HS2a:=lh (HS2.out.other (KpP.of_ext (p:=fun _=>False) EA) (fun b h=>h.elim) (fun w'' kk=>HC2.out w'' (KpP.trans (KpP.of_ext EA) (kk.mono HU2.out))));have Ka:=lh (KpP.of_ext (p:=U) EA);have hga:∀b,F1 b->b<w0.heap.size:=HS10.out.s.lt;generalize hwa:w0.alloc (.cells #[.int .i64 97,.int .i64 97] 3)=wa at *;have HFD:=lh (show Calls Tryz.prog 16 #[.pointer (some ⟨gs1,0,none⟩),.slice (some ⟨w0.heap.size,0,none⟩) 2 2] wa (RetFd F1 gs1 q1 false 0 0 [] false [97,97] wa) from
  feed_any wa F1 gs1 q1 false 0 0 [] false HS1a.out.s (some ⟨w0.heap.size,0,none⟩) 2 [97,97] (fun w' kk=>IL.of_own (base:=0) (e:=3) (by
   have hb:=kk.blk BA (fun h=>Nat.lt_irrefl _ (hga _ h));have h:=OwnS.of_blk (n:=2) (c:=2) (size:=1) (base:=0) hb (Nat.zero_le _) si si um
   simpa[OwnI] using h) (by unfold I64;simp)) de de)
 go_upto_region 9 with(go_at_call 16;refine HFD.out.mono ?_;rintro e w8 ⟨A8,c8,R8,rfl,ho8⟩)
 obtain⟨t8,r8⟩:=ho8.t;have K8:=lh ((HK0.out.trans Ka.out).trans (ho8.kp.mono HU1.out));have HS2b:=lh (HS2a.out.other ho8.kp HD12.out (fun w'' kk=>HC2.out w'' (K8.out.trans (kk.mono HU2.out))));have HU1b:=lh (F2.sub (w:=wa) (w':=w8) HU1.out HUW.out Ka.out.size);have HD12b:=lh (F2.apart (w':=w8) HD12.out HS2a.out.s.lt);have eR8:R8=[]:=by
  have h:=ho8.pm;rw[HI1'.out,HL1.out] at h;have h2:(feedI gPlus (decL lPlus) [97,97] 0 [] false).2.Perm R8:=h;rw[plus_feed] at h2;exact List.nil_perm.1 h2
 have HS1b:=lh (show StT w8 (F2 wa w8 F1) gs1 q1 false 0 2 [⟨0,[2,4],2⟩,⟨1,[2,4],2⟩,⟨2,[0],-1⟩] true by
  have h:=t8;rw[HI1'.out,HL1.out] at h;have h2:StT w8 (F2 wa w8 F1) gs1 q1 false 0 2 (feedI gPlus (decL lPlus) [97,97] 0 [] false).1 true:=h;rw[plus_feed] at h2;exact h2)
 subst eR8;clear t8 r8 ho8 HFD HS10 HS2 HS1a HS2a HK0 Ka HD12 HU1 hga hwa BA EA;generalize F2 wa w8 F1=F1b at *;have HOP:=lh (show Calls Tryz.prog 18 #[.pointer (some ⟨gs1,0,none⟩)] w8 (RetV (.int .i64 3) w8) from open_any w8 F1b gs1 q1 false 0 2 _ true HS1b.out.s)
 go_upto_region 10 with(go_at_call 18;refine HOP.out.mono ?_;rintro e w9 ⟨rfl,x9⟩)
 have EB:=Ext.alloc w9 (.cells #[.int .i64 98] 3);have BB:=Blk.new w9 3 #[.int .i64 98];have XB:=x9.trans EB;have HS1c:=lh (HS1b.out.other (KpP.of_ext (p:=fun _=>False) XB) (fun b h=>h.elim) (fun w'' kk=>HC1.out w'' ((K8.out.trans (KpP.of_ext XB)).trans (kk.mono HU1b.out))));have HS2c:=lh (HS2b.out.other (KpP.of_ext (p:=fun _=>False) XB) (fun b h=>h.elim) (fun w'' kk=>HC2.out w'' ((K8.out.trans (KpP.of_ext XB)).trans (kk.mono HU2.out))));have Kb:=lh (K8.out.trans (KpP.of_ext (p:=U) XB));have hgb:∀b,F1b b->b<w9.heap.size:=fun b hb=>Nat.lt_of_lt_of_le (HS1b.out.s.lt b hb) x9.size;generalize hwb:w9.alloc (.cells #[.int .i64 98] 3)=wb at *;have HFD:=lh (show Calls Tryz.prog 16 #[.pointer (some ⟨gs1,0,none⟩),.slice (some ⟨w9.heap.size,0,none⟩) 1 1] wb (RetFd F1b gs1 q1 false 0 2 [⟨0,[2,4],2⟩,⟨1,[2,4],2⟩,⟨2,[0],-1⟩] true [98] wb) from
  feed_any wb F1b gs1 q1 false 0 2 _ true HS1c.out.s (some ⟨w9.heap.size,0,none⟩) 1 [98] (fun w' kk=>IL.of_own (base:=0) (e:=3) (by
   have hb:=kk.blk BB (fun h=>Nat.lt_irrefl _ (hgb _ h));have h:=OwnS.of_blk (n:=1) (c:=1) (size:=1) (base:=0) hb (Nat.zero_le _) si si um
   simpa[OwnI] using h) (by unfold I64;simp)) de de)
 clear HOP HS1b HS2b K8
 go_upto_region 11 with(go_at_call 16;refine HFD.out.mono ?_;rintro e w10 ⟨A10,c10,R10,rfl,ho10⟩)
 obtain⟨t10,r10⟩:=ho10.t;have HR10:=lh r10;have K10:=lh (Kb.out.trans (ho10.kp.mono HU1b.out));have HS2d:=lh (HS2c.out.other ho10.kp HD12b.out (fun w'' kk=>HC2.out w'' (K10.out.trans (kk.mono HU2.out))));have HU1d:=lh (F2.sub (w:=wb) (w':=w10) HU1b.out HUW.out Kb.out.size);have HD12d:=lh (F2.apart (w':=w10) HD12b.out HS2c.out.s.lt);have eR10:R10=[(0,2),(1,2)]:=by
  have h:=ho10.pm;rw[HI1'.out,HL1.out] at h;have h2:(feedI gPlus (decL lPlus) [98] 2 [⟨0,[2,4],2⟩,⟨1,[2,4],2⟩,⟨2,[0],-1⟩] true).2.Perm R10:=h;rw[plus_feed2] at h2;exact(sorted_uniq h2 de de ho10.so).symm
 have HS1d:=lh (show StT w10 (F2 wb w10 F1b) gs1 q1 false 0 3 [⟨3,[0],-1⟩] true by
  have h:=t10;rw[HI1'.out,HL1.out] at h;have h2:StT w10 (F2 wb w10 F1b) gs1 q1 false 0 3 (feedI gPlus (decL lPlus) [98] 2 [⟨0,[2,4],2⟩,⟨1,[2,4],2⟩,⟨2,[0],-1⟩] true).1 true:=h;rw[plus_feed2] at h2;exact h2)
 subst eR10;clear t10 r10 ho10 HFD HS1c HS2c Kb HD12b HU1b hgb hwb BB EB XB x9;generalize F2 wb w10 F1b=F1d at *;have HOP:=lh (show Calls Tryz.prog 18 #[.pointer (some ⟨gs1,0,none⟩)] w10 (RetV (.int .i64 1) w10) from open_any w10 F1d gs1 q1 false 0 3 _ true HS1d.out.s)
 go_upto_region 12 with(go_at_call 18;refine HOP.out.mono ?_;rintro e w11 ⟨rfl,x11⟩)
 have K11:=lh (K10.out.trans (KpP.of_ext (p:=U) x11));have HS1e:=lh (HS1d.out.other (KpP.of_ext (p:=fun _=>False) x11) (fun b h=>h.elim) (fun w'' kk=>HC1.out w'' (K11.out.trans (kk.mono HU1d.out))));have HS2e:=lh (HS2d.out.other (KpP.of_ext (p:=fun _=>False) x11) (fun b h=>h.elim) (fun w'' kk=>HC2.out w'' (K11.out.trans (kk.mono HU2.out))));have HR11:=lh (HR10.out.ext x11);have HCL:=lh (close_any w11 F1d gs1 q1 false 0 3 [⟨3,[0],-1⟩] true HS1e.out.s de);clear HOP HS1d HS2d K10 HR10 x11
 go_upto_region 13 with(go_at_call 19;refine HCL.out.mono ?_;rintro e w12 ⟨A12,c12,R12,rfl,ho12,hfr12,hso12,hpm12,hkp12⟩)
 have K12:=lh (K11.out.trans (hkp12.mono HU1d.out));have HS2f:=lh (HS2e.out.other hkp12 HD12d.out (fun w'' kk=>HC2.out w'' (K12.out.trans (kk.mono HU2.out))));have HR12:=lh (HR11.out.kp hkp12 HS1e.out.np);have eR12:R12=[]:=by
  have h2:([]:List (Int×Int)).Perm R12:=hpm12;exact List.nil_perm.1 h2
 subst eR12;clear HCL ho12 hfr12 hso12 hpm12 hkp12 HS1e HS2e HR11 K11 HD12d;have EC:=Ext.alloc w12 (.cells #[.int .i64 97] 3);have BC:=Blk.new w12 3 #[.int .i64 97];have HS2g:=lh (HS2f.out.other (KpP.of_ext (p:=fun _=>False) EC) (fun b h=>h.elim) (fun w'' kk=>HC2.out w'' ((K12.out.trans (KpP.of_ext EC)).trans (kk.mono HU2.out))));have HRg:=lh (HR12.out.ext EC);have Kc:=lh (K12.out.trans (KpP.of_ext (p:=U) EC));have hgc:∀b,F2' b->b<w12.heap.size:=HS2f.out.s.lt;generalize hwc:w12.alloc (.cells #[.int .i64 97] 3)=wc at *;have HFD:=lh (show Calls Tryz.prog 16 #[.pointer (some ⟨gs2,0,none⟩),.slice (some ⟨w12.heap.size,0,none⟩) 1 1] wc (RetFd F2' gs2 q2 false 0 0 [] false [97] wc) from
  feed_any wc F2' gs2 q2 false 0 0 [] false HS2g.out.s (some ⟨w12.heap.size,0,none⟩) 1 [97] (fun w' kk=>IL.of_own (base:=0) (e:=3) (by
   have hb:=kk.blk BC (fun h=>Nat.lt_irrefl _ (hgc _ h));have h:=OwnS.of_blk (n:=1) (c:=1) (size:=1) (base:=0) hb (Nat.zero_le _) si si um
   simpa[OwnI] using h) (by unfold I64;simp)) de de)
 clear HS2f K12 HR12
 go_upto_region 14 with(go_at_call 16;refine HFD.out.mono ?_;rintro e w13 ⟨A13,c13,R13,rfl,ho13⟩)
 have HR13:=lh ho13.t.2;have K13:=lh (Kc.out.trans (ho13.kp.mono HU2.out));have HRh:=lh (HRg.out.kp ho13.kp HS2g.out.np);have eR13:R13=[(0,1)]:=by
  have h:=ho13.pm;rw[HI2'.out,HL2.out] at h;have h2:(feedI gAlt (decL lAlt) [97] 0 [] false).2.Perm R13:=h;rw[alt_feed] at h2;exact(sorted_uniq h2 de de ho13.so).symm
 subst eR13;have HXX:=lh (show ∀wf,Ext w13 wf->Ext w wf from fun wf x=>X0.out.kp (K13.out.trans (KpP.of_ext (p:=U) x)) HUB.out);clear ho13 HFD HS2g HRg Kc hgc hwc BC EC HC1 HC2 HU2 HUW HUB HI1' HI2' HL1 HL2 HU1d X0 K13;have S12:∀s∈([(0,2),(1,2)]:List Sp),S64 s:=by intro s hs;simp only[List.mem_cons,List.not_mem_nil,or_false] at hs;rcases hs with rfl|rfl<;>exact⟨by unfold I64;simp,by unfold I64;simp⟩
 have S01:∀s∈([(0,1)]:List Sp),S64 s:=by intro s hs;simp only[List.mem_cons,List.not_mem_nil,or_false] at hs;subst hs;exact⟨by unfold I64;simp,by unfold I64;simp⟩
 have HM1:=fun(W:World) (x:Ext w13 W) (B:Option Addr) (hb:SL W B 2 [(0,2),(1,2)])=>lh (show Calls Tryz.prog 20 #[.slice A10 2 c10,.slice B 2 2] W (RetV (.bool true) W) by
  have h:=sSame_any A10 B c10 2 [(0,2),(1,2)] [(0,2),(1,2)] W ((HRh.out.ext x).sl S12) hb
  simpa using h)
 have HM2:=fun(W:World) (x:Ext w13 W) (B:Option Addr) (hb:SL W B 1 [(0,1)])=>lh (show Calls Tryz.prog 20 #[.slice A13 1 c13,.slice B 1 1] W (RetV (.bool true) W) by
  have h:=sSame_any A13 B c13 1 [(0,1)] [(0,1)] W ((HR13.out.ext x).sl S01) hb
  simpa using h)
 have hq:=RsL_caps HRh.out;have hq2:=RsL_caps HR13.out;simp only[List.length_cons,List.length_nil] at hq hq2
 go_upto_region 16 with fail
 have ED:=Ext.alloc w13 (.cells #[.int .i64 0,.int .i64 2,.int .i64 1,.int .i64 2] 54);have BD:=Blk.new w13 54 #[.int .i64 0,.int .i64 2,.int .i64 1,.int .i64 2];have HD1:=HM1 _ ED (some ⟨w13.heap.size,0,none⟩) (sl_lit2 BD);have HXD:=lh ED;clear BD ED HM1
 go_wp2_with fail
 refine HD1.out.mono ?_;rintro e w14 ⟨rfl,x14⟩;have EF:=Ext.alloc w14 (.cells #[.int .i64 0,.int .i64 1] 54);have BF:=Blk.new w14 54 #[.int .i64 0,.int .i64 1];have HXF:=lh ((HXD.out.trans x14).trans EF);have HD2:=HM2 _ HXF.out (some ⟨w14.heap.size,0,none⟩) (sl_lit1 BF);clear BF EF HM2 HD1 x14
 go_wp2_with fail
 refine HD2.out.mono ?_;rintro e w15 ⟨rfl,x15⟩;have HFN:=lh (HXX.out w15 (HXF.out.trans x15))
 go_wp2_with fail
 go_ret
 exact⟨rfl,HFN.out⟩
end
end Go.Proofs.YtmgpefenkilffaaGreat
