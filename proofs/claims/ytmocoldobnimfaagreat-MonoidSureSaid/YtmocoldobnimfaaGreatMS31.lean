/- Texts of this proof: Z8 Z9 ZA. -/
import Derived.Test.YtmocoldobnimfaaGreatMS23
import Derived.Test.YtmocoldobnimfaaGreatMS30
import Derived.OwnWalk
set_option linter.all false
set_option maxRecDepth 100000
set_option maxHeartbeats 16000000
namespace Go.Proofs.YtmocoldobnimfaaGreat
section
open Go.RowKit
attribute [local go_sem ↓] Go.wp_at_zero Go.wp_at_succ
theorem NB (bd:Nat)(S:Nat->Prop)(d:Nat)(w:World)(n:Nd)(gr:Int)(rn:Bool)(ht:Qx bd S w d n.val)(A:Option Addr)(c:Nat)(ts:List Int)(hl:IL w A c ts)(fuel:Int) :
 Calls Tryz.prog 150 #[.agg #[.int .i64 n.op,.slice n.A n.l.length n.c,.slice n.K n.ks.length n.kc,.int .i64 n.mn,.int .i64 n.mx,.int .i64 n.md,.int .i64 n.n,.bool n.neg,.int .i64 gr,.bool rn],.slice A ts.length c,.int .i64 fuel] w (AH w):=by
 have B0:=Blk.new w 28 #[.int .i64 n.op,.slice n.A n.l.length n.c,.slice n.K n.ks.length n.kc,.int .i64 n.mn,.int .i64 n.mx,.int .i64 n.md,.int .i64 n.n,.bool n.neg,.int .i64 gr,.bool rn];have E0:=Ext.alloc w (.cells #[.int .i64 n.op,.slice n.A n.l.length n.c,.slice n.K n.ks.length n.kc,.int .i64 n.mn,.int .i64 n.mx,.int .i64 n.md,.int .i64 n.n,.bool n.neg,.int .i64 gr,.bool rn] 28);have hll:=hl.len;have HL:=lh (hl.ext E0);have HT:=lh (ht.ext E0);clear ht hl;go_enter Tryz.func150,Tryz.ntmps150
 go_upto_region 1 with fail
 obtain⟨gx,hgx⟩:∃gx,gx=w.heap.size:=⟨_,rfl⟩
 rw[<-hgx] at B0 ⊢;clear hgx;generalize w.alloc (.cells #[.int .i64 n.op,.slice n.A n.l.length n.c,.slice n.K n.ks.length n.kc,.int .i64 n.mn,.int .i64 n.mx,.int .i64 n.md,.int .i64 n.n,.bool n.neg,.int .i64 gr,.bool rn] 28)=wa at *;have HV:=lh (AI bd S d wa n gr rn HT.out);have z0:=B0.cell 0;have z1:=B0.cell 1;have z2:=B0.cell 2;have z3:=B0.cell 3;have z4:=B0.cell 4;have z5:=B0.cell 5;have z6:=B0.cell 6;have z7:=B0.cell 7;have z8:=B0.cell 8;have z9:=B0.cell 9
 go_upto_region 2 with(go_at_call 63;refine HV.out.mono ?_;rintro e w3 ⟨x,rfl,x3⟩)
 have y9:=x3.cell z9;have HL3:=lh (HL.out.ext x3);have HX3:=lh (E0.trans x3);clear z0 z1 z2 z3 z4 z5 z6 z7 z8 z9 HV HT HL E0 B0 x3;by_cases hx:x=0
 ·have hx0:(x != 0)=false:=by simp[hx]
  by_cases hbig:65536<ts.length
  ·have hbI:(65536:Int)<(ts.length:Int):=om
   go_wp2_with fail
   go_ret
   exact⟨_,rfl,HX3.out⟩
  ·have hbI:¬(65536:Int)<(ts.length:Int):=om
   go_upto_region 7 with fail
   cases rn
   all_goals
    go_upto_region 10 with fail
    go_loopw [9] (fun v wr=>∃i:Nat,v=.int .i64 i/\i<=ts.length/\Ext w3 wr) (fun v _=>ts.length-(intOf v).toNat)
    case atStart=>exact⟨0,rfl,om,Ext.rfl' _⟩
    case round=>
     obtain⟨i,rfl,hi,x1⟩:=hrel;by_cases hlt:i<ts.length
     ·have hiI:(i:Int)<ts.length:=om;obtain⟨b,o,hA,hcell⟩:=(HL3.out.ext x1).get hlt;subst hA;generalize ts[i]=sym at *
      go_wp2_with fail
      all_goals first
       | (go_ret;exact⟨_,rfl,HX3.out.trans x1⟩)
       | (
        go_roundw
        case rel=>exact⟨i+1,by go_num,om,x1⟩
        case measure=>simp[intOf];omega)
     ·have hiI:¬(i:Int)<ts.length:=om
      go_wp2_with fail
      all_goals
       go_ret
       exact⟨_,rfl,HX3.out.trans x1⟩
 ·have hx1:(x != 0)=true:=by simp[hx]
  go_wp2_with fail
  go_ret
  exact⟨_,rfl,HX3.out⟩
def lz (n:Nat)(w:World)(e:Ending)(w':World):Prop:=∃(A:Option Addr) (c:Nat) (l:List Sp),e=.returned (.slice A l.length c)/\l.length=n/\KY w' A c l/\Ext w w'
theorem Rk (n:Nat)(hn:n<=1000)(w:World):Calls Tryz.prog 152 #[.int .i64 n] w (lz n w):=by
 obtain⟨iA,jA0,jA1,jA2,jA3⟩:=info_parts AK;go_enter Tryz.func152,Tryz.ntmps152
 go_upto_region 3 with fail
 go_loopw [4,3] (fun v4 v3 wr=>∃(i:Nat) (A:Option Addr) (c:Nat),v4=.int .i64 i/\v3=.slice A i c/\i<=n/\Hid (QQ wr w.heap.size 82 2 A i c (Qz (List.replicate i ((-1,-1):Sp))))/\Ext w wr) (fun v _ _=>n-(intOf v).toNat)
 case atStart=>exact⟨0,none,0,rfl,rfl,om,lh (QQ.nil _ _ _ _),Ext.rfl' _⟩
 case round=>
  obtain⟨i,A,c,rfl,rfl,hi,HO,x1⟩:=hrel;have hcc:=QQ.caps HO.out;by_cases hlt:i<n
  ·have hiI:(i:Int)<(n:Int):=om
   go_wp2_with (at_builtin;refine Qv _ rfl _ _ _ rfl w.heap.size 82 iA _ 2 16 Tryz.underlying65 jA0 jA1 jA2 jA3 rfl om A i c (Qz (List.replicate i ((-1,-1):Sp))) rfl (QQ.ext HO.out (Ext.alloc _ _)) _ 1 1 (Qz [((-1,-1):Sp)]) rfl rfl (QC (Blk.new _ _ _)) (ZG _) um om (Nat.le_trans x1.size (Ext.alloc _ _).size) ?_;intro A8 c8 w8 ho8 hg8 hat8)
   refine⟨⟨i+1,A8,c8,by go_num,rfl,om,lh ?_,(x1.trans (Ext.alloc _ _)).grown hg8 (QQ.row HO.out)⟩,by simp[intOf];omega⟩;have e:Qz (List.replicate (i+1) ((-1,-1):Sp))=Qz (List.replicate i ((-1,-1):Sp))++Qz [((-1,-1):Sp)]:=by
    rw[List.replicate_succ'];simp[Qz]
   rw[e];exact ho8
  ·have hiI:¬(i:Int)<(n:Int):=om
   go_wp2_with fail
   go_ret
   refine⟨A,c,List.replicate i (-1,-1),by simp,by simp;omega,?_,x1⟩;refine qj (base:=w.heap.size) ?_ (fun s hs=>?_)
   ·simpa using HO.out
   ·rw[(List.mem_replicate.1 hs).2];simp[S64,I64]
def lj (w:World)(e:Ending)(w':World):Prop:=∃(A:Option Addr) (n c:Nat) (s k:Int),e=.returned (.tuple #[.slice A n c,.int .i64 s,.int .i64 k])/\Ext w w'
theorem gU:(Tryz.prog.info? 89).map (fun i=>(i.zero,i.size,i.bytes))=some (some (.agg #[.int .i64 0,.int .i64 0,.slice none 0 0]),3,40):=by kernel_rfl
theorem Uk (bd:Nat)(hbd:bd<=1000)(d:Nat)(w:World)(n:Nd)(gr:Nat)(rn:Bool)(ht:Qx bd (fun _=>True) w d n.val)(hgr:gr<=9)(A:Option Addr)(c:Nat)(ts:List Int)(hl:IL w A c ts)(hlt:ts.length<=1000)(i:Nat)(hi:i<=ts.length)(most:Int)(fuel:Nat)(hf:fuel<=1000000) :
 Calls Tryz.prog 106 #[.agg #[.int .i64 n.op,.slice n.A n.l.length n.c,.slice n.K n.ks.length n.kc,.int .i64 n.mn,.int .i64 n.mx,.int .i64 n.md,.int .i64 n.n,.bool n.neg,.int .i64 gr,.bool rn],.slice A ts.length c,.int .i64 i,.int .i64 most,.int .i64 fuel] w (lj w):=by
 have B0:=Blk.new w 28 #[.int .i64 n.op,.slice n.A n.l.length n.c,.slice n.K n.ks.length n.kc,.int .i64 n.mn,.int .i64 n.mx,.int .i64 n.md,.int .i64 n.n,.bool n.neg,.int .i64 gr,.bool rn];have E0:=Ext.alloc w (.cells #[.int .i64 n.op,.slice n.A n.l.length n.c,.slice n.K n.ks.length n.kc,.int .i64 n.mn,.int .i64 n.mx,.int .i64 n.md,.int .i64 n.n,.bool n.neg,.int .i64 gr,.bool rn] 28);obtain⟨iM,jM0,jM1,jM2,jM3⟩:=info_parts gU;have hll:=hl.len;have HL:=lh (hl.ext E0);have HT:=lh (ht.ext E0);clear ht hl;go_enter Tryz.func106,Tryz.ntmps106
 go_upto_region 1 with fail
 obtain⟨gx,hgx⟩:∃gx,gx=w.heap.size:=⟨_,rfl⟩
 rw[<-hgx] at B0 ⊢;clear hgx;generalize w.alloc (.cells #[.int .i64 n.op,.slice n.A n.l.length n.c,.slice n.K n.ks.length n.kc,.int .i64 n.mn,.int .i64 n.mx,.int .i64 n.md,.int .i64 n.n,.bool n.neg,.int .i64 gr,.bool rn] 28)=wa at *;have HV:=lh (NB bd _ d wa n gr rn HT.out A c ts HL.out fuel);have z0:=B0.cell 0;have z1:=B0.cell 1;have z2:=B0.cell 2;have z3:=B0.cell 3;have z4:=B0.cell 4;have z5:=B0.cell 5;have z6:=B0.cell 6;have z7:=B0.cell 7;have z8:=B0.cell 8;have z9:=B0.cell 9
 go_upto_region 2 with(go_at_call 150;refine HV.out.mono ?_;rintro e w3 ⟨x,rfl,x3⟩)
 have HB3:=lh (B0.ext x3);have HL3:=lh (HL.out.ext x3);have HT3:=lh (HT.out.ext x3);have HX3:=lh (E0.trans x3);clear z0 z1 z2 z3 z4 z5 z6 z7 z8 z9 HV HT HL E0 B0 x3;by_cases hx:x=0
 ·have hx0:(x != 0)=false:=by simp[hx]
  have h0i:¬(i:Int)<0:=om;have hti:¬(ts.length:Int)<(i:Int):=om;have ES:=Ext.alloc w3 (.cells #[.slice A ts.length c,.int .i64 most,.int .i64 fuel,.int .i64 0,.bool false,.slice none 0 0,.slice none 0 0] 257);have BS:=Blk.new w3 257 #[.slice A ts.length c,.int .i64 most,.int .i64 fuel,.int .i64 0,.bool false,.slice none 0 0,.slice none 0 0]
  go_upto_region 7 with fail
  obtain⟨gs,hgs⟩:∃gx,gx=w3.heap.size:=⟨_,rfl⟩
  rw[<-hgs] at BS ⊢;have hgsl:w3.heap.size<=gs:=om;have hgx3:=HB3.out.lt;have hne:gx≠gs:=om;clear hgs;generalize w3.alloc (.cells #[.slice A ts.length c,.int .i64 most,.int .i64 fuel,.int .i64 0,.bool false,.slice none 0 0,.slice none 0 0] 257)=w4 at *;have B4:=HB3.out.ext ES;have HZL:Hid (zL w4 gs=[gs]):=lh (by unfold zL;rw[BS.cell 5,BS.cell 6];rfl);have HS4:Hid (SrM w4 w3.heap.size gs A ts.length c most fuel 0 false 0):=lh ⟨⟨none,0,[],none,0,[],by simpa using BS,QQ.nil _ _ _ _,QQ.nil _ _ _ _,rfl,rfl,by simp,by simp⟩,hgsl⟩;have hgl4:=BS.lt;have q0:=fun(w':World) (h:Kp [gs] w4 w')=>h.cell (B4.cell 0) (by simp[hne]);have q1:=fun(w':World) (h:Kp [gs] w4 w')=>h.cell (B4.cell 1) (by simp[hne]);have q2:=fun(w':World) (h:Kp [gs] w4 w')=>h.cell (B4.cell 2) (by simp[hne]);have q3:=fun(w':World) (h:Kp [gs] w4 w')=>h.cell (B4.cell 3) (by simp[hne]);have q4:=fun(w':World) (h:Kp [gs] w4 w')=>h.cell (B4.cell 4) (by simp[hne]);have q5:=fun(w':World) (h:Kp [gs] w4 w')=>h.cell (B4.cell 5) (by simp[hne]);have q6:=fun(w':World) (h:Kp [gs] w4 w')=>h.cell (B4.cell 6) (by simp[hne]);have q7:=fun(w':World) (h:Kp [gs] w4 w')=>h.cell (B4.cell 7) (by simp[hne]);have q8:=fun(w':World) (h:Kp [gs] w4 w')=>h.cell (B4.cell 8) (by simp[hne]);have HES:=lh ES;clear ES BS B4;refine Xr.start [gs] kr ?_;refine Xtk 0 ?_
  iterate 3(refine Xtn ?_)
  refine Xtk 5 ?_
  iterate 2(refine Xtn ?_)
  refine Xr.lazy 4 41 9 (fun g=>.pointer (some ⟨g,0,none⟩)) 261 (Wx 0 n 0 0 none) rfl (by simpa using hgl4) dK si (fun w'=>by go_simp;rfl) ?_;refine Xcl 8 fun w5 hE5 hK5 K hKK=>?_;go_simp;refine(Rk gr om w5).mono ?_;rintro e w6 ⟨cA,cc,cl,rfl,hcl,hc6,x6⟩;refine hKK _ _ x6 ?_;clear hKK;refine ptm ?_;refine Xr.stepZ rfl dK (fun _=>by rfl) (fun w7 g7 hE7 hK7 hg7 hB7 hno K hKK=>?_);have x47:=hE5.trans (x6.trans hE7);have HON:Wv bd w3 w7 ((0:Nat):Int) 1 (some g7):=Wv.mk g7 0 0 0 n d hB7 HT3.out (.inl rfl) (by simp[I64]) .nil;have HR8:=cw bd w3 gs A ts c HL3.out most fuel om om hbd fuel 0 om om w7 (some g7) 1 i cA cc cl 0 (HES.out.trans x47) (HS4.out.ext x47) HON hi (hc6.ext hE7) om om;rw[hcl] at HR8;go_simp;refine HR8.mono ?_;rintro e w8 h8;obtain⟨b8,rfl⟩:=h8.val;have ezl:zL w7 gs=[gs]:=(ZO x47 hgl4).trans HZL.out;refine hKK _ _ (h8.zf.wi ezl) (hK7.trans (h8.zf.kpL ezl)) ?_;clear hKK HR8;refine ptm ?_;refine Xdn fun w9 hE9 hK9=>?_;have HF:=lh (h8.ext hE9);clear h8 hE9 hK9 hK7 hE7 hB7 hno HON x47 ezl hE5 hK5 x6 hc6;obtain⟨b9,st',em,ns',hb9,HSf,HXf,HZf,h4,h5,h6,h7⟩:=HF.out;obtain⟨⟨eA,ec,ends,kA,kc,cps,BF,HE,HK,el1,el2,HEI,HKS⟩,_⟩:=HSf;have f3:w9.cell? ⟨gs,3,none⟩=some (.int .i64 st'):=BF.cell 3;have f4:w9.cell? ⟨gs,4,none⟩=some (.bool em):=BF.cell 4;have f5:w9.cell? ⟨gs,5,none⟩=some (.slice eA ends.length ec):=BF.cell 5;have f6:w9.cell? ⟨gs,6,none⟩=some (.slice kA cps.length kc):=BF.cell 6;cases em
  ·have hx9:=HX3.out.trans HXf;have hel:ends.length<=10000000:=om;have hkl2:ends.length=cps.length:=om;have HKL:=lh hkl2;have HEL:=lh (⟨el1,el2⟩:ends.length=ns'/\cps.length=ns');clear el1 el2 hkl2 h4 h5 h6 h7;have HEs:=lh (IL.of_own HE HEI);have HEo:=lh HE;have HKo:=lh HK;have HKs:=lh HKS;have HBF:=lh BF;clear HE HK HEI HKS BF
   go_upto_region 12 with fail
   go_loopw [16,15] (fun v16 v15 wr=>∃(j:Nat) (A5:Option Addr) (c5:Nat) (xs:List Value),v16=.int .i64 j/\v15=.slice A5 j c5/\j<=ends.length/\Hid (QQ wr w9.heap.size 89 3 A5 j c5 xs)/\Ext w9 wr) (fun v _ _=>ends.length-(intOf v).toNat)
   case atStart=>exact⟨0,none,0,[],rfl,rfl,om,lh (QQ.nil _ _ _ _),Ext.rfl' _⟩
   case round=>
    obtain⟨j,A5,c5,xs,rfl,rfl,hj,HO,x1⟩:=hrel;have hcc:=QQ.caps HO.out;have f5r:=x1.cell f5;have f6r:=x1.cell f6;have f3r:=x1.cell f3;have HB9r:=lh (HBF.out.ext x1);by_cases hjl:j<ends.length
    ·have hjI:(j:Int)<(ends.length:Int):=om;have hjk:j<cps.length:=by have:=HKL.out;omega
     have hjkI:(j:Int)<(cps.length:Int):=om;obtain⟨eb,eo,heA,ecell⟩:=HEs.out.get hjl;obtain⟨kb,ko,hkA,kcell⟩:=QQ.cells HKo.out (by intro e;rw[e] at hjk;simp at hjk);have kcj:=kcell j hjk;obtain⟨vA,vn,vc,hv⟩:=HKs.out cps[j] (List.getElem_mem hjk);rw[hv] at kcj;have ecr:=x1.cell ecell;have kcr:=x1.cell kcj;have HEA:=lh heA;have HKA:=lh hkA;rw[HEA.out] at f5r;rw[HKA.out] at f6r;generalize ends[j]=ev at *;have q5:=fun(w':World) (h:Kp (jE A5) wr w')=>h.cell f5r (fun hm=>QK HO.out HB9r.out de (Jq.1 hm));have q6:=fun(w':World) (h:Kp (jE A5) wr w')=>h.cell f6r (fun hm=>QK HO.out HB9r.out de (Jq.1 hm));have qe:=fun(w':World) (h:Kp (jE A5) wr w')=>h.cell ecr (fun hm=>zq HO.out (QQ.ext HEo.out x1) de eb (Jq.1 hm) (by rw[HEA.out];rfl));have qk:=fun(w':World) (h:Kp (jE A5) wr w')=>h.cell kcr (fun hm=>zq HO.out (QQ.ext HKo.out x1) de kb (Jq.1 hm) (by rw[HKA.out];rfl));have HLB:Hid (∀b∈jE A5,b<wr.heap.size):=lh (fun b hb=>(QQ.blt HO.out (Jq.1 hb)).1);clear heA hkA kcell kcj hv
     go_upto_region 14 with fail
     refine Xr.start (jE A5) kr ?_;refine Xtk 0 ?_
     iterate 16(refine Xtn ?_)
     refine Xr.lazy 17 77 18 (fun g=>.slice (some ⟨g,0,none⟩) 1 1) 89 #[.int .i64 i,.int .i64 ev,.slice vA vn vc] rfl HLB.out dK si (fun w'=>by go_simp) ?_;refine Xr.stepZ rfl dK (fun _=>by rfl) (fun w12 g12 hE12 hK12 hg12 hB12 hno K hKK=>?_);refine VT _ _ _ _ rfl w9.heap.size 89 iM _ 3 40 Tryz.underlying192 jM0 jM1 jM2 jM3 rfl om A5 j c5 xs rfl (QQ.ext HO.out hE12) _ 1 1 [.int .i64 i,.int .i64 ev,.slice vA vn vc] rfl rfl (QC hB12) (by intro u hu;simp only[List.mem_cons,List.not_mem_nil,or_false] at hu;rcases hu with rfl|rfl|rfl<;>rfl) um om (by have:=x1.size;have:=hE12.size;omega) ?_;intro A8 c8 w13 ho8 hg8 hat8;refine hKK _ _ (YQ hg8 (fun i hi=>.inl (Jq.2 hi))) (hK12.grownL hg8 (fun i hi=>.inl (Jq.2 hi))) ?_;clear hKK;refine ptm ?_;refine Xtk 19 ?_;refine Xdn fun w14 hE14 hK14=>?_;have HO14:=lh (QQ.ext ho8 hE14);have x14:=hK14.to_ext x1 (fun g hg=>QQ.row HO.out g (Jq.1 hg));clear ho8 hg8 hat8 hE14 hK14 hK12 hE12 hB12 hno q5 q6 qe qk f5r f6r f3r ecr kcr
     go_wp2_with fail
     go_roundw
     case rel=>exact⟨j+1,A8,c8,_,by go_num,rfl,om,HO14,x14⟩
     case measure=>simp[intOf];omega
    ·have hjI:¬(j:Int)<(ends.length:Int):=om
     go_wp2_with (go_quiet (fail))
     go_ret3
     exact⟨A5,j,c5,st',0,rfl,(hx9.trans x1).trans (Ext.drewN _ _)⟩
  ·go_wp2_with fail
   go_ret3
   exact⟨none,0,0,0,11,rfl,HX3.out.trans HXf⟩
 ·have hx1:(x != 0)=true:=by simp[hx]
  go_wp2_with fail
  go_ret3
  exact⟨none,0,0,0,x,rfl,HX3.out⟩
theorem IL.pre {w:World}{A:Option Addr}{c:Nat}{xs:List Int}(h:IL w A c xs){k:Nat}(hk:k<=xs.length):IL w A c (xs.take k):=by
 refine⟨by rw[List.length_take];have:=h.le;omega,h.cap,fun x hx=>h.rng x (List.mem_of_mem_take hx),fun hne=>?_⟩;obtain⟨b,o,hA,hc⟩:=h.at_ (fun e=>hne (by rw[e];simp));refine⟨b,o,hA,fun i hi=>?_⟩;rw[List.length_take] at hi;rw[hc i om]
 simp
theorem IL.kpG {w w':World}{A:Option Addr}{c:Nat}{xs:List Int}{p:Nat->Prop}(h:IL w A c xs)(k:KpP p w w')(hn:∀b,A.map (·.block)=some b->¬p b):IL w' A c xs:=by
 refine⟨h.le,h.cap,h.rng,fun hne=>?_⟩;obtain⟨b,o,hA,hc⟩:=h.at_ hne;subst hA;have hb:=hn b rfl;have cells:QP w (some ⟨b,o,none⟩) (xs.map (Value.int .i64)):=h.cells;obtain⟨b2,o2,hA2,hc2⟩:=(cells.kpZ k (fun b2 h2=>hn b2 h2)) (by intro e;exact hne (by simpa using e));injection hA2 with e;injection e with e1 e2 _
 subst e1;subst e2;refine⟨b,o,rfl,fun i hi=>?_⟩;have h3:=hc2 i (by simpa using hi)
 simpa using h3
def av (w:World)(e:Ending)(w':World):Prop:=
 ∃(n:Nd) (gr:Nat) (A:Option Addr) (c:Nat) (ts:List Int),e=.returned (.tuple #[.agg (n.cs++[Value.int .i64 gr,Value.bool false]).toArray,.slice A ts.length c])/\Qx 3 (fun k=>w.heap.size<=k) w' 6 n.val/\gr<=4/\IL w' A c ts/\Fr w A/\(∀x∈ts,0<=x/\x<=200)/\ts.length<=12/\Ext w w'
def Vy (w:World)(g:Nat)(n:Nd)(gr:Int)(rn:Bool):World:=((WW w g n).setCell ⟨g,8,none⟩ (.int .i64 gr)).setCell ⟨g,9,none⟩ (.bool rn)
def ptC (n:Nd)(gr:Int)(rn:Bool):Array Value:=#[.int .i64 n.op,.slice n.A n.l.length n.c,.slice n.K n.ks.length n.kc,.int .i64 n.mn,.int .i64 n.mx,.int .i64 n.md,.int .i64 n.n,.bool n.neg,.int .i64 gr,.bool rn]
theorem zG {w:World}{g T:Nat}{a0 a1 a2 a3 a4 a5 a6 a7 a8 a9:Value}(h:Blk w g T #[a0,a1,a2,a3,a4,a5,a6,a7,a8,a9])(n:Nd)(gr:Int)(rn:Bool):Blk (Vy w g n gr rn) g T (ptC n gr rn):=by
 have h:=(((((((((h.set 0 (.int .i64 n.op)).set 1 (.slice n.A n.l.length n.c)).set 2 (.slice n.K n.ks.length n.kc)).set 3 (.int .i64 n.mn)).set 4 (.int .i64 n.mx)).set 5 (.int .i64 n.md)).set 6 (.int .i64 n.n)).set 7 (.bool n.neg)).set 8 (.int .i64 gr)).set 9 (.bool rn)
 simpa[Vy,WW,ptC] using h
theorem zH {a w:World}{g:Nat}(h:Ext a w)(hg:a.heap.size<=g)(n:Nd)(gr:Int)(rn:Bool):Ext a (Vy w g n gr rn):=
 ((CE h hg n).setNew (p:=⟨g,8,none⟩) hg _).setNew (p:=⟨g,9,none⟩) hg _
theorem Zq {w:World}{g T:Nat}{n:Nd}{gr:Int}{rn:Bool}(h:Blk w g T (ptC n gr rn)):w.cell? ⟨g,0,none⟩=some (.int .i64 n.op)/\w.cell? ⟨g,1,none⟩=some (.slice n.A n.l.length n.c)/\w.cell? ⟨g,2,none⟩=some (.slice n.K n.ks.length n.kc)/\w.cell? ⟨g,3,none⟩=some (.int .i64 n.mn)/\
 w.cell? ⟨g,4,none⟩=some (.int .i64 n.mx)/\w.cell? ⟨g,5,none⟩=some (.int .i64 n.md)/\w.cell? ⟨g,6,none⟩=some (.int .i64 n.n)/\w.cell? ⟨g,7,none⟩=some (.bool n.neg)/\w.cell? ⟨g,8,none⟩=some (.int .i64 gr)/\w.cell? ⟨g,9,none⟩=some (.bool rn):=
 ⟨h.cell 0,h.cell 1,h.cell 2,h.cell 3,h.cell 4,h.cell 5,h.cell 6,h.cell 7,h.cell 8,h.cell 9⟩
theorem jz {w:World}{g T:Nat}{cs:Array Value}(h:Blk w g T cs):w.frozen? ⟨g,0,none⟩=false/\w.frozen? ⟨g,1,none⟩=false/\w.frozen? ⟨g,2,none⟩=false/\w.frozen? ⟨g,3,none⟩=false/\w.frozen? ⟨g,4,none⟩=false/\w.frozen? ⟨g,5,none⟩=false/\w.frozen? ⟨g,6,none⟩=false/\w.frozen? ⟨g,7,none⟩=false/\w.frozen? ⟨g,8,none⟩=false/\w.frozen? ⟨g,9,none⟩=false:=
 ⟨h.frz 0,h.frz 1,h.frz 2,h.frz 3,h.frz 4,h.frz 5,h.frz 6,h.frz 7,h.frz 8,h.frz 9⟩
def zNd:Nd:=⟨0,none,0,[],none,0,[],0,0,0,0,false⟩
theorem YR {p:Nat->Prop}{a w:World}{g:Nat}(h:KpP p a w)(hg:p g)(n:Nd)(gr:Int)(rn:Bool):KpP p a (Vy w g n gr rn):=
 ((WV h (.inl hg) n).set (x:=⟨g,8,none⟩) (.inl hg) _).set (x:=⟨g,9,none⟩) (.inl hg) _
theorem Uv {L:List Nat}{a w:World}{g:Nat}(h:Kp L a w)(hg:g∈L)(n:Nd)(gr:Int)(rn:Bool):Kp L a (Vy w g n gr rn):=by
 have k:KpP (·∈L) a w:=⟨h.os,h.tape,h.output,h.size,h.block⟩;have k2:=YR k hg n gr rn;exact⟨k2.os,k2.tape,k2.output,k2.size,k2.block⟩
theorem Rv (w:World):Qx 3 (fun _=>False) w 6 zNd.val:=
 (Qx.mk (d:=0) zNd ⟨by simp[zNd],by simp[zNd],by simp[zNd],by simp[zNd],by simp[zNd],by simp[zNd],by simp[zNd],by simp[zNd],by simp[zNd],by simp[zNd,Vv]⟩ (SL.nil _) (by simp[zNd]) (by simp[zNd,maxLen]) (fun h=>by simp[zNd] at h) (by simp[zNd]) (by simp[zNd]) (by simp[zNd])).mono om
theorem Uw (S:Nat->Prop)(w:World):Qx 3 S w 6 zNd.val:=
 (Qx.imp (S:=fun _=>False) (Rv w) (fun _ h _=>h.elim))
theorem Rw (w:World)(LA:Option Addr)(lc:Nat)(ls:List Int)(MA:Option Addr)(mc:Nat)(ms:List Int)(uses:Int)(hu:KU uses)(hl:IL w LA lc ls)(hm:IL w MA mc ms) :
 Calls Tryz.prog 61 #[.slice LA ls.length lc,.slice MA ms.length mc,.int .i64 uses,.int .i64 24,.int .i64 3000] w (av w):=by
 have BR:=Blk.new w 28 (ptC zNd 0 false);have ER:=Ext.alloc w (.cells (ptC zNd 0 false) 28);have hll:=hl.len;have hmm:=hm.len;have HM:=lh hm;have HPT:=fun(w':World) (x:Ext w w')=>lh (IW w' LA lc ls uses 24 hu (hl.ext x) om);clear hl hm hu;go_enter Tryz.func61,Tryz.ntmps61
 go_upto_region 1 with fail
 change Code.wp _ _ _ _ (w.alloc (.cells (ptC zNd 0 false) 28));obtain⟨g10,hg10⟩:∃g,g=w.heap.size:=⟨_,rfl⟩
 rw[<-hg10] at BR ⊢;have hg10l:w.heap.size<=g10:=om;clear hg10;generalize w.alloc (.cells (ptC zNd 0 false) 28)=wa at *;have hgwa:=BR.lt;have hww:=ER.size
 go_upto_region 2 with(go_at_call 105;refine(HPT wa ER).out.mono ?_;rintro e w3 ⟨n,gr,he,ht,hgr0,hgr4,x3⟩;obtain⟨grn,rfl⟩:∃k:Nat,gr=k:=⟨gr.toNat,om⟩;have he2:e=.returned (.agg (ptC n grn false)):=he;subst he2;clear he;unfold ptC)
 change Code.wp _ _ _ _ (w3.alloc (.cells (ptC n grn false) 28));have EP:=Ext.alloc w3 (.cells (ptC n grn false) 28);have BP:=Blk.new w3 28 (ptC n grn false);obtain⟨g12,hg12⟩:∃g,g=w3.heap.size:=⟨_,rfl⟩
 rw[<-hg12] at BP ⊢;have hne:g12≠g10:=by have h:=(BR.ext x3).lt;omega
 clear hg12;generalize w3.alloc (.cells (ptC n grn false) 28)=w4 at *;have HX4:=lh (ER.trans (x3.trans EP));have HT4:=lh (ht.ext EP);have HBR:=lh (BR.ext (x3.trans EP));have HBP:=lh BP;clear BR ER BP EP ht x3 HPT;have HTX:=lh (CO MA mc ms 12 w4 (HM.out.ext HX4.out) om);have htl:=vX ms 12;have HTB:=lh (jF ms 12);generalize rtext ms 12=ts at *
 go_upto_region 4 with(go_at_call 25;refine HTX.out.mono ?_;rintro e w5 ⟨TA,tc,rfl,hT,x5,hfr⟩)
 have HT5:=lh hT;have htc:=hT.len;have HX5:=lh (HX4.out.trans x5);have HBR5:=lh (HBR.out.ext x5);have HBP5:=lh (HBP.out.ext x5);have HTr5:=lh (HT4.out.ext x5);have HFR:=lh hfr;have hg4:g10<w4.heap.size:=HBR.out.lt;clear hT x5 hfr HTX HBR HBP HT4
 go_loopw [14] (fun v14 wr=>∃x:Int,v14=.int .i64 x/\-1<=x/\x<=ts.length/\Ext w5 wr) (fun v _=>(intOf v+1).toNat)
 case atStart=>exact⟨ts.length,rfl,om,om,Ext.rfl' _⟩
 case round=>
  obtain⟨x,rfl,hx1,hx2,x1⟩:=hrel;by_cases hx0:0<=x
  ·obtain⟨k,rfl⟩:∃k:Nat,x=k:=⟨x.toNat,om⟩;have hk:k<=ts.length:=om
   go_upto_region 8 with fail
   go_loopw [16,15] (fun v16 v15 wq=>∃(i:Nat) (b:Bool),v16=.int .i64 i/\v15=.bool b/\i<=k+1/\Ext w5 wq) (fun v _ _=>k+1-(intOf v).toNat)
   case atStart=>exact⟨0,true,rfl,rfl,om,x1⟩
   case round=>
    clear x1;obtain⟨i,b,rfl,rfl,hi,x1⟩:=hrel;have HBPr:=HBP5.out.ext x1;obtain⟨p0,p1,p2,p3,p4,p5,p6,p7,p8,p9⟩:=Zq HBPr;by_cases hik:i<=k/\b=true
    ·obtain⟨hik,rfl⟩:=hik;have hikI:(i:Int)<=(k:Int):=om;have hkc:k<=tc:=om;have elen:(ts.take k).length=k:=by rw[List.length_take];omega
     have HA:=fun(w':World) (x:Ext wr w')=>lh (Uk 3 om 6 w' n grn false ((HTr5.out.imp (fun _ _ _=>trivial)).ext (x1.trans x)) om TA tc (ts.take k) ((HT5.out.ext (x1.trans x)).pre hk) om i om (-1) 3000 om);rw[elen] at HA;have HAH:=lh HA;have HX1:=lh x1;have q0:=kc0 p0;have q1:=kc0 p1;have q2:=kc0 p2;have q3:=kc0 p3;have q4:=kc0 p4;have q5:=kc0 p5;have q6:=kc0 p6;have q7:=kc0 p7;have q8:=kc0 p8;have q9:=kc0 p9;clear HA elen
     go_upto_region 10 with fail
     clear p0 p1 p2 p3 p4 p5 p6 p7 p8 p9 HBPr;refine Xr.start [] kr ?_;refine Xtk 0 ?_
     iterate 5(refine Xtn ?_)
     refine Xcl 6 fun w7 hE7 hK7 K hKK=>?_;go_simp;refine(HAH.out w7 hE7).out.mono ?_;rintro e w8 ⟨A8,n8,c8,s8,k8,rfl,x8⟩;refine hKK _ _ x8 ?_;clear hKK;refine ptm ?_;refine Xtk 7 ?_
     iterate 6(refine Xtn ?_)
     refine Xdn fun w9 hE9 hK9=>?_;have x9:=HX1.out.trans (hE7.trans (x8.trans hE9));clear q0 q1 q2 q3 q4 q5 q6 q7 q8 q9 hK9 hE9 x8 hK7 hE7
     go_wp2_with fail
     go_roundw
     case rel=>exact⟨i+1,_,by go_num,rfl,om,x9⟩
     case measure=>simp[intOf];omega
    ·by_cases hbt:b=true
     ·subst hbt;have hik2:¬(i:Int)<=(k:Int):=by
       intro h;exact hik (by first|exact⟨om,rfl⟩|omega)
      have hkc:k<=tc:=om;have elen:(ts.take k).length=k:=by rw[List.length_take];omega
      have HTE:=lh (⟨x1,elen⟩:Ext w5 wr/\_);have HBRr:=HBR5.out.ext x1;have HG:=lh HBRr.lt;have HBRH:=lh HBRr;have q0:=fun(w':World) (h:Kp [g10] wr w')=>h.cell p0 (by simp[hne]);have q1:=fun(w':World) (h:Kp [g10] wr w')=>h.cell p1 (by simp[hne]);have q2:=fun(w':World) (h:Kp [g10] wr w')=>h.cell p2 (by simp[hne]);have q3:=fun(w':World) (h:Kp [g10] wr w')=>h.cell p3 (by simp[hne]);have q4:=fun(w':World) (h:Kp [g10] wr w')=>h.cell p4 (by simp[hne]);have q5:=fun(w':World) (h:Kp [g10] wr w')=>h.cell p5 (by simp[hne]);have q6:=fun(w':World) (h:Kp [g10] wr w')=>h.cell p6 (by simp[hne]);have q7:=fun(w':World) (h:Kp [g10] wr w')=>h.cell p7 (by simp[hne]);have q8:=fun(w':World) (h:Kp [g10] wr w')=>h.cell p8 (by simp[hne]);have q9:=fun(w':World) (h:Kp [g10] wr w')=>h.cell p9 (by simp[hne]);clear elen x1
      go_upto_region 13 with fail
      clear p0 p1 p2 p3 p4 p5 p6 p7 p8 p9 HBPr HBRr;refine Xr.start [g10] kr ?_;refine Xtk 0 ?_
      iterate 3(refine Xtn ?_)
      refine Xsp 4 fun w7 hE7 hK7 K hKK=>?_;have b7:=HBRH.out.ext hE7;obtain⟨s0,s1,s2,s3,s4,s5,s6,s7,s8,s9⟩:=Zq b7;obtain⟨f0,f1,f2,f3,f4,f5,f6,f7,f8,f9⟩:=jz b7;simp only[zNd,List.length_nil] at s0 s1 s2 s3 s4 s5 s6 s7;go_simp;change K _ (Vy w7 g10 n grn false);refine hKK _ _ (YR (KpP.refl _ _) (.inl si) _ _ _) (Uv hK7 si _ _ _) ?_;clear hKK;refine ptm ?_;refine Xtk 5 ?_;refine Xdn fun w9 hE9 hK9=>?_;have b9:=(zG b7 n grn false).ext hE9;have x9:=(zH (HX5.out.trans (HTE.out.1.trans hE7)) hg10l n grn false).trans hE9;have kk:KpP (·=g10) w5 w9:=((KpP.of_ext (HTE.out.1.trans hE7)).trans (YR (p:=(·=g10)) (KpP.refl _ w7) rfl n grn false)).trans (KpP.of_ext hE9);clear s0 s1 s2 s3 s4 s5 s6 s7 s8 s9 f0 f1 f2 f3 f4 f5 f6 f7 f8 f9 hE9 hK9 hK7 b7 hE7 q0 q1 q2 q3 q4 q5 q6 q7 q8 q9;obtain⟨r0,r1,r2,r3,r4,r5,r6,r7,r8,r9⟩:=Zq b9
      go_wp2_with fail
      refine bodyPost_ret (v:=.tuple #[.agg (ptC n grn false),.slice TA k tc]) (by simp[results,Tryz.results61,go_sem,r0,r1,r2,r3,r4,r5,r6,r7,r8,r9,ptC]) rfl ⟨n,grn,TA,tc,ts.take k,by rw[HTE.out.2];rfl,?_,om,?_,HFR.out.mono HX4.out,fun x hx=>HTB.out x (List.mem_of_mem_take hx),by rw[HTE.out.2];omega,x9⟩
      ·exact(HTr5.out.kp kk (fun i hi hs=>by have e:i=g10:=hi;subst e;exact absurd hs (Nat.not_le_of_lt hgwa))).imp (fun i h _=>Nat.le_trans hww h)
      ·exact(HT5.out.kpG kk (fun b hb e=>by have e2:b=g10:=e;have:=HFR.out b hb;omega)).pre hk
     ·have hbf:b=false:=by simpa using hbt
      subst hbf;have ewk:IntKind.i64.wrap ((k:Int)-1)=(k:Int)-1:=wj
      go_wp2_with fail
      all_goals exact⟨⟨(k:Int)-1,rfl,om,om,x1⟩,by first|(simp[intOf];done)|(simp[intOf];omega)⟩
  ·have HBRr:=HBR5.out.ext x1;have HBPr:=HBP5.out.ext x1;have p8:=(Zq HBPr).2.2.2.2.2.2.2.2.1;obtain⟨s0,s1,s2,s3,s4,s5,s6,s7,s8,s9⟩:=Zq HBRr;obtain⟨f0,f1,f2,f3,f4,f5,f6,f7,f8,f9⟩:=jz HBRr;simp only[zNd,List.length_nil] at s0 s1 s2 s3 s4 s5 s6 s7
   go_wp2_with fail
   change bodyPost _ _ _ _ _ (Vy wr g10 zNd grn false);have b9:=zG HBRr zNd grn false;have x9:=zH (HX5.out.trans x1) hg10l zNd grn false;generalize Vy wr g10 zNd grn false=w9 at *;obtain⟨r0,r1,r2,r3,r4,r5,r6,r7,r8,r9⟩:=Zq b9;refine bodyPost_ret (v:=.tuple #[.agg (ptC zNd grn false),.slice none 0 0]) (by simp[results,Tryz.results61,go_sem,r0,r1,r2,r3,r4,r5,r6,r7,r8,r9,ptC]) rfl ⟨zNd,grn,none,0,[],rfl,Uw _ _,om,IL.nil _,Fr.nil _,by simp,by simp,x9⟩
end
