/- Texts of this proof: G5 G6 G7 G8. -/
import Derived.Test.YtmocoldobnimfaaGreatMS05
set_option linter.all false
set_option maxRecDepth 100000
set_option maxHeartbeats 4000000
namespace Go.Proofs.YtmocoldobnimfaaGreat
section
open Go.RowKit
theorem QQ.store {w:World}{base e size n c:Nat}{A:Option Addr}{xs:List Value}(h:QQ w base e size A n c xs){i:Nat}(hi:i<xs.length) :
 ∃g,A=some ⟨g,0,none⟩/\base<=g/\w.cell? ⟨g,i,none⟩=some xs[i]/\w.frozen? ⟨g,i,none⟩=false/\g<w.heap.size/\∀v,QQ (w.setCell ⟨g,i,none⟩ v) base e size A n c (xs.set i v):=by
 rcases h.form with⟨_,h0,_,h1⟩|⟨g,cur,rfl,hg,hh,hnc,hcm,hcs,ht⟩
 ·subst h1;simp at hi
 ·have hB:Blk w g e cur:=hh;obtain⟨b,o,he,hc⟩:=QQ.cells h (by intro e;subst e;simp at hi);injection he with he;injection he with e1 e2 _
  subst e1 e2;refine⟨g,rfl,hg,?_,hB.frz i,hB.lt,fun v=>?_⟩
  ·have:=hc i hi
   simpa using this
  ·have h1:=QQ.of_blk (n:=n) (c:=c) (size:=size) (hB.set i v) hg (by rw[Array.size_setIfInBounds];exact hcs) hnc hcm;have e:((cur.setIfInBounds i v).toList.take (n*size))=xs.set i v:=by
    rw[Array.toList_setIfInBounds,<-ht,List.take_set]
   rw[e] at h1;exact h1
def WB (w:World)(base:Nat)(A:Option Addr)(c:Nat)(l:List Sp):Prop:=QQ w base 38 2 A l.length c (Qz l)
theorem WB.nil (w:World)(base:Nat):WB w base none 0 []:=QQ.nil _ _ _ _
theorem WB.ext {w w':World}{base c:Nat}{A:Option Addr}{l:List Sp}(h:WB w base A c l)(k:Ext w w'):WB w' base A c l:=QQ.ext h k
theorem WB.kp {w w':World}{base c:Nat}{A:Option Addr}{l:List Sp}{p:Nat->Prop}(h:WB w base A c l)(k:KpP p w w')(hn:∀b,A.map (·.block)=some b->¬p b):WB w' base A c l:=QQ.kp h k hn
theorem WB.row {w:World}{base c:Nat}{A:Option Addr}{l:List Sp}(h:WB w base A c l){b:Nat}(hb:A.map (·.block)=some b):base<=b:=QQ.row h b hb
theorem WB.blt {w:World}{base c:Nat}{A:Option Addr}{l:List Sp}(h:WB w base A c l){b:Nat}(hb:A.map (·.block)=some b):b<w.heap.size:=(QQ.blt h hb).1
theorem OG (l:List Sp)(t:Sp)(v:Int):(Qz (l++[t])).set (l.length*2+1) (.int .i64 v)=Qz (l++[(t.1,v)]):=by
 rw[WL,WL,List.set_append,Q1,if_neg om]
 congr 1
 rw[show l.length*2+1-l.length*2=1 by omega]
 rfl
theorem vk {w:World}{base n c g:Nat}{l0:List Sp}{t:Sp}(h:QQ w base 38 2 (some ⟨g,0,none⟩) (n+1) c (Qz (l0++[t])))(hn:l0.length=n)(v:Int) :
 QQ (w.setCell ⟨g,n*2+1,none⟩ (.int .i64 v)) base 38 2 (some ⟨g,0,none⟩) (n+1) c (Qz (l0++[(t.1,v)])):=by
 have hfl:n*2+1<(Qz (l0++[t])).length:=by rw[Q1,List.length_append,List.length_singleton];omega
 obtain⟨g',he,_,_,_,_,gst⟩:=QQ.store h hfl;injection he with he;injection he with e1 _ _
 subst e1;have:=gst (.int .i64 v)
 rw[<-hn,OG] at this
 rw[<-hn];exact this
theorem yQ {w:World}{base n c g:Nat}{l0:List Sp}{t:Sp}(h:QQ w base 38 2 (some ⟨g,0,none⟩) (n+1) c (Qz (l0++[t])))(hn:l0.length=n) :
 w.cell? ⟨g,n*2+1,none⟩=some (.int .i64 t.2)/\w.frozen? ⟨g,n*2+1,none⟩=false/\g<w.heap.size:=by
 have hfl:n*2+1<(Qz (l0++[t])).length:=by rw[Q1,List.length_append,List.length_singleton];omega
 obtain⟨g',he,_,h1,h2,h3,_⟩:=QQ.store h hfl;injection he with he;injection he with e1 _ _
 subst e1;have hval:(Qz (l0++[t]))[n*2+1]=.int .i64 t.2:=by
  have:=(ZH (l0++[t]) n (by rw[List.length_append,List.length_singleton];omega)).2;obtain⟨_,e1⟩:=List.getElem?_eq_some_iff.1 this;rw[e1];simp[<-hn]
 rw[hval] at h1;exact⟨h1,h2,h3⟩
def ej (base:Nat)(A:Option Addr)(out:List Sp)(w:World)(e:Ending)(w':World):Prop:=
 ∃(A':Option Addr) (c':Nat),e=.returned (.slice A' out.length c')/\WB w' base A' c' out/\KpP (fun b=>A.map (·.block)=some b) w w'/\(A'.map (·.block)=A.map (·.block)\/∃b,A'.map (·.block)=some b/\w.heap.size<=b)
theorem OH {l:List Sp}{t s:Sp}(h:s.1<=t.2+1):QU (l++[t]) s=l++[(t.1,max t.2 s.2)]:=by rw[YB,if_pos h]
theorem OI {l:List Sp}{t s:Sp}(h:¬s.1<=t.2+1):QU (l++[t]) s=l++[t]++[s]:=by rw[YB,if_neg h]
theorem Bk (base:Nat)(A:Option Addr)(c:Nat)(l:List Sp)(s:Sp)(w:World)(hl:WB w base A c l)(hb:base<=w.heap.size)(hr:∀t∈l,QH t)(hs:QH s)(hn:l.length<=1000000) :
 Calls Tryz.prog 116 #[.slice A l.length c,spV s] w (ej base A (QU l s) w):=by
 obtain⟨iS,jS0,jS1,jS2,jS3⟩:=info_parts UN;obtain⟨lo,hi⟩:=s;have hs':0<=lo/\lo<=hi/\hi<=1114111:=hs;unfold spV
 simp only
 have bx:=Blk.new w 38 #[.int .i64 lo,.int .i64 hi];have ex:=Ext.alloc w (.cells #[.int .i64 lo,.int .i64 hi] 38);have hz0:=ex.size;have hlx:=WB.ext hl ex;have hcap:=QQ.caps hl;rcases List.eq_nil_or_concat l with rfl|⟨l0,t,rfl⟩
 ·rw[jw];simp only[List.length_nil] at hlx hcap ⊢;have HX:=lh (show QQ (w.alloc (.cells #[.int .i64 lo,.int .i64 hi] 38)) base 38 2 A 0 c (Qz []) from hlx);have HNEW:=lh (Blk.new (w.alloc (.cells #[.int .i64 lo,.int .i64 hi] 38)) 38 (Qz [(lo,hi)]).toArray);have e2:=Ext.alloc (w.alloc (.cells #[.int .i64 lo,.int .i64 hi] 38)) (.cells (Qz [(lo,hi)]).toArray 38);have hz2:=e2.size;obtain⟨p0,p1,_,_,pz⟩:=bx.c2;go_enter Tryz.func116,Tryz.ntmps116
  go_upto_region 2 with fail
  refine Xr.start [] kr ?_;refine Xtk 0 ?_
  iterate 2(refine Xtn ?_)
  iterate 10(first|refine Xtn ?_|refine Xsn ?_)
  refine Xtn ?_;refine Xdn fun w2 hE2 hK2=>?_;have x2:=hK2.nil;have b2:=bx.ext x2;obtain⟨q0,q1,_,_,qz⟩:=b2.c2;have H2:=lh (QQ.ext HX.out x2);have HN2:=lh (Blk.new w2 38 (Qz [(lo,hi)]).toArray);have hz3:=x2.size;have HB:=lh (show base<=(w2.alloc (.cells (Qz [(lo,hi)]).toArray 38)).heap.size by have:=(Ext.alloc w2 (.cells (Qz [(lo,hi)]).toArray 38)).size;omega);clear p0 p1 pz hE2 hK2
  go_wp2_with ((at_builtin;refine Qv _ rfl _ _ _ rfl base 38 iS _ 2 16 Tryz.underlying23 jS0 jS1 jS2 jS3 rfl om A 0 c (Qz []) rfl (QQ.ext H2.out (Ext.alloc _ _)) _ 1 1 (Qz [(lo,hi)]) rfl rfl (QC HN2.out) (ZG _) um om HB.out ?_;intro A' c' w3 ho3 hg3 hat3))
  go_ret
  refine⟨A',c',rfl,ho3,?_,?_⟩
  ·exact(KpP.of_ext ((ex.trans x2).trans (Ext.alloc _ _))).trans (KpP.of_grown hg3)
  ·rcases hat3 with h|h
   ·exact .inl h
   ·exact .inr ⟨_,h,((ex.trans x2).trans (Ext.alloc _ _)).size⟩
 ·rw[List.concat_eq_append] at *;have ht:=hr t si;have ht':0<=t.1/\t.1<=t.2/\t.2<=1114111:=ht;obtain⟨tlo,thi⟩:=t
  simp only at ht'
  have hlen:(l0++[(tlo,thi)]).length=l0.length+1:=by simp
  obtain⟨n,hn0⟩:∃n,n=l0.length:=⟨_,rfl⟩;rw[hlen,<-hn0] at hcap hn ⊢;have hlx':QQ (w.alloc (.cells #[.int .i64 lo,.int .i64 hi] 38)) base 38 2 A (n+1) c (Qz (l0++[(tlo,thi)])):=by
   unfold WB at hlx;rw[hlen,<-hn0] at hlx;exact hlx
  have hfl:n*2+1<(Qz (l0++[(tlo,thi)])).length:=by rw[Q1,hlen,<-hn0];omega
  obtain⟨g,rfl,hbg,g1,gf,glt,gst⟩:=QQ.store hlx' hfl;have hval:(Qz (l0++[(tlo,thi)]))[n*2+1]=.int .i64 thi:=by
   have:=(ZH (l0++[(tlo,thi)]) n (by rw[hlen];omega)).2;obtain⟨_,e1⟩:=List.getElem?_eq_some_iff.1 this;rw[e1];simp[hn0]
  rw[hval] at g1;have HLX:=lh hlx';have hn1:(0:Int)<(n:Int)+1:=om;have hn2:(n:Int)<(n:Int)+1:=om;have hwn:IntKind.i64.wrap ((n:Int)+1-1)=(n:Int):=wj;have hwn2:IntKind.i64.wrap (n:Int)=(n:Int):=wj;have hwt:IntKind.i64.wrap (thi+1)=thi+1:=wj;obtain⟨p0,p1,_,_,pz⟩:=bx.c2;by_cases hj:lo<=thi+1
  ·have HA:=lh (OH (l:=l0) (t:=(tlo,thi)) (s:=(lo,hi)) hj);have hmx:(if thi<hi then hi else thi)=max thi hi:=by split<;>omega
   have HRE:=lh (show(QU (l0++[(tlo,thi)]) (lo,hi)).length=n+1 by rw[HA.out,List.length_append,List.length_singleton,hn0]);have HN0:=lh hn0.symm;have hadd:QU (l0++[(tlo,thi)]) (lo,hi)=l0++[(tlo,max thi hi)]:=HA.out;generalize QU (l0++[(tlo,thi)]) (lo,hi)=out at *;have HAD:=lh hadd;clear hadd HA hn0 hlen hval hfl gst hlx hl hr ht hs;have k0:=fun(w':World) (h:Kp [] (w.alloc (.cells #[.int .i64 lo,.int .i64 hi] 38)) w')=>h.cell p0 si;have k1:=fun(w':World) (h:Kp [] (w.alloc (.cells #[.int .i64 lo,.int .i64 hi] 38)) w')=>h.cell g1 si;go_enter Tryz.func116,Tryz.ntmps116
   go_upto_region 2 with fail
   refine Xr.start [] kr ?_;refine Xtk 0 ?_
   iterate 2(refine Xtn ?_)
   iterate 10(first|refine Xtn ?_|refine Xsn ?_)
   refine Xtn ?_;refine Xdn fun w2 hE2 hK2=>?_;have x2:=hK2.nil;have q0:=x2.cell p0;have q1:=x2.cell p1;have q2:=x2.cell g1;have kq0:=kx0 q0;have kq1:=kx0 q1;have kq2:=kx0 q2;have hOw2:=QQ.ext HLX.out x2;clear k0 k1 p0 p1 g1 gf HLX hE2 hK2
   go_upto_region 3 with fail
   refine Xs.start [g] 14 kr ?_;refine Xst 0 ?_;refine Xst 1 ?_;refine Xst 2 ?_;refine Xst 3 ?_;refine Xst 4 ?_;refine Xst 5 ?_;refine Xst 6 ?_;refine Xst 7 ?_;refine Xst 8 ?_;refine Xst 9 ?_;refine Xst 10 ?_;refine Xst 11 ?_;refine Xst 12 ?_;refine Xst 13 ?_;refine Xs.stop dK (fun w3 hE3 hX3=>?_);refine Xsp 14 fun w4 hE4 hK4 K hKK=>?_;have x24:=hX3.trans hE4;have hO4:=QQ.ext hOw2 x24;have g4:=yQ hO4 HN0.out;have gc:=g4.1;have gf:=g4.2.1
   simp only at gc
   clear g4 kq0 kq1 kq2 q0 q1 q2 hOw2 hX3 hE3;go_simp;refine hKK _ _ (QM (Q4 _ _ _) List.mem_cons_self _ _) (hK4.setL List.mem_cons_self _ _) ?_;clear hKK;refine ptm ?_;refine Xdn fun w5 hE5 hK5=>?_;have hO5:=QQ.ext (vk hO4 HN0.out (max thi hi)) hE5;have hkk:=(KpP.set (p:=fun b=>(some (⟨g,0,none⟩:Addr)).map (·.block)=some b) (x:=⟨g,n*2+1,none⟩) (KpP.of_ext ((ex.trans x2).trans x24)) (.inl rfl) (.int .i64 (max thi hi))).trans (KpP.of_ext hE5);clear gc gf hO4 hE4 hK4 hE5 hK5 x24
   go_wp2_with fail
   go_ret
   refine⟨some ⟨g,0,none⟩,c,?_,?_,hkk,.inl rfl⟩
   ·rw[HRE.out];rfl
   ·unfold WB;rw[HRE.out,HAD.out];exact hO5
  ·have HA:=lh (OI (l:=l0) (t:=(tlo,thi)) (s:=(lo,hi)) hj);have HRE:=lh (show(QU (l0++[(tlo,thi)]) (lo,hi)).length=n+1+1 by rw[HA.out];simp[hn0]);have hadd:QU (l0++[(tlo,thi)]) (lo,hi)=l0++[(tlo,thi)]++[(lo,hi)]:=HA.out;generalize QU (l0++[(tlo,thi)]) (lo,hi)=out at *;have HAD:=lh hadd;have HL6:=lh (show n+1+1<=maxLen/\(n+1+1)*16<=140737488355328 by unfold maxLen;omega);clear hadd HA hn0 hlen hval hfl gst hlx hl hr ht hs;have k0:=fun(w':World) (h:Kp [] (w.alloc (.cells #[.int .i64 lo,.int .i64 hi] 38)) w')=>h.cell p0 si;have k1:=fun(w':World) (h:Kp [] (w.alloc (.cells #[.int .i64 lo,.int .i64 hi] 38)) w')=>h.cell g1 si;go_enter Tryz.func116,Tryz.ntmps116
   go_upto_region 2 with fail
   refine Xr.start [] kr ?_;refine Xtk 0 ?_
   iterate 2(refine Xtn ?_)
   iterate 10(first|refine Xtn ?_|refine Xsn ?_)
   refine Xtn ?_;refine Xdn fun w2 hE2 hK2=>?_;have x2:=hK2.nil;have q0:=x2.cell p0;have q1:=x2.cell p1;have hOw2:=lh (QQ.ext HLX.out x2);have HN2:=lh (Blk.new w2 38 (Qz [(lo,hi)]).toArray);have HB:=lh (show base<=(w2.alloc (.cells (Qz [(lo,hi)]).toArray 38)).heap.size from Nat.le_trans hb ((ex.trans x2).trans (Ext.alloc _ _)).size);clear k0 k1 p0 p1 g1 gf HLX hE2 hK2
   go_wp2_with ((at_builtin;refine Qv _ rfl _ _ _ rfl base 38 iS _ 2 16 Tryz.underlying23 jS0 jS1 jS2 jS3 rfl om (some ⟨g,0,none⟩) (n+1) c (Qz (l0++[(tlo,thi)])) rfl (QQ.ext hOw2.out (Ext.alloc _ _)) _ 1 1 (Qz [(lo,hi)]) rfl rfl (QC HN2.out) (ZG _) HL6.out.1 HL6.out.2 HB.out ?_;intro A' c' w3 ho3 hg3 hat3))
   go_ret
   refine⟨A',c',?_,?_,?_,?_⟩
   ·rw[HRE.out];rfl
   ·unfold WB;rw[HRE.out,HAD.out,WL (l0++[(tlo,thi)])];exact ho3
   ·exact(KpP.of_ext ((ex.trans x2).trans (Ext.alloc _ _))).trans (KpP.of_grown hg3)
   ·rcases hat3 with h|h
    ·exact .inl h
    ·exact .inr ⟨_,h,((ex.trans x2).trans (Ext.alloc _ _)).size⟩
def ek (out:List Int)(w:World)(e:Ending)(w':World):Prop:=∃(A':Option Addr) (c':Nat),e=.returned (.slice A' out.length c')/\IL w' A' c' out/\Ext w w'
theorem IL.takeK {w:World}{A:Option Addr}{c:Nat}{xs:List Int}(h:IL w A c xs)(k:Nat):IL w A c (xs.take k):=by
 refine⟨by have:=h.le;rw[List.length_take];omega,h.cap,fun x hx=>h.rng x (List.mem_of_mem_take hx),fun hn=>?_⟩;obtain⟨b,o,rfl,hc⟩:=h.at_ (by rintro rfl;simp at hn);refine⟨b,o,rfl,fun i hi=>?_⟩;rw[List.length_take] at hi;rw[List.getElem_take];exact hc i om
theorem SB {P:Prop} (h:P:=by
 generalize WD l n top=out at *
 go_wp2
 go_ret
 exact⟨some ⟨pb,po,none⟩,c,by rw[HR.out];rfl,by rw[HR.out];exact hl,Ext.rfl' _⟩):P:=h
theorem ew {P:Prop} (h:P:=by
 go_ret
 refine⟨A3,c3,by rw[HR.out,HLEN.out];rfl,?_,X3⟩;rw[HR.out];refine IL.of_own (base:=wr.heap.size) (e:=3) ?_ HRNG.out;unfold WO;rw[HLEN.out,List.map_append];rw[List.append_nil] at ho3;exact ho3):P:=h
theorem Lx (A:Option Addr)(c:Nat)(l:List Int)(n top:Int)(w:World)(hl:IL w A c l)(hne:l≠[])(hn:I64 n)(hlen:l.length<=1000000) :
 Calls Tryz.prog 163 #[.slice A l.length c,.int .i64 n,.int .i64 top] w (ek (WD l n top) w):=by
 obtain⟨i0,hi0,hz0,hz1,hz2⟩:=info_parts VV;have hcap:=hl.len;obtain⟨pb,po,rfl,hcl⟩:=hl.at_ hne;have HCL:=lh hcl;clear hcl;go_enter Tryz.func163,Tryz.ntmps163
 go_wp2
 go_loopw [7] (fun v wr=>∃k:Nat,v=.int .i64 k/\k<=l.length/\Hid (∀i (h:i<l.length),i<k->l[i]<n)/\wr=w) (fun v _=>l.length-(intOf v).toNat)
 case atStart=>exact⟨0,rfl,om,fun i _ hi=>absurd hi (Nat.not_lt_zero _),rfl⟩
 case round=>
  obtain⟨k,rfl,hk,HK,rfl⟩:=hrel;by_cases hlt:k<l.length
  ·have hkI:(k:Int)<l.length:=om;have g1:=HCL.out k hlt;have HK2:=lh (show l[k]<n->∀i (h:i<l.length),i<k+1->l[i]<n from fun hx i h hi=>by
    rcases Nat.lt_or_ge i k with h1|h1
    ·exact HK.out i h h1
    ·have:i=k:=om;subst this;exact hx)
   by_cases hx:l[k]<n
   ·have HK3:=lh (HK2.out hx);generalize l[k]=x at *;clear HK HK2
    go_wp2
    go_roundw
    case rel=>exact⟨k+1,by go_num,om,HK3,by first|rfl|trivial⟩
    case measure=>simp[intOf];omega
   ·have HU:=lh (LW HK.out hk (fun _=>hx));have HP:=lh (show WD l n top=if top<n\/l[k]? = some n then l else l.take k++n::l.drop k by unfold WD;rw[HU.out]);have HGE:=lh (List.getElem?_eq_getElem hlt);generalize l[k]=x at *;clear HK HK2 HU;by_cases ht:top<n
    ·have HR:=lh (show WD l n top=l by rw[HP.out,if_pos (.inl ht)]);clear HP HGE;exact SB
    ·by_cases hxn:x=n
     ·have HR:=lh (show WD l n top=l by rw[HP.out,if_pos (.inr (by rw[HGE.out,hxn]))]);clear HP HGE;exact SB
     ·have HR:=lh (show WD l n top=l.take k++n::l.drop k by
       rw[HP.out,if_neg];rintro(h|h)
       ·exact ht h
       ·rw[HGE.out] at h;injection h with h;exact hxn h)
      clear HP HGE;generalize WD l n top=out at *;have HIN:=lh (hl.takeK k);have HRNG:=lh (show ∀y∈l.take k++n::l.drop k,I64 y from fun y hy=>by
       rcases List.mem_append.1 hy with hy|hy
       ·exact hl.rng y (List.mem_of_mem_take hy)
       ·rcases List.mem_cons.1 hy with rfl|hy
        ·exact hn
        ·exact hl.rng y (List.mem_of_mem_drop hy))
      have HKL:=lh (show(l.take k).length=k by simp;omega);have HDL:=lh (show((l.drop k).map (Value.int .i64)).length=(l.length-k)*1 by simp);have HLEN:=lh (show(l.take k++n::l.drop k).length=k+1+(l.length-k) by simp;omega);have HDR:=fun(W':World) (x:Ext wr W')=>lh (show QP W' (some ⟨pb,po+k,none⟩) ((l.drop k).map (Value.int .i64)) by
       have:=((hl.ext x).cut_in (k:=k) (j:=l.length) om (Nat.le_refl _)).cells;rw[List.take_of_length_le si] at this
       simpa[Addr.add_lit] using this)
      go_wp2_with (first|(at_builtin;refine Qv _ rfl _ _ _ rfl wr.heap.size 3 i0 (.int .i64 0) 1 8 Tryz.underlying22 hi0 hz0 hz1 hz2 rfl om A2 (k+1) c2 ((l.take k).map (Value.int .i64)++[.int .i64 n]) rfl ho2 (some ⟨pb,po+k,none⟩) (l.length-k) (c-k) ((l.drop k).map (Value.int .i64)) rfl HDL.out (HDR _ X2).out (ZP _) um om X2.size ?_;intro A3 c3 w3 ho3 hg3 hat3;have X3:=Ext.app X2 ho2 hg3)|(at_builtin;refine Qv _ rfl _ _ _ rfl wr.heap.size 3 i0 (.int .i64 0) 1 8 Tryz.underlying22 hi0 hz0 hz1 hz2 rfl om A1 k c1 ((l.take k).map (Value.int .i64)) rfl (QQ.ext ho1 (Ext.alloc _ _)) _ 1 1 [.int .i64 n] rfl rfl (QC (Blk.new _ _ _)) (ZP [n]) um om (X1.trans (Ext.alloc _ _)).size ?_;intro A2 c2 w2 ho2 hg2 hat2;have X2:=Ext.app (X1.trans (Ext.alloc _ _)) (QQ.ext ho1 (Ext.alloc _ _)) hg2)|(at_builtin;refine Qv _ rfl _ _ _ rfl wr.heap.size 3 i0 (.int .i64 0) 1 8 Tryz.underlying22 hi0 hz0 hz1 hz2 rfl om none 0 0 [] rfl (QQ.nil _ _ _ _) (some ⟨pb,po,none⟩) k c ((l.take k).map (Value.int .i64)) rfl (by rw[List.length_map,HKL.out,Nat.mul_one]) HIN.out.cells (ZP _) um om (Nat.le_refl _) ?_;intro A1 c1 w1 ho1 hg1 hat1;rw[Nat.zero_add,List.nil_append] at ho1;have X1:=Ext.app (Ext.rfl' wr) (QQ.nil wr wr.heap.size 3 1) hg1))
      go_ret
      refine⟨A3,c3,by rw[HR.out,HLEN.out];rfl,?_,X3⟩;rw[HR.out];refine IL.of_own (base:=wr.heap.size) (e:=3) ?_ HRNG.out;unfold WO;rw[HLEN.out,List.map_append,List.map_cons];rw[List.append_assoc] at ho3;exact ho3
  ·have hk':k=l.length:=om;subst hk';have HU:=lh (LW HK.out hk (fun h=>absurd h hlt));have HP:=lh (show WD l n top=if top<n then l else l++[n] by
    unfold WD;rw[HU.out,List.getElem?_eq_none (Nat.le_refl _)];simp)
   have hkI:¬(l.length:Int)<l.length:=om;clear HK HU hlt hk;by_cases ht:top<n
   ·have HR:=lh (show WD l n top=l by rw[HP.out,if_pos ht]);clear HP;exact SB
   ·have HR:=lh (show WD l n top=l++[n] by rw[HP.out,if_neg ht]);clear HP;generalize WD l n top=out at *;have HIN:=lh hl;have HRNG:=lh (show ∀y∈l++[n],I64 y from fun y hy=>by
     rcases List.mem_append.1 hy with hy|hy
     ·exact hl.rng y hy
     ·obtain rfl:=List.mem_singleton.1 hy;exact hn)
    have HLEN:=lh (show(l++[n]).length=l.length+1 by simp);by_cases hc:c=l.length
    ·subst hc
     go_wp2_with (first|(at_builtin;refine Qv _ rfl _ _ _ rfl wr.heap.size 3 i0 (.int .i64 0) 1 8 Tryz.underlying22 hi0 hz0 hz1 hz2 rfl om A2 (l.length+1) c2 (l.map (Value.int .i64)++[.int .i64 n]) rfl ho2 _ 0 _ [] rfl rfl (fun h=>absurd rfl h) si um om X2.size ?_;intro A3 c3 w3 ho3 hg3 hat3;have X3:=Ext.app X2 ho2 hg3)|(at_builtin;refine Qv _ rfl _ _ _ rfl wr.heap.size 3 i0 (.int .i64 0) 1 8 Tryz.underlying22 hi0 hz0 hz1 hz2 rfl om A1 l.length c1 (l.map (Value.int .i64)) rfl (QQ.ext ho1 (Ext.alloc _ _)) _ 1 1 [.int .i64 n] rfl rfl (QC (Blk.new _ _ _)) (ZP [n]) um om (X1.trans (Ext.alloc _ _)).size ?_;intro A2 c2 w2 ho2 hg2 hat2;have X2:=Ext.app (X1.trans (Ext.alloc _ _)) (QQ.ext ho1 (Ext.alloc _ _)) hg2)|(at_builtin;refine Qv _ rfl _ _ _ rfl wr.heap.size 3 i0 (.int .i64 0) 1 8 Tryz.underlying22 hi0 hz0 hz1 hz2 rfl om none 0 0 [] rfl (QQ.nil _ _ _ _) (some ⟨pb,po,none⟩) l.length l.length (l.map (Value.int .i64)) rfl (by rw[List.length_map,Nat.mul_one]) HIN.out.cells (ZP _) um om (Nat.le_refl _) ?_;intro A1 c1 w1 ho1 hg1 hat1;rw[Nat.zero_add,List.nil_append] at ho1;have X1:=Ext.app (Ext.rfl' wr) (QQ.nil wr wr.heap.size 3 1) hg1))
     exact ew
    ·have hc1:¬(c:Int)=l.length:=om
     go_wp2_with (first|(at_builtin;refine Qv _ rfl _ _ _ rfl wr.heap.size 3 i0 (.int .i64 0) 1 8 Tryz.underlying22 hi0 hz0 hz1 hz2 rfl om A2 (l.length+1) c2 (l.map (Value.int .i64)++[.int .i64 n]) rfl ho2 _ 0 _ [] rfl rfl (fun h=>absurd rfl h) si um om X2.size ?_;intro A3 c3 w3 ho3 hg3 hat3;have X3:=Ext.app X2 ho2 hg3)|(at_builtin;refine Qv _ rfl _ _ _ rfl wr.heap.size 3 i0 (.int .i64 0) 1 8 Tryz.underlying22 hi0 hz0 hz1 hz2 rfl om A1 l.length c1 (l.map (Value.int .i64)) rfl (QQ.ext ho1 (Ext.alloc _ _)) _ 1 1 [.int .i64 n] rfl rfl (QC (Blk.new _ _ _)) (ZP [n]) um om (X1.trans (Ext.alloc _ _)).size ?_;intro A2 c2 w2 ho2 hg2 hat2;have X2:=Ext.app (X1.trans (Ext.alloc _ _)) (QQ.ext ho1 (Ext.alloc _ _)) hg2)|(at_builtin;refine Qv _ rfl _ _ _ rfl wr.heap.size 3 i0 (.int .i64 0) 1 8 Tryz.underlying22 hi0 hz0 hz1 hz2 rfl om none 0 0 [] rfl (QQ.nil _ _ _ _) (some ⟨pb,po,none⟩) l.length c (l.map (Value.int .i64)) rfl (by rw[List.length_map,Nat.mul_one]) HIN.out.cells (ZP _) um om (Nat.le_refl _) ?_;intro A1 c1 w1 ho1 hg1 hat1;rw[Nat.zero_add,List.nil_append] at ho1;have X1:=Ext.app (Ext.rfl' wr) (QQ.nil wr wr.heap.size 3 1) hg1))
     exact ew
structure Hs where
 A:Option Addr
 c:Nat
 l:List Sp
structure LLS (w:World)(A:Option Addr)(c:Nat)(ls:List Hs):Prop where
 le:ls.length<=c
 cap:c<=maxLen
 sl:∀h∈ls,SL w h.A h.c h.l
 at_:ls≠[]->∃b o,A=some ⟨b,o,none⟩/\∀i (h:i<ls.length),w.cell? ⟨b,o+i,none⟩=some (.slice ls[i].A ls[i].l.length ls[i].c)
namespace LLS
variable {w w':World} {A:Option Addr} {c:Nat} {ls:List Hs}
theorem ext (h:LLS w A c ls)(k:Ext w w'):LLS w' A c ls:=by
 refine⟨h.le,h.cap,fun x hx=>(h.sl x hx).ext k,fun hn=>?_⟩;obtain⟨b,o,rfl,hc⟩:=h.at_ hn;exact⟨b,o,rfl,fun i hi=>k.cell (hc i hi)⟩
theorem get {k:Nat}(h:LLS w A c ls)(hk:k<ls.length):∃b o,A=some ⟨b,o,none⟩/\w.cell? ⟨b,o+k,none⟩=some (.slice ls[k].A ls[k].l.length ls[k].c):=by
 obtain⟨b,o,rfl,hc⟩:=h.at_ (by intro h0;subst h0;simp at hk);exact⟨b,o,rfl,hc k hk⟩
theorem len (h:LLS w A c ls):ls.length<=c/\c<=9223372036854775807:=⟨h.le,by have:=h.cap;unfold maxLen at this;omega⟩
end LLS
theorem Bv {l:List Int}{n top:Int}(h:l≠[]):WD l n top≠[]:=by
 unfold WD;split
 ·exact h
 ·simp
theorem aU {l:List Int}{s:Sp}{top:Int}(h:l≠[]):V7 top l s≠[]:=Bv (Bv h)
theorem GV {top:Int}:∀{b:List Sp} {l:List Int},l≠[]->b.foldl (V7 top) l≠[]
 | [],_,h=>h
 | _::b,_,h=>GV (b:=b) (aU h)
def WT (top:Int)(ls:List Hs)(i k:Nat):List Int:=(((ls.take i).map (·.l)).flatten++((ls[i]?.map (·.l)).getD []).take k).foldl (V7 top) [0]
theorem YT (top:Int)(ls:List Hs)(i:Nat):WT top ls i 0=(((ls.take i).map (·.l)).flatten).foldl (V7 top) [0]:=by simp[WT]
theorem EO {top:Int}{ls:List Hs}{i:Nat}(hi:i<ls.length):WT top ls i ls[i].l.length=WT top ls (i+1) 0:=by
 rw[YT];unfold WT;rw[List.getElem?_eq_getElem hi,List.take_succ_eq_append_getElem hi,List.map_append,List.flatten_append,List.foldl_append];simp only[Option.map_some,Option.getD_some,List.take_length,List.map_cons,List.map_nil,List.flatten_cons,List.flatten_nil,List.append_nil,List.foldl_append]
theorem ET {top:Int}{ls:List Hs}{i k:Nat}(hi:i<ls.length)(hk:k<ls[i].l.length):WT top ls i (k+1)=WD (WD (WT top ls i k) ls[i].l[k].1 top) (ls[i].l[k].2+1) top:=by
 unfold WT;rw[List.getElem?_eq_getElem hi];simp only[Option.map_some,Option.getD_some];rw[List.take_succ_eq_append_getElem hk,<-List.append_assoc,List.foldl_append]
 rfl
theorem GX (top:Int)(ls:List Hs):WT top ls ls.length 0=QI top (ls.map (·.l)):=by
 rw[YT,List.take_length];rfl
theorem IF (top:Int)(ls:List Hs)(i k:Nat):WT top ls i k≠[]:=GV si
theorem GY {top:Int}{ls:List Hs}{i k:Nat}:(WT top ls i k).length<=1+2*((ls.map (·.l)).flatten.length):=by
 have h:=zT top (((ls.take i).map (·.l)).flatten++((ls[i]?.map (·.l)).getD []).take k) [0];unfold WT;have h2:(((ls.take i).map (·.l)).flatten++((ls[i]?.map (·.l)).getD []).take k).length<=((ls.map (·.l)).flatten).length:=by
  rcases Nat.lt_or_ge i ls.length with hi|hi
  ·rw[List.getElem?_eq_getElem hi];have e:ls=ls.take i++ls[i]::ls.drop (i+1):=by
    conv=>lhs;rw[<-List.take_append_drop i ls,List.drop_eq_getElem_cons hi]
   have e2:((ls.map (·.l)).flatten).length=((ls.take i).map (·.l)).flatten.length+(ls[i].l.length+((ls.drop (i+1)).map (·.l)).flatten.length):=by
    conv=>lhs;rw[e]
    rw[List.map_append,List.flatten_append,List.length_append,List.map_cons,List.flatten_cons,List.length_append]
   rw[List.length_append,e2];simp only[Option.map_some,Option.getD_some,List.length_take];omega
  ·rw[List.getElem?_eq_none hi,List.take_of_length_le hi]
   simp
 simp only[List.length_singleton] at h;omega
theorem SF (A:Option Addr)(c:Nat)(ls:List Hs)(top:Int)(w:World)(hl:LLS w A c ls)(hg:∀h∈ls,∀s∈h.l,QH s)(hlen:(ls.map (·.l)).flatten.length<=100000) :
 Calls Tryz.prog 125 #[.slice A ls.length c,.int .i64 top] w (ek (QI top (ls.map (·.l))) w):=by
 have hcap:=hl.len;have b0:=Blk.new w 3 #[.int .i64 0];have x0:=Ext.alloc w (.cells #[.int .i64 0] 3);have HALL:=lh (GX top ls);have HST:Hid (WT top ls 0 0=[0]):=by show _=_;rw[YT];rfl
 have HIL0:=lh (IL.one (x:=0) b0 (by unfold I64;omega));generalize QI top (ls.map (·.l))=out at *;go_enter Tryz.func125,Tryz.ntmps125
 go_upto_region 2 with fail
 generalize w.alloc (.cells #[.int .i64 0] 3)=w0 at *
 go_wp2_with fail
 go_loopw [5,6] (fun v5 v6 wr=>∃(i:Nat) (B:Option Addr) (d:Nat) (xs:List Int),v6=.int .i64 i/\i<=ls.length/\v5=.slice B xs.length d/\Hid (xs=WT top ls i 0/\IL wr B d xs)/\Ext w wr) (fun _ v _=>ls.length-(intOf v).toNat)
 case atStart=>exact⟨0,_,1,[0],rfl,om,rfl,⟨HST.out.symm,HIL0.out⟩,x0⟩
 case round=>
  obtain⟨i,B,d,xs,rfl,hi,rfl,HX,x1⟩:=hrel;by_cases hlt:i<ls.length
  ·have hiI:(i:Int)<ls.length:=om;obtain⟨pb,po,rfl,g0⟩:=(hl.ext x1).get hlt;have hsl:=(hl.sl _ (List.getElem_mem hlt)).ext x1;have hgg:=hg _ (List.getElem_mem hlt);have hsll:=hsl.len;have HNX:=lh (EO (top:=top) hlt);have HSTP:=fun(k:Nat) (hk:k<ls[i].l.length)=>lh (ET (top:=top) hlt hk);have HSB:=lh (show ls[i].l.length<=100000 from by
    have e1:ls[i].l.length<=(ls.map (·.l)).flatten.length:=List.Sublist.length_le (List.sublist_flatten_of_mem (List.mem_map_of_mem (List.getElem_mem hlt)));omega)
   have HLN:=fun(k:Nat)=>lh (GY (top:=top) (ls:=ls) (i:=i) (k:=k));have HNE:=fun(k:Nat)=>lh (IF top ls i k);generalize ls[i]=hh at *;obtain⟨hA,hc,hl2⟩:=hh
   simp only at g0 hsl hgg hsll HNX HSTP HSB
   go_wp2_with fail
   go_loopw [5,7] (fun v5 v7 wk=>∃(k:Nat) (B:Option Addr) (d:Nat) (xs:List Int),v7=.int .i64 k/\k<=hl2.length/\v5=.slice B xs.length d/\Hid (xs=WT top ls i k/\IL wk B d xs)/\Ext wr wk) (fun _ v _=>hl2.length-(intOf v).toNat)
   case atStart=>exact⟨0,B,d,xs,rfl,om,rfl,HX,Ext.rfl' _⟩
   case round=>
    clear HX;obtain⟨k,B,d,xs,rfl,hk,rfl,HX,xk⟩:=hrel;replace g0:=xk.cell g0;have x2:=x1.trans xk;have hiI0:(0:Int)<=i:=om;by_cases hkl:k<hl2.length
    ·have hkI:(k:Int)<hl2.length:=om;obtain⟨sb,so,rfl,g1,g2⟩:=(hsl.ext xk).get hkl;have hgs:=hgg _ (List.getElem_mem hkl);have HS2:=HSTP k hkl;generalize hl2[k]=s at *;obtain⟨lo,hi2⟩:=s;have hgs':0<=lo/\lo<=hi2/\hi2<=1114111:=hgs
     simp only at g1 g2 HS2
     have hw1:IntKind.i64.wrap (hi2+1)=hi2+1:=wj;have HP1:=lh (Lx B d xs lo top wr HX.out.2 (by rw[HX.out.1];exact(HNE k).out) (by unfold I64;omega) (by rw[HX.out.1];have:=(HLN k).out;omega));have HP2:=fun(B2:Option Addr) (d2:Nat) (W':World) (h:IL W' B2 d2 (WD xs lo top))=>lh (Lx B2 d2 (WD xs lo top) (hi2+1) top W' h (Bv (by rw[HX.out.1];exact(HNE k).out)) (by unfold I64;omega) (by have h1:=xF xs lo top;have h2:=congrArg List.length HX.out.1;have:=(HLN k).out;omega));have HXE:=lh (show WT top ls i (k+1)=WD (WD xs lo top) (hi2+1) top by rw[HS2.out,HX.out.1]);generalize WD (WD xs lo top) (hi2+1) top=zs at *;generalize WD xs lo top=ys at *;clear HSTP HS2 HX HNE HLN hgs hgg
     go_wp2_with fail
     refine HP1.out.mono ?_;rintro e w2 ⟨B2,d2,rfl,iB2,xa⟩;clear HP1;have HP3:=HP2 B2 d2 w2 iB2;replace g0:=xa.cell g0;replace g1:=xa.cell g1;replace g2:=xa.cell g2;have xk2:=xk.trans xa;clear HP2 iB2
     go_wp2_with fail
     refine HP3.out.mono ?_;rintro e w3 ⟨B3,d3,rfl,iB3,xb⟩;have xk3:=xk2.trans xb;have HX3:=lh (show zs=WT top ls i (k+1)/\IL w3 B3 d3 zs from⟨HXE.out.symm,iB3⟩);clear HP3 g0 g1 g2 xa xb xk2 xk HXE iB3 hw1 hgs'
     go_wp2_with fail
     go_roundw
     case rel=>exact⟨k+1,B3,d3,zs,by go_num,om,rfl,HX3,xk3⟩
     case measure=>simp[intOf];omega
    ·have hkI:¬(k:Int)<hl2.length:=om;have hke:k=hl2.length:=om;have HX4:=lh (show xs=WT top ls (i+1) 0/\IL wr B d xs from⟨by rw[HX.out.1,hke];exact HNX.out,HX.out.2⟩);clear hke HX HSTP HNE HLN hgg
     go_wp2_with fail
     go_roundw
     case rel=>exact⟨i+1,B,d,xs,by go_num,om,rfl,HX4,x2⟩
     case measure=>simp[intOf];omega
  ·have hiI:¬(i:Int)<ls.length:=om;have hix:i=ls.length:=om;have HE:=lh (show xs=out by rw[HX.out.1,hix,HALL.out]);have HI:=lh HX.out.2;clear HX hix
   go_wp2_with fail
   go_ret
   exact⟨B,d,by rw[<-HE.out];rfl,by rw[<-HE.out];exact HI.out,x1⟩
structure IB (w:World)(A:Option Addr)(c:Nat)(bs:List Bool):Prop where
 le:bs.length<=c
 cap:c<=maxLen
 at_:bs≠[]->∃b o,A=some ⟨b,o,none⟩/\∀i (h:i<bs.length),w.cell? ⟨b,o+i,none⟩=some (.bool bs[i])
namespace IB
variable {w w':World} {A:Option Addr} {c:Nat} {bs:List Bool}
theorem ext (h:IB w A c bs)(k:Ext w w'):IB w' A c bs:=by
 refine⟨h.le,h.cap,fun hn=>?_⟩;obtain⟨b,o,rfl,hc⟩:=h.at_ hn;exact⟨b,o,rfl,fun i hi=>k.cell (hc i hi)⟩
theorem nil (w:World):IB w none 0 []:=⟨Nat.le_refl _,Nat.zero_le _,fun h=>absurd rfl h⟩
theorem len (h:IB w A c bs):bs.length<=c/\c<=9223372036854775807:=⟨h.le,by have:=h.cap;unfold maxLen at this;omega⟩
theorem get {k:Nat}(h:IB w A c bs)(hk:k<bs.length):∃b o,A=some ⟨b,o,none⟩/\w.cell? ⟨b,o+k,none⟩=some (.bool bs[k]):=by
 obtain⟨b,o,rfl,hc⟩:=h.at_ (by intro h0;subst h0;simp at hk);exact⟨b,o,rfl,hc k hk⟩
theorem of_own {base:Nat}(h:QQ w base 4 1 A bs.length c (bs.map Value.bool)):IB w A c bs:=by
 have hc:=QQ.caps h;refine⟨hc.1,by unfold maxLen;omega,fun hn=>?_⟩;obtain⟨b,o,hA,hcell⟩:=QQ.cells h (by intro e;rw[List.map_eq_nil_iff] at e;exact hn e);refine⟨b,o,hA,fun i hi=>?_⟩;have:=hcell i (by simpa using hi)
 simpa using this
end IB
theorem zX:∀{l:List Int} {top:Int} {i:Nat} (hi:i<l.length),(ZZ l top)[i]'(by rw[XY];exact hi)=(l[i],if h:i+1<l.length then l[i+1]-1 else top)
 | [a],top,i,hi=>by
  have:i=0:=by simpa using hi
  subst this;simp[ZZ]
 | a::b::r,top,i,hi=>by
  rcases i with _|i
  ·simp[JN]
  ·have:=zX (l:=b::r) (top:=top) (i:=i) (by simpa using hi);simp only[JN,List.getElem_cons_succ,this]
   simp
def WR (p:Int->Bool)(l:List Int)(top:Int)(i:Nat):List Sp×Bool:=ww p ((ZZ l top).take i) ([],false)
theorem xZ (p:Int->Bool)(l:List Int)(top:Int):WR p l top 0=([],false):=rfl
theorem Yk {p:Int->Bool}{l:List Int}{top:Int}{i:Nat}(hi:i<l.length):WR p l top (i+1)=KO (WR p l top i) (l[i],if h:i+1<l.length then l[i+1]-1 else top) (p l[i]):=by
 unfold WR ww;rw[List.take_succ_eq_append_getElem (by rw[XY];exact hi),List.foldl_append,zX hi]
 rfl
theorem xJ {p:Int->Bool}{l:List Int}{top:Int}{i:Nat}(hi:i<l.length):(WR p l top (i+1)).2=p l[i]:=by
 rw[Yk hi];rfl
theorem OL {p:Int->Bool}{l:List Int}{top:Int}:∀{i:Nat},i<=l.length->(WR p l top i).2=true->(WR p l top i).1≠[]
 | 0,_,h=>by rw[xZ] at h;cases h
 | i+1,hi,h=>by
  rw[Yk om] at h ⊢;have hb:p (l[i]'om)=true:=h;unfold KO;simp only[hb,if_true]
  split<;>simp
theorem My {p:Int->Bool}{l:List Int}{top:Int}(hE:Kv l top):(WR p l top l.length).1=cls l top p:=by
 unfold WR;rw[List.take_of_length_le (by rw[XY];exact Nat.le_refl _)];exact dF hE p
theorem OM {st:List Sp×Bool}{s:Sp}:(KO st s false).1=st.1:=rfl
theorem qq {st:List Sp×Bool}{s:Sp}(h:st.2=false):(KO st s true).1=st.1++[s]:=by unfold KO;simp[h]
theorem xK {st:List Sp×Bool}{s t:Sp}{l0:List Sp}(h:st.2=true)(hl:st.1=l0++[t]):(KO st s true).1=l0++[(t.1,s.2)]:=by unfold KO;simp[h,hl]
theorem jL {p:Int->Bool}{l:List Int}{top:Int}:∀{i:Nat},i<=l.length->(WR p l top i).1.length<=i
 | 0,_=>by rw[xZ];simp
 | i+1,hi=>by
  have ih:=jL (p:=p) (l:=l) (top:=top) (i:=i) om;rw[Yk om];unfold KO
  split
  ·split
   ·simp;omega
   ·simp;omega
  ·simp;omega
theorem yW {l:List Int}{top:Int}(hE:Kv l top)(h0:l.head? = some 0)(ht:top<=1114111)(p:Int->Bool):∀s∈cls l top p,QH s:=by
 intro s hs;obtain⟨h1,h2⟩:=kR hE p;have h3:=h1.1 s hs;have h4:=(h2 s.1).1 (ZD.2 ⟨s,hs,Int.le_refl _,h3⟩);have h5:=(h2 s.2).1 (ZD.2 ⟨s,hs,h3,Int.le_refl _⟩);obtain⟨u,hu,_,h6,_⟩:=h4;obtain⟨v,hv,_,_,h7⟩:=h5;have h8:=KG hE u hu;have h9:=KG hE v hv;have h10:0<=u.1:=by
  rcases l with _|⟨a,l⟩
  ·simp at h0
  ·obtain rfl:a=0:=by simpa using h0
   rcases List.mem_cons.1 h8.1 with e|e
   ·omega
   ·have:=(List.pairwise_cons.1 hE.inc).1 u.1 e;omega
 unfold QH;omega
def lI (out:List Sp)(w:World)(e:Ending)(w':World):Prop:=
 (64<out.length/\e=.returned (.tuple #[.slice none 0 0,.int .i64 4])/\Ext w w')\/
 (out.length<=64/\∃(A:Option Addr) (c:Nat),e=.returned (.tuple #[.slice A out.length c,.int .i64 0])/\SL w' A c out/\Ext w w'/\Fr w A)
theorem ey {P:Prop} (h:P:=by
 have hne:xs≠[]:=by rw[HX.out.1];exact OL om HFL.out
 rcases List.eq_nil_or_concat xs with h|⟨l0,t,h⟩
 ·exact absurd h hne
 ·exact⟨l0,t,by rw[h,List.concat_eq_append]⟩):P:=h
theorem eC (A B:Option Addr)(c d:Nat)(l:List Int)(p:Int->Bool)(top:Int)(w:World)(hl:IL w A c l)(hb:IB w B d (l.map p))(hE:Kv l top)(h0:l.head? = some 0)(ht:top<=1114111)(hlen:l.length<=1000000) :
 Calls Tryz.prog 127 #[.slice A l.length c,.slice B l.length d,.int .i64 top] w (lI (cls l top p) w):=by
 obtain⟨iS,jS0,jS1,jS2,jS3⟩:=info_parts UN;have hcap:=hl.len;have hcap2:=hb.len;rw[List.length_map] at hcap2;have HALL:=lh (My (p:=p) hE);have HG:=lh (yW hE h0 ht p);have hE0:∀x∈l,0<=x/\x<=1114111:=fun x hx=>by
  have h1:=hE.le x hx;refine⟨?_,om⟩;rcases l with _|⟨a,l⟩
  ·simp at h0
  ·obtain rfl:a=0:=by simpa using h0
   rcases List.mem_cons.1 hx with e|e
   ·omega
   ·have:=(List.pairwise_cons.1 hE.inc).1 x e;omega
 have HE0:=lh hE0;generalize cls l top p=out at *;clear hE0 hE h0;go_enter Tryz.func127,Tryz.ntmps127
 go_wp2
 go_loopw [8,9] (fun v8 v9 wr=>∃(i:Nat) (O:Option Addr) (cO:Nat) (xs:List Sp),v9=.int .i64 i/\i<=l.length/\v8=.slice O xs.length cO/\Hid (xs=(WR p l top i).1/\WB wr w.heap.size O cO xs)/\Ext w wr) (fun _ v _=>l.length-(intOf v).toNat)
 case atStart=>exact⟨0,none,0,[],rfl,om,rfl,⟨rfl,WB.nil _ _⟩,Ext.rfl' _⟩
 case round=>
  obtain⟨i,O,cO,xs,rfl,hi,rfl,HX,x1⟩:=hrel;by_cases hlt:i<l.length
  ·have hiI:(i:Int)<l.length:=om;obtain⟨pb,po,hB,g0⟩:=(hb.ext x1).get (k:=i) (by rw[List.length_map];exact hlt);subst hB;simp only[List.getElem_map] at g0;have HSU:=lh (Yk (p:=p) (top:=top) hlt);have HXB:=lh (show xs.length<=1000000 by
    have:=jL (p:=p) (l:=l) (top:=top) (i:=i) hi;rw[HX.out.1];omega)
   have hxb:=HXB.out;obtain⟨pa,qa,hAe,g1⟩:=(hl.ext x1).get hlt;have hx0:=HE0.out _ (List.getElem_mem hlt);by_cases hp:p l[i]=true
   ·rw[hp] at g0 HSU;by_cases hn1:i+1<l.length
    ·obtain⟨pa2,qa2,hAe2,g2⟩:=(hl.ext x1).get hn1;have hy0:=HE0.out _ (List.getElem_mem hn1);rw[hAe] at hAe2;obtain⟨rfl,rfl⟩:pa=pa2/\qa=qa2:=by injection hAe2 with h1;injection h1 with h2 h3 h4;exact⟨h2,h3⟩
     rw[dif_pos hn1] at HSU;have hnI:(i:Int)+1<l.length:=om;have hn0:(0:Int)<=(i:Int)+1:=om;have hto:((i:Int)+1).toNat=i+1:=om;have hwi:IntKind.i64.wrap ((i:Int)+1)=(i:Int)+1:=wj;have hwy:IntKind.i64.wrap (l[i+1]-1)=l[i+1]-1:=wj;subst hAe;clear hAe2;generalize l[i]=x at *;generalize l[i+1]=y at *;clear hp;rcases Nat.eq_zero_or_pos i with h0|h0
     ·subst h0;have HFL:=lh (show(WR p l top 0).2=false from rfl);simp only[Nat.add_zero,Nat.zero_add] at *;have HSU2:=lh (show xs++[(x,y-1)]=(WR p l top (0+1)).1 by
       rw[HSU.out,qq HFL.out,HX.out.1])
      have HO:=lh HX.out.2;have HNB:=lh (Blk.new wr 38 (Qz [(x,y-1)]).toArray);have HL6:=lh (show xs.length+1<=maxLen/\(xs.length+1)*16<=140737488355328 by unfold maxLen;omega);have HBS:=lh (x1.trans (Ext.alloc wr (.cells (Qz [(x,y-1)]).toArray 38))).size;have HLN:=lh (show(xs++[(x,y-1)]).length=xs.length+1 by simp);clear HX HSU HFL
      go_wp2_with ((at_builtin;refine Qv _ rfl _ _ _ rfl w.heap.size 38 iS _ 2 16 Tryz.underlying23 jS0 jS1 jS2 jS3 rfl om O xs.length cO (Qz xs) rfl (QQ.ext HO.out (Ext.alloc _ _)) _ 1 1 (Qz [(x,y-1)]) rfl rfl (QC HNB.out) (ZG _) HL6.out.1 HL6.out.2 HBS.out ?_;intro O2 cO2 w2 ho2 hg2 hat2))
      have x2:=Ext.app (x1.trans (Ext.alloc _ _)) (QQ.ext HO.out (Ext.alloc _ _)) hg2;have HP2:Hid (xs++[(x,y-1)]=(WR p l top (0+1)).1/\WB w2 w.heap.size O2 cO2 (xs++[(x,y-1)])):=⟨HSU2.out,by unfold WB;rw[HLN.out,WL];exact ho2⟩;clear hg2 ho2 hat2 HNB HO HSU2 HBS HL6;go_roundw
      case rel=>exact⟨0+1,O2,cO2,xs++[(x,y-1)],by go_num,om,by rw[HLN.out],HP2,x2⟩
      case measure=>simp[intOf];omega
     ·obtain⟨k,rfl⟩:∃k,i=k+1:=⟨i-1,om⟩;have hkl:k<l.length:=om;obtain⟨pb2,po2,hB2,g3⟩:=(hb.ext x1).get (k:=k) (by rw[List.length_map];exact hkl);obtain⟨rfl,rfl⟩:pb=pb2/\po=po2:=by injection hB2 with h1;injection h1 with h2 h3 h4;exact⟨h2,h3⟩
      simp only[List.getElem_map] at g3;have hflag:=xJ (p:=p) (top:=top) hkl;have hki:(0:Int)<(k:Int)+1:=om;have hki0:(0:Int)<=(k:Int)+1:=om;have hkto:((k:Int)+1).toNat=k+1:=om;have hk1:(k:Int)+1<l.length:=om;have hk2:(k:Int)<l.length:=om;have hwk:IntKind.i64.wrap ((k:Int)+1-1)=(k:Int):=wj;have hwk2:IntKind.i64.wrap (k:Int)=(k:Int):=wj;have hwk3:IntKind.i64.wrap ((k:Int)+1+1)=(k:Int)+1+1:=wj;have hkto3:((k:Int)+1+1).toNat=k+1+1:=om;have hkn3:(0:Int)<=(k:Int)+1+1:=om;have hkl3:(k:Int)+1+1<(l.length:Int):=om;clear hB2;by_cases hpk:p l[k]=true
      ·rw[hpk] at g3 hflag;have HFL:=lh hflag;clear hflag hpk;obtain⟨l0,t,hxs⟩:∃l0 t,xs=l0++[t]:=by
        exact ey
       have HSU2:=lh (show l0++[(t.1,y-1)]=(WR p l top (k+1+1)).1 by
        rw[HSU.out,xK HFL.out (HX.out.1.symm.trans hxs)])
       obtain⟨n,hn⟩:∃n,n=l0.length:=⟨_,rfl⟩;have hxl:xs.length=n+1:=by rw[hxs];simp[hn]
       have HOW:QQ wr w.heap.size 38 2 O (n+1) cO (Qz (l0++[t])):=by
        have:=HX.out.2;unfold WB at this;rw[hxl,hxs] at this;exact this
       generalize xs.length=q at *;subst hxl;have hfl:n*2+1<(Qz (l0++[t])).length:=by rw[Q1,List.length_append,List.length_singleton];omega
       obtain⟨go,hOe,hgo,-,-,-,-⟩:=QQ.store HOW hfl;subst hOe;obtain⟨u1,u2,u3⟩:=yQ HOW hn.symm;have HST:=lh (vk HOW hn.symm (y-1));have HLN:=lh (show(l0++[(t.1,y-1)]).length=n+1 by simp[hn]);have hn1:(0:Int)<(n:Int)+1:=om;have hn2:(n:Int)<(n:Int)+1:=om;have hwn:IntKind.i64.wrap ((n:Int)+1-1)=(n:Int):=wj;have hwn2:IntKind.i64.wrap (n:Int)=(n:Int):=wj;have x2:=x1.setNew (p:=⟨go,n*2+1,none⟩) hgo (.int .i64 (y-1));clear HX HSU HFL hxs hfl HOW hn
       go_wp2_with fail
       have HP2:Hid (l0++[(t.1,y-1)]=(WR p l top (k+1+1)).1/\WB (wr.setCell ⟨go,n*2+1,none⟩ (.int .i64 (y-1))) w.heap.size (some ⟨go,0,none⟩) cO (l0++[(t.1,y-1)])):=⟨HSU2.out,by unfold WB;rw[HLN.out];exact HST.out⟩;clear HST HSU2;go_roundw
       case rel=>exact⟨k+1+1,some ⟨go,0,none⟩,cO,l0++[(t.1,y-1)],by go_num,om,by rw[HLN.out],HP2,x2⟩
       case measure=>simp[intOf];omega
      ·have hpk2:p l[k]=false:=by simpa using hpk
       rw[hpk2] at g3 hflag;have HFL:=lh hflag;clear hflag hpk hpk2;have HSU2:=lh (show xs++[(x,y-1)]=(WR p l top (k+1+1)).1 by
        rw[HSU.out,qq HFL.out,HX.out.1])
       have HO:=lh HX.out.2;have HNB:=lh (Blk.new wr 38 (Qz [(x,y-1)]).toArray);have HL6:=lh (show xs.length+1<=maxLen/\(xs.length+1)*16<=140737488355328 by unfold maxLen;omega);have HBS:=lh (x1.trans (Ext.alloc wr (.cells (Qz [(x,y-1)]).toArray 38))).size;have HLN:=lh (show(xs++[(x,y-1)]).length=xs.length+1 by simp);clear HX HSU HFL
       go_wp2_with ((at_builtin;refine Qv _ rfl _ _ _ rfl w.heap.size 38 iS _ 2 16 Tryz.underlying23 jS0 jS1 jS2 jS3 rfl om O xs.length cO (Qz xs) rfl (QQ.ext HO.out (Ext.alloc _ _)) _ 1 1 (Qz [(x,y-1)]) rfl rfl (QC HNB.out) (ZG _) HL6.out.1 HL6.out.2 HBS.out ?_;intro O2 cO2 w2 ho2 hg2 hat2))
       have x2:=Ext.app (x1.trans (Ext.alloc _ _)) (QQ.ext HO.out (Ext.alloc _ _)) hg2;have HP2:Hid (xs++[(x,y-1)]=(WR p l top (k+1+1)).1/\WB w2 w.heap.size O2 cO2 (xs++[(x,y-1)])):=⟨HSU2.out,by unfold WB;rw[HLN.out,WL];exact ho2⟩;clear hg2 ho2 hat2 HNB HO HSU2 HBS HL6;go_roundw
       case rel=>exact⟨k+1+1,O2,cO2,xs++[(x,y-1)],by go_num,om,by rw[HLN.out],HP2,x2⟩
       case measure=>simp[intOf];omega
    ·rw[dif_neg hn1] at HSU;have hnI:¬(i:Int)+1<l.length:=om;have hwi:IntKind.i64.wrap ((i:Int)+1)=(i:Int)+1:=wj;subst hAe;generalize l[i]=x at *;clear hp;rcases Nat.eq_zero_or_pos i with h0|h0
     ·subst h0;have HFL:=lh (show(WR p l top 0).2=false from rfl);simp only[Nat.add_zero,Nat.zero_add] at *;have HSU2:=lh (show xs++[(x,top)]=(WR p l top (0+1)).1 by
       rw[HSU.out,qq HFL.out,HX.out.1])
      have HO:=lh HX.out.2;have HNB:=lh (Blk.new wr 38 (Qz [(x,top)]).toArray);have HL6:=lh (show xs.length+1<=maxLen/\(xs.length+1)*16<=140737488355328 by unfold maxLen;omega);have HBS:=lh (x1.trans (Ext.alloc wr (.cells (Qz [(x,top)]).toArray 38))).size;have HLN:=lh (show(xs++[(x,top)]).length=xs.length+1 by simp);clear HX HSU HFL
      go_wp2_with ((at_builtin;refine Qv _ rfl _ _ _ rfl w.heap.size 38 iS _ 2 16 Tryz.underlying23 jS0 jS1 jS2 jS3 rfl om O xs.length cO (Qz xs) rfl (QQ.ext HO.out (Ext.alloc _ _)) _ 1 1 (Qz [(x,top)]) rfl rfl (QC HNB.out) (ZG _) HL6.out.1 HL6.out.2 HBS.out ?_;intro O2 cO2 w2 ho2 hg2 hat2))
      have x2:=Ext.app (x1.trans (Ext.alloc _ _)) (QQ.ext HO.out (Ext.alloc _ _)) hg2;have HP2:Hid (xs++[(x,top)]=(WR p l top (0+1)).1/\WB w2 w.heap.size O2 cO2 (xs++[(x,top)])):=⟨HSU2.out,by unfold WB;rw[HLN.out,WL];exact ho2⟩;clear hg2 ho2 hat2 HNB HO HSU2 HBS HL6;go_roundw
      case rel=>exact⟨0+1,O2,cO2,xs++[(x,top)],by go_num,om,by rw[HLN.out],HP2,x2⟩
      case measure=>simp[intOf];omega
     ·obtain⟨k,rfl⟩:∃k,i=k+1:=⟨i-1,om⟩;have hkl:k<l.length:=om;obtain⟨pb2,po2,hB2,g3⟩:=(hb.ext x1).get (k:=k) (by rw[List.length_map];exact hkl);obtain⟨rfl,rfl⟩:pb=pb2/\po=po2:=by injection hB2 with h1;injection h1 with h2 h3 h4;exact⟨h2,h3⟩
      simp only[List.getElem_map] at g3;have hflag:=xJ (p:=p) (top:=top) hkl;have hki:(0:Int)<(k:Int)+1:=om;have hki0:(0:Int)<=(k:Int)+1:=om;have hkto:((k:Int)+1).toNat=k+1:=om;have hk1:(k:Int)+1<l.length:=om;have hk2:(k:Int)<l.length:=om;have hwk:IntKind.i64.wrap ((k:Int)+1-1)=(k:Int):=wj;have hwk2:IntKind.i64.wrap (k:Int)=(k:Int):=wj;have hwk3:IntKind.i64.wrap ((k:Int)+1+1)=(k:Int)+1+1:=wj;have hkto3:((k:Int)+1+1).toNat=k+1+1:=om;have hkn3:(0:Int)<=(k:Int)+1+1:=om;have hkl3:¬(k:Int)+1+1<(l.length:Int):=om;clear hB2;by_cases hpk:p l[k]=true
      ·rw[hpk] at g3 hflag;have HFL:=lh hflag;clear hflag hpk;obtain⟨l0,t,hxs⟩:∃l0 t,xs=l0++[t]:=by
        exact ey
       have HSU2:=lh (show l0++[(t.1,top)]=(WR p l top (k+1+1)).1 by
        rw[HSU.out,xK HFL.out (HX.out.1.symm.trans hxs)])
       obtain⟨n,hn⟩:∃n,n=l0.length:=⟨_,rfl⟩;have hxl:xs.length=n+1:=by rw[hxs];simp[hn]
       have HOW:QQ wr w.heap.size 38 2 O (n+1) cO (Qz (l0++[t])):=by
        have:=HX.out.2;unfold WB at this;rw[hxl,hxs] at this;exact this
       generalize xs.length=q at *;subst hxl;have hfl:n*2+1<(Qz (l0++[t])).length:=by rw[Q1,List.length_append,List.length_singleton];omega
       obtain⟨go,hOe,hgo,-,-,-,-⟩:=QQ.store HOW hfl;subst hOe;obtain⟨u1,u2,u3⟩:=yQ HOW hn.symm;have HST:=lh (vk HOW hn.symm (top));have HLN:=lh (show(l0++[(t.1,top)]).length=n+1 by simp[hn]);have hn1:(0:Int)<(n:Int)+1:=om;have hn2:(n:Int)<(n:Int)+1:=om;have hwn:IntKind.i64.wrap ((n:Int)+1-1)=(n:Int):=wj;have hwn2:IntKind.i64.wrap (n:Int)=(n:Int):=wj;have x2:=x1.setNew (p:=⟨go,n*2+1,none⟩) hgo (.int .i64 (top));clear HX HSU HFL hxs hfl HOW hn
       go_wp2_with fail
       have HP2:Hid (l0++[(t.1,top)]=(WR p l top (k+1+1)).1/\WB (wr.setCell ⟨go,n*2+1,none⟩ (.int .i64 (top))) w.heap.size (some ⟨go,0,none⟩) cO (l0++[(t.1,top)])):=⟨HSU2.out,by unfold WB;rw[HLN.out];exact HST.out⟩;clear HST HSU2;go_roundw
       case rel=>exact⟨k+1+1,some ⟨go,0,none⟩,cO,l0++[(t.1,top)],by go_num,om,by rw[HLN.out],HP2,x2⟩
       case measure=>simp[intOf];omega
      ·have hpk2:p l[k]=false:=by simpa using hpk
       rw[hpk2] at g3 hflag;have HFL:=lh hflag;clear hflag hpk hpk2;have HSU2:=lh (show xs++[(x,top)]=(WR p l top (k+1+1)).1 by
        rw[HSU.out,qq HFL.out,HX.out.1])
       have HO:=lh HX.out.2;have HNB:=lh (Blk.new wr 38 (Qz [(x,top)]).toArray);have HL6:=lh (show xs.length+1<=maxLen/\(xs.length+1)*16<=140737488355328 by unfold maxLen;omega);have HBS:=lh (x1.trans (Ext.alloc wr (.cells (Qz [(x,top)]).toArray 38))).size;have HLN:=lh (show(xs++[(x,top)]).length=xs.length+1 by simp);clear HX HSU HFL
       go_wp2_with ((at_builtin;refine Qv _ rfl _ _ _ rfl w.heap.size 38 iS _ 2 16 Tryz.underlying23 jS0 jS1 jS2 jS3 rfl om O xs.length cO (Qz xs) rfl (QQ.ext HO.out (Ext.alloc _ _)) _ 1 1 (Qz [(x,top)]) rfl rfl (QC HNB.out) (ZG _) HL6.out.1 HL6.out.2 HBS.out ?_;intro O2 cO2 w2 ho2 hg2 hat2))
       have x2:=Ext.app (x1.trans (Ext.alloc _ _)) (QQ.ext HO.out (Ext.alloc _ _)) hg2;have HP2:Hid (xs++[(x,top)]=(WR p l top (k+1+1)).1/\WB w2 w.heap.size O2 cO2 (xs++[(x,top)])):=⟨HSU2.out,by unfold WB;rw[HLN.out,WL];exact ho2⟩;clear hg2 ho2 hat2 HNB HO HSU2 HBS HL6;go_roundw
       case rel=>exact⟨k+1+1,O2,cO2,xs++[(x,top)],by go_num,om,by rw[HLN.out],HP2,x2⟩
       case measure=>simp[intOf];omega
   ·have hpf:p l[i]=false:=by simpa using hp
    rw[hpf] at g0 HSU;have HP2:Hid (xs=(WR p l top (i+1)).1/\WB wr w.heap.size O cO xs):=⟨by rw[HSU.out,OM];exact HX.out.1,HX.out.2⟩;clear HX HSU HXB hx0 hp hpf hAe g1
    go_wp2_with fail
    go_roundw
    case rel=>exact⟨i+1,O,cO,xs,by go_num,om,rfl,HP2,x1⟩
    case measure=>simp[intOf];omega
  ·have hiI:¬(i:Int)<l.length:=om;have hix:i=l.length:=om;have HXE:=lh (show xs=out by rw[HX.out.1,hix,HALL.out]);have HO:=lh HX.out.2;have HSZ:Hid (xs.length<=1000000):=by
    have:=jL (p:=p) (l:=l) (top:=top) (i:=i) hi
    show _<=_
    rw[HX.out.1];omega
   clear HX hix HALL;by_cases h64:64<xs.length
   ·have hI64:(64:Int)<xs.length:=om
    go_wp2_with fail
    exact bodyPost_ret (v:=.tuple #[.slice none 0 0,.int .i64 4]) (by simp[results,Tryz.results127,go_sem]) rfl (.inl ⟨by rw[<-HXE.out];exact h64,rfl,x1⟩)
   ·have hI64:¬(64:Int)<xs.length:=om
    go_wp2_with fail
    exact bodyPost_ret (v:=.tuple #[.slice O xs.length cO,.int .i64 0]) (by simp[results,Tryz.results127,go_sem]) rfl (.inr ⟨by rw[<-HXE.out];omega,O,cO,by rw[HXE.out],by
     rw[<-HXE.out];refine SL.of_own HO.out (fun s hs=>?_);have:=HG.out s (by rw[<-HXE.out];exact hs);unfold QH at this;exact⟨by unfold I64;omega,by unfold I64;omega⟩,x1,fun b hb=>WB.row HO.out hb⟩)
end
