/- Texts of this proof: G5 G6 G7 G8. -/
import Derived.Test.YtmpcoifnpflapaaGreatER09
import Derived.Test.YtmpcoifnpflapaaGreatER10
set_option linter.all false
set_option maxRecDepth 100000
set_option maxHeartbeats 4000000
namespace Go.Proofs.YtmpcoifnpflapaaGreat
section
open Go.RowKit
theorem OwnS.store {w:World}{base e size n c:Nat}{A:Option Addr}{xs:List Value}(h:OwnS w base e size A n c xs){i:Nat}(hi:i<xs.length) :
 ∃g,A=some ⟨g,0,none⟩/\base<=g/\w.cell? ⟨g,i,none⟩=some xs[i]/\w.frozen? ⟨g,i,none⟩=false/\g<w.heap.size/\∀v,OwnS (w.setCell ⟨g,i,none⟩ v) base e size A n c (xs.set i v):=by
 rcases h.form with⟨_,h0,_,h1⟩|⟨g,cur,rfl,hg,hh,hnc,hcm,hcs,ht⟩
 ·subst h1;simp at hi
 ·have hB:Blk w g e cur:=hh;obtain⟨b,o,he,hc⟩:=OwnS.cells h (by intro e;subst e;simp at hi);injection he with he;injection he with e1 e2 _
  subst e1 e2;refine⟨g,rfl,hg,?_,hB.frz i,hB.lt,fun v=>?_⟩
  ·have:=hc i hi
   simpa using this
  ·have h1:=OwnS.of_blk (n:=n) (c:=c) (size:=size) (hB.set i v) hg (by rw[Array.size_setIfInBounds];exact hcs) hnc hcm;have e:((cur.setIfInBounds i v).toList.take (n*size))=xs.set i v:=by
    rw[Array.toList_setIfInBounds,<-ht,List.take_set]
   rw[e] at h1;exact h1
def OwnP (w:World)(base:Nat)(A:Option Addr)(c:Nat)(l:List Sp):Prop:=OwnS w base 24 2 A l.length c (flatS l)
theorem OwnP.nil (w:World)(base:Nat):OwnP w base none 0 []:=OwnS.nil _ _ _ _
theorem OwnP.ext {w w':World}{base c:Nat}{A:Option Addr}{l:List Sp}(h:OwnP w base A c l)(k:Ext w w'):OwnP w' base A c l:=OwnS.ext h k
theorem OwnP.kp {w w':World}{base c:Nat}{A:Option Addr}{l:List Sp}{p:Nat->Prop}(h:OwnP w base A c l)(k:KpP p w w')(hn:∀b,A.map (·.block)=some b->¬p b):OwnP w' base A c l:=OwnS.kp h k hn
theorem OwnP.row {w:World}{base c:Nat}{A:Option Addr}{l:List Sp}(h:OwnP w base A c l){b:Nat}(hb:A.map (·.block)=some b):base<=b:=OwnS.row h b hb
theorem OwnP.blt {w:World}{base c:Nat}{A:Option Addr}{l:List Sp}(h:OwnP w base A c l){b:Nat}(hb:A.map (·.block)=some b):b<w.heap.size:=(OwnS.blt h hb).1
theorem flatS_set (l:List Sp)(t:Sp)(v:Int):(flatS (l++[t])).set (l.length*2+1) (.int .i64 v)=flatS (l++[(t.1,v)]):=by
 rw[flatS_append,flatS_append,List.set_append,flatS_len,if_neg om]
 congr 1
 rw[show l.length*2+1-l.length*2=1 by omega]
 rfl
theorem lastStore {w:World}{base n c g:Nat}{l0:List Sp}{t:Sp}(h:OwnS w base 24 2 (some ⟨g,0,none⟩) (n+1) c (flatS (l0++[t])))(hn:l0.length=n)(v:Int) :
 OwnS (w.setCell ⟨g,n*2+1,none⟩ (.int .i64 v)) base 24 2 (some ⟨g,0,none⟩) (n+1) c (flatS (l0++[(t.1,v)])):=by
 have hfl:n*2+1<(flatS (l0++[t])).length:=by rw[flatS_len,List.length_append,List.length_singleton];omega
 obtain⟨g',he,_,_,_,_,gst⟩:=OwnS.store h hfl;injection he with he;injection he with e1 _ _
 subst e1;have:=gst (.int .i64 v)
 rw[<-hn,flatS_set] at this
 rw[<-hn];exact this
theorem lastCell {w:World}{base n c g:Nat}{l0:List Sp}{t:Sp}(h:OwnS w base 24 2 (some ⟨g,0,none⟩) (n+1) c (flatS (l0++[t])))(hn:l0.length=n) :
 w.cell? ⟨g,n*2+1,none⟩=some (.int .i64 t.2)/\w.frozen? ⟨g,n*2+1,none⟩=false/\g<w.heap.size:=by
 have hfl:n*2+1<(flatS (l0++[t])).length:=by rw[flatS_len,List.length_append,List.length_singleton];omega
 obtain⟨g',he,_,h1,h2,h3,_⟩:=OwnS.store h hfl;injection he with he;injection he with e1 _ _
 subst e1;have hval:(flatS (l0++[t]))[n*2+1]=.int .i64 t.2:=by
  have:=(flatS_get (l0++[t]) n (by rw[List.length_append,List.length_singleton];omega)).2;obtain⟨_,e1⟩:=List.getElem?_eq_some_iff.1 this;rw[e1];simp[<-hn]
 rw[hval] at h1;exact⟨h1,h2,h3⟩
def RetAdd (base:Nat)(A:Option Addr)(out:List Sp)(w:World)(e:Ending)(w':World):Prop:=
 ∃(A':Option Addr) (c':Nat),e=.returned (.slice A' out.length c')/\OwnP w' base A' c' out/\KpP (fun b=>A.map (·.block)=some b) w w'/\(A'.map (·.block)=A.map (·.block)\/∃b,A'.map (·.block)=some b/\w.heap.size<=b)
theorem addS_join {l:List Sp}{t s:Sp}(h:s.1<=t.2+1):addS (l++[t]) s=l++[(t.1,max t.2 s.2)]:=by rw[addS_snoc,if_pos h]
theorem addS_more {l:List Sp}{t s:Sp}(h:¬s.1<=t.2+1):addS (l++[t]) s=l++[t]++[s]:=by rw[addS_snoc,if_neg h]
theorem add_any (base:Nat)(A:Option Addr)(c:Nat)(l:List Sp)(s:Sp)(w:World)(hl:OwnP w base A c l)(hb:base<=w.heap.size)(hr:∀t∈l,goodS t)(hs:goodS s)(hn:l.length<=1000000) :
 Calls Tryz.prog 134 #[.slice A l.length c,spV s] w (RetAdd base A (addS l s) w):=by
 obtain⟨iS,jS0,jS1,jS2,jS3⟩:=info_parts infoS;obtain⟨lo,hi⟩:=s;have hs':0<=lo/\lo<=hi/\hi<=1114111:=hs;unfold spV
 simp only
 have bx:=Blk.new w 24 #[.int .i64 lo,.int .i64 hi];have ex:=Ext.alloc w (.cells #[.int .i64 lo,.int .i64 hi] 24);have hz0:=ex.size;have hlx:=OwnP.ext hl ex;have hcap:=OwnS.caps hl;rcases List.eq_nil_or_concat l with rfl|⟨l0,t,rfl⟩
 ·rw[addS_nil];simp only[List.length_nil] at hlx hcap ⊢;have HX:=lh (show OwnS (w.alloc (.cells #[.int .i64 lo,.int .i64 hi] 24)) base 24 2 A 0 c (flatS []) from hlx);have HNEW:=lh (Blk.new (w.alloc (.cells #[.int .i64 lo,.int .i64 hi] 24)) 24 (flatS [(lo,hi)]).toArray);have e2:=Ext.alloc (w.alloc (.cells #[.int .i64 lo,.int .i64 hi] 24)) (.cells (flatS [(lo,hi)]).toArray 24);have hz2:=e2.size;obtain⟨p0,p1,_,_,pz⟩:=bx.c2;go_enter Tryz.func134,Tryz.ntmps134
  go_upto_region 2 with fail
  refine Xr.start [] kr ?_;refine Xtk 0 ?_
  iterate 2(refine Xtn ?_)
  iterate 10(first|refine Xtn ?_|refine Xsn ?_)
  refine Xtn ?_;refine Xdn fun w2 hE2 hK2=>?_;have x2:=hK2.nil;have b2:=bx.ext x2;obtain⟨q0,q1,_,_,qz⟩:=b2.c2;have H2:=lh (OwnS.ext HX.out x2);have HN2:=lh (Blk.new w2 24 (flatS [(lo,hi)]).toArray);have hz3:=x2.size;have HB:=lh (show base<=(w2.alloc (.cells (flatS [(lo,hi)]).toArray 24)).heap.size by have:=(Ext.alloc w2 (.cells (flatS [(lo,hi)]).toArray 24)).size;omega);clear p0 p1 pz hE2 hK2
  go_wp2_with ((at_builtin;refine wpList_app _ rfl _ _ _ rfl base 24 iS _ 2 16 Tryz.underlying25 jS0 jS1 jS2 jS3 rfl om A 0 c (flatS []) rfl (OwnS.ext H2.out (Ext.alloc _ _)) _ 1 1 (flatS [(lo,hi)]) rfl rfl (blk_cells HN2.out) (flatS_one _) um om HB.out ?_;intro A' c' w3 ho3 hg3 hat3))
  go_ret
  refine⟨A',c',rfl,ho3,?_,?_⟩
  ·exact(KpP.of_ext ((ex.trans x2).trans (Ext.alloc _ _))).trans (KpP.of_grown hg3)
  ·rcases hat3 with h|h
   ·exact .inl h
   ·exact .inr ⟨_,h,((ex.trans x2).trans (Ext.alloc _ _)).size⟩
 ·rw[List.concat_eq_append] at *;have ht:=hr t si;have ht':0<=t.1/\t.1<=t.2/\t.2<=1114111:=ht;obtain⟨tlo,thi⟩:=t
  simp only at ht'
  have hlen:(l0++[(tlo,thi)]).length=l0.length+1:=by simp
  obtain⟨n,hn0⟩:∃n,n=l0.length:=⟨_,rfl⟩;rw[hlen,<-hn0] at hcap hn ⊢;have hlx':OwnS (w.alloc (.cells #[.int .i64 lo,.int .i64 hi] 24)) base 24 2 A (n+1) c (flatS (l0++[(tlo,thi)])):=by
   unfold OwnP at hlx;rw[hlen,<-hn0] at hlx;exact hlx
  have hfl:n*2+1<(flatS (l0++[(tlo,thi)])).length:=by rw[flatS_len,hlen,<-hn0];omega
  obtain⟨g,rfl,hbg,g1,gf,glt,gst⟩:=OwnS.store hlx' hfl;have hval:(flatS (l0++[(tlo,thi)]))[n*2+1]=.int .i64 thi:=by
   have:=(flatS_get (l0++[(tlo,thi)]) n (by rw[hlen];omega)).2;obtain⟨_,e1⟩:=List.getElem?_eq_some_iff.1 this;rw[e1];simp[hn0]
  rw[hval] at g1;have HLX:=lh hlx';have hn1:(0:Int)<(n:Int)+1:=om;have hn2:(n:Int)<(n:Int)+1:=om;have hwn:IntKind.i64.wrap ((n:Int)+1-1)=(n:Int):=wj;have hwn2:IntKind.i64.wrap (n:Int)=(n:Int):=wj;have hwt:IntKind.i64.wrap (thi+1)=thi+1:=wj;obtain⟨p0,p1,_,_,pz⟩:=bx.c2;by_cases hj:lo<=thi+1
  ·have HA:=lh (addS_join (l:=l0) (t:=(tlo,thi)) (s:=(lo,hi)) hj);have hmx:(if thi<hi then hi else thi)=max thi hi:=by split<;>omega
   have HRE:=lh (show(addS (l0++[(tlo,thi)]) (lo,hi)).length=n+1 by rw[HA.out,List.length_append,List.length_singleton,hn0]);have HN0:=lh hn0.symm;have hadd:addS (l0++[(tlo,thi)]) (lo,hi)=l0++[(tlo,max thi hi)]:=HA.out;generalize addS (l0++[(tlo,thi)]) (lo,hi)=out at *;have HAD:=lh hadd;clear hadd HA hn0 hlen hval hfl gst hlx hl hr ht hs;have k0:=fun(w':World) (h:Kp [] (w.alloc (.cells #[.int .i64 lo,.int .i64 hi] 24)) w')=>h.cell p0 si;have k1:=fun(w':World) (h:Kp [] (w.alloc (.cells #[.int .i64 lo,.int .i64 hi] 24)) w')=>h.cell g1 si;go_enter Tryz.func134,Tryz.ntmps134
   go_upto_region 2 with fail
   refine Xr.start [] kr ?_;refine Xtk 0 ?_
   iterate 2(refine Xtn ?_)
   iterate 10(first|refine Xtn ?_|refine Xsn ?_)
   refine Xtn ?_;refine Xdn fun w2 hE2 hK2=>?_;have x2:=hK2.nil;have q0:=x2.cell p0;have q1:=x2.cell p1;have q2:=x2.cell g1;have kq0:=kx0 q0;have kq1:=kx0 q1;have kq2:=kx0 q2;have hOw2:=OwnS.ext HLX.out x2;clear k0 k1 p0 p1 g1 gf HLX hE2 hK2
   go_upto_region 3 with fail
   refine Xs.start [g] 14 kr ?_;refine Xst 0 ?_;refine Xst 1 ?_;refine Xst 2 ?_;refine Xst 3 ?_;refine Xst 4 ?_;refine Xst 5 ?_;refine Xst 6 ?_;refine Xst 7 ?_;refine Xst 8 ?_;refine Xst 9 ?_;refine Xst 10 ?_;refine Xst 11 ?_;refine Xst 12 ?_;refine Xst 13 ?_;refine Xs.stop dK (fun w3 hE3 hX3=>?_);refine Xsp 14 fun w4 hE4 hK4 K hKK=>?_;have x24:=hX3.trans hE4;have hO4:=OwnS.ext hOw2 x24;have g4:=lastCell hO4 HN0.out;have gc:=g4.1;have gf:=g4.2.1
   simp only at gc
   clear g4 kq0 kq1 kq2 q0 q1 q2 hOw2 hX3 hE3;go_simp;refine hKK _ _ (WI_setL (WI_refl _ _ _) List.mem_cons_self _ _) (hK4.setL List.mem_cons_self _ _) ?_;clear hKK;refine ptm ?_;refine Xdn fun w5 hE5 hK5=>?_;have hO5:=OwnS.ext (lastStore hO4 HN0.out (max thi hi)) hE5;have hkk:=(KpP.set (p:=fun b=>(some (⟨g,0,none⟩:Addr)).map (·.block)=some b) (x:=⟨g,n*2+1,none⟩) (KpP.of_ext ((ex.trans x2).trans x24)) (.inl rfl) (.int .i64 (max thi hi))).trans (KpP.of_ext hE5);clear gc gf hO4 hE4 hK4 hE5 hK5 x24
   go_wp2_with fail
   go_ret
   refine⟨some ⟨g,0,none⟩,c,?_,?_,hkk,.inl rfl⟩
   ·rw[HRE.out];rfl
   ·unfold OwnP;rw[HRE.out,HAD.out];exact hO5
  ·have HA:=lh (addS_more (l:=l0) (t:=(tlo,thi)) (s:=(lo,hi)) hj);have HRE:=lh (show(addS (l0++[(tlo,thi)]) (lo,hi)).length=n+1+1 by rw[HA.out];simp[hn0]);have hadd:addS (l0++[(tlo,thi)]) (lo,hi)=l0++[(tlo,thi)]++[(lo,hi)]:=HA.out;generalize addS (l0++[(tlo,thi)]) (lo,hi)=out at *;have HAD:=lh hadd;have HL6:=lh (show n+1+1<=maxLen/\(n+1+1)*16<=140737488355328 by unfold maxLen;omega);clear hadd HA hn0 hlen hval hfl gst hlx hl hr ht hs;have k0:=fun(w':World) (h:Kp [] (w.alloc (.cells #[.int .i64 lo,.int .i64 hi] 24)) w')=>h.cell p0 si;have k1:=fun(w':World) (h:Kp [] (w.alloc (.cells #[.int .i64 lo,.int .i64 hi] 24)) w')=>h.cell g1 si;go_enter Tryz.func134,Tryz.ntmps134
   go_upto_region 2 with fail
   refine Xr.start [] kr ?_;refine Xtk 0 ?_
   iterate 2(refine Xtn ?_)
   iterate 10(first|refine Xtn ?_|refine Xsn ?_)
   refine Xtn ?_;refine Xdn fun w2 hE2 hK2=>?_;have x2:=hK2.nil;have q0:=x2.cell p0;have q1:=x2.cell p1;have hOw2:=lh (OwnS.ext HLX.out x2);have HN2:=lh (Blk.new w2 24 (flatS [(lo,hi)]).toArray);have HB:=lh (show base<=(w2.alloc (.cells (flatS [(lo,hi)]).toArray 24)).heap.size from Nat.le_trans hb ((ex.trans x2).trans (Ext.alloc _ _)).size);clear k0 k1 p0 p1 g1 gf HLX hE2 hK2
   go_wp2_with ((at_builtin;refine wpList_app _ rfl _ _ _ rfl base 24 iS _ 2 16 Tryz.underlying25 jS0 jS1 jS2 jS3 rfl om (some ⟨g,0,none⟩) (n+1) c (flatS (l0++[(tlo,thi)])) rfl (OwnS.ext hOw2.out (Ext.alloc _ _)) _ 1 1 (flatS [(lo,hi)]) rfl rfl (blk_cells HN2.out) (flatS_one _) HL6.out.1 HL6.out.2 HB.out ?_;intro A' c' w3 ho3 hg3 hat3))
   go_ret
   refine⟨A',c',?_,?_,?_,?_⟩
   ·rw[HRE.out];rfl
   ·unfold OwnP;rw[HRE.out,HAD.out,flatS_append (l0++[(tlo,thi)])];exact ho3
   ·exact(KpP.of_ext ((ex.trans x2).trans (Ext.alloc _ _))).trans (KpP.of_grown hg3)
   ·rcases hat3 with h|h
    ·exact .inl h
    ·exact .inr ⟨_,h,((ex.trans x2).trans (Ext.alloc _ _)).size⟩
structure Hs where
 A:Option Addr
 c:Nat
 l:List Sp
structure LLS (w:World)(A:Option Addr)(c:Nat)(ls:List Hs):Prop where
 le:ls.length<=c
 cap:c<=maxLen
 sl:∀h∈ls,SL w h.A h.c h.l
 at_:ls≠[]->∃b o,A=some ⟨b,o,none⟩/\∀i (h:i<ls.length),w.cell? ⟨b,o+i,none⟩=some (.slice ls[i].A ls[i].l.length ls[i].c)
namespace LLS
variable {w w':World} {A:Option Addr} {c:Nat} {ls:List Hs}
theorem ext (h:LLS w A c ls)(k:Ext w w'):LLS w' A c ls:=by
 refine⟨h.le,h.cap,fun x hx=>(h.sl x hx).ext k,fun hn=>?_⟩;obtain⟨b,o,rfl,hc⟩:=h.at_ hn;exact⟨b,o,rfl,fun i hi=>k.cell (hc i hi)⟩
theorem get {k:Nat}(h:LLS w A c ls)(hk:k<ls.length):∃b o,A=some ⟨b,o,none⟩/\w.cell? ⟨b,o+k,none⟩=some (.slice ls[k].A ls[k].l.length ls[k].c):=by
 obtain⟨b,o,rfl,hc⟩:=h.at_ (by intro h0;subst h0;simp at hk);exact⟨b,o,rfl,hc k hk⟩
theorem len (h:LLS w A c ls):ls.length<=c/\c<=9223372036854775807:=⟨h.le,by have:=h.cap;unfold maxLen at this;omega⟩
end LLS
structure IB (w:World)(A:Option Addr)(c:Nat)(bs:List Bool):Prop where
 le:bs.length<=c
 cap:c<=maxLen
 at_:bs≠[]->∃b o,A=some ⟨b,o,none⟩/\∀i (h:i<bs.length),w.cell? ⟨b,o+i,none⟩=some (.bool bs[i])
namespace IB
variable {w w':World} {A:Option Addr} {c:Nat} {bs:List Bool}
theorem ext (h:IB w A c bs)(k:Ext w w'):IB w' A c bs:=by
 refine⟨h.le,h.cap,fun hn=>?_⟩;obtain⟨b,o,rfl,hc⟩:=h.at_ hn;exact⟨b,o,rfl,fun i hi=>k.cell (hc i hi)⟩
theorem nil (w:World):IB w none 0 []:=⟨Nat.le_refl _,Nat.zero_le _,fun h=>absurd rfl h⟩
theorem len (h:IB w A c bs):bs.length<=c/\c<=9223372036854775807:=⟨h.le,by have:=h.cap;unfold maxLen at this;omega⟩
theorem get {k:Nat}(h:IB w A c bs)(hk:k<bs.length):∃b o,A=some ⟨b,o,none⟩/\w.cell? ⟨b,o+k,none⟩=some (.bool bs[k]):=by
 obtain⟨b,o,rfl,hc⟩:=h.at_ (by intro h0;subst h0;simp at hk);exact⟨b,o,rfl,hc k hk⟩
theorem of_own {base:Nat}(h:OwnS w base 4 1 A bs.length c (bs.map Value.bool)):IB w A c bs:=by
 have hc:=OwnS.caps h;refine⟨hc.1,by unfold maxLen;omega,fun hn=>?_⟩;obtain⟨b,o,hA,hcell⟩:=OwnS.cells h (by intro e;rw[List.map_eq_nil_iff] at e;exact hn e);refine⟨b,o,hA,fun i hi=>?_⟩;have:=hcell i (by simpa using hi)
 simpa using this
end IB
theorem segsT_get:∀{l:List Int} {top:Int} {i:Nat} (hi:i<l.length),(segsT l top)[i]'(by rw[segsT_len];exact hi)=(l[i],if h:i+1<l.length then l[i+1]-1 else top)
 | [a],top,i,hi=>by
  have:i=0:=by simpa using hi
  subst this;simp[segsT]
 | a::b::r,top,i,hi=>by
  rcases i with _|i
  ·simp[segsT_cons]
  ·have:=segsT_get (l:=b::r) (top:=top) (i:=i) (by simpa using hi);simp only[segsT_cons,List.getElem_cons_succ,this]
   simp
theorem cls_good {l:List Int}{top:Int}(hE:Ends l top)(h0:l.head? = some 0)(ht:top<=1114111)(p:Int->Bool):∀s∈cls l top p,goodS s:=by
 intro s hs;obtain⟨h1,h2⟩:=cls_canon hE p;have h3:=h1.1 s hs;have h4:=(h2 s.1).1 (has_iff.2 ⟨s,hs,Int.le_refl _,h3⟩);have h5:=(h2 s.2).1 (has_iff.2 ⟨s,hs,h3,Int.le_refl _⟩);obtain⟨u,hu,_,h6,_⟩:=h4;obtain⟨v,hv,_,_,h7⟩:=h5;have h8:=segsT_mem hE u hu;have h9:=segsT_mem hE v hv;have h10:0<=u.1:=by
  rcases l with _|⟨a,l⟩
  ·simp at h0
  ·obtain rfl:a=0:=by simpa using h0
   rcases List.mem_cons.1 h8.1 with e|e
   ·omega
   ·have:=(List.pairwise_cons.1 hE.inc).1 u.1 e;omega
 unfold goodS;omega
end
end Go.Proofs.YtmpcoifnpflapaaGreat
