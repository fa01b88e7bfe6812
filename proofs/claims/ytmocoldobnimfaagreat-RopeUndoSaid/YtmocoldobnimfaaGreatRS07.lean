/- Texts of this proof: G3 G4 G5 G6 G7. -/
import Derived.Test.YtmocoldobnimfaaGreatRS02
import Derived.Test.YtmocoldobnimfaaGreatRS03
set_option linter.all false
set_option maxRecDepth 100000
set_option maxHeartbeats 4000000
namespace Go.Proofs.YtmocoldobnimfaaGreat
section
open Go.RowKit
theorem sValid_any (A:Option Addr)(c:Nat)(l:List Sp)(w:World)(hl:SL w A c l):Calls Tryz.prog 114 #[.slice A l.length c] w (RetV (.int .i64 (validE l)) w):=by
 have hlen:=hl.len;have HB:=fun i hi h=>lh (validE_bad (l:=l) (i:=i) hi h);have HK:=fun h=>lh (validE_ok (l:=l) h);generalize validE l=r at *;go_enter Tryz.func114,Tryz.ntmps114
 go_wp2
 go_loopw [7] (fun v wr=>∃i:Nat,v=.int .i64 i/\i<=l.length/\Hid (∀j,j<i->okAt l j)/\Ext w wr) (fun v _=>l.length-(intOf v).toNat)
 case atStart=>exact⟨0,rfl,om,fun j hj=>absurd hj (Nat.not_lt_zero _),Ext.rfl' _⟩
 case round=>
  obtain⟨i,rfl,hi,HI,x1⟩:=hrel;by_cases hlt:i<l.length
  ·obtain⟨s1,s2,s3⟩:=okStep hlt HI.out;have HB2:=HB i hlt;have HM:=fun h=>lh (okMore HI.out h);obtain⟨b,o,rfl,g1,g2⟩:=(hl.ext x1).get hlt;have h64:=hl.wf hlt;have hI:(i:Int)<l.length:=om;by_cases h0:0<i
   ·obtain⟨p,hp,hpg,s4,s5⟩:=s2 h0;have h1l:i-1<l.length:=om;rw[List.getElem?_eq_getElem h1l] at hp;injection hp with hp
    obtain⟨b2,o2,hA2,g4,g3⟩:=(hl.ext x1).get h1l;obtain⟨rfl,rfl⟩:b=b2/\o=o2:=by injection hA2 with h1;injection h1 with h2 h3 h4;exact⟨h2,h3⟩
    rw[hp] at g3;clear s1 s2 hA2 hp g4 h1l HI HB;obtain⟨k,rfl⟩:∃k,i=k+1:=⟨i-1,om⟩;simp only[Nat.add_sub_cancel] at g3;generalize l[k+1]=s at *;obtain⟨lo,hi2⟩:=s;obtain⟨plo,phi⟩:=p
    simp only at g1 g2 g3 s4 s5 hpg
    have hG:=fun(W':World)=>lh (right_any (lo,hi2) W');unfold spV at hG
    simp only at hG
    have hphi:0<=phi/\phi<=1114111:=by unfold goodS at hpg;simp only at hpg;omega
    have hki:(0:Int)<(k:Int)+1:=om;have hwk:IntKind.i64.wrap ((k:Int)+1-1)=(k:Int):=wj;have hwk2:IntKind.i64.wrap (k:Int)=(k:Int):=wj;have hk0:(0:Int)<=(k:Int)+1:=om;have hk1:(k:Int)+1<(l.length:Int):=om;have hk2:(k:Int)<(l.length:Int):=om;have hto:((k:Int)+1).toNat=k+1:=om;have hwd:IntKind.i64.wrap (phi+2)=phi+2:=wj;obtain⟨b1,xa⟩:=alloc1 wr 38 #[.int .i64 lo,.int .i64 hi2];have x2:=x1.trans xa;have g3a:=xa.cell g3;obtain⟨p0,p1,_,_,pz⟩:=b1.c2
    go_upto_region 4 with fail
    obtain⟨gs,hgs⟩:∃gs,gs=wr.heap.size:=⟨_,rfl⟩
    rw[<-hgs] at b1 p0 p1 pz ⊢;generalize wr.alloc (.cells #[.int .i64 lo,.int .i64 hi2] 38)=wa at *;have k0:=kc0 p0;have k1:=kc0 p1;have k3:=kc0 g3a;clear xa hgs;by_cases hg:goodS (lo,hi2)
    ·have hgB:goodB (lo,hi2)=true:=decide_eq_true hg;rw[hgB] at hG;by_cases hp:phi+2<=lo
     ·have hd:¬lo<phi+2:=om;have HE:=HM (s4 hg om);clear s3 s4 s5 HB2 HM HK hp;refine Xr.start [] kr ?_;refine Xtk 0 ?_;refine Xcl 1 fun w2 hE2 hK2 K hKK=>?_;go_simp;refine(hG _).out.mono ?_;rintro e w3 ⟨rfl,x3⟩;refine hKK _ _ x3 ?_;clear hKK hG;refine ptm ?_;refine Xtk 2 ?_;refine Xtn ?_
      iterate 14(first|refine Xtn ?_|refine Xsn ?_)
      refine Xtn ?_;refine Xdn fun w4 hE4 hK4=>?_;have x4:=x2.trans hK4.nil;clear k0 k1 k3 p0 p1 g1 g2 g3 g3a hd hE2 hK2 x3 hE4 hK4 b1
      go_wp2_with fail
      go_roundw
      case rel=>exact⟨k+1+1,by go_num,om,HE,x4⟩
      case measure=>simp[intOf];omega
     ·have hd:lo<phi+2:=om;have HE:=HB2 (s5 om);clear s3 s4 s5 HB2 HM HK hp;refine Xr.start [] kr ?_;refine Xtk 0 ?_;refine Xcl 1 fun w2 hE2 hK2 K hKK=>?_;go_simp;refine(hG _).out.mono ?_;rintro e w3 ⟨rfl,x3⟩;refine hKK _ _ x3 ?_;clear hKK hG;refine ptm ?_;refine Xtk 2 ?_;refine Xtn ?_
      iterate 14(first|refine Xtn ?_|refine Xsn ?_)
      refine Xtn ?_;refine Xdn fun w4 hE4 hK4=>?_;have x4:=x2.trans hK4.nil;clear k0 k1 k3 p0 p1 g1 g2 g3 g3a hd hE2 hK2 x3 hE4 hK4 b1
      go_wp2_with fail
      go_ret
      exact⟨by rw[HE.out];rfl,x4⟩
    ·have hgB:goodB (lo,hi2)=false:=decide_eq_false hg;rw[hgB] at hG;have HE:=HB2 (s3 hg);clear s3 s4 s5 HB2 HM HK;refine Xr.start [] kr ?_;refine Xtk 0 ?_;refine Xcl 1 fun w2 hE2 hK2 K hKK=>?_;go_simp;refine(hG _).out.mono ?_;rintro e w3 ⟨rfl,x3⟩;refine hKK _ _ x3 ?_;clear hKK hG;refine ptm ?_;refine Xtk 2 ?_;refine Xtn ?_
     iterate 14(first|refine Xtn ?_|refine Xsn ?_)
     refine Xtn ?_;refine Xdn fun w4 hE4 hK4=>?_;have x4:=x2.trans hK4.nil;clear k0 k1 k3 p0 p1 g1 g2 g3 g3a hE2 hK2 x3 hE4 hK4 b1
     go_wp2_with fail
     go_ret
     exact⟨by rw[HE.out];rfl,x4⟩
   ·obtain rfl:i=0:=om;clear s2 HI HB;generalize l[0]=s at *;obtain⟨lo,hi2⟩:=s;simp only[Nat.zero_mul,Nat.add_zero] at g1 g2 s1 s3;have hG:=fun(W':World)=>lh (right_any (lo,hi2) W');unfold spV at hG
    simp only at hG
    obtain⟨b1,xa⟩:=alloc1 wr 38 #[.int .i64 lo,.int .i64 hi2];have x2:=x1.trans xa;obtain⟨p0,p1,_,_,pz⟩:=b1.c2
    go_upto_region 4 with fail
    obtain⟨gs,hgs⟩:∃gs,gs=wr.heap.size:=⟨_,rfl⟩
    rw[<-hgs] at b1 p0 p1 pz ⊢;generalize wr.alloc (.cells #[.int .i64 lo,.int .i64 hi2] 38)=wa at *;have k0:=kc0 p0;have k1:=kc0 p1;clear xa hgs;by_cases hg:goodS (lo,hi2)
    ·have hgB:goodB (lo,hi2)=true:=decide_eq_true hg;rw[hgB] at hG;have HE:=HM (s1 trivial hg);clear HB2 HM HK s1 s3;refine Xr.start [] kr ?_;refine Xtk 0 ?_;refine Xcl 1 fun w2 hE2 hK2 K hKK=>?_;go_simp;refine(hG _).out.mono ?_;rintro e w3 ⟨rfl,x3⟩;refine hKK _ _ x3 ?_;clear hKK hG;refine ptm ?_;refine Xtk 2 ?_;refine Xtn ?_
     iterate 14(first|refine Xtn ?_|refine Xsn ?_)
     refine Xtn ?_;refine Xdn fun w4 hE4 hK4=>?_;have x4:=x2.trans hK4.nil;clear k0 k1 p0 p1 g1 g2 hE2 hK2 x3 hE4 hK4 b1
     go_wp2_with fail
     go_roundw
     case rel=>exact⟨1,by go_num,om,HE,x4⟩
     case measure=>simp[intOf];omega
    ·have hgB:goodB (lo,hi2)=false:=decide_eq_false hg;rw[hgB] at hG;have HE:=HB2 (s3 hg);clear HB2 HM HK s1 s3;refine Xr.start [] kr ?_;refine Xtk 0 ?_;refine Xcl 1 fun w2 hE2 hK2 K hKK=>?_;go_simp;refine(hG _).out.mono ?_;rintro e w3 ⟨rfl,x3⟩;refine hKK _ _ x3 ?_;clear hKK hG;refine ptm ?_;refine Xtk 2 ?_;refine Xtn ?_
     iterate 14(first|refine Xtn ?_|refine Xsn ?_)
     refine Xtn ?_;refine Xdn fun w4 hE4 hK4=>?_;have x4:=x2.trans hK4.nil;clear k0 k1 p0 p1 g1 g2 hE2 hK2 x3 hE4 hK4 b1
     go_wp2_with fail
     go_ret
     exact⟨by rw[HE.out];rfl,x4⟩
  ·have hI:¬(i:Int)<l.length:=om;have HR:=HK (fun j hj=>HI.out j om);clear HK HB HI;by_cases h64:64<l.length
   ·have HR2:Hid (r=4):=by show _=_;rw[HR.out,if_pos h64]
    have hI64:(64:Int)<l.length:=om;clear HR
    go_wp2
    go_ret
    exact⟨by rw[HR2.out];rfl,x1⟩
   ·have HR2:Hid (r=0):=by show _=_;rw[HR.out,if_neg h64]
    have hI64:¬(64:Int)<l.length:=om;clear HR
    go_wp2
    go_ret
    exact⟨by rw[HR2.out];rfl,x1⟩
theorem OwnS.store {w:World}{base e size n c:Nat}{A:Option Addr}{xs:List Value}(h:OwnS w base e size A n c xs){i:Nat}(hi:i<xs.length) :
 ∃g,A=some ⟨g,0,none⟩/\base<=g/\w.cell? ⟨g,i,none⟩=some xs[i]/\w.frozen? ⟨g,i,none⟩=false/\g<w.heap.size/\∀v,OwnS (w.setCell ⟨g,i,none⟩ v) base e size A n c (xs.set i v):=by
 rcases h.form with⟨_,h0,_,h1⟩|⟨g,cur,rfl,hg,hh,hnc,hcm,hcs,ht⟩
 ·subst h1;simp at hi
 ·have hB:Blk w g e cur:=hh;obtain⟨b,o,he,hc⟩:=OwnS.cells h (by intro e;subst e;simp at hi);injection he with he;injection he with e1 e2 _
  subst e1 e2;refine⟨g,rfl,hg,?_,hB.frz i,hB.lt,fun v=>?_⟩
  ·have:=hc i hi
   simpa using this
  ·have h1:=OwnS.of_blk (n:=n) (c:=c) (size:=size) (hB.set i v) hg (by rw[Array.size_setIfInBounds];exact hcs) hnc hcm;have e:((cur.setIfInBounds i v).toList.take (n*size))=xs.set i v:=by
    rw[Array.toList_setIfInBounds,<-ht,List.take_set]
   rw[e] at h1;exact h1
def OwnP (w:World)(base:Nat)(A:Option Addr)(c:Nat)(l:List Sp):Prop:=OwnS w base 38 2 A l.length c (flatS l)
theorem OwnP.nil (w:World)(base:Nat):OwnP w base none 0 []:=OwnS.nil _ _ _ _
theorem OwnP.ext {w w':World}{base c:Nat}{A:Option Addr}{l:List Sp}(h:OwnP w base A c l)(k:Ext w w'):OwnP w' base A c l:=OwnS.ext h k
theorem OwnP.kp {w w':World}{base c:Nat}{A:Option Addr}{l:List Sp}{p:Nat->Prop}(h:OwnP w base A c l)(k:KpP p w w')(hn:∀b,A.map (·.block)=some b->¬p b):OwnP w' base A c l:=OwnS.kp h k hn
theorem OwnP.row {w:World}{base c:Nat}{A:Option Addr}{l:List Sp}(h:OwnP w base A c l){b:Nat}(hb:A.map (·.block)=some b):base<=b:=OwnS.row h b hb
theorem OwnP.blt {w:World}{base c:Nat}{A:Option Addr}{l:List Sp}(h:OwnP w base A c l){b:Nat}(hb:A.map (·.block)=some b):b<w.heap.size:=(OwnS.blt h hb).1
theorem flatS_set (l:List Sp)(t:Sp)(v:Int):(flatS (l++[t])).set (l.length*2+1) (.int .i64 v)=flatS (l++[(t.1,v)]):=by
 rw[flatS_append,flatS_append,List.set_append,flatS_len,if_neg om]
 congr 1
 rw[show l.length*2+1-l.length*2=1 by omega]
 rfl
theorem lastStore {w:World}{base n c g:Nat}{l0:List Sp}{t:Sp}(h:OwnS w base 38 2 (some ⟨g,0,none⟩) (n+1) c (flatS (l0++[t])))(hn:l0.length=n)(v:Int) :
 OwnS (w.setCell ⟨g,n*2+1,none⟩ (.int .i64 v)) base 38 2 (some ⟨g,0,none⟩) (n+1) c (flatS (l0++[(t.1,v)])):=by
 have hfl:n*2+1<(flatS (l0++[t])).length:=by rw[flatS_len,List.length_append,List.length_singleton];omega
 obtain⟨g',he,_,_,_,_,gst⟩:=OwnS.store h hfl;injection he with he;injection he with e1 _ _
 subst e1;have:=gst (.int .i64 v)
 rw[<-hn,flatS_set] at this
 rw[<-hn];exact this
theorem lastCell {w:World}{base n c g:Nat}{l0:List Sp}{t:Sp}(h:OwnS w base 38 2 (some ⟨g,0,none⟩) (n+1) c (flatS (l0++[t])))(hn:l0.length=n) :
 w.cell? ⟨g,n*2+1,none⟩=some (.int .i64 t.2)/\w.frozen? ⟨g,n*2+1,none⟩=false/\g<w.heap.size:=by
 have hfl:n*2+1<(flatS (l0++[t])).length:=by rw[flatS_len,List.length_append,List.length_singleton];omega
 obtain⟨g',he,_,h1,h2,h3,_⟩:=OwnS.store h hfl;injection he with he;injection he with e1 _ _
 subst e1;have hval:(flatS (l0++[t]))[n*2+1]=.int .i64 t.2:=by
  have:=(flatS_get (l0++[t]) n (by rw[List.length_append,List.length_singleton];omega)).2;obtain⟨_,e1⟩:=List.getElem?_eq_some_iff.1 this;rw[e1];simp[<-hn]
 rw[hval] at h1;exact⟨h1,h2,h3⟩
def RetAdd (base:Nat)(A:Option Addr)(out:List Sp)(w:World)(e:Ending)(w':World):Prop:=
 ∃(A':Option Addr) (c':Nat),e=.returned (.slice A' out.length c')/\OwnP w' base A' c' out/\KpP (fun b=>A.map (·.block)=some b) w w'/\(A'.map (·.block)=A.map (·.block)\/∃b,A'.map (·.block)=some b/\w.heap.size<=b)
theorem addS_join {l:List Sp}{t s:Sp}(h:s.1<=t.2+1):addS (l++[t]) s=l++[(t.1,max t.2 s.2)]:=by rw[addS_snoc,if_pos h]
theorem addS_more {l:List Sp}{t s:Sp}(h:¬s.1<=t.2+1):addS (l++[t]) s=l++[t]++[s]:=by rw[addS_snoc,if_neg h]
theorem add_any (base:Nat)(A:Option Addr)(c:Nat)(l:List Sp)(s:Sp)(w:World)(hl:OwnP w base A c l)(hb:base<=w.heap.size)(hr:∀t∈l,goodS t)(hs:goodS s)(hn:l.length<=1000000) :
 Calls Tryz.prog 116 #[.slice A l.length c,spV s] w (RetAdd base A (addS l s) w):=by
 obtain⟨iS,jS0,jS1,jS2,jS3⟩:=info_parts infoS;obtain⟨lo,hi⟩:=s;have hs':0<=lo/\lo<=hi/\hi<=1114111:=hs;unfold spV
 simp only
 have bx:=Blk.new w 38 #[.int .i64 lo,.int .i64 hi];have ex:=Ext.alloc w (.cells #[.int .i64 lo,.int .i64 hi] 38);have hz0:=ex.size;have hlx:=OwnP.ext hl ex;have hcap:=OwnS.caps hl;rcases List.eq_nil_or_concat l with rfl|⟨l0,t,rfl⟩
 ·rw[addS_nil];simp only[List.length_nil] at hlx hcap ⊢;have HX:=lh (show OwnS (w.alloc (.cells #[.int .i64 lo,.int .i64 hi] 38)) base 38 2 A 0 c (flatS []) from hlx);have HNEW:=lh (Blk.new (w.alloc (.cells #[.int .i64 lo,.int .i64 hi] 38)) 38 (flatS [(lo,hi)]).toArray);have e2:=Ext.alloc (w.alloc (.cells #[.int .i64 lo,.int .i64 hi] 38)) (.cells (flatS [(lo,hi)]).toArray 38);have hz2:=e2.size;obtain⟨p0,p1,_,_,pz⟩:=bx.c2;go_enter Tryz.func116,Tryz.ntmps116
  go_upto_region 2 with fail
  refine Xr.start [] kr ?_;refine Xtk 0 ?_
  iterate 2(refine Xtn ?_)
  iterate 10(first|refine Xtn ?_|refine Xsn ?_)
  refine Xtn ?_;refine Xdn fun w2 hE2 hK2=>?_;have x2:=hK2.nil;have b2:=bx.ext x2;obtain⟨q0,q1,_,_,qz⟩:=b2.c2;have H2:=lh (OwnS.ext HX.out x2);have HN2:=lh (Blk.new w2 38 (flatS [(lo,hi)]).toArray);have hz3:=x2.size;have HB:=lh (show base<=(w2.alloc (.cells (flatS [(lo,hi)]).toArray 38)).heap.size by have:=(Ext.alloc w2 (.cells (flatS [(lo,hi)]).toArray 38)).size;omega);clear p0 p1 pz hE2 hK2
  go_wp2_with ((at_builtin;refine wpList_app _ rfl _ _ _ rfl base 38 iS _ 2 16 Tryz.underlying23 jS0 jS1 jS2 jS3 rfl om A 0 c (flatS []) rfl (OwnS.ext H2.out (Ext.alloc _ _)) _ 1 1 (flatS [(lo,hi)]) rfl rfl (blk_cells HN2.out) (flatS_one _) um om HB.out ?_;intro A' c' w3 ho3 hg3 hat3))
  go_ret
  refine⟨A',c',rfl,ho3,?_,?_⟩
  ·exact(KpP.of_ext ((ex.trans x2).trans (Ext.alloc _ _))).trans (KpP.of_grown hg3)
  ·rcases hat3 with h|h
   ·exact .inl h
   ·exact .inr ⟨_,h,((ex.trans x2).trans (Ext.alloc _ _)).size⟩
 ·rw[List.concat_eq_append] at *;have ht:=hr t si;have ht':0<=t.1/\t.1<=t.2/\t.2<=1114111:=ht;obtain⟨tlo,thi⟩:=t
  simp only at ht'
  have hlen:(l0++[(tlo,thi)]).length=l0.length+1:=by simp
  obtain⟨n,hn0⟩:∃n,n=l0.length:=⟨_,rfl⟩;rw[hlen,<-hn0] at hcap hn ⊢;have hlx':OwnS (w.alloc (.cells #[.int .i64 lo,.int .i64 hi] 38)) base 38 2 A (n+1) c (flatS (l0++[(tlo,thi)])):=by
   unfold OwnP at hlx;rw[hlen,<-hn0] at hlx;exact hlx
  have hfl:n*2+1<(flatS (l0++[(tlo,thi)])).length:=by rw[flatS_len,hlen,<-hn0];omega
  obtain⟨g,rfl,hbg,g1,gf,glt,gst⟩:=OwnS.store hlx' hfl;have hval:(flatS (l0++[(tlo,thi)]))[n*2+1]=.int .i64 thi:=by
   have:=(flatS_get (l0++[(tlo,thi)]) n (by rw[hlen];omega)).2;obtain⟨_,e1⟩:=List.getElem?_eq_some_iff.1 this;rw[e1];simp[hn0]
  rw[hval] at g1;have HLX:=lh hlx';have hn1:(0:Int)<(n:Int)+1:=om;have hn2:(n:Int)<(n:Int)+1:=om;have hwn:IntKind.i64.wrap ((n:Int)+1-1)=(n:Int):=wj;have hwn2:IntKind.i64.wrap (n:Int)=(n:Int):=wj;have hwt:IntKind.i64.wrap (thi+1)=thi+1:=wj;obtain⟨p0,p1,_,_,pz⟩:=bx.c2;by_cases hj:lo<=thi+1
  ·have HA:=lh (addS_join (l:=l0) (t:=(tlo,thi)) (s:=(lo,hi)) hj);have hmx:(if thi<hi then hi else thi)=max thi hi:=by split<;>omega
   have HRE:=lh (show(addS (l0++[(tlo,thi)]) (lo,hi)).length=n+1 by rw[HA.out,List.length_append,List.length_singleton,hn0]);have HN0:=lh hn0.symm;have hadd:addS (l0++[(tlo,thi)]) (lo,hi)=l0++[(tlo,max thi hi)]:=HA.out;generalize addS (l0++[(tlo,thi)]) (lo,hi)=out at *;have HAD:=lh hadd;clear hadd HA hn0 hlen hval hfl gst hlx hl hr ht hs;have k0:=fun(w':World) (h:Kp [] (w.alloc (.cells #[.int .i64 lo,.int .i64 hi] 38)) w')=>h.cell p0 si;have k1:=fun(w':World) (h:Kp [] (w.alloc (.cells #[.int .i64 lo,.int .i64 hi] 38)) w')=>h.cell g1 si;go_enter Tryz.func116,Tryz.ntmps116
   go_upto_region 2 with fail
   refine Xr.start [] kr ?_;refine Xtk 0 ?_
   iterate 2(refine Xtn ?_)
   iterate 10(first|refine Xtn ?_|refine Xsn ?_)
   refine Xtn ?_;refine Xdn fun w2 hE2 hK2=>?_;have x2:=hK2.nil;have q0:=x2.cell p0;have q1:=x2.cell p1;have q2:=x2.cell g1;have kq0:=kx0 q0;have kq1:=kx0 q1;have kq2:=kx0 q2;have hOw2:=OwnS.ext HLX.out x2;clear k0 k1 p0 p1 g1 gf HLX hE2 hK2
   go_upto_region 3 with fail
   refine Xs.start [g] 14 kr ?_;refine Xst 0 ?_;refine Xst 1 ?_;refine Xst 2 ?_;refine Xst 3 ?_;refine Xst 4 ?_;refine Xst 5 ?_;refine Xst 6 ?_;refine Xst 7 ?_;refine Xst 8 ?_;refine Xst 9 ?_;refine Xst 10 ?_;refine Xst 11 ?_;refine Xst 12 ?_;refine Xst 13 ?_;refine Xs.stop dK (fun w3 hE3 hX3=>?_);refine Xsp 14 fun w4 hE4 hK4 K hKK=>?_;have x24:=hX3.trans hE4;have hO4:=OwnS.ext hOw2 x24;have g4:=lastCell hO4 HN0.out;have gc:=g4.1;have gf:=g4.2.1
   simp only at gc
   clear g4 kq0 kq1 kq2 q0 q1 q2 hOw2 hX3 hE3;go_simp;refine hKK _ _ (WI_setL (WI_refl _ _ _) List.mem_cons_self _ _) (hK4.setL List.mem_cons_self _ _) ?_;clear hKK;refine ptm ?_;refine Xdn fun w5 hE5 hK5=>?_;have hO5:=OwnS.ext (lastStore hO4 HN0.out (max thi hi)) hE5;have hkk:=(KpP.set (p:=fun b=>(some (⟨g,0,none⟩:Addr)).map (·.block)=some b) (x:=⟨g,n*2+1,none⟩) (KpP.of_ext ((ex.trans x2).trans x24)) (.inl rfl) (.int .i64 (max thi hi))).trans (KpP.of_ext hE5);clear gc gf hO4 hE4 hK4 hE5 hK5 x24
   go_wp2_with fail
   go_ret
   refine⟨some ⟨g,0,none⟩,c,?_,?_,hkk,.inl rfl⟩
   ·rw[HRE.out];rfl
   ·unfold OwnP;rw[HRE.out,HAD.out];exact hO5
  ·have HA:=lh (addS_more (l:=l0) (t:=(tlo,thi)) (s:=(lo,hi)) hj);have HRE:=lh (show(addS (l0++[(tlo,thi)]) (lo,hi)).length=n+1+1 by rw[HA.out];simp[hn0]);have hadd:addS (l0++[(tlo,thi)]) (lo,hi)=l0++[(tlo,thi)]++[(lo,hi)]:=HA.out;generalize addS (l0++[(tlo,thi)]) (lo,hi)=out at *;have HAD:=lh hadd;have HL6:=lh (show n+1+1<=maxLen/\(n+1+1)*16<=140737488355328 by unfold maxLen;omega);clear hadd HA hn0 hlen hval hfl gst hlx hl hr ht hs;have k0:=fun(w':World) (h:Kp [] (w.alloc (.cells #[.int .i64 lo,.int .i64 hi] 38)) w')=>h.cell p0 si;have k1:=fun(w':World) (h:Kp [] (w.alloc (.cells #[.int .i64 lo,.int .i64 hi] 38)) w')=>h.cell g1 si;go_enter Tryz.func116,Tryz.ntmps116
   go_upto_region 2 with fail
   refine Xr.start [] kr ?_;refine Xtk 0 ?_
   iterate 2(refine Xtn ?_)
   iterate 10(first|refine Xtn ?_|refine Xsn ?_)
   refine Xtn ?_;refine Xdn fun w2 hE2 hK2=>?_;have x2:=hK2.nil;have q0:=x2.cell p0;have q1:=x2.cell p1;have hOw2:=lh (OwnS.ext HLX.out x2);have HN2:=lh (Blk.new w2 38 (flatS [(lo,hi)]).toArray);have HB:=lh (show base<=(w2.alloc (.cells (flatS [(lo,hi)]).toArray 38)).heap.size from Nat.le_trans hb ((ex.trans x2).trans (Ext.alloc _ _)).size);clear k0 k1 p0 p1 g1 gf HLX hE2 hK2
   go_wp2_with ((at_builtin;refine wpList_app _ rfl _ _ _ rfl base 38 iS _ 2 16 Tryz.underlying23 jS0 jS1 jS2 jS3 rfl om (some ⟨g,0,none⟩) (n+1) c (flatS (l0++[(tlo,thi)])) rfl (OwnS.ext hOw2.out (Ext.alloc _ _)) _ 1 1 (flatS [(lo,hi)]) rfl rfl (blk_cells HN2.out) (flatS_one _) HL6.out.1 HL6.out.2 HB.out ?_;intro A' c' w3 ho3 hg3 hat3))
   go_ret
   refine⟨A',c',?_,?_,?_,?_⟩
   ·rw[HRE.out];rfl
   ·unfold OwnP;rw[HRE.out,HAD.out,flatS_append (l0++[(tlo,thi)])];exact ho3
   ·exact(KpP.of_ext ((ex.trans x2).trans (Ext.alloc _ _))).trans (KpP.of_grown hg3)
   ·rcases hat3 with h|h
    ·exact .inl h
    ·exact .inr ⟨_,h,((ex.trans x2).trans (Ext.alloc _ _)).size⟩
structure Hs where
 A:Option Addr
 c:Nat
 l:List Sp
structure LLS (w:World)(A:Option Addr)(c:Nat)(ls:List Hs):Prop where
 le:ls.length<=c
 cap:c<=maxLen
 sl:∀h∈ls,SL w h.A h.c h.l
 at_:ls≠[]->∃b o,A=some ⟨b,o,none⟩/\∀i (h:i<ls.length),w.cell? ⟨b,o+i,none⟩=some (.slice ls[i].A ls[i].l.length ls[i].c)
namespace LLS
variable {w w':World} {A:Option Addr} {c:Nat} {ls:List Hs}
theorem ext (h:LLS w A c ls)(k:Ext w w'):LLS w' A c ls:=by
 refine⟨h.le,h.cap,fun x hx=>(h.sl x hx).ext k,fun hn=>?_⟩;obtain⟨b,o,rfl,hc⟩:=h.at_ hn;exact⟨b,o,rfl,fun i hi=>k.cell (hc i hi)⟩
theorem get {k:Nat}(h:LLS w A c ls)(hk:k<ls.length):∃b o,A=some ⟨b,o,none⟩/\w.cell? ⟨b,o+k,none⟩=some (.slice ls[k].A ls[k].l.length ls[k].c):=by
 obtain⟨b,o,rfl,hc⟩:=h.at_ (by intro h0;subst h0;simp at hk);exact⟨b,o,rfl,hc k hk⟩
theorem len (h:LLS w A c ls):ls.length<=c/\c<=9223372036854775807:=⟨h.le,by have:=h.cap;unfold maxLen at this;omega⟩
end LLS
end
end Go.Proofs.YtmocoldobnimfaaGreat
