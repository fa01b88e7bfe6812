/- Texts of this proof: G3 G4 G5 G6 C0. -/
import Derived.Test.YtmocoldobnimfaaGreatU09
set_option linter.all false
set_option maxRecDepth 100000
set_option maxHeartbeats 4000000
namespace Go.Proofs.YtmocoldobnimfaaGreat
section
open Go.RowKit
theorem sValid_any (A:Option Addr)(c:Nat)(l:List Sp)(w:World)(hl:SL w A c l):Calls Tryz.prog 114 #[.slice A l.length c] w (RetV (.int .i64 (validE l)) w):=by
 have hlen:=hl.len;have HB:=fun i hi h=>lh (validE_bad (l:=l) (i:=i) hi h);have HK:=fun h=>lh (validE_ok (l:=l) h);generalize validE l=r at *;go_enter Tryz.func114,Tryz.ntmps114
 go_wp2
 go_loopw [7] (fun v wr=>∃i:Nat,v=.int .i64 i∧i≤l.length∧Hid (∀j,j<i→okAt l j)∧Ext w wr) (fun v _=>l.length-(intOf v).toNat)
 case atStart=>exact⟨0,rfl,om,fun j hj=>absurd hj (Nat.not_lt_zero _),Ext.rfl' _⟩
 case round=>
  obtain⟨i,rfl,hi,HI,x1⟩:=hrel;by_cases hlt:i<l.length
  ·obtain⟨s1,s2,s3⟩:=okStep hlt HI.out;have HB2:=HB i hlt;have HM:=fun h=>lh (okMore HI.out h);obtain⟨b,o,rfl,g1,g2⟩:=(hl.ext x1).get hlt;have h64:=hl.wf hlt;have hI:(i:Int)<l.length:=om;by_cases h0:0<i
   ·obtain⟨p,hp,hpg,s4,s5⟩:=s2 h0;have h1l:i-1<l.length:=om;rw[List.getElem?_eq_getElem h1l] at hp;injection hp with hp
    obtain⟨b2,o2,hA2,g4,g3⟩:=(hl.ext x1).get h1l;obtain⟨rfl,rfl⟩:b=b2∧o=o2:=by injection hA2 with h1;injection h1 with h2 h3 h4;exact⟨h2,h3⟩
    rw[hp] at g3;clear s1 s2 hA2 hp g4 h1l HI HB;obtain⟨k,rfl⟩:∃k,i=k+1:=⟨i-1,om⟩;simp only[Nat.add_sub_cancel] at g3;generalize l[k+1]=s at *;obtain⟨lo,hi2⟩:=s;obtain⟨plo,phi⟩:=p
    simp only at g1 g2 g3 s4 s5 hpg
    have hG:=fun(W':World)=>lh (right_any (lo,hi2) W');unfold spV at hG
    simp only at hG
    have hphi:0≤phi∧phi≤1114111:=by unfold goodS at hpg;simp only at hpg;omega
    have hki:(0:Int)<(k:Int)+1:=om;have hwk:IntKind.i64.wrap ((k:Int)+1-1)=(k:Int):=wj;have hwk2:IntKind.i64.wrap (k:Int)=(k:Int):=wj;have hk0:(0:Int)≤(k:Int)+1:=om;have hk1:(k:Int)+1<(l.length:Int):=om;have hk2:(k:Int)<(l.length:Int):=om;have hto:((k:Int)+1).toNat=k+1:=om;have hwd:IntKind.i64.wrap (phi+2)=phi+2:=wj;obtain⟨b1,xa⟩:=alloc1 wr 38 #[.int .i64 lo,.int .i64 hi2];have x2:=x1.trans xa;have g3a:=xa.cell g3;obtain⟨p0,p1,_,_,pz⟩:=b1.c2
    go_upto_region 4 with fail
    obtain⟨gs,hgs⟩:∃gs,gs=wr.heap.size:=⟨_,rfl⟩
    rw[←hgs] at b1 p0 p1 pz ⊢;generalize wr.alloc (.cells #[.int .i64 lo,.int .i64 hi2] 38)=wa at *;have k0:=kc0 p0;have k1:=kc0 p1;have k3:=kc0 g3a;clear xa hgs;by_cases hg:goodS (lo,hi2)
    ·have hgB:goodB (lo,hi2)=true:=decide_eq_true hg;rw[hgB] at hG;by_cases hp:phi+2≤lo
     ·have hd:¬lo<phi+2:=om;have HE:=HM (s4 hg om);clear s3 s4 s5 HB2 HM HK hp;refine Xr.start [] kr ?_;refine Xtk 0 ?_;refine Xcl 1 fun w2 hE2 hK2 K hKK=>?_;go_simp;refine(hG _).out.mono ?_;rintro e w3 ⟨rfl,x3⟩;refine hKK _ _ x3 ?_;clear hKK hG;refine ptm ?_;refine Xtk 2 ?_;refine Xtn ?_
      iterate 14(first|refine Xtn ?_|refine Xsn ?_)
      refine Xtn ?_;refine Xdn fun w4 hE4 hK4=>?_;have x4:=x2.trans hK4.nil;clear k0 k1 k3 p0 p1 g1 g2 g3 g3a hd hE2 hK2 x3 hE4 hK4 b1
      go_wp2_with fail
      go_roundw
      case rel=>exact⟨k+1+1,by go_num,om,HE,x4⟩
      case measure=>simp[intOf];omega
     ·have hd:lo<phi+2:=om;have HE:=HB2 (s5 om);clear s3 s4 s5 HB2 HM HK hp;refine Xr.start [] kr ?_;refine Xtk 0 ?_;refine Xcl 1 fun w2 hE2 hK2 K hKK=>?_;go_simp;refine(hG _).out.mono ?_;rintro e w3 ⟨rfl,x3⟩;refine hKK _ _ x3 ?_;clear hKK hG;refine ptm ?_;refine Xtk 2 ?_;refine Xtn ?_
      iterate 14(first|refine Xtn ?_|refine Xsn ?_)
      refine Xtn ?_;refine Xdn fun w4 hE4 hK4=>?_;have x4:=x2.trans hK4.nil;clear k0 k1 k3 p0 p1 g1 g2 g3 g3a hd hE2 hK2 x3 hE4 hK4 b1
      go_wp2_with fail
      go_ret
      exact⟨by rw[HE.out];rfl,x4⟩
    ·have hgB:goodB (lo,hi2)=false:=decide_eq_false hg;rw[hgB] at hG;have HE:=HB2 (s3 hg);clear s3 s4 s5 HB2 HM HK;refine Xr.start [] kr ?_;refine Xtk 0 ?_;refine Xcl 1 fun w2 hE2 hK2 K hKK=>?_;go_simp;refine(hG _).out.mono ?_;rintro e w3 ⟨rfl,x3⟩;refine hKK _ _ x3 ?_;clear hKK hG;refine ptm ?_;refine Xtk 2 ?_;refine Xtn ?_
     iterate 14(first|refine Xtn ?_|refine Xsn ?_)
     refine Xtn ?_;refine Xdn fun w4 hE4 hK4=>?_;have x4:=x2.trans hK4.nil;clear k0 k1 k3 p0 p1 g1 g2 g3 g3a hE2 hK2 x3 hE4 hK4 b1
     go_wp2_with fail
     go_ret
     exact⟨by rw[HE.out];rfl,x4⟩
   ·obtain rfl:i=0:=om;clear s2 HI HB;generalize l[0]=s at *;obtain⟨lo,hi2⟩:=s;simp only[Nat.zero_mul,Nat.add_zero] at g1 g2 s1 s3;have hG:=fun(W':World)=>lh (right_any (lo,hi2) W');unfold spV at hG
    simp only at hG
    obtain⟨b1,xa⟩:=alloc1 wr 38 #[.int .i64 lo,.int .i64 hi2];have x2:=x1.trans xa;obtain⟨p0,p1,_,_,pz⟩:=b1.c2
    go_upto_region 4 with fail
    obtain⟨gs,hgs⟩:∃gs,gs=wr.heap.size:=⟨_,rfl⟩
    rw[←hgs] at b1 p0 p1 pz ⊢;generalize wr.alloc (.cells #[.int .i64 lo,.int .i64 hi2] 38)=wa at *;have k0:=kc0 p0;have k1:=kc0 p1;clear xa hgs;by_cases hg:goodS (lo,hi2)
    ·have hgB:goodB (lo,hi2)=true:=decide_eq_true hg;rw[hgB] at hG;have HE:=HM (s1 trivial hg);clear HB2 HM HK s1 s3;refine Xr.start [] kr ?_;refine Xtk 0 ?_;refine Xcl 1 fun w2 hE2 hK2 K hKK=>?_;go_simp;refine(hG _).out.mono ?_;rintro e w3 ⟨rfl,x3⟩;refine hKK _ _ x3 ?_;clear hKK hG;refine ptm ?_;refine Xtk 2 ?_;refine Xtn ?_
     iterate 14(first|refine Xtn ?_|refine Xsn ?_)
     refine Xtn ?_;refine Xdn fun w4 hE4 hK4=>?_;have x4:=x2.trans hK4.nil;clear k0 k1 p0 p1 g1 g2 hE2 hK2 x3 hE4 hK4 b1
     go_wp2_with fail
     go_roundw
     case rel=>exact⟨1,by go_num,om,HE,x4⟩
     case measure=>simp[intOf];omega
    ·have hgB:goodB (lo,hi2)=false:=decide_eq_false hg;rw[hgB] at hG;have HE:=HB2 (s3 hg);clear HB2 HM HK s1 s3;refine Xr.start [] kr ?_;refine Xtk 0 ?_;refine Xcl 1 fun w2 hE2 hK2 K hKK=>?_;go_simp;refine(hG _).out.mono ?_;rintro e w3 ⟨rfl,x3⟩;refine hKK _ _ x3 ?_;clear hKK hG;refine ptm ?_;refine Xtk 2 ?_;refine Xtn ?_
     iterate 14(first|refine Xtn ?_|refine Xsn ?_)
     refine Xtn ?_;refine Xdn fun w4 hE4 hK4=>?_;have x4:=x2.trans hK4.nil;clear k0 k1 p0 p1 g1 g2 hE2 hK2 x3 hE4 hK4 b1
     go_wp2_with fail
     go_ret
     exact⟨by rw[HE.out];rfl,x4⟩
  ·have hI:¬(i:Int)<l.length:=om;have HR:=HK (fun j hj=>HI.out j om);clear HK HB HI;by_cases h64:64<l.length
   ·have HR2:Hid (r=4):=by show _=_;rw[HR.out,if_pos h64]
    have hI64:(64:Int)<l.length:=om;clear HR
    go_wp2
    go_ret
    exact⟨by rw[HR2.out];rfl,x1⟩
   ·have HR2:Hid (r=0):=by show _=_;rw[HR.out,if_neg h64]
    have hI64:¬(64:Int)<l.length:=om;clear HR
    go_wp2
    go_ret
    exact⟨by rw[HR2.out];rfl,x1⟩
end
section
open Go.RowKit
theorem eq_of_all {a b:List Sp}(hl:a.length=b.length)(h:∀j (h1:j<a.length) (h2:j<b.length),a[j]=b[j]):decide (a=b)=true:=decide_eq_true (List.ext_getElem hl h)
theorem ne_of_one {a b:List Sp}{j:Nat}(h1:j<a.length)(h2:j<b.length)(h:a[j]≠b[j]):decide (a=b)=false:=decide_eq_false (fun e=>by subst e;exact h rfl)
theorem ne_of_len {a b:List Sp}(h:a.length≠b.length):decide (a=b)=false:=decide_eq_false (fun e=>h (congrArg _ e))
end
section
open Go.RowKit
theorem OwnS.store {w:World}{base e size n c:Nat}{A:Option Addr}{xs:List Value}(h:OwnS w base e size A n c xs){i:Nat}(hi:i<xs.length) :
 ∃g,A=some ⟨g,0,none⟩∧base≤g∧w.cell? ⟨g,i,none⟩=some xs[i]∧w.frozen? ⟨g,i,none⟩=false∧g<w.heap.size∧∀v,OwnS (w.setCell ⟨g,i,none⟩ v) base e size A n c (xs.set i v):=by
 rcases h.form with⟨_,h0,_,h1⟩|⟨g,cur,rfl,hg,hh,hnc,hcm,hcs,ht⟩
 ·subst h1;simp at hi
 ·have hB:Blk w g e cur:=hh;obtain⟨b,o,he,hc⟩:=OwnS.cells h (by intro e;subst e;simp at hi);injection he with he;injection he with e1 e2 _
  subst e1 e2;refine⟨g,rfl,hg,?_,hB.frz i,hB.lt,fun v=>?_⟩
  ·have:=hc i hi
   simpa using this
  ·have h1:=OwnS.of_blk (n:=n) (c:=c) (size:=size) (hB.set i v) hg (by rw[Array.size_setIfInBounds];exact hcs) hnc hcm;have e:((cur.setIfInBounds i v).toList.take (n*size))=xs.set i v:=by
    rw[Array.toList_setIfInBounds,←ht,List.take_set]
   rw[e] at h1;exact h1
def OwnP (w:World)(base:Nat)(A:Option Addr)(c:Nat)(l:List Sp):Prop:=OwnS w base 38 2 A l.length c (flatS l)
theorem OwnP.nil (w:World)(base:Nat):OwnP w base none 0 []:=OwnS.nil _ _ _ _
theorem OwnP.ext {w w':World}{base c:Nat}{A:Option Addr}{l:List Sp}(h:OwnP w base A c l)(k:Ext w w'):OwnP w' base A c l:=OwnS.ext h k
theorem OwnP.kp {w w':World}{base c:Nat}{A:Option Addr}{l:List Sp}{p:Nat→Prop}(h:OwnP w base A c l)(k:KpP p w w')(hn:∀b,A.map (·.block)=some b→¬p b):OwnP w' base A c l:=OwnS.kp h k hn
theorem OwnP.row {w:World}{base c:Nat}{A:Option Addr}{l:List Sp}(h:OwnP w base A c l){b:Nat}(hb:A.map (·.block)=some b):base≤b:=OwnS.row h b hb
theorem OwnP.blt {w:World}{base c:Nat}{A:Option Addr}{l:List Sp}(h:OwnP w base A c l){b:Nat}(hb:A.map (·.block)=some b):b<w.heap.size:=(OwnS.blt h hb).1
theorem flatS_set (l:List Sp)(t:Sp)(v:Int):(flatS (l++[t])).set (l.length*2+1) (.int .i64 v)=flatS (l++[(t.1,v)]):=by
 rw[flatS_append,flatS_append,List.set_append,flatS_len,if_neg om]
 congr 1
 rw[show l.length*2+1-l.length*2=1 by omega]
 rfl
theorem lastStore {w:World}{base n c g:Nat}{l0:List Sp}{t:Sp}(h:OwnS w base 38 2 (some ⟨g,0,none⟩) (n+1) c (flatS (l0++[t])))(hn:l0.length=n)(v:Int) :
 OwnS (w.setCell ⟨g,n*2+1,none⟩ (.int .i64 v)) base 38 2 (some ⟨g,0,none⟩) (n+1) c (flatS (l0++[(t.1,v)])):=by
 have hfl:n*2+1<(flatS (l0++[t])).length:=by rw[flatS_len,List.length_append,List.length_singleton];omega
 obtain⟨g',he,_,_,_,_,gst⟩:=OwnS.store h hfl;injection he with he;injection he with e1 _ _
 subst e1;have:=gst (.int .i64 v)
 rw[←hn,flatS_set] at this
 rw[←hn];exact this
theorem lastCell {w:World}{base n c g:Nat}{l0:List Sp}{t:Sp}(h:OwnS w base 38 2 (some ⟨g,0,none⟩) (n+1) c (flatS (l0++[t])))(hn:l0.length=n) :
 w.cell? ⟨g,n*2+1,none⟩=some (.int .i64 t.2)∧w.frozen? ⟨g,n*2+1,none⟩=false∧g<w.heap.size:=by
 have hfl:n*2+1<(flatS (l0++[t])).length:=by rw[flatS_len,List.length_append,List.length_singleton];omega
 obtain⟨g',he,_,h1,h2,h3,_⟩:=OwnS.store h hfl;injection he with he;injection he with e1 _ _
 subst e1;have hval:(flatS (l0++[t]))[n*2+1]=.int .i64 t.2:=by
  have:=(flatS_get (l0++[t]) n (by rw[List.length_append,List.length_singleton];omega)).2;obtain⟨_,e1⟩:=List.getElem?_eq_some_iff.1 this;rw[e1];simp[←hn]
 rw[hval] at h1;exact⟨h1,h2,h3⟩
def RetAdd (base:Nat)(A:Option Addr)(out:List Sp)(w:World)(e:Ending)(w':World):Prop:=
 ∃(A':Option Addr) (c':Nat),e=.returned (.slice A' out.length c')∧OwnP w' base A' c' out∧KpP (fun b=>A.map (·.block)=some b) w w'∧(A'.map (·.block)=A.map (·.block)∨∃b,A'.map (·.block)=some b∧w.heap.size≤b)
theorem addS_join {l:List Sp}{t s:Sp}(h:s.1≤t.2+1):addS (l++[t]) s=l++[(t.1,max t.2 s.2)]:=by rw[addS_snoc,if_pos h]
theorem addS_more {l:List Sp}{t s:Sp}(h:¬s.1≤t.2+1):addS (l++[t]) s=l++[t]++[s]:=by rw[addS_snoc,if_neg h]
theorem add_any (base:Nat)(A:Option Addr)(c:Nat)(l:List Sp)(s:Sp)(w:World)(hl:OwnP w base A c l)(hb:base≤w.heap.size)(hr:∀t∈l,goodS t)(hs:goodS s)(hn:l.length≤1000000) :
 Calls Tryz.prog 116 #[.slice A l.length c,spV s] w (RetAdd base A (addS l s) w):=by
 obtain⟨iS,jS0,jS1,jS2,jS3⟩:=info_parts infoS;obtain⟨lo,hi⟩:=s;have hs':0≤lo∧lo≤hi∧hi≤1114111:=hs;unfold spV
 simp only
 have bx:=Blk.new w 38 #[.int .i64 lo,.int .i64 hi];have ex:=Ext.alloc w (.cells #[.int .i64 lo,.int .i64 hi] 38);have hz0:=ex.size;have hlx:=OwnP.ext hl ex;have hcap:=OwnS.caps hl;rcases List.eq_nil_or_concat l with rfl|⟨l0,t,rfl⟩
 ·rw[addS_nil];simp only[List.length_nil] at hlx hcap ⊢;have HX:=lh (show OwnS (w.alloc (.cells #[.int .i64 lo,.int .i64 hi] 38)) base 38 2 A 0 c (flatS []) from hlx);have HNEW:=lh (Blk.new (w.alloc (.cells #[.int .i64 lo,.int .i64 hi] 38)) 38 (flatS [(lo,hi)]).toArray);have e2:=Ext.alloc (w.alloc (.cells #[.int .i64 lo,.int .i64 hi] 38)) (.cells (flatS [(lo,hi)]).toArray 38);have hz2:=e2.size;obtain⟨p0,p1,_,_,pz⟩:=bx.c2;go_enter Tryz.func116,Tryz.ntmps116
  go_upto_region 2 with fail
  refine Xr.start [] kr ?_;refine Xtk 0 ?_
  iterate 2(refine Xtn ?_)
  iterate 10(first|refine Xtn ?_|refine Xsn ?_)
  refine Xtn ?_;refine Xdn fun w2 hE2 hK2=>?_;have x2:=hK2.nil;have b2:=bx.ext x2;obtain⟨q0,q1,_,_,qz⟩:=b2.c2;have H2:=lh (OwnS.ext HX.out x2);have HN2:=lh (Blk.new w2 38 (flatS [(lo,hi)]).toArray);have hz3:=x2.size;have HB:=lh (show base≤(w2.alloc (.cells (flatS [(lo,hi)]).toArray 38)).heap.size by have:=(Ext.alloc w2 (.cells (flatS [(lo,hi)]).toArray 38)).size;omega);clear p0 p1 pz hE2 hK2
  go_wp2_with ((at_builtin;refine wpList_app _ rfl _ _ _ rfl base 38 iS _ 2 16 Tryz.underlying23 jS0 jS1 jS2 jS3 rfl om A 0 c (flatS []) rfl (OwnS.ext H2.out (Ext.alloc _ _)) _ 1 1 (flatS [(lo,hi)]) rfl rfl (blk_cells HN2.out) (flatS_one _) um om HB.out ?_;intro A' c' w3 ho3 hg3 hat3))
  go_ret
  refine⟨A',c',rfl,ho3,?_,?_⟩
  ·exact(KpP.of_ext ((ex.trans x2).trans (Ext.alloc _ _))).trans (KpP.of_grown hg3)
  ·rcases hat3 with h|h
   ·exact .inl h
   ·exact .inr ⟨_,h,((ex.trans x2).trans (Ext.alloc _ _)).size⟩
 ·rw[List.concat_eq_append] at *;have ht:=hr t si;have ht':0≤t.1∧t.1≤t.2∧t.2≤1114111:=ht;obtain⟨tlo,thi⟩:=t
  simp only at ht'
  have hlen:(l0++[(tlo,thi)]).length=l0.length+1:=by simp
  obtain⟨n,hn0⟩:∃n,n=l0.length:=⟨_,rfl⟩;rw[hlen,←hn0] at hcap hn ⊢;have hlx':OwnS (w.alloc (.cells #[.int .i64 lo,.int .i64 hi] 38)) base 38 2 A (n+1) c (flatS (l0++[(tlo,thi)])):=by
   unfold OwnP at hlx;rw[hlen,←hn0] at hlx;exact hlx
  have hfl:n*2+1<(flatS (l0++[(tlo,thi)])).length:=by rw[flatS_len,hlen,←hn0];omega
  obtain⟨g,rfl,hbg,g1,gf,glt,gst⟩:=OwnS.store hlx' hfl;have hval:(flatS (l0++[(tlo,thi)]))[n*2+1]=.int .i64 thi:=by
   have:=(flatS_get (l0++[(tlo,thi)]) n (by rw[hlen];omega)).2;obtain⟨_,e1⟩:=List.getElem?_eq_some_iff.1 this;rw[e1];simp[hn0]
  rw[hval] at g1;have HLX:=lh hlx';have hn1:(0:Int)<(n:Int)+1:=om;have hn2:(n:Int)<(n:Int)+1:=om;have hwn:IntKind.i64.wrap ((n:Int)+1-1)=(n:Int):=wj;have hwn2:IntKind.i64.wrap (n:Int)=(n:Int):=wj;have hwt:IntKind.i64.wrap (thi+1)=thi+1:=wj;obtain⟨p0,p1,_,_,pz⟩:=bx.c2;by_cases hj:lo≤thi+1
  ·have HA:=lh (addS_join (l:=l0) (t:=(tlo,thi)) (s:=(lo,hi)) hj);have hmx:(if thi<hi then hi else thi)=max thi hi:=by split<;>omega
   have HRE:=lh (show(addS (l0++[(tlo,thi)]) (lo,hi)).length=n+1 by rw[HA.out,List.length_append,List.length_singleton,hn0]);have HN0:=lh hn0.symm;have hadd:addS (l0++[(tlo,thi)]) (lo,hi)=l0++[(tlo,max thi hi)]:=HA.out;generalize addS (l0++[(tlo,thi)]) (lo,hi)=out at *;have HAD:=lh hadd;clear hadd HA hn0 hlen hval hfl gst hlx hl hr ht hs;have k0:=fun(w':World) (h:Kp [] (w.alloc (.cells #[.int .i64 lo,.int .i64 hi] 38)) w')=>h.cell p0 si;have k1:=fun(w':World) (h:Kp [] (w.alloc (.cells #[.int .i64 lo,.int .i64 hi] 38)) w')=>h.cell g1 si;go_enter Tryz.func116,Tryz.ntmps116
   go_upto_region 2 with fail
   refine Xr.start [] kr ?_;refine Xtk 0 ?_
   iterate 2(refine Xtn ?_)
   iterate 10(first|refine Xtn ?_|refine Xsn ?_)
   refine Xtn ?_;refine Xdn fun w2 hE2 hK2=>?_;have x2:=hK2.nil;have q0:=x2.cell p0;have q1:=x2.cell p1;have q2:=x2.cell g1;have kq0:=kx0 q0;have kq1:=kx0 q1;have kq2:=kx0 q2;have hOw2:=OwnS.ext HLX.out x2;clear k0 k1 p0 p1 g1 gf HLX hE2 hK2
   go_upto_region 3 with fail
   refine Xs.start [g] 14 kr ?_;refine Xst 0 ?_;refine Xst 1 ?_;refine Xst 2 ?_;refine Xst 3 ?_;refine Xst 4 ?_;refine Xst 5 ?_;refine Xst 6 ?_;refine Xst 7 ?_;refine Xst 8 ?_;refine Xst 9 ?_;refine Xst 10 ?_;refine Xst 11 ?_;refine Xst 12 ?_;refine Xst 13 ?_;refine Xs.stop dK (fun w3 hE3 hX3=>?_);refine Xsp 14 fun w4 hE4 hK4 K hKK=>?_;have x24:=hX3.trans hE4;have hO4:=OwnS.ext hOw2 x24;have g4:=lastCell hO4 HN0.out;have gc:=g4.1;have gf:=g4.2.1
   simp only at gc
   clear g4 kq0 kq1 kq2 q0 q1 q2 hOw2 hX3 hE3;go_simp;refine hKK _ _ (WI_setL (WI_refl _ _ _) List.mem_cons_self _ _) (hK4.setL List.mem_cons_self _ _) ?_;clear hKK;refine ptm ?_;refine Xdn fun w5 hE5 hK5=>?_;have hO5:=OwnS.ext (lastStore hO4 HN0.out (max thi hi)) hE5;have hkk:=(KpP.set (p:=fun b=>(some (⟨g,0,none⟩:Addr)).map (·.block)=some b) (x:=⟨g,n*2+1,none⟩) (KpP.of_ext ((ex.trans x2).trans x24)) (.inl rfl) (.int .i64 (max thi hi))).trans (KpP.of_ext hE5);clear gc gf hO4 hE4 hK4 hE5 hK5 x24
   go_wp2_with fail
   go_ret
   refine⟨some ⟨g,0,none⟩,c,?_,?_,hkk,.inl rfl⟩
   ·rw[HRE.out];rfl
   ·unfold OwnP;rw[HRE.out,HAD.out];exact hO5
  ·have HA:=lh (addS_more (l:=l0) (t:=(tlo,thi)) (s:=(lo,hi)) hj);have HRE:=lh (show(addS (l0++[(tlo,thi)]) (lo,hi)).length=n+1+1 by rw[HA.out];simp[hn0]);have hadd:addS (l0++[(tlo,thi)]) (lo,hi)=l0++[(tlo,thi)]++[(lo,hi)]:=HA.out;generalize addS (l0++[(tlo,thi)]) (lo,hi)=out at *;have HAD:=lh hadd;have HL6:=lh (show n+1+1≤maxLen∧(n+1+1)*16≤140737488355328 by unfold maxLen;omega);clear hadd HA hn0 hlen hval hfl gst hlx hl hr ht hs;have k0:=fun(w':World) (h:Kp [] (w.alloc (.cells #[.int .i64 lo,.int .i64 hi] 38)) w')=>h.cell p0 si;have k1:=fun(w':World) (h:Kp [] (w.alloc (.cells #[.int .i64 lo,.int .i64 hi] 38)) w')=>h.cell g1 si;go_enter Tryz.func116,Tryz.ntmps116
   go_upto_region 2 with fail
   refine Xr.start [] kr ?_;refine Xtk 0 ?_
   iterate 2(refine Xtn ?_)
   iterate 10(first|refine Xtn ?_|refine Xsn ?_)
   refine Xtn ?_;refine Xdn fun w2 hE2 hK2=>?_;have x2:=hK2.nil;have q0:=x2.cell p0;have q1:=x2.cell p1;have hOw2:=lh (OwnS.ext HLX.out x2);have HN2:=lh (Blk.new w2 38 (flatS [(lo,hi)]).toArray);have HB:=lh (show base≤(w2.alloc (.cells (flatS [(lo,hi)]).toArray 38)).heap.size from Nat.le_trans hb ((ex.trans x2).trans (Ext.alloc _ _)).size);clear k0 k1 p0 p1 g1 gf HLX hE2 hK2
   go_wp2_with ((at_builtin;refine wpList_app _ rfl _ _ _ rfl base 38 iS _ 2 16 Tryz.underlying23 jS0 jS1 jS2 jS3 rfl om (some ⟨g,0,none⟩) (n+1) c (flatS (l0++[(tlo,thi)])) rfl (OwnS.ext hOw2.out (Ext.alloc _ _)) _ 1 1 (flatS [(lo,hi)]) rfl rfl (blk_cells HN2.out) (flatS_one _) HL6.out.1 HL6.out.2 HB.out ?_;intro A' c' w3 ho3 hg3 hat3))
   go_ret
   refine⟨A',c',?_,?_,?_,?_⟩
   ·rw[HRE.out];rfl
   ·unfold OwnP;rw[HRE.out,HAD.out,flatS_append (l0++[(tlo,thi)])];exact ho3
   ·exact(KpP.of_ext ((ex.trans x2).trans (Ext.alloc _ _))).trans (KpP.of_grown hg3)
   ·rcases hat3 with h|h
    ·exact .inl h
    ·exact .inr ⟨_,h,((ex.trans x2).trans (Ext.alloc _ _)).size⟩
end
section
open Go.RowKit
theorem infoInt:(Tryz.prog.info? 3).map (fun i=>(i.zero,i.size,i.bytes))=some (some (.int .i64 0),1,8):=by kernel_rfl
def RetI (out:List Int)(w:World)(e:Ending)(w':World):Prop:=∃(A':Option Addr) (c':Nat),e=.returned (.slice A' out.length c')∧IL w' A' c' out∧Ext w w'
theorem IL.takeK {w:World}{A:Option Addr}{c:Nat}{xs:List Int}(h:IL w A c xs)(k:Nat):IL w A c (xs.take k):=by
 refine⟨by have:=h.le;rw[List.length_take];omega,h.cap,fun x hx=>h.rng x (List.mem_of_mem_take hx),fun hn=>?_⟩;obtain⟨b,o,rfl,hc⟩:=h.at_ (by rintro rfl;simp at hn);refine⟨b,o,rfl,fun i hi=>?_⟩;rw[List.length_take] at hi;rw[List.getElem_take];exact hc i om
theorem G6z1 {P:Prop} (h:P:=by
 generalize putE l n top=out at *
 go_wp2
 go_ret
 exact⟨some ⟨pb,po,none⟩,c,by rw[HR.out];rfl,by rw[HR.out];exact hl,Ext.rfl' _⟩):P:=h
theorem G6z2 {P:Prop} (h:P:=by
 go_ret
 refine⟨A3,c3,by rw[HR.out,HLEN.out];rfl,?_,X3⟩;rw[HR.out];refine IL.of_own (base:=wr.heap.size) (e:=3) ?_ HRNG.out;unfold OwnI;rw[HLEN.out,List.map_append];rw[List.append_nil] at ho3;exact ho3):P:=h
theorem put_any (A:Option Addr)(c:Nat)(l:List Int)(n top:Int)(w:World)(hl:IL w A c l)(hne:l≠[])(hn:I64 n)(hlen:l.length≤1000000) :
 Calls Tryz.prog 163 #[.slice A l.length c,.int .i64 n,.int .i64 top] w (RetI (putE l n top) w):=by
 obtain⟨i0,hi0,hz0,hz1,hz2⟩:=info_parts infoInt;have hcap:=hl.len;obtain⟨pb,po,rfl,hcl⟩:=hl.at_ hne;have HCL:=lh hcl;clear hcl;go_enter Tryz.func163,Tryz.ntmps163
 go_wp2
 go_loopw [7] (fun v wr=>∃k:Nat,v=.int .i64 k∧k≤l.length∧Hid (∀i (h:i<l.length),i<k→l[i]<n)∧wr=w) (fun v _=>l.length-(intOf v).toNat)
 case atStart=>exact⟨0,rfl,om,fun i _ hi=>absurd hi (Nat.not_lt_zero _),rfl⟩
 case round=>
  obtain⟨k,rfl,hk,HK,rfl⟩:=hrel;by_cases hlt:k<l.length
  ·have hkI:(k:Int)<l.length:=om;have g1:=HCL.out k hlt;have HK2:=lh (show l[k]<n→∀i (h:i<l.length),i<k+1→l[i]<n from fun hx i h hi=>by
    rcases Nat.lt_or_ge i k with h1|h1
    ·exact HK.out i h h1
    ·have:i=k:=om;subst this;exact hx)
   by_cases hx:l[k]<n
   ·have HK3:=lh (HK2.out hx);generalize l[k]=x at *;clear HK HK2
    go_wp2
    go_roundw
    case rel=>exact⟨k+1,by go_num,om,HK3,by first|rfl|trivial⟩
    case measure=>simp[intOf];omega
   ·have HU:=lh (upto_eq HK.out hk (fun _=>hx));have HP:=lh (show putE l n top=if top<n∨l[k]? = some n then l else l.take k++n::l.drop k by unfold putE;rw[HU.out]);have HGE:=lh (List.getElem?_eq_getElem hlt);generalize l[k]=x at *;clear HK HK2 HU;by_cases ht:top<n
    ·have HR:=lh (show putE l n top=l by rw[HP.out,if_pos (.inl ht)]);clear HP HGE;exact G6z1
    ·by_cases hxn:x=n
     ·have HR:=lh (show putE l n top=l by rw[HP.out,if_pos (.inr (by rw[HGE.out,hxn]))]);clear HP HGE;exact G6z1
     ·have HR:=lh (show putE l n top=l.take k++n::l.drop k by
       rw[HP.out,if_neg];rintro(h|h)
       ·exact ht h
       ·rw[HGE.out] at h;injection h with h;exact hxn h)
      clear HP HGE;generalize putE l n top=out at *;have HIN:=lh (hl.takeK k);have HRNG:=lh (show ∀y∈l.take k++n::l.drop k,I64 y from fun y hy=>by
       rcases List.mem_append.1 hy with hy|hy
       ·exact hl.rng y (List.mem_of_mem_take hy)
       ·rcases List.mem_cons.1 hy with rfl|hy
        ·exact hn
        ·exact hl.rng y (List.mem_of_mem_drop hy))
      have HKL:=lh (show(l.take k).length=k by simp;omega);have HDL:=lh (show((l.drop k).map (Value.int .i64)).length=(l.length-k)*1 by simp);have HLEN:=lh (show(l.take k++n::l.drop k).length=k+1+(l.length-k) by simp;omega);have HDR:=fun(W':World) (x:Ext wr W')=>lh (show CellsAt W' (some ⟨pb,po+k,none⟩) ((l.drop k).map (Value.int .i64)) by
       have:=((hl.ext x).cut_in (k:=k) (j:=l.length) om (Nat.le_refl _)).cells;rw[List.take_of_length_le si] at this
       simpa[Addr.add_lit] using this)
      go_wp2_with (first|(at_builtin;refine wpList_app _ rfl _ _ _ rfl wr.heap.size 3 i0 (.int .i64 0) 1 8 Tryz.underlying22 hi0 hz0 hz1 hz2 rfl om A2 (k+1) c2 ((l.take k).map (Value.int .i64)++[.int .i64 n]) rfl ho2 (some ⟨pb,po+k,none⟩) (l.length-k) (c-k) ((l.drop k).map (Value.int .i64)) rfl HDL.out (HDR _ X2).out (ints_one _) um om X2.size ?_;intro A3 c3 w3 ho3 hg3 hat3;have X3:=Ext.app X2 ho2 hg3)|(at_builtin;refine wpList_app _ rfl _ _ _ rfl wr.heap.size 3 i0 (.int .i64 0) 1 8 Tryz.underlying22 hi0 hz0 hz1 hz2 rfl om A1 k c1 ((l.take k).map (Value.int .i64)) rfl (OwnS.ext ho1 (Ext.alloc _ _)) _ 1 1 [.int .i64 n] rfl rfl (blk_cells (Blk.new _ _ _)) (ints_one [n]) um om (X1.trans (Ext.alloc _ _)).size ?_;intro A2 c2 w2 ho2 hg2 hat2;have X2:=Ext.app (X1.trans (Ext.alloc _ _)) (OwnS.ext ho1 (Ext.alloc _ _)) hg2)|(at_builtin;refine wpList_app _ rfl _ _ _ rfl wr.heap.size 3 i0 (.int .i64 0) 1 8 Tryz.underlying22 hi0 hz0 hz1 hz2 rfl om none 0 0 [] rfl (OwnS.nil _ _ _ _) (some ⟨pb,po,none⟩) k c ((l.take k).map (Value.int .i64)) rfl (by rw[List.length_map,HKL.out,Nat.mul_one]) HIN.out.cells (ints_one _) um om (Nat.le_refl _) ?_;intro A1 c1 w1 ho1 hg1 hat1;rw[Nat.zero_add,List.nil_append] at ho1;have X1:=Ext.app (Ext.rfl' wr) (OwnS.nil wr wr.heap.size 3 1) hg1))
      go_ret
      refine⟨A3,c3,by rw[HR.out,HLEN.out];rfl,?_,X3⟩;rw[HR.out];refine IL.of_own (base:=wr.heap.size) (e:=3) ?_ HRNG.out;unfold OwnI;rw[HLEN.out,List.map_append,List.map_cons];rw[List.append_assoc] at ho3;exact ho3
  ·have hk':k=l.length:=om;subst hk';have HU:=lh (upto_eq HK.out hk (fun h=>absurd h hlt));have HP:=lh (show putE l n top=if top<n then l else l++[n] by
    unfold putE;rw[HU.out,List.getElem?_eq_none (Nat.le_refl _)];simp)
   have hkI:¬(l.length:Int)<l.length:=om;clear HK HU hlt hk;by_cases ht:top<n
   ·have HR:=lh (show putE l n top=l by rw[HP.out,if_pos ht]);clear HP;exact G6z1
   ·have HR:=lh (show putE l n top=l++[n] by rw[HP.out,if_neg ht]);clear HP;generalize putE l n top=out at *;have HIN:=lh hl;have HRNG:=lh (show ∀y∈l++[n],I64 y from fun y hy=>by
     rcases List.mem_append.1 hy with hy|hy
     ·exact hl.rng y hy
     ·obtain rfl:=List.mem_singleton.1 hy;exact hn)
    have HLEN:=lh (show(l++[n]).length=l.length+1 by simp);by_cases hc:c=l.length
    ·subst hc
     go_wp2_with (first|(at_builtin;refine wpList_app _ rfl _ _ _ rfl wr.heap.size 3 i0 (.int .i64 0) 1 8 Tryz.underlying22 hi0 hz0 hz1 hz2 rfl om A2 (l.length+1) c2 (l.map (Value.int .i64)++[.int .i64 n]) rfl ho2 _ 0 _ [] rfl rfl (fun h=>absurd rfl h) si um om X2.size ?_;intro A3 c3 w3 ho3 hg3 hat3;have X3:=Ext.app X2 ho2 hg3)|(at_builtin;refine wpList_app _ rfl _ _ _ rfl wr.heap.size 3 i0 (.int .i64 0) 1 8 Tryz.underlying22 hi0 hz0 hz1 hz2 rfl om A1 l.length c1 (l.map (Value.int .i64)) rfl (OwnS.ext ho1 (Ext.alloc _ _)) _ 1 1 [.int .i64 n] rfl rfl (blk_cells (Blk.new _ _ _)) (ints_one [n]) um om (X1.trans (Ext.alloc _ _)).size ?_;intro A2 c2 w2 ho2 hg2 hat2;have X2:=Ext.app (X1.trans (Ext.alloc _ _)) (OwnS.ext ho1 (Ext.alloc _ _)) hg2)|(at_builtin;refine wpList_app _ rfl _ _ _ rfl wr.heap.size 3 i0 (.int .i64 0) 1 8 Tryz.underlying22 hi0 hz0 hz1 hz2 rfl om none 0 0 [] rfl (OwnS.nil _ _ _ _) (some ⟨pb,po,none⟩) l.length l.length (l.map (Value.int .i64)) rfl (by rw[List.length_map,Nat.mul_one]) HIN.out.cells (ints_one _) um om (Nat.le_refl _) ?_;intro A1 c1 w1 ho1 hg1 hat1;rw[Nat.zero_add,List.nil_append] at ho1;have X1:=Ext.app (Ext.rfl' wr) (OwnS.nil wr wr.heap.size 3 1) hg1))
     exact G6z2
    ·have hc1:¬(c:Int)=l.length:=om
     go_wp2_with (first|(at_builtin;refine wpList_app _ rfl _ _ _ rfl wr.heap.size 3 i0 (.int .i64 0) 1 8 Tryz.underlying22 hi0 hz0 hz1 hz2 rfl om A2 (l.length+1) c2 (l.map (Value.int .i64)++[.int .i64 n]) rfl ho2 _ 0 _ [] rfl rfl (fun h=>absurd rfl h) si um om X2.size ?_;intro A3 c3 w3 ho3 hg3 hat3;have X3:=Ext.app X2 ho2 hg3)|(at_builtin;refine wpList_app _ rfl _ _ _ rfl wr.heap.size 3 i0 (.int .i64 0) 1 8 Tryz.underlying22 hi0 hz0 hz1 hz2 rfl om A1 l.length c1 (l.map (Value.int .i64)) rfl (OwnS.ext ho1 (Ext.alloc _ _)) _ 1 1 [.int .i64 n] rfl rfl (blk_cells (Blk.new _ _ _)) (ints_one [n]) um om (X1.trans (Ext.alloc _ _)).size ?_;intro A2 c2 w2 ho2 hg2 hat2;have X2:=Ext.app (X1.trans (Ext.alloc _ _)) (OwnS.ext ho1 (Ext.alloc _ _)) hg2)|(at_builtin;refine wpList_app _ rfl _ _ _ rfl wr.heap.size 3 i0 (.int .i64 0) 1 8 Tryz.underlying22 hi0 hz0 hz1 hz2 rfl om none 0 0 [] rfl (OwnS.nil _ _ _ _) (some ⟨pb,po,none⟩) l.length c (l.map (Value.int .i64)) rfl (by rw[List.length_map,Nat.mul_one]) HIN.out.cells (ints_one _) um om (Nat.le_refl _) ?_;intro A1 c1 w1 ho1 hg1 hat1;rw[Nat.zero_add,List.nil_append] at ho1;have X1:=Ext.app (Ext.rfl' wr) (OwnS.nil wr wr.heap.size 3 1) hg1))
     exact G6z2
end
section
open Go.RowKit
def SetE (E:List Int)(l:List Sp):Prop:=l.length≤3∧∀s∈l,s.1∈E∧s.2+1∈E
def rimE:List Int:=[0,10,97,98,99,100,256,11]
theorem SetE.nil (E:List Int):SetE E []:=⟨by simp,by simp⟩
theorem setE_of {l:List Sp}(h:SetOk l):SetE rimE l:=by
 refine⟨by have:=h.1;omega,fun s hs=>?_⟩;obtain⟨⟨h1,h2⟩,_⟩:=h.2 s hs;constructor
 ·revert h1;simp only[rimE,List.mem_cons,List.not_mem_nil,or_false];omega
 ·revert h2;simp only[rimE,List.mem_cons,List.not_mem_nil,or_false];omega
theorem OwnS.lowerN {w:World}{base base' e size n c:Nat}{A:Option Addr}{xs:List Value}(h:OwnS w base e size A n c xs)(hb:base'≤base):OwnS w base' e size A n c xs:=by
 refine⟨h.1,?_⟩;rcases h.2 with h|⟨g,cap,cur,h1,h2,h3⟩
 ·exact Or.inl h
 ·exact Or.inr ⟨g,cap,cur,h1,Nat.le_trans hb h2,h3⟩
def HinOk (w0:World)(h:Hin):Prop:=h.wf∧SL w0 h.A h.c h.l∧SetE rimE h.l
theorem HinOk.plain (w0:World){op x y n:Int}(h:I64 op∧I64 x∧I64 y∧I64 n):HinOk w0 ⟨op,x,y,n,none,0,[]⟩:=⟨h,SL.nil _,SetE.nil _⟩
structure CdI (w0 base w:World)(T:Nat)(A:Option Addr)(c:Nat)(hs:List Hin):Prop where
 own:OwnS w base.heap.size T 5 A hs.length c (flatN hs)
 ok:∀h∈hs,HinOk w0 h
 ext:Ext base w
theorem CdI.nil {w0 base w:World}{T:Nat}(h:Ext base w):CdI w0 base w T none 0 []:=⟨OwnS.nil _ _ _ _,by simp,h⟩
theorem CdI.up {w0 base w w':World}{T:Nat}{A:Option Addr}{c:Nat}{hs:List Hin}(h:CdI w0 base w T A c hs)(x:Ext w w'):CdI w0 base w' T A c hs:=⟨OwnS.ext h.own x,h.ok,h.ext.trans x⟩
theorem CdI.low {w0 base base' w:World}{T:Nat}{A:Option Addr}{c:Nat}{hs:List Hin}(h:CdI w0 base' w T A c hs)(x:Ext base base'):CdI w0 base w T A c hs:=⟨OwnS.lowerN h.own x.size,h.ok,x.trans h.ext⟩
theorem CdI.len {w0 base w:World}{T:Nat}{A:Option Addr}{c:Nat}{hs:List Hin}(h:CdI w0 base w T A c hs):hs.length≤c∧c≤9223372036854775807:=OwnS.caps h.own
def RetCd (T:Nat)(w0:World)(N:Nat)(w:World)(e:Ending)(w':World):Prop:=
 ∃(A:Option Addr) (c:Nat) (hs:List Hin),e=.returned (.slice A hs.length c)∧hs.length+2≤N∧CdI w0 w w' T A c hs
theorem RetCd.up {T:Nat}{w0 w w1:World}{N M:Nat}{e:Ending}{w':World}(h:RetCd T w0 N w1 e w')(x:Ext w w1)(hN:N≤M):RetCd T w0 M w e w':=by
 obtain⟨A,c,hs,rfl,h1,h2⟩:=h;exact⟨A,c,hs,rfl,om,OwnS.lowerN h2.own x.size,h2.ok,x.trans h2.ext⟩
theorem wpList_appN {P:Program}{w0 base w:World}{T:Nat}{ops:Array Oper}{rest:List Oper}{o:Oper}{a:Act}{Q:Exit→Act→World→Prop}(hgd:o.guard=none)(s x:Operand)(t:Nat)
 (ho:o.op=.call { callee:=.builtin .append,args:=#[s,x],argTypes:=#[t,t] })
 (i:TypeInfo) (ht:P.underlying t=some (.slice T)) (hi:P.info? T=some i) (hz:i.zero=some (.agg #[.int .i64 0,.int .i64 0,.int .i64 0,.int .i64 0,.slice none 0 0]))
 (hsize:i.size=5) (hby:i.bytes=56)
 (A:Option Addr) (c:Nat) (hs:List Hin) (hA:a.eval s=.slice A hs.length c) (hown:CdI w0 base w T A c hs)
 (B:Option Addr) (d:Nat) (ks:List Hin) (hx:a.eval x=.slice B ks.length d) (hr:CellsAt w B (flatN ks)) (hok:∀h∈ks,HinOk w0 h)
 (hb:hs.length+ks.length≤1000000) (ys:List Hin) (hys:ys=hs++ks)
 (h:∀A' c' w',CdI w0 base w' T A' c' ys→Ext base w'→(∀b,A.map (·.block)=some b→base.heap.size≤b)→w.grownBy w' (A.map (·.block))→wpList P ops Q rest (a.put o.dst (.slice A' ys.length c')) w'):wpList P ops Q (o::rest) a w:=by
 have hrow:=OwnS.row hown.own;refine wpList_app _ hgd s x t ho base.heap.size T i _ 5 56 ht hi hz hsize hby rfl om A hs.length c (flatN hs) hA hown.own B ks.length d (flatN ks) hx (flatN_len ks) hr (flatN_one ks) um om hown.ext.size ?_;intro A' c' w' ho' hg' _;have hx':=hown.ext.grown hg' hrow;have hl:ys.length=hs.length+ks.length:=by rw[hys];simp
 rw[←hl];refine h A' c' w' ⟨?_,?_,hx'⟩ hx' hrow hg'
 ·rw[hl,hys,flatN_append];exact ho'
 ·rw[hys];intro z hz;rcases List.mem_append.1 hz with hz|hz
  ·exact hown.ok z hz
  ·exact hok z hz
theorem hin_blk {w:World}{g T:Nat}{h:Hin}(hb:Blk w g T #[.int .i64 h.op,.int .i64 h.x,.int .i64 h.y,.int .i64 h.n,.slice h.A h.l.length h.c]):CellsAt w (some ⟨g,0,none⟩) (flatN [h]):=
 blk_cells (by simpa[flatN] using hb)
theorem cd_one {w0 base w:World}{g T:Nat}{h:Hin}(hb:Blk w g T #[.int .i64 h.op,.int .i64 h.x,.int .i64 h.y,.int .i64 h.n,.slice h.A h.l.length h.c])(hg:base.heap.size≤g)(x:Ext base w)(hk:HinOk w0 h):CdI w0 base w T (some ⟨g,0,none⟩) 1 [h]:=
 ⟨by simpa[flatN] using OwnS.of_blk (n:=1) (c:=1) (size:=5) hb hg si si um,by simpa using hk,x⟩
theorem mul_step (B i:Nat):B*(i+1)=B*i+B:=Nat.mul_succ B i
theorem mul_le2 {B i j:Nat}(h:i≤j):B*i≤B*j:=Nat.mul_le_mul_left B h
end
end Go.Proofs.YtmocoldobnimfaaGreat
