/- Texts of this proof: R0 App Fw E1 Row. -/
import Derived.Test.YtmocoldobnimfaaGreatRP00
import Derived.OrdersHeld
import Derived.Deep.RegionHeld3
import Derived.Test.YtmocoldobnimfaaGreatRows
import Derived.WalkLawsBesides
import Derived.Deep.QuietTactic
import Derived.BigQuiet
import Derived.DataReads
import Derived.OpenShut
set_option linter.all false
set_option maxHeartbeats 400000
namespace Go.Proofs.YtmocoldobnimfaaGreat
section
inductive Sh where
 | lf (ts:List Int)
 | nd (l r:Sh)
namespace Sh
def text:Sh→List Int
 | lf ts=>ts
 | nd l r=>l.text++r.text
def hgt:Sh→Nat
 | lf _=>1
 | nd l r=>max l.hgt r.hgt+1
def Av:Sh→Prop
 | lf ts=>1≤ts.length∧ts.length≤32
 | nd l r=>Av l∧Av r∧l.hgt≤r.hgt+1∧r.hgt≤l.hgt+1
theorem hgt_pos:∀t:Sh,1≤t.hgt
 | lf _=>Nat.le_refl _
 | nd _ _=>by simp[hgt]
theorem Av.len:∀{t:Sh},Av t→1≤t.text.length
 | lf _,h=>h.1
 | nd l _,h=>by have:=Av.len h.1;simp[text];omega
theorem Av.high:∀{t:Sh},Av t→2 ^ (t.hgt-1)≤t.text.length*t.text.length
 | lf ts,h=>by
  have h1:1≤ts.length:=h.1;exact Nat.mul_le_mul h1 h1
 | nd l r,h=>by
  obtain⟨ha,hb,h1,h2⟩:=h;have ia:=Av.high ha;have ib:=Av.high hb;have pa:=ha.len;have pb:=hb.len;have qa:=hgt_pos l;have qb:=hgt_pos r;simp only[hgt,text,List.length_append];generalize l.text.length=a at *;generalize r.text.length=b at *;generalize l.hgt=x at *;generalize r.hgt=y at *;have e0:(a+b)*(a+b)=a*a+b*b+2*(a*b):=by
   rw[Nat.add_mul,Nat.mul_add,Nat.mul_add,Nat.mul_comm b a];omega
  rw[e0,Nat.add_sub_cancel];have key:∀p q u v:Nat,1≤p→1≤q→1≤v→v≤u→u≤v+1→2 ^ (u-1)≤p*p→2 ^ (v-1)≤q*q→2 ^ u≤p*p+q*q+2*(p*q):=fun p q u v hp hq hv h1 h2 e1 e2=>by
   have eu:2 ^ u=2*2 ^ (u-1):=by
    have:u=(u-1)+1:=om
    conv=>lhs;rw[this,Nat.pow_succ]
    omega
   have ev:2 ^ (u-1)≤2*2 ^ (v-1):=by
    rcases Nat.eq_or_lt_of_le h1 with h3|h3
    ·subst h3;omega
    ·have:u-1=(v-1)+1:=om;rw[this,Nat.pow_succ];omega
   have evu:2 ^ (v-1)≤2 ^ (u-1):=Nat.pow_le_pow_right om om;generalize 2 ^ (u-1)=U at *;generalize 2 ^ (v-1)=V at *;have hm:V≤p*q:=by
    rcases Nat.le_total p q with h5|h5
    ·have e3:V≤p*p:=om;exact Nat.le_trans e3 (Nat.mul_le_mul_left _ h5)
    ·exact Nat.le_trans e2 (Nat.mul_le_mul_right _ h5)
   omega
  rcases Nat.le_total x y with h3|h3
  ·rw[Nat.max_eq_right h3];have:=key b a y x pb pa qa h3 h2 ib ia;rw[Nat.mul_comm b a] at this;omega
  ·rw[Nat.max_eq_left h3];exact key a b x y pa pb qb h3 h1 ia ib
theorem Av.hgt_le {t:Sh}(h:Av t)(hl:t.text.length≤65536):t.hgt≤33:=by
 have h1:=h.high;have h2:t.text.length*t.text.length≤65536*65536:=Nat.mul_le_mul hl hl;rcases Nat.lt_or_ge 33 t.hgt with h3|h3
 ·have h4:2 ^ 33≤2 ^ (t.hgt-1):=Nat.pow_le_pow_right om om;have h5:2 ^ 33=8589934592:=by decide
  omega
 ·exact h3
def balL (l r:Sh):Sh×Nat:=
 match l with
 | nd x y=>if r.hgt+1<l.hgt then(match y with
  | nd a b=>if x.hgt<y.hgt then(nd (nd x a) (nd b r),3) else(nd x (nd y r),2)
  | lf _=>(nd x (nd y r),2)) else(nd l r,1)
 | lf _=>(nd l r,1)
def bal (l r:Sh):Sh×Nat:=
 match r with
 | nd x y=>if l.hgt+1<r.hgt then(match x with
  | nd a b=>if y.hgt<x.hgt then(nd (nd l a) (nd b y),3) else(nd (nd l x) y,2)
  | lf _=>(nd (nd l x) y,2)) else balL l r
 | lf _=>balL l r
def catF:Nat→Sh→Sh→Sh×Nat
 | 0,l,r=>(nd l r,1)
 | f+1,l,r=>
  if r.hgt+1<l.hgt then(match l with
   | nd a b=>((bal a (catF f b r).1).1,(catF f b r).2+(bal a (catF f b r).1).2)
   | lf _=>(nd l r,1))
  else if l.hgt+1<r.hgt then(match r with
   | nd a b=>((bal (catF f l a).1 b).1,(catF f l a).2+(bal (catF f l a).1 b).2)
   | lf _=>(nd l r,1))
  else(nd l r,1)
def cat (l r:Sh):Sh×Nat:=catF (l.hgt+r.hgt) l r
end Sh
open Sh
def catO:Option Sh→Option Sh→Option Sh×Nat
 | none,r=>(r,0)
 | some l,none=>(some l,0)
 | some l,some r=>(some (cat l r).1,(cat l r).2)
def txtO:Option Sh→List Int
 | none=>[]
 | some t=>t.text
def hgtO:Option Sh→Nat
 | none=>0
 | some t=>t.hgt
def AvO:Option Sh→Prop
 | none=>True
 | some t=>Av t
def hdS:Sh→Nat→Option Sh×List Int×Nat
 | lf ts,k=>(none,ts.take k,0)
 | nd l r,k=>if k<l.text.length then hdS l k else((catO (some l) (hdS r (k-l.text.length)).1).1,(hdS r (k-l.text.length)).2.1,(hdS r (k-l.text.length)).2.2+(catO (some l) (hdS r (k-l.text.length)).1).2)
def tlS:Sh→Nat→List Int×Option Sh×Nat
 | lf ts,k=>(ts.drop k,none,0)
 | nd l r,k=>if l.text.length≤k then tlS r (k-l.text.length) else((tlS l k).1,(catO (tlS l k).2.1 (some r)).1,(tlS l k).2.2+(catO (tlS l k).2.1 (some r)).2)
def hdO:Option Sh→Nat→Option Sh×List Int×Nat
 | none,_=>(none,[],0)
 | some t,k=>hdS t k
def tlO:Option Sh→Nat→List Int×Option Sh×Nat
 | none,_=>([],none,0)
 | some t,k=>tlS t k
def bldF:Nat→List Int→Nat→Sh×Nat
 | 0,ts,_=>(lf ts,1)
 | f+1,ts,L=>if L=1 then(lf ts,1) else
  (nd (bldF f (ts.take (ts.length*(L / 2) / L)) (L / 2)).1 (bldF f (ts.drop (ts.length*(L / 2) / L)) (L-L / 2)).1,(bldF f (ts.take (ts.length*(L / 2) / L)) (L / 2)).2+(bldF f (ts.drop (ts.length*(L / 2) / L)) (L-L / 2)).2+1)
def treeS (ts:List Int):Option Sh×Nat:=
 if ts=[] then(none,0) else(some (bldF ((ts.length+31) / 32) ts ((ts.length+31) / 32)).1,(bldF ((ts.length+31) / 32) ts ((ts.length+31) / 32)).2)
def edS (t:Option Sh)(k d:Nat)(ins:List Int):Option Sh×Nat:=
 let h:=hdO t k
 let l:=tlO t (k+d)
 let m:=treeS (h.2.1++ins++l.1)
 let x:=catO h.1 m.1
 let y:=catO x.1 l.2.1
 (y.1,h.2.2+l.2.2+m.2+x.2+y.2)
namespace Sh
theorem bal_ok {l r:Sh}(hl:Av l)(hr:Av r)(h1:l.hgt≤r.hgt+2)(h2:r.hgt≤l.hgt+2) :
 Av (bal l r).1∧(bal l r).1.text=l.text++r.text∧max l.hgt r.hgt≤(bal l r).1.hgt∧(bal l r).1.hgt≤max l.hgt r.hgt+1∧(l.hgt≤r.hgt+1→r.hgt≤l.hgt+1→(bal l r).1.hgt=max l.hgt r.hgt+1)∧(bal l r).2≤3:=by
 have p0:l.hgt≤r.hgt+1→r.hgt≤l.hgt+1→bal l r=(nd l r,1):=fun k1 k2=>by
  unfold bal balL
  cases r with
  | lf b=>cases l with
   | lf a=>rfl
   | nd x y=>simp only;rw[if_neg om]
  | nd u v=>simp only;rw[if_neg om];cases l with
   | lf a=>rfl
   | nd x y=>simp only;rw[if_neg om]
 by_cases hc:l.hgt+1<r.hgt
 ·cases r with
  | lf b=>simp only[hgt] at hc;have:=hgt_pos l;omega
  | nd x y=>
   obtain⟨ax,ay,b1,b2⟩:=hr;have px:=hgt_pos x;have py:=hgt_pos y;have pl:=hgt_pos l;unfold bal
   simp only
   rw[if_pos hc]
   cases x with
   | lf a=>simp only[Av,text,hgt] at *;refine⟨⟨⟨hl,ax,om,om⟩,ay,om,om⟩,by simp,om,om,om,om⟩
   | nd a b=>
    obtain⟨aa,ab,b3,b4⟩:=ax;have pa:=hgt_pos a;have pb:=hgt_pos b;by_cases hd:y.hgt<(nd a b).hgt
    ·simp only;rw[if_pos hd];simp only[Av,text,hgt] at *
     refine⟨⟨⟨hl,aa,om,om⟩,⟨ab,ay,om,om⟩,om,om⟩,by simp,om,om,om,om⟩
    ·simp only;rw[if_neg hd];simp only[Av,text,hgt] at *
     refine⟨⟨⟨hl,⟨aa,ab,b3,b4⟩,om,om⟩,ay,om,om⟩,by simp,om,om,om,om⟩
 ·by_cases hd:r.hgt+1<l.hgt
  ·have e:bal l r=balL l r:=by
    unfold bal
    cases r with
    | lf b=>rfl
    | nd u v=>simp only;rw[if_neg hc]
   rw[e]
   cases l with
   | lf b=>simp only[hgt] at hd;have:=hgt_pos r;omega
   | nd x y=>
    obtain⟨ax,ay,b1,b2⟩:=hl;have px:=hgt_pos x;have py:=hgt_pos y;have pr:=hgt_pos r;unfold balL
    simp only
    rw[if_pos hd]
    cases y with
    | lf a=>simp only[Av,text,hgt] at *;refine⟨⟨ax,⟨ay,hr,om,om⟩,om,om⟩,by simp,om,om,om,om⟩
    | nd a b=>
     obtain⟨aa,ab,b3,b4⟩:=ay;have pa:=hgt_pos a;have pb:=hgt_pos b;by_cases he:x.hgt<(nd a b).hgt
     ·simp only;rw[if_pos he];simp only[Av,text,hgt] at *
      refine⟨⟨⟨ax,aa,om,om⟩,⟨ab,hr,om,om⟩,om,om⟩,by simp,om,om,om,om⟩
     ·simp only;rw[if_neg he];simp only[Av,text,hgt] at *
      refine⟨⟨ax,⟨⟨aa,ab,b3,b4⟩,hr,om,om⟩,om,om⟩,by simp,om,om,om,om⟩
  ·rw[p0 om om];simp only[Av,text,hgt];exact⟨⟨hl,hr,om,om⟩,trivial,om,om,fun _ _=>trivial,om⟩
theorem cat_ok:∀(f:Nat) {l r:Sh},Av l→Av r→l.hgt+r.hgt≤f→
 Av (catF f l r).1∧(catF f l r).1.text=l.text++r.text∧max l.hgt r.hgt≤(catF f l r).1.hgt∧(catF f l r).1.hgt≤max l.hgt r.hgt+1∧(catF f l r).2≤3*(max l.hgt r.hgt-min l.hgt r.hgt)+1
 | 0,l,r,_,_,hf=>by have:=hgt_pos l;omega
 | f+1,l,r,hl,hr,hf=>by
  have pl:=hgt_pos l;have pr:=hgt_pos r;unfold catF;by_cases h1:r.hgt+1<l.hgt
  ·rw[if_pos h1]
   cases l with
   | lf a=>simp only[hgt] at h1;omega
   | nd a b=>
    obtain⟨aa,ab,b1,b2⟩:=hl;have pa:=hgt_pos a;have pb:=hgt_pos b;simp only[hgt] at h1 hf pl ⊢;obtain⟨i1,i2,i3,i4,i5⟩:=cat_ok f ab hr om;generalize catF f b r=q at *;obtain⟨j1,j2,j3,j4,j5,j6⟩:=bal_ok aa i1 om om;generalize bal a q.1=p at *;refine⟨j1,by rw[j2,i2];simp[text],?_,om,om⟩;rcases Nat.lt_or_ge (a.hgt+1) q.1.hgt with h5|h5
    ·omega
    ·have:=j5 om h5;omega
  ·rw[if_neg h1];by_cases h2:l.hgt+1<r.hgt
   ·rw[if_pos h2]
    cases r with
    | lf a=>simp only[hgt] at h2;omega
    | nd a b=>
     obtain⟨aa,ab,b1,b2⟩:=hr;have pa:=hgt_pos a;have pb:=hgt_pos b;simp only[hgt] at h2 h1 hf pr ⊢;obtain⟨i1,i2,i3,i4,i5⟩:=cat_ok f hl aa om;generalize catF f l a=q at *;obtain⟨j1,j2,j3,j4,j5,j6⟩:=bal_ok i1 ab om om;generalize bal q.1 b=p at *;refine⟨j1,by rw[j2,i2];simp[text],?_,om,om⟩;rcases Nat.lt_or_ge (b.hgt+1) q.1.hgt with h5|h5
     ·omega
     ·have:=j5 h5 om;omega
   ·rw[if_neg h2];simp only[Av,text,hgt];exact⟨⟨hl,hr,om,om⟩,trivial,om,om,om⟩
end Sh
theorem catO_ok {l r:Option Sh}(hl:AvO l)(hr:AvO r):AvO (catO l r).1∧txtO (catO l r).1=txtO l++txtO r∧max (hgtO l) (hgtO r)≤hgtO (catO l r).1∧hgtO (catO l r).1≤max (hgtO l) (hgtO r)+1∧
 (catO l r).2≤3*(max (hgtO l) (hgtO r)-min (hgtO l) (hgtO r))+1∧(l=none→(catO l r).2=0∧(catO l r).1=r)∧(r=none→(catO l r).2=0∧(catO l r).1=l):=by
 cases l with
 | none=>simp only[catO,txtO,hgtO,List.nil_append];exact⟨hr,trivial,om,om,om,fun _=>by simp,fun h=>by simp[h]⟩
 | some a=>cases r with
  | none=>simp only[catO,txtO,hgtO,List.append_nil];exact⟨hl,trivial,om,om,om,fun h=>by simp at h,fun h=>by simp⟩
  | some b=>
   obtain⟨i1,i2,i3,i4,i5⟩:=cat_ok (a.hgt+b.hgt) hl hr (Nat.le_refl _);simp only[catO,txtO,hgtO];exact⟨i1,i2,i3,i4,i5,fun h=>by simp at h,fun h=>by simp at h⟩
theorem hdS_ok:∀{t:Sh} (k:Nat),Av t→AvO (hdS t k).1∧txtO (hdS t k).1++(hdS t k).2.1=t.text.take k∧(hdS t k).2.1.length≤32∧hgtO (hdS t k).1≤t.hgt∧(hdS t k).2.2≤3*(hgtO (hdS t k).1+2*t.hgt)
 | lf ts,k,h=>by
  have h2:ts.length≤32:=h.2;simp only[hdS,txtO,hgtO,text,List.nil_append];exact⟨trivial,trivial,by rw[List.length_take];omega,om,om⟩
 | nd l r,k,h=>by
  obtain⟨al,ar,b1,b2⟩:=h;unfold hdS;by_cases hk:k<l.text.length
  ·rw[if_pos hk];obtain⟨i1,i2,i3,i4,i5⟩:=hdS_ok k al;simp only[hgt,text];exact⟨i1,by rw[i2,List.take_append_of_le_length om],i3,om,om⟩
  ·rw[if_neg hk];obtain⟨i1,i2,i3,i4,i5⟩:=hdS_ok (k-l.text.length) ar
   simp only
   have z1:hgtO (some l)=l.hgt:=rfl;generalize hdS r (k-l.text.length)=q at *;obtain⟨c1,c2,c3,c4,c5,_,c7⟩:=catO_ok (l:=some l) (r:=q.1) al i1;generalize catO (some l) q.1=p at *;simp only[hgt,text];refine⟨c1,?_,i3,?_,?_⟩
   ·rw[c2,List.append_assoc,i2];have e:k=l.text.length+(k-l.text.length):=om
    conv=>rhs;rw[e,List.take_length_add_append]
    rfl
   ·omega
   ·cases hq:q.1 with
    | none=>
     obtain⟨c8,c9⟩:=c7 hq;rw[hq] at i5;have z2:hgtO none=0:=rfl;rw[c9,z1];omega
    | some u=>rw[hq] at i4 i5 c3 c4 c5;omega
theorem tlS_ok:∀{t:Sh} (k:Nat),Av t→AvO (tlS t k).2.1∧(tlS t k).1++txtO (tlS t k).2.1=t.text.drop k∧(tlS t k).1.length≤32∧hgtO (tlS t k).2.1≤t.hgt∧(tlS t k).2.2≤3*(hgtO (tlS t k).2.1+2*t.hgt)
 | lf ts,k,h=>by
  have h2:ts.length≤32:=h.2;simp only[tlS,txtO,hgtO,text,List.append_nil];exact⟨trivial,trivial,by rw[List.length_drop];omega,om,om⟩
 | nd l r,k,h=>by
  obtain⟨al,ar,b1,b2⟩:=h;unfold tlS;by_cases hk:l.text.length≤k
  ·rw[if_pos hk];obtain⟨i1,i2,i3,i4,i5⟩:=tlS_ok (k-l.text.length) ar;simp only[hgt,text];refine⟨i1,?_,i3,om,om⟩;rw[i2];have e:k=l.text.length+(k-l.text.length):=om
   conv=>rhs;rw[e,List.drop_length_add_append]
  ·rw[if_neg hk];obtain⟨i1,i2,i3,i4,i5⟩:=tlS_ok k al
   simp only
   have z1:hgtO (some r)=r.hgt:=rfl;generalize tlS l k=q at *;obtain⟨c1,c2,c3,c4,c5,c6,_⟩:=catO_ok (l:=q.2.1) (r:=some r) i1 ar;generalize catO q.2.1 (some r)=p at *;simp only[hgt,text];refine⟨c1,?_,i3,?_,?_⟩
   ·rw[c2,←List.append_assoc,i2,List.drop_append_of_le_length om];rfl
   ·omega
   ·cases hq:q.2.1 with
    | none=>
     obtain⟨c8,c9⟩:=c6 hq;rw[hq] at i5;have z2:hgtO none=0:=rfl;rw[c9,z1];omega
    | some u=>rw[hq] at i4 i5 c3 c4 c5;omega
theorem hdO_ok {t:Option Sh}(k:Nat)(h:AvO t):AvO (hdO t k).1∧txtO (hdO t k).1++(hdO t k).2.1=(txtO t).take k∧(hdO t k).2.1.length≤32∧hgtO (hdO t k).1≤hgtO t∧(hdO t k).2.2≤3*(hgtO (hdO t k).1+2*hgtO t):=by
 cases t with
 | none=>simp[hdO,txtO,hgtO,AvO]
 | some t=>exact hdS_ok k h
theorem tlO_ok {t:Option Sh}(k:Nat)(h:AvO t):AvO (tlO t k).2.1∧(tlO t k).1++txtO (tlO t k).2.1=(txtO t).drop k∧(tlO t k).1.length≤32∧hgtO (tlO t k).2.1≤hgtO t∧(tlO t k).2.2≤3*(hgtO (tlO t k).2.1+2*hgtO t):=by
 cases t with
 | none=>simp[tlO,txtO,hgtO,AvO]
 | some t=>exact tlS_ok k h
def hB:Nat→Nat→Nat
 | 0,_=>1
 | f+1,L=>if L=1 then 1 else max (hB f (L / 2)) (hB f (L-L / 2))+1
theorem hB_step:∀(f:Nat) (L:Nat),1≤L→L≤f→(∀g,L≤g→hB g L=hB L L)∧(L+1≤f→hB L L≤hB (L+1) (L+1)∧hB (L+1) (L+1)≤hB L L+1)
 | 0,L,h1,h2=>om
 | f+1,L,h1,h2=>by
  have fu:∀L',1≤L'→L'≤f+1→∀g,L'≤g→hB g L'=if L'=1 then 1 else max (hB (L' / 2) (L' / 2)) (hB (L'-L' / 2) (L'-L' / 2))+1:=fun L' k1 k2 g hg=>by
   cases g with
   | zero=>omega
   | succ g=>
    show(if L'=1 then 1 else max (hB g (L' / 2)) (hB g (L'-L' / 2))+1)=_
    by_cases h3:L'=1
    ·rw[if_pos h3,if_pos h3]
    ·rw[if_neg h3,if_neg h3,(hB_step f (L' / 2) om om).1 g om,(hB_step f (L'-L' / 2) om om).1 g om]
  refine⟨fun g hg=>?_,fun h3=>?_⟩
  ·rw[fu L h1 h2 g hg,fu L h1 h2 L (Nat.le_refl _)]
  ·have ih:∀x,1≤x→x+1≤f→hB x x≤hB (x+1) (x+1)∧hB (x+1) (x+1)≤hB x x+1:=fun x k1 k2=>(hB_step f x k1 om).2 k2;rw[fu L h1 h2 L (Nat.le_refl _),fu (L+1) om h3 (L+1) (Nat.le_refl _)];by_cases h4:L=1
   ·subst h4;decide
   ·rw[if_neg h4,if_neg om];rcases Nat.mod_two_eq_zero_or_one L with h5|h5
    ·have e1:(L+1) / 2=L / 2:=om;have e2:L-L / 2=L / 2:=om;have e3:L+1-L / 2=L / 2+1:=om;rw[e1,e2,e3];have:=ih (L / 2) om om;omega
    ·have e1:(L+1) / 2=L / 2+1:=om;have e2:L-L / 2=L / 2+1:=om;have e3:L+1-(L / 2+1)=L / 2+1:=om;rw[e1,e2,e3];have:=ih (L / 2) om om;omega
theorem bldF_ok:∀(f:Nat) (ts:List Int) (L:Nat),1≤L→L≤f→L≤ts.length→ts.length≤32*L→Av (bldF f ts L).1∧(bldF f ts L).1.text=ts∧(bldF f ts L).1.hgt=hB f L∧(bldF f ts L).2+1=2*L
 | 0,ts,L,h1,h2,_,_=>om
 | f+1,ts,L,h1,h2,h3,h4=>by
  unfold bldF hB;by_cases h5:L=1
  ·subst h5;rw[if_pos rfl,if_pos rfl];exact⟨⟨h3,om⟩,rfl,rfl,rfl⟩
  ·rw[if_neg h5,if_neg h5]
   simp only
   obtain⟨x,hx⟩:∃x,x=L / 2:=⟨_,rfl⟩;obtain⟨c,hc⟩:∃c,c=ts.length*(L / 2) / L:=⟨_,rfl⟩;obtain⟨y,hy⟩:∃y,y=L-L / 2:=⟨_,rfl⟩
   rw[←hc,←hy,←hx]
   rw[←hx] at hc;have hL:x+y=L:=om;have d1:c*L≤ts.length*x:=by rw[hc];exact Nat.div_mul_le_self _ _
   have d2:ts.length*x<(c+1)*L:=by rw[hc];exact Nat.lt_mul_of_div_lt (Nat.lt_succ_self _) om
   have hx1:1≤x:=om;have hy1:1≤y:=om;generalize hn:ts.length=n at *;have b1:x≤c:=by
    rcases Nat.lt_or_ge c x with h|h
    ·exfalso
     have k1:(c+1)*L≤x*L:=Nat.mul_le_mul_right _ om;have k2:L*x≤n*x:=Nat.mul_le_mul_right _ h3;rw[Nat.mul_comm L x] at k2;omega
    ·exact h
   have b2:c≤32*x:=by
    rcases Nat.lt_or_ge (32*x) c with h|h
    ·exfalso
     have k1:(32*x+1)*L≤c*L:=Nat.mul_le_mul_right _ om;have k2:n*x≤32*L*x:=Nat.mul_le_mul_right _ h4;have e:(32*x+1)*L=32*L*x+L:=by rw[Nat.add_mul,Nat.one_mul,Nat.mul_assoc,Nat.mul_comm x L,←Nat.mul_assoc]
     omega
    ·exact h
   have b3:c+y≤n:=by
    rcases Nat.lt_or_ge n (c+y) with h|h
    ·exfalso
     have k1:n*L=n*x+n*y:=by rw[←hL,Nat.mul_add]
     have k2:L*y≤n*y:=Nat.mul_le_mul_right _ h3;have k3:(n+1)*L≤(c+y)*L:=Nat.mul_le_mul_right _ om;have k4:(c+y)*L=c*L+L*y:=by rw[Nat.add_mul,Nat.mul_comm y L]
     have k5:(n+1)*L=n*L+L:=by rw[Nat.add_mul,Nat.one_mul]
     omega
    ·exact h
   have b4:n-c≤32*y:=by
    rcases Nat.lt_or_ge (32*y) (n-c) with h|h
    ·exfalso
     have k1:n*L=n*x+n*y:=by rw[←hL,Nat.mul_add]
     have k2:n*y≤32*L*y:=Nat.mul_le_mul_right _ h4;have k3:(32*y+1+c)*L≤n*L:=Nat.mul_le_mul_right _ om;have k4:(32*y+1+c)*L=32*L*y+(c+1)*L:=by
      rw[Nat.add_assoc,Nat.add_comm 1 c,Nat.add_mul,Nat.mul_assoc,Nat.mul_comm y L,←Nat.mul_assoc]
     omega
    ·exact h
   have l1:(ts.take c).length=c:=by rw[List.length_take,hn];omega
   have l2:(ts.drop c).length=n-c:=by rw[List.length_drop,hn]
   obtain⟨i1,i2,i3,i4⟩:=bldF_ok f (ts.take c) x hx1 om om om;obtain⟨j1,j2,j3,j4⟩:=bldF_ok f (ts.drop c) y hy1 om om om;generalize bldF f (ts.take c) x=p at *;generalize bldF f (ts.drop c) y=q at *;have hs:=hB_step (f+1) x hx1 om;have e1:hB f x=hB x x:=hs.1 f om;have e2:hB f y=hB y y:=(hB_step f y hy1 om).1 f om;have hbal:p.1.hgt≤q.1.hgt+1∧q.1.hgt≤p.1.hgt+1:=by
    rw[i3,j3,e1,e2];have h6:y=x∨y=x+1:=om;rcases h6 with h6|h6
    ·subst h6;omega
    ·subst h6;have:=hs.2 om;omega
   refine⟨⟨i1,j1,hbal.1,hbal.2⟩,?_,?_,om⟩
   ·simp only[text];rw[i2,j2,List.take_append_drop]
   ·simp only[hgt];rw[i3,j3]
theorem treeS_ok (ts:List Int):AvO (treeS ts).1∧txtO (treeS ts).1=ts∧(treeS ts).2≤2*((ts.length+31) / 32):=by
 unfold treeS;by_cases h:ts=[]
 ·subst h;rw[if_pos rfl];exact⟨trivial,rfl,by simp⟩
 ·rw[if_neg h];have h1:1≤ts.length:=by cases ts with
   | nil=>exact absurd rfl h
   | cons a b=>simp
  obtain⟨i1,i2,i3,i4⟩:=bldF_ok ((ts.length+31) / 32) ts ((ts.length+31) / 32) om (Nat.le_refl _) om om;exact⟨i1,i2,by simp only;omega⟩
theorem edS_ok {t:Option Sh}{k d:Nat}(ins:List Int)(h:AvO t)(hk:k+d≤(txtO t).length) :
 AvO (edS t k d ins).1∧txtO (edS t k d ins).1=(txtO t).take k++ins++(txtO t).drop (k+d)∧(edS t k d ins).2≤40*(max (hgtO t) (hgtO (edS t k d ins).1)+2)+2*(ins.length / 16+1):=by
 obtain⟨a1,a2,a3,a4,a5⟩:=hdO_ok k h;obtain⟨b1,b2,b3,b4,b5⟩:=tlO_ok (k+d) h;unfold edS
 simp only
 generalize hdO t k=p at *;generalize tlO t (k+d)=q at *;obtain⟨c1,c2,c3⟩:=treeS_ok (p.2.1++ins++q.1);have hl:(p.2.1++ins++q.1).length≤64+ins.length:=by simp only[List.length_append];omega
 generalize treeS (p.2.1++ins++q.1)=m at *;obtain⟨d1,d2,d3,d4,d5,_⟩:=catO_ok (l:=p.1) (r:=m.1) a1 c1;generalize catO p.1 m.1=x at *;obtain⟨e1,e2,e3,e4,e5,_⟩:=catO_ok (l:=x.1) (r:=q.2.1) d1 b1;generalize catO x.1 q.2.1=y at *;refine⟨e1,?_,om⟩;rw[e2,d2,c2,←a2,←b2];simp only[List.append_assoc]
end
section
open Go.RowKit
def OwnS (w:World)(base e size:Nat)(A:Option Addr)(n c:Nat)(xs:List Value):Prop:=w.ownsRow base e size (.slice A n c) n xs
namespace OwnS
variable {w w':World} {base e size n c:Nat} {A:Option Addr} {xs:List Value}
theorem nil (w:World)(base e size:Nat):OwnS w base e size none 0 0 []:=World.ownsRow_nil _ _ _ _
theorem len (h:OwnS w base e size A n c xs):xs.length=n*size:=h.1
theorem form (h:OwnS w base e size A n c xs):(A=none∧n=0∧c=0∧xs=[])∨
 ∃g cur,A=some ⟨g,0,none⟩∧base≤g∧w.heap[g]? = some (.cells cur e (0,0))∧n≤c∧c≤maxLen∧cur.size=c*size∧cur.toList.take (n*size)=xs:=by
 rcases h.2 with⟨hv,h0⟩|⟨g,cap,cur,hv,r⟩
 ·left
  injection hv with e1 e2 e3
  subst e1 e2 e3;refine⟨rfl,rfl,rfl,?_⟩;have:=h.1
  simpa using this
 ·right
  injection hv with e1 e2 e3
  subst e1 e3;exact⟨g,cur,rfl,r⟩
theorem ext (h:OwnS w base e size A n c xs)(k:Ext w w'):OwnS w' base e size A n c xs:=by
 refine⟨h.1,?_⟩;rcases h.2 with h2|⟨g,cap,cur,hv,hg,hh,r⟩
 ·exact Or.inl h2
 ·exact Or.inr ⟨g,cap,cur,hv,hg,(k.block g (Array.getElem?_eq_some_iff.1 hh).1).trans hh,r⟩
theorem row (h:OwnS w base e size A n c xs):∀k,A.map (·.block)=some k→base≤k:=by
 intro k hk;rcases h.form with⟨rfl,_⟩|⟨g,cur,rfl,hg,_⟩
 ·simp at hk
 ·simp at hk;omega
theorem far (h:OwnS w base e size A n c xs){p:Addr}(hp:A.map (·.block)≠some p.block)(u:Value):OwnS (w.setCell p u) base e size A n c xs:=by
 refine⟨h.1,?_⟩;rcases h.2 with h2|⟨g,cap,cur,hv,hg,hh,r⟩
 ·exact Or.inl h2
 ·refine Or.inr ⟨g,cap,cur,hv,hg,?_,r⟩;injection hv with e1 _ _
  subst e1;rw[Below.heap_setCell _ _ _ _ (by intro hk;exact hp (by simp[hk]))];exact hh
theorem caps (h:OwnS w base e size A n c xs):n≤c∧c≤9223372036854775807:=by
 rcases h.form with⟨_,rfl,rfl,_⟩|⟨g,cur,_,_,_,h1,h2,_⟩
 ·omega
 ·unfold maxLen at h2;omega
theorem cells (h:OwnS w base e size A n c xs):CellsAt w A xs:=by
 intro hn;rcases h.form with⟨_,_,_,rfl⟩|⟨g,cur,rfl,_,hh,h1,_,hs,ht⟩
 ·exact absurd rfl hn
 ·refine⟨g,0,rfl,fun i hi=>?_⟩;subst ht;have hi':i<cur.size:=by
   have:=List.length_take_le (n*size) cur.toList;have h2:=List.length_take_le' (n*size) cur.toList;simp at hi;omega
  rw[Nat.zero_add,List.getElem_take];simp[World.cell?,hh,hi']
theorem of_blk {g:Nat}{cs:Array Value}(h:Blk w g e cs)(hb:base≤g)(hs:cs.size=c*size)(hn:n≤c)(hm:c≤maxLen) :
 OwnS w base e size (some ⟨g,0,none⟩) n c (cs.toList.take (n*size)):=
 ⟨by rw[List.length_take,Array.length_toList,hs,Nat.min_eq_left (Nat.mul_le_mul_right _ hn)],Or.inr ⟨g,c,cs,rfl,hb,h,hn,hm,hs,rfl⟩⟩
end OwnS
section
variable {P:Program} (w:World)
theorem run_app (base t ty e:Nat)(i:TypeInfo)(z:Value)(size bytes:Nat)(ht:P.underlying t=some (.slice e))(hi:P.info? e=some i)(hz:i.zero=some z)
 (hsize:i.size=size) (hby:i.bytes=bytes) (hzs:z.cells.size=size) (hsz:0<size)
 (A:Option Addr) (n c:Nat) (xs:List Value) (hown:OwnS w base e size A n c xs)
 (B:Option Addr) (m d:Nat) (news:List Value) (hl:news.length=m*size) (hr:CellsAt w B news) (h1:∀u∈news,u.oneCell'=true)
 (h63:n+m≤maxLen) (hbytes:(n+m)*bytes≤140737488355328) (hbase:base≤w.heap.size) :
 ∃A' c' w',(Builtin.append_ #[t,t] ty #[.slice A n c,.slice B m d]).run P w=.ok (.slice A' (n+m) c') w'∧OwnS w' base e size A' (n+m) c' (xs++news)∧
  w.grownBy w' (A.map (·.block))∧(A'.map (·.block)=A.map (·.block)∨A'.map (·.block)=some w.heap.size):=by
 have hob:(Value.slice A n c).ownBlock=A.map (·.block):=by cases A<;>rfl
 by_cases hm:news=[]
 ·subst hm;have hm0:m=0:=by
   have h2:m*size=0:=by simpa using hl.symm
   rcases Nat.mul_eq_zero.1 h2 with h3|h3
   ·exact h3
   ·omega
  subst hm0;rcases B with _|ad
  ·refine⟨A,c,w,?_,by simpa using hown,World.grownBy.refl w _,.inl rfl⟩;rcases hown.form with⟨rfl,rfl,rfl,rfl⟩|⟨g,cur,rfl,_,hh,hnc,_⟩
   ·simp[Builtin.append_,run_underlying ht,sizeOf,typeInfo,hi,Builtin.lenOf,Builtin.firstCells]
   ·simp[Builtin.append_,run_underlying ht,sizeOf,typeInfo,hi,Builtin.lenOf,Builtin.firstCells,hnc,storeCells]
  ·obtain⟨v',w',hrun,h2,h3,_,h5⟩:=run_append_own_at (P:=P) w base t ty e i z size bytes ht hi hz hsize hby hzs hsz _ n xs hown ad 0 d [] si si si h63 hbytes hbase;rw[hob] at h3 h5;have hv:∃A' c',v'=.slice A' (n+0) c':=by
    rcases h2.2 with⟨rfl,h0⟩|⟨g,cap,cur,rfl,_⟩
    ·exact⟨none,0,by rw[h0]⟩
    ·exact⟨_,_,rfl⟩
   obtain⟨A',c',rfl⟩:=hv;refine⟨A',c',w',hrun,h2,h3,?_⟩;have hob':(Value.slice A' (n+0) c').ownBlock=A'.map (·.block):=by cases A'<;>rfl
   rw[←hob'];exact h5
 ·obtain⟨b,o,rfl,hc⟩:=hr hm;obtain⟨v',w',hrun,h2,h3,_,h5⟩:=run_append_own_at (P:=P) w base t ty e i z size bytes ht hi hz hsize hby hzs hsz _ n xs hown ⟨b,o,none⟩ m d news hl
   (fun j u hu=>by
    obtain⟨hj,rfl⟩:=List.getElem?_eq_some_iff.1 hu;rw[Addr.add_lit];exact hc j hj) h1 h63 hbytes hbase
  rw[hob] at h3 h5;have hv:∃A' c',v'=.slice A' (n+m) c':=by
   rcases h2.2 with⟨rfl,h0⟩|⟨g,cap,cur,rfl,_⟩
   ·exact⟨none,0,by rw[h0]⟩
   ·exact⟨_,_,rfl⟩
  obtain⟨A',c',rfl⟩:=hv;refine⟨A',c',w',hrun,h2,h3,?_⟩;have hob':(Value.slice A' (n+m) c').ownBlock=A'.map (·.block):=by cases A'<;>rfl
  rw[←hob'];exact h5
theorem wp_app {o:Oper}{a:Act}{K:Act→World→Prop}{Q:Exit→Act→World→Prop}(s x:Operand)(t:Nat)
 (ho:o.op=.call { callee:=.builtin .append,args:=#[s,x],argTypes:=#[t,t] })
 (base e:Nat) (i:TypeInfo) (z:Value) (size bytes:Nat) (ht:P.underlying t=some (.slice e)) (hi:P.info? e=some i) (hz:i.zero=some z)
 (hsize:i.size=size) (hby:i.bytes=bytes) (hzs:z.cells.size=size) (hsz:0<size)
 (A:Option Addr) (n c:Nat) (xs:List Value) (hs:a.eval s=.slice A n c) (hown:OwnS w base e size A n c xs)
 (B:Option Addr) (m d:Nat) (news:List Value) (hx:a.eval x=.slice B m d) (hl:news.length=m*size) (hr:CellsAt w B news) (h1:∀u∈news,u.oneCell'=true)
 (h63:n+m≤maxLen) (hbytes:(n+m)*bytes≤140737488355328) (hbase:base≤w.heap.size)
 (h:∀A' c' w',OwnS w' base e size A' (n+m) c' (xs++news)→w.grownBy w' (A.map (·.block))→(A'.map (·.block)=A.map (·.block)∨A'.map (·.block)=some w.heap.size)→
  K (a.put o.dst (.slice A' (n+m) c')) w'):o.wp P a w K Q:=by
 obtain⟨A',c',w',hrun,h2,h3,h4⟩:=run_app (P:=P) w base t o.type e i z size bytes ht hi hz hsize hby hzs hsz A n c xs hown B m d news hl hr h1 h63 hbytes hbase;unfold Oper.wp execOp;simp only[ho,resolve,invoke,builtin,Sem.run_bind,Sem.run_pure,Result.andThen_ok,List.map_toArray,List.map_cons,List.map_nil,hs,hx,hrun];exact h A' c' w' h2 h3 h4
theorem wpList_app {ops:Array Oper}{rest:List Oper}{o:Oper}{a:Act}{Q:Exit→Act→World→Prop}(hgd:o.guard=none)(s x:Operand)(t:Nat)
 (ho:o.op=.call { callee:=.builtin .append,args:=#[s,x],argTypes:=#[t,t] })
 (base e:Nat) (i:TypeInfo) (z:Value) (size bytes:Nat) (ht:P.underlying t=some (.slice e)) (hi:P.info? e=some i) (hz:i.zero=some z)
 (hsize:i.size=size) (hby:i.bytes=bytes) (hzs:z.cells.size=size) (hsz:0<size)
 (A:Option Addr) (n c:Nat) (xs:List Value) (hs:a.eval s=.slice A n c) (hown:OwnS w base e size A n c xs)
 (B:Option Addr) (m d:Nat) (news:List Value) (hx:a.eval x=.slice B m d) (hl:news.length=m*size) (hr:CellsAt w B news) (h1:∀u∈news,u.oneCell'=true)
 (h63:n+m≤maxLen) (hbytes:(n+m)*bytes≤140737488355328) (hbase:base≤w.heap.size)
 (h:∀A' c' w',OwnS w' base e size A' (n+m) c' (xs++news)→w.grownBy w' (A.map (·.block))→(A'.map (·.block)=A.map (·.block)∨A'.map (·.block)=some w.heap.size)→
  wpList P ops Q rest (a.put o.dst (.slice A' (n+m) c')) w'):wpList P ops Q (o::rest) a w:=
 wpList_plain hgd fun _ hK=>wp_app w s x t ho base e i z size bytes ht hi hz hsize hby hzs hsz A n c xs hs hown B m d news hx hl hr h1 h63 hbytes hbase fun A' c' w' h2 h3 h4=>hK _ _ (h A' c' w' h2 h3 h4)
end
def OwnI (w:World)(base e:Nat)(A:Option Addr)(c:Nat)(xs:List Int):Prop:=OwnS w base e 1 A xs.length c (xs.map (Value.int .i64))
theorem ints_one (xs:List Int):∀u∈xs.map (Value.int .i64),u.oneCell'=true:=by
 intro u hu;obtain⟨_,_,rfl⟩:=List.mem_map.1 hu
 rfl
theorem IL.cells {w:World}{A:Option Addr}{c:Nat}{xs:List Int}(h:IL w A c xs):CellsAt w A (xs.map (Value.int .i64)):=by
 intro hn;obtain⟨b,o,rfl,hc⟩:=h.at_ (by intro h0;subst h0;simp at hn);exact⟨b,o,rfl,fun i hi=>by simp only[List.getElem_map];exact hc i (by simpa using hi)⟩
theorem IL.of_own {w:World}{base e:Nat}{A:Option Addr}{c:Nat}{xs:List Int}(h:OwnI w base e A c xs)(hr:∀x∈xs,I64 x):IL w A c xs:=by
 refine⟨(OwnS.caps h).1,?_,hr,fun hn=>?_⟩
 ·have:=(OwnS.caps h).2;unfold maxLen;omega
 ·obtain⟨b,o,rfl,hc⟩:=OwnS.cells h (by simpa using hn);exact⟨b,o,rfl,fun i hi=>by have:=hc i (by simpa using hi);simpa using this⟩
theorem IL.one {w:World}{g T:Nat}{x:Int}(h:Blk w g T #[.int .i64 x])(hr:I64 x):IL w (some ⟨g,0,none⟩) 1 [x]:=
 ⟨by simp,by unfold maxLen;omega,by simpa using hr,fun _=>⟨g,0,rfl,fun i hi=>by
  have:i=0:=by simpa using hi
  subst this;simpa using h.cell 0⟩⟩
theorem IL.cut_in {w:World}{A:Option Addr}{c k j:Nat}{xs:List Int}(h:IL w A c xs)(hkj:k≤j)(hj:j≤xs.length):IL w (A.map (fun x=>x.add k)) (c-k) ((xs.drop k).take (j-k)):=by
 have h1:=h.le;have h2:=h.cap;refine⟨by simp;omega,om,fun x hx=>h.rng x (List.mem_of_mem_drop (List.mem_of_mem_take hx)),fun hn=>?_⟩;have hx:xs≠[]:=by rintro rfl;simp at hn
 obtain⟨b,o,rfl,hc⟩:=h.at_ hx;refine⟨b,o+k,by rw[Option.map_some,Addr.add_lit],fun i hi=>?_⟩;have hi':i<j-k∧k+i<xs.length:=by simp at hi;omega
 rw[List.getElem_take,List.getElem_drop,Nat.add_assoc];exact hc (k+i) hi'.2
theorem IL.cut_end {w:World}{A:Option Addr}{c k j:Nat}{xs:List Int}(h:IL w A c xs)(hk:c=k):IL w A 0 ((xs.drop k).take (j-k)):=by
 have h1:=h.le;have e:(xs.drop k).take (j-k)=[]:=by rw[List.drop_eq_nil_of_le om];simp
 rw[e];exact⟨by simp,by unfold maxLen;omega,by simp,fun hn=>absurd rfl hn⟩
theorem IL.of_blk {w:World}{g T:Nat}{xs:List Int}(h:Blk w g T (xs.map (Value.int .i64)).toArray)(hr:∀x∈xs,I64 x)(hm:xs.length≤maxLen):IL w (some ⟨g,0,none⟩) xs.length xs:=
 ⟨Nat.le_refl _,hm,hr,fun _=>⟨g,0,rfl,fun i hi=>by
  rw[h.cell];simp[hi]⟩⟩
theorem wpList_app1I {P:Program}{w1 w:World}{ops:Array Oper}{rest:List Oper}{o:Oper}{a:Act}{Q:Exit→Act→World→Prop}(hgd:o.guard=none)(s x:Operand)(t:Nat)
 (ho:o.op=.call { callee:=.builtin .append,args:=#[s,x],argTypes:=#[t,t] })
 (e:Nat) (hinf:(P.info? e).map (fun i=>(i.zero,i.size,i.bytes))=some (some (.int .i64 0),1,8)) (ht:P.underlying t=some (.slice e))
 (a0:World) (hext:Ext a0 w1) (v:Int) (hw:w=w1.alloc (.cells #[.int .i64 v] e))
 (A:Option Addr) (c:Nat) (xs:List Int) (hs:a.eval s=.slice A xs.length c) (hown:OwnI w1 a0.heap.size e A c xs)
 (hx:a.eval x=.slice (some ⟨w1.heap.size,0,none⟩) 1 1) (hb:xs.length≤1099511627776) (ys:List Int) (hys:ys=xs++[v])
 (h:∀A' c' w',OwnI w' a0.heap.size e A' c' ys→Ext a0 w'→w1.grownBy w' (A.map (·.block))→(A'.map (·.block)=A.map (·.block)∨(A'.map (·.block)=some (w1.heap.size+1)))→wpList P ops Q rest (a.put o.dst (.slice A' ys.length c')) w'):wpList P ops Q (o::rest) a w:=by
 obtain⟨i0,hi0,hz0,hz1,hz2⟩:=info_parts hinf;subst hw;have e1:=Ext.alloc w1 (.cells #[.int .i64 v] e);have hc:CellsAt (w1.alloc (.cells #[.int .i64 v] e)) (some ⟨w1.heap.size,0,none⟩) [.int .i64 v]:=fun _=>⟨_,0,rfl,fun i hi=>by
  have:i=0:=by simpa using hi
  subst this;simp⟩
 refine wpList_app _ hgd s x t ho a0.heap.size e i0 (.int .i64 0) 1 8 ht hi0 hz0 hz1 hz2 rfl om A xs.length c (xs.map (Value.int .i64)) hs (OwnS.ext hown e1) _ 1 1 [.int .i64 v] hx rfl hc
  (by simp[Value.oneCell']) um om (by simp;have:=hext.size;omega) ?_
 intro A' c' w' ho' hg hat;have hl:ys.length=xs.length+1:=by rw[hys];simp
 have hg':w1.grownBy w' (A.map (·.block)):=⟨hg.os,hg.tape,hg.output,Nat.le_trans e1.size hg.size,fun k hk hne=>(hg.block k (Nat.lt_of_lt_of_le hk e1.size) hne).trans (e1.block k hk)⟩
 rw[←hl];refine h A' c' w' ?_ (hext.grown hg' (OwnS.row hown)) hg' (by simpa using hat);subst hys;unfold OwnI;rw[hl]
 simpa using ho'
theorem Ext.app {a w w':World}{e size n c:Nat}{A:Option Addr}{xs:List Value}(h:Ext a w)(ho:OwnS w a.heap.size e size A n c xs)(hg:w.grownBy w' (A.map (·.block))):Ext a w':=
 h.grown hg ho.row
end
section
open Go.RowKit
structure KpP (p:Nat→Prop)(w w':World):Prop where
 os:w'.os=w.os
 tape:w'.tape=w.tape
 output:w'.output=w.output
 size:w.heap.size≤w'.heap.size
 block:∀k,k<w.heap.size→¬p k→w'.heap[k]? = w.heap[k]?
namespace KpP
variable {p q:Nat→Prop} {a b c w w':World}
theorem refl (p:Nat→Prop)(w:World):KpP p w w:=⟨rfl,rfl,rfl,Nat.le_refl _,fun _ _ _=>rfl⟩
theorem of_ext (h:Ext w w'):KpP p w w':=⟨h.os,h.tape,h.output,h.size,fun k hk _=>h.block k hk⟩
theorem mono (h:KpP p a b)(hpq:∀k,p k→q k):KpP q a b:=⟨h.os,h.tape,h.output,h.size,fun k hk hn=>h.block k hk (fun hp=>hn (hpq k hp))⟩
theorem trans (h:KpP p a b)(k:KpP p b c):KpP p a c:=
 ⟨k.os.trans h.os,k.tape.trans h.tape,k.output.trans h.output,Nat.le_trans h.size k.size,fun i hi hn=>(k.block i (Nat.lt_of_lt_of_le hi h.size) hn).trans (h.block i hi hn)⟩
theorem set (h:KpP p a w){x:Addr}(hp:p x.block∨a.heap.size≤x.block)(u:Value):KpP p a (w.setCell x u):=
 ⟨h.os,h.tape,h.output,by simpa[World.setCell] using h.size,fun k hk hn=>(Below.heap_setCell w x u k (by
  rintro rfl;rcases hp with hp|hp
  ·exact hn hp
  ·omega)).trans (h.block k hk hn)⟩
theorem blk {g T:Nat}{cs:Array Value}(h:KpP p a b)(hb:Blk a g T cs)(hn:¬p g):Blk b g T cs:=(h.block g hb.lt hn).trans hb
end KpP
structure Lz where
 z:Nat
 d:Nat
 k:Nat
 v:Nat→Value
 T:Nat
 cs:Array Value
def InI (I:List (Nat×Nat))(b:Nat):Prop:=∃p∈I,p.1≤b∧b<p.2
section
variable {P:Program} {ops:Array Oper} {Q:Exit→Act→World→Prop} (L:List Nat) (w0:World)
def WI (I:List (Nat×Nat))(w w':World):Prop:=KpP (fun b=>b∈L∨InI I b) w w'
def LzFact (I:List (Nat×Nat))(q:Lz)(g:Nat)(w:World):Prop:=w0.heap.size≤g∧Blk w g q.T q.cs∧¬InI I g
def stepX (P:Program)(ops:Array Oper)(Q:Exit→Act→World→Prop)(R:List Lz→List (Nat×Nat)→Array Bool→Act→World→Prop)
 (Z:List Lz) (I:List (Nat×Nat)) (listed:Array Bool) (a:Act) (w:World) (i:Nat):Prop:=
 ∀w',Ext w w'→Kp L w0 w'→
  match Z.find? (fun q=>q.k == i) with
  | none=>wpOp P ops Q i (fun a2 w2=>WI L I w' w2∧Kp L w0 w2∧R Z ((w'.heap.size,w2.heap.size)::I) (listed.setIfInBounds i true) a2 w2) a w'
  | some q=>∀g,LzFact w0 I q g w'→wpOp P ops Q i (fun a2 w2=>WI L ((g,g+1)::I) w' w2∧Kp L w0 w2∧
   R (Z.filter (fun q=>q.k != i)) ((w'.heap.size,w2.heap.size)::(g,g+1)::I) (listed.setIfInBounds i true) a2 w2) (a.put (some q.d) (q.v g)) w'
def wpX (P:Program)(ops:Array Oper)(Q:Exit→Act→World→Prop):Nat→List Lz→List (Nat×Nat)→Array Bool→Act→World→Prop
 | 0,Z,_,listed,a,w=>Region.ready .any ops listed=[]∧Z=[]∧∀w',Ext w w'→Kp L w0 w'→Q .normal a w'
 | n+1,Z,I,listed,a,w=>
  (Region.ready .any ops listed=[]→Z=[]∧∀w',Ext w w'→Kp L w0 w'→Q .normal a w')∧
  ∀i∈Region.ready .any ops listed,stepX L w0 P ops Q (wpX P ops Q n) Z I listed a w i
variable {L w0}
theorem wpX_ext:∀(n:Nat) {Z:List Lz} {I:List (Nat×Nat)} {listed:Array Bool} {a:Act} {w w':World},wpX L w0 P ops Q n Z I listed a w→Ext w w'→wpX L w0 P ops Q n Z I listed a w'
 | 0,_,_,_,_,_,_,h,k=>⟨h.1,h.2.1,fun w2 h2=>h.2.2 w2 (k.trans h2)⟩
 | _+1,_,_,_,_,_,_,h,k=>⟨fun hr=>⟨(h.1 hr).1,fun w2 h2=>(h.1 hr).2 w2 (k.trans h2)⟩,fun i hi w2 h2=>h.2 i hi w2 (k.trans h2)⟩
theorem InI_mono {I J:List (Nat×Nat)}(h:∀p∈I,p∈J){b:Nat}(hb:InI I b):InI J b:=let⟨p,hp,r⟩:=hb;⟨p,h p hp,r⟩
theorem WI_mono {I J:List (Nat×Nat)}(h:∀p∈I,p∈J){w w':World}(hw:WI L I w w'):WI L J w w':=KpP.mono hw (fun _ hk=>hk.imp id (InI_mono h))
theorem LzFact_mono {I J:List (Nat×Nat)}(h:∀p∈I,p∈J){q:Lz}{g:Nat}{w:World}(hw:LzFact w0 J q g w):LzFact w0 I q g w:=⟨hw.1,hw.2.1,fun hi=>hw.2.2 (InI_mono h hi)⟩
theorem wpX_mono:∀(n:Nat) {Z:List Lz} {I J:List (Nat×Nat)} {listed:Array Bool} {a:Act} {w:World},(∀p∈I,p∈J)→wpX L w0 P ops Q n Z I listed a w→wpX L w0 P ops Q n Z J listed a w
 | 0,_,_,_,_,_,_,_,h=>h
 | n+1,Z,I,J,listed,a,w,hIJ,h=>by
  refine⟨h.1,fun i hi w' h1 h2=>?_⟩;have h3:=h.2 i hi w' h1 h2;have c2:∀(x:Nat×Nat),∀p∈x::I,p∈x::J:=fun x p hp=>by
   rcases List.mem_cons.1 hp with rfl|hp
   ·simp
   ·exact List.mem_cons_of_mem _ (hIJ p hp)
  unfold stepX at *;generalize hf:Z.find? (fun q=>q.k == i)=f at h3 ⊢
  cases f with
  | none=>
   exact wpOp_mono (fun a2 w2 h4=>⟨WI_mono hIJ h4.1,h4.2.1,wpX_mono n (c2 _) h4.2.2⟩) h3
  | some q=>
   intro g hg;refine wpOp_mono (fun a2 w2 h4=>⟨WI_mono (c2 _) h4.1,h4.2.1,wpX_mono n ?_ h4.2.2⟩) (h3 g (LzFact_mono hIJ hg));intro p hp;rcases List.mem_cons.1 hp with rfl|hp
   ·simp
   ·exact List.mem_cons_of_mem _ (c2 _ p hp)
theorem wpAny_of_X:∀(n:Nat) {I:List (Nat×Nat)} {listed:Array Bool} {a:Act} {w:World},Kp L w0 w→wpX L w0 P ops Q n [] I listed a w→wpAny P .any ops Q n listed a w
 | 0,_,_,_,w,hk,h=>⟨h.1,h.2.2 w (Ext.rfl' w) hk⟩
 | n+1,_,_,_,w,hk,h=>⟨fun hr=>(h.1 hr).2 w (Ext.rfl' w) hk,fun i hi=>
  wpOp_mono (fun _ _ h4=>wpAny_of_X n h4.2.1 h4.2.2) (h.2 i hi w (Ext.rfl' w) hk)⟩
theorem wpOp_far {i d:Nat}{o:Oper}{v:Value}(ho:ops[i]? = some o)(hs:∀cs b,o.op≠.select cs b)(hl:d∉o.looksAt ops)(hd:o.dst≠some d)
 (hQ:∀c a w,¬Q (.panic c) a w) {K K':Act→World→Prop} {a:Act} {w:World} (hK:∀a2 w2,K a2 w2→K' (a2.put (some d) v) w2)
 (h:wpOp P ops Q i K a w):wpOp P ops Q i K' (a.put (some d) v) w:=by
 have hl':∀x,some d=some x→x∉o.looksAt ops:=fun x hx=>by injection hx with hx;subst hx;exact hl
 have hc:∀u,(a.put (some d) v).put o.dst u=(a.put o.dst u).put (some d) v:=fun u=>Act.put_comm a v u (fun x hx=>by injection hx with hx;subst hx;exact hd);unfold wpOp at *;simp only[ho] at *;rw[wanted_put o a (some d) v hl']
 split
 ·rename_i hw
  simp only[hw,if_true] at h;rcases h with h|⟨hasks,hlets⟩
  case inr=>exact .inr ⟨by unfold Oper.asks at *;rw[execOp_put o hs a (some d) v hl'];exact hasks,hlets⟩
  refine .inl ?_;unfold Oper.wp at *;rw[execOp_put o hs a (some d) v hl'];generalize (execOp a.eval o).run P w=r at *
  cases r with
  | ok n w'=>
   cases n<;>simp only[Oper.upon] at h ⊢
   case value u=>rw[hc];exact hK _ _ h
   case skip=>rw[hc];exact hK _ _ h
   case defer e=>
    have:=hK _ _ h
    rw[←Act.put_comm _ v undef (fun x hx=>by injection hx with hx;subst hx;exact hd),←Act.put_defers] at this;exact this
   case enter f args=>
    refine Calls.mono h fun e w'' he=>?_
    cases e with
    | returned u=>show K' _ _;rw[hc];exact hK _ _ he
    | panicked c=>exact absurd he (hQ _ _ _)
    | outgrown=>exact he
   case row row args=>exact Rows.mono h fun u w'' he=>by rw[hc];exact hK _ _ he
  | halt x w'=>
   cases x<;>simp only[Oper.upon] at h ⊢
   case panic u=>exact absurd h (hQ _ _ _)
 ·rename_i hw
  simp only[hw] at h;rw[hc];exact hK _ _ h
theorem wpOp_shape {i:Nat}{o:Oper}(ho:ops[i]? = some o){K:Act→World→Prop}{a:Act}{w:World}(h:wpOp P ops Q i K a w) :
 wpOp P ops Q i (fun a2 w2=>K a2 w2∧∃u,a2.tmps=(a.put o.dst u).tmps) a w:=by
 unfold wpOp at *;simp only[ho] at *
 split
 ·rename_i hw
  simp only[hw,if_true] at h;rcases h with h|h
  case inr=>exact .inr h
  refine .inl ?_;unfold Oper.wp at *;generalize (execOp a.eval o).run P w=r at *
  cases r with
  | ok n w'=>
   cases n<;>simp only[Oper.upon] at h ⊢
   case value u=>exact⟨h,u,rfl⟩
   case skip=>exact⟨h,_,rfl⟩
   case defer e=>exact⟨h,undef,by rw[←Act.put_defers]⟩
   case enter f args=>
    refine Calls.mono h fun e w'' he=>?_
    cases e with
    | returned u=>exact⟨he,u,rfl⟩
    | panicked c=>exact he
    | outgrown=>exact he
   case row row args=>exact Rows.mono h fun u w'' he=>⟨he,u,rfl⟩
  | halt x w'=>cases x<;>simp only[Oper.upon] at h ⊢<;>exact h
 ·rename_i hw
  simp only[hw] at h;exact⟨h,undef,rfl⟩
theorem find_head {Z:List Lz}{q:Lz}:(q::Z).find? (fun x=>x.k == q.k)=some q:=by simp
theorem find_tail {Z:List Lz}{q:Lz}{i:Nat}(h:q.k≠i):(q::Z).find? (fun x=>x.k == i)=Z.find? (fun x=>x.k == i):=by
 have e:(q.k == i)=false:=by simp[h]
 rw[List.find?_cons,e]
theorem find_no {Z:List Lz}{i:Nat}(h:∀q∈Z,q.k≠i):Z.find? (fun x=>x.k == i)=none:=by
 rw[List.find?_eq_none];intro x hx;simpa using h x hx
theorem filter_head {Z:List Lz}{q:Lz}(h:∀x∈Z,x.k≠q.k):(q::Z).filter (fun x=>x.k != q.k)=Z:=by
 have h1:Z.filter (fun x=>x.k != q.k)=Z:=by rw[List.filter_eq_self];intro x hx;simpa using h x hx
 rw[List.filter_cons];simp[h1]
theorem filter_tail {Z:List Lz}{q:Lz}{i:Nat}(h:q.k≠i):(q::Z).filter (fun x=>x.k != i)=q::Z.filter (fun x=>x.k != i):=by
 rw[List.filter_cons];simp[h]
theorem unlisted_set {listed:Array Bool}{i j:Nat}(h:(listed.setIfInBounds i true).getD j true=false):j≠i∧listed.getD j true=false:=by
 by_cases hij:i=j
 ·subst hij
  exfalso
  rcases Nat.lt_or_ge i listed.size with h'|h'
  ·simp[h'] at h
  ·have h2:(listed.setIfInBounds i true).size≤i:=by simpa using h'
   simp[Array.getElem?_eq_none h2] at h
 ·rw[getD_set_ne true hij] at h;exact⟨fun e=>hij e.symm,h⟩
theorem swap2 {α:Type}{x y p:α}{I:List α}(h:p∈x::y::I):p∈y::x::I:=by
 simp only[List.mem_cons] at h ⊢;rcases h with h|h|h
 ·exact Or.inr (Or.inl h)
 ·exact Or.inl h
 ·exact Or.inr (Or.inr h)
theorem rot3 {α:Type}{x y z p:α}{I:List α}(h:p∈x::y::z::I):p∈y::z::x::I:=by
 simp only[List.mem_cons] at h ⊢;rcases h with h|h|h|h
 ·exact Or.inr (Or.inr (Or.inl h))
 ·exact Or.inl h
 ·exact Or.inr (Or.inl h)
 ·exact Or.inr (Or.inr (Or.inr h))
theorem lz_done {q:Lz}(hL:∀b∈L,b<w0.heap.size)(hsel:∀(j:Nat) (o:Oper) cs b,ops[j]? = some o→o.op≠.select cs b)(hQ:∀c a w,¬Q (.panic c) a w) :
 ∀(n:Nat) {Z:List Lz} {I:List (Nat×Nat)} {listed:Array Bool} {a:Act} {w:World} {g:Nat},(∀x∈Z,x.k≠q.k∧x.d≠q.d)→
  (∀j oj,ops[j]? = some oj→j≠q.k→listed.getD j true=false→q.d∉oj.looksAt ops∧oj.dst≠some q.d)→
  LzFact w0 I q g w→wpX L w0 P ops Q n (q::Z) I listed a w→wpX L w0 P ops Q n Z ((g,g+1)::I) listed (a.put (some q.d) (q.v g)) w
 | 0,_,_,_,_,_,_,_,_,_,h=>(by have:=h.2.1;cases this)
 | n+1,Z,I,listed,a,w,g,hk,hfar,hg,h=>by
  refine⟨fun hr=>(by have:=(h.1 hr).1;cases this),fun i hi w' h1 h2=>?_⟩;have h3:=h.2 i hi w' h1 h2;obtain⟨hun,oi,hoi,hall⟩:=mem_ready.1 hi;have hgB:Blk w' g q.T q.cs:=hg.2.1.ext h1;have hglt:=hgB.lt;have hgL:∀J,¬InI J g→¬(g∈L∨InI J g):=fun J hJ hor=>hor.elim (fun hm=>by have:=hL g hm;have:=hg.1;omega) hJ;have hfar':∀j oj,ops[j]? = some oj→j≠q.k→(listed.setIfInBounds i true).getD j true=false→q.d∉oj.looksAt ops∧oj.dst≠some q.d:=
   fun j oj hj hjk hl=>hfar j oj hj hjk (unlisted_set hl).2
  by_cases hik:q.k=i
  ·subst hik
   (try unfold stepX at h3)
   rw[find_head] at h3;rw[find_no (fun x hx=>(hk x hx).1)];have h4:=h3 g ⟨hg.1,hgB,hg.2.2⟩;rw[filter_head (fun x hx=>(hk x hx).1)] at h4;exact h4
  ·have hf:=hfar i oi hoi (fun e=>hik e.symm) hun
   (try unfold stepX at h3)
   rw[find_tail hik] at h3;generalize hf2:Z.find? (fun x=>x.k == i)=f at h3 ⊢
   cases f with
   | none=>
    refine wpOp_far hoi (fun cs b=>hsel i oi cs b hoi) hf.1 hf.2 hQ (fun a2 w2 h4=>?_) h3;refine⟨WI_mono (fun p hp=>List.mem_cons_of_mem _ hp) h4.1,h4.2.1,wpX_mono n ?_ (lz_done hL hsel hQ n hk hfar' ⟨hg.1,?_,?_⟩ h4.2.2)⟩
    ·exact fun p hp=>swap2 hp
    ·exact KpP.blk h4.1 hgB (hgL I hg.2.2)
    ·rintro⟨p,hp,hp1,hp2⟩;rcases List.mem_cons.1 hp with rfl|hp
     ·simp only at hp1;omega
     ·exact hg.2.2 ⟨p,hp,hp1,hp2⟩
   | some q'=>
    intro g' hg';have hm:=List.mem_of_find?_eq_some hf2;have h4:=h3 g' (LzFact_mono (fun p hp=>List.mem_cons_of_mem _ hp) hg');rw[filter_tail hik] at h4;have hne:g'≠g:=fun e=>hg'.2.2 ⟨(g,g+1),by simp,by simp;omega⟩;rw[Act.put_comm a (x:=some q.d) (y:=some q'.d) _ _ (fun x hx=>by injection hx with hx;subst hx;intro e;injection e with e;exact(hk q' hm).2 e)];refine wpOp_far hoi (fun cs b=>hsel i oi cs b hoi) hf.1 hf.2 hQ (fun a2 w2 h5=>?_) h4;have hgI:¬InI ((g',g'+1)::I) g:=by
     rintro⟨p,hp,hp1,hp2⟩;rcases List.mem_cons.1 hp with rfl|hp
     ·simp only at hp1 hp2;omega
     ·exact hg.2.2 ⟨p,hp,hp1,hp2⟩
    have hg2lt:=hg'.2.1.lt;refine⟨WI_mono ?_ h5.1,h5.2.1,wpX_mono n ?_ (lz_done hL hsel hQ n (fun x hx=>hk x (List.mem_filter.1 hx).1) hfar' ⟨hg.1,?_,?_⟩ h5.2.2)⟩
    ·intro p hp;rcases List.mem_cons.1 hp with rfl|hp
     ·simp
     ·exact List.mem_cons_of_mem _ (List.mem_cons_of_mem _ hp)
    ·exact fun p hp=>rot3 hp
    ·exact KpP.blk h5.1 hgB (hgL _ hgI)
    ·rintro⟨p,hp,hp1,hp2⟩;rcases List.mem_cons.1 hp with rfl|hp
     ·simp only at hp1;omega
     ·exact hgI ⟨p,hp,hp1,hp2⟩
theorem eval_of_tmps {a b:Act}(h:a.tmps=b.tmps):a.eval=b.eval:=by
 funext x;cases x<;>simp[Act.eval,h]
theorem declare {q:Lz}{oz:Oper}(hL:∀b∈L,b<w0.heap.size)(hsel:∀(j:Nat) (o:Oper) cs b,ops[j]? = some o→o.op≠.select cs b)(hQ:∀c a w,¬Q (.panic c) a w)
 (hz:ops[q.z]? = some oz) (hzg:oz.guard=none) (hzd:oz.dst=some q.d) (hkw:∀o,ops[q.k]? = some o→∃e∈o.after,Region.binds .any e=true∧e.on=q.z) :
 ∀(n:Nat) {Z:List Lz} {I:List (Nat×Nat)} {listed:Array Bool} {a:Act} {w:World},
  (∀w',(execOp a.eval oz).run P w'=.ok (.value (q.v w'.heap.size)) (w'.alloc (.cells q.cs q.T)))→
  q.z∈Region.ready .any ops listed→
  (∀j oj,ops[j]? = some oj→j≠q.z→listed.getD j true=false→(∀e∈oj.after,Region.binds .any e=true→e.on≠q.z)→oz.apart ops oj=true)→
  (∀j oj,ops[j]? = some oj→j≠q.k→j≠q.z→listed.getD j true=false→q.d∉oj.looksAt ops∧oj.dst≠some q.d)→
  (∀x∈Z,x.k≠q.k∧x.d≠q.d∧x.k≠q.z∧x.d∉oz.looksAt ops)→(∀p∈I,p.2≤w.heap.size)→
  wpX L w0 P ops Q n (q::Z) I (listed.setIfInBounds q.z true) a w→wpX L w0 P ops Q (n+1) Z I listed a w
 | 0,_,_,_,_,_,_,_,_,_,_,_,h=>(by have:=h.2.1;cases this)
 | n+1,Z,I,listed,a,w,hrun,hrd,hfree,hfar,hk,hI,h=>by
  refine⟨fun hr=>(by rw[hr] at hrd;cases hrd),fun i hi w' h1 h2=>?_⟩;obtain⟨hzun,_,_,_⟩:=mem_ready.1 hrd;by_cases hiz:i=q.z
  ·subst hiz
   (try unfold stepX)
   rw[find_no (fun x hx=>(hk x hx).2.2.1)]
   simp only
   unfold wpOp;rw[hz];simp only[Region.wanted,hzg,if_true];refine .inl ?_;unfold Oper.wp;rw[hrun w'];simp only[Oper.upon];have hE:Ext w' (w'.alloc (.cells q.cs q.T)):=Ext.alloc _ _;refine⟨KpP.of_ext hE,h2.ext hE,?_⟩;rw[hzd,World.size_alloc];refine lz_done hL hsel hQ (n+1) (fun x hx=>⟨(hk x hx).1,(hk x hx).2.1⟩) (fun j oj hj hjk hl=>?_) ⟨h2.size,Blk.new _ _ _,?_⟩ (wpX_ext _ h (h1.trans hE))
   ·have hl':=unlisted_set hl;exact hfar j oj hj hjk hl'.1 hl'.2
   ·rintro⟨p,hp,hp1,hp2⟩;have:=hI p hp;have:=h1.size;omega
  ·obtain⟨hun,oi,hoi,hall⟩:=mem_ready.1 hi;have hnw:∀e∈oi.after,Region.binds .any e=true→e.on≠q.z:=fun e he hb heq=>by
    have h3:=hall e he hb;rw[heq] at h3;rcases Nat.lt_or_ge q.z listed.size with h'|h'
    ·simp[h'] at h3 hzun;rw[h3] at hzun;cases hzun
    ·simp[Array.getElem?_eq_none h'] at h3
   have hik:q.k≠i:=fun e=>by
    obtain⟨ed,he,hb,hon⟩:=hkw oi (e▸hoi);exact hnw ed he hb hon
   have hap:=Oper.apart_spec (hfree i oi hoi hiz hun hnw);have h3:=h.2 i (ready_mono hi hiz) w' h1 h2;have hfree':∀j oj,ops[j]? = some oj→j≠q.z→(listed.setIfInBounds i true).getD j true=false→(∀e∈oj.after,Region.binds .any e=true→e.on≠q.z)→oz.apart ops oj=true:=
    fun j oj hj hjz hl hno=>hfree j oj hj hjz (unlisted_set hl).2 hno
   have hfar':∀j oj,ops[j]? = some oj→j≠q.k→j≠q.z→(listed.setIfInBounds i true).getD j true=false→q.d∉oj.looksAt ops∧oj.dst≠some q.d:=
    fun j oj hj hjk hjz hl=>hfar j oj hj hjk hjz (unlisted_set hl).2
   have hrd':=ready_mono hrd (Ne.symm hiz)
   (try unfold stepX at h3)
   (try unfold stepX)
   rw[find_tail hik] at h3;generalize hf2:Z.find? (fun x=>x.k == i)=f at h3 ⊢
   cases f with
   | none=>
    refine wpOp_mono (fun a2 w2 h4=>?_) (wpOp_shape hoi h3);obtain⟨⟨h5,h6,h7⟩,u,hu⟩:=h4;refine⟨h5,h6,declare hL hsel hQ hz hzg hzd hkw n ?_ hrd' hfree' hfar' hk ?_ ?_⟩
    ·intro w3;rw[eval_of_tmps hu,execOp_put oz (fun cs b=>hsel q.z oz cs b hz) a oi.dst u hap.2.2];exact hrun w3
    ·intro p hp;rcases List.mem_cons.1 hp with rfl|hp
     ·exact Nat.le_refl _
     ·have:=hI p hp;have:=h1.size;have:=h5.size;omega
    ·rw[Array.setIfInBounds_comm _ _ hiz];exact h7
   | some q'=>
    intro g' hg';have hm:=List.mem_of_find?_eq_some hf2;have h4:=h3 g' hg';rw[filter_tail hik] at h4;refine wpOp_mono (fun a2 w2 h4=>?_) (wpOp_shape hoi h4);obtain⟨⟨h5,h6,h7⟩,u,hu⟩:=h4;refine⟨h5,h6,declare hL hsel hQ hz hzg hzd hkw n ?_ hrd' hfree' hfar' (fun x hx=>hk x (List.mem_filter.1 hx).1) ?_ ?_⟩
    ·intro w3;rw[eval_of_tmps hu,execOp_put oz (fun cs b=>hsel q.z oz cs b hz) _ oi.dst u hap.2.2,
      execOp_put oz (fun cs b=>hsel q.z oz cs b hz) a (some q'.d) _ (fun x hx=>by injection hx with hx;subst hx;exact(hk q' hm).2.2.2)]
     exact hrun w3
    ·intro p hp;have hlt:=hg'.2.1.lt;rcases List.mem_cons.1 hp with rfl|hp
     ·exact Nat.le_refl _
     ·rcases List.mem_cons.1 hp with rfl|hp
      ·have:=h5.size;simp only;omega
      ·have:=hI p hp;have:=h1.size;have:=h5.size;omega
    ·rw[Array.setIfInBounds_comm _ _ hiz];exact h7
theorem takeX {i:Nat}{oi:Oper}{v:Value}(hi:ops[i]? = some oi)(hsel:∀(j:Nat) (o:Oper) cs b,ops[j]? = some o→o.op≠.select cs b)(hQ:∀c a w,¬Q (.panic c) a w) :
 ∀(n:Nat) {Z:List Lz} {I:List (Nat×Nat)} {listed:Array Bool} {a:Act} {w:World},
  (∀j oj,ops[j]? = some oj→j≠i→listed.getD j true=false→(∀e∈oj.after,Region.binds .any e=true→e.on≠i)→oi.apart ops oj=true)→
  i∈Region.ready .any ops listed→YieldsIf P ops (Kp L w0) oi v a→(∀x∈Z,x.k≠i∧x.d∉oi.looksAt ops∧oi.dst≠some x.d)→
  wpX L w0 P ops Q n Z I (listed.setIfInBounds i true) (a.put oi.dst v) w→wpX L w0 P ops Q (n+1) Z I listed a w:=by
 intro n;induction n with
 | zero=>
  intro Z I listed a w _ hr hy hZ h;refine⟨fun h0=>(by rw[h0] at hr;cases hr),fun j hj w' h1 h2=>?_⟩;by_cases hji:j=i
  ·subst hji
   (try unfold stepX)
   rw[find_no (fun x hx=>(hZ x hx).1)];exact hy.wpOp hi h2 ⟨KpP.refl _ _,h2,wpX_mono 0 (fun p hp=>List.mem_cons_of_mem _ hp) (wpX_ext 0 h h1)⟩
  ·have:=ready_mono hj hji;rw[h.1] at this;cases this
 | succ n ih=>
  intro Z I listed a w hfree hr hy hZ h;refine⟨fun h0=>(by rw[h0] at hr;cases hr),fun j hj w' h1 h2=>?_⟩;by_cases hji:j=i
  ·subst hji
   (try unfold stepX)
   rw[find_no (fun x hx=>(hZ x hx).1)];exact hy.wpOp hi h2 ⟨KpP.refl _ _,h2,wpX_mono (n+1) (fun p hp=>List.mem_cons_of_mem _ hp) (wpX_ext (n+1) h h1)⟩
  ·obtain⟨hjun,oj,hoj,hall⟩:=mem_ready.1 hj;have hnot:∀e∈oj.after,Region.binds .any e=true→e.on≠i:=fun e he hb heq=>by
    have h1:=hall e he hb;have h0:=(mem_ready.1 hr).1;rw[heq] at h1;rcases Nat.lt_or_ge i listed.size with h'|h'
    ·simp[h'] at h0 h1;rw[h0] at h1;cases h1
    ·simp[Array.getElem?_eq_none h'] at h1
   have hap:=hfree j oj hoj hji hjun hnot;have h3:=h.2 j (ready_mono hj hji) w' h1 h2;have hQ':∀c a w,Q (.panic c) (a.put oi.dst v) w→Q (.panic c) a w:=fun c a w h=>absurd h (hQ _ _ _);have hfree':∀k ok,ops[k]? = some ok→k≠i→(listed.setIfInBounds j true).getD k true=false→
    (∀e∈ok.after,Region.binds .any e=true→e.on≠i)→oi.apart ops ok=true:=fun k ok hk hki hun hno=>hfree k ok hk hki (unlisted_set hun).2 hno
   (try unfold stepX at h3)
   (try unfold stepX)
   generalize hf2:Z.find? (fun x=>x.k == j)=f at h3 ⊢
   cases f with
   | none=>
    refine wpOp_mono (fun a2 w2 h4=>?_) (wpOp_putIf hoj hap (fun cs b=>hsel i oi cs b hi) (fun cs b=>hsel j oj cs b hoj) hQ' hy h3);obtain⟨h5,h6,h7,h8⟩:=h4;refine⟨h6,h7,ih hfree' (ready_mono hr (Ne.symm hji)) h5 hZ ?_⟩;rw[Array.setIfInBounds_comm _ _ hji];exact h8
   | some q'=>
    intro g' hg';have hm:=List.mem_of_find?_eq_some hf2;have hz:=hZ q' hm;have hz':∀x,some q'.d=some x→x∉oi.looksAt ops:=fun x hx=>by injection hx with hx;subst hx;exact hz.2.1
    have h4:=h3 g' hg';have hcomm:(a.put oi.dst v).put (some q'.d) (q'.v g')=(a.put (some q'.d) (q'.v g')).put oi.dst v:=Act.put_comm a v _ (fun d hd e=>hz.2.2 (by rw[hd,e]));rw[hcomm] at h4;have hy':YieldsIf P ops (Kp L w0) oi v (a.put (some q'.d) (q'.v g')):=hy.of_same (execOp_put oi (fun cs b=>hsel i oi cs b hi) a (some q'.d) _ hz') (wanted_put oi a (some q'.d) _ hz');refine wpOp_mono (fun a2 w2 h4=>?_) (wpOp_putIf hoj hap (fun cs b=>hsel i oi cs b hi) (fun cs b=>hsel j oj cs b hoj) hQ' hy' h4);obtain⟨h5,h6,h7,h8⟩:=h4;refine⟨h6,h7,ih hfree' (ready_mono hr (Ne.symm hji)) h5 (fun x hx=>hZ x (List.mem_filter.1 hx).1) ?_⟩;rw[Array.setIfInBounds_comm _ _ hji];exact h8
end
theorem WI_setL {L:List Nat}{I:List (Nat×Nat)}{g:Nat}{a w:World}(h:WI L I a w)(hg:g∈L)(o:Nat)(u:Value):WI L I a (w.setCell ⟨g,o,none⟩ u):=
 KpP.set h (Or.inl (Or.inl hg)) u
theorem WI_refl (L:List Nat)(I:List (Nat×Nat))(w:World):WI L I w w:=KpP.refl _ _
theorem WI_ext {L:List Nat}{I:List (Nat×Nat)}{a w:World}(h:Ext a w):WI L I a w:=KpP.of_ext h
theorem Kp.setL {L:List Nat}{g:Nat}{a w:World}(h:Kp L a w)(hg:g∈L)(o:Nat)(u:Value):Kp L a (w.setCell ⟨g,o,none⟩ u):=h.set (Or.inl hg) u
def bits (n:Nat)(ls:List Nat):Array Bool:=((List.range n).map fun j=>ls.contains j).toArray
theorem bits_set (n i:Nat)(ls:List Nat):(bits n ls).setIfInBounds i true=bits n (i::ls):=by
 apply Array.ext
 ·simp[bits]
 ·intro j h1 h2;simp only[bits,List.setIfInBounds_toArray,List.getElem_toArray,List.getElem_set,List.getElem_map,List.getElem_range,List.contains_cons];by_cases h:i=j
  ·subst h;simp
  ·have:(j == i)=false:=by simp;exact fun e=>h e.symm
   simp[h,this]
theorem bits_nil (n:Nat):bits n []=Array.replicate n false:=by
 apply Array.ext
 ·simp[bits]
 ·intro j h1 h2;simp[bits]
section
variable {P:Program} {ops:Array Oper} {Q:Exit→Act→World→Prop} {L:List Nat} {w0:World}
def Xr (L:List Nat)(w0:World)(P:Program)(ops:Array Oper)(Q:Exit→Act→World→Prop)(n:Nat)(KD:List (Nat×Nat))(Z:List Lz)(I:List (Nat×Nat))(ls:List Nat)(a:Act)(w:World):Prop:=
 Z.map (fun q=>(q.k,q.d))=KD→wpX L w0 P ops (NoPanic Q) n Z I (bits ops.size ls) a w
theorem Xr.start {id:Nat}{a:Act}{w:World}(L:List Nat)(hm:P.follows .mixedOrders=true)(h:Xr L w P ops Q ops.size [] [] [] [] a w):(Code.region id ops true).wp P Q a w:=by
 refine wp_region_noPanic (wp_region_any hm ?_);have h:=h rfl;rw[bits_nil] at h;exact wpAny_of_X _ (Kp.drew w) (wpX_ext _ h (Ext.drew w))
def okTake (ops:Array Oper)(ls:List Nat)(Z:List (Nat×Nat))(i:Nat):Bool:=
 Region.noSelect ops&&Region.free .any ops (bits ops.size ls) i&&(Region.ready .any ops (bits ops.size ls)).contains i &&
  match ops[i]? with
  | some oi=>Z.all fun x=>x.1 != i&&!(oi.looksAt ops).contains x.2&&oi.dst != some x.2
  | none=>false
theorem NoPanic.never (Q:Exit→Act→World→Prop):∀c a w,¬NoPanic Q (.panic c) a w:=fun _ _ _ h=>h
variable {n:Nat} {KD:List (Nat×Nat)} {Z:List Lz} {I:List (Nat×Nat)} {ls:List Nat} {a:Act} {w:World}
theorem Xr.takeY (i:Nat)(d:Option Tmp){oi:Oper}{v:Value}(hi:ops[i]? = some oi)(hd:oi.dst=d)
 (hok:okTake ops ls KD i=true) (hy:YieldsIf P ops (Kp L w0) oi v a) (h:Xr L w0 P ops Q n KD Z I (i::ls) (a.put d v) w):Xr L w0 P ops Q (n+1) KD Z I ls a w:=by
 subst hd;intro hKD;have h':wpX L w0 P ops (NoPanic Q) n Z I (bits ops.size (i::ls)) (a.put oi.dst v) w:=h hKD;clear h;subst hKD;simp only[okTake,hi,Bool.and_eq_true] at hok;obtain⟨⟨⟨h1,h2⟩,h3⟩,h4⟩:=hok;refine takeX hi (Region.noSelect_spec h1) (NoPanic.never Q) n (Region.free_spec hi h2) (by simpa using h3) hy ?_ ?_
 ·intro x hx;have h5:=List.all_eq_true.1 h4 (x.k,x.d) (List.mem_map.2 ⟨x,hx,rfl⟩);simp only[Bool.and_eq_true,bne_iff_ne,ne_eq,Bool.not_eq_true'] at h5;refine⟨h5.1.1,?_,h5.2⟩;have h6:=h5.1.2;intro hm;rw[List.contains_iff_mem.2 hm] at h6;cases h6
 ·rw[bits_set];exact h'
theorem Xr.take (i:Nat)(d:Option Tmp){oi:Oper}{v:Value}(hi:ops[i]? = some oi)(hd:oi.dst=d)
 (hok:okTake ops ls KD i=true) (hw:Region.wanted oi (yielded ops a.tmps)=true)
 (hrun:∀w',Kp L w0 w'→(execOp a.eval oi).run P w'=.ok (.value v) w') (h:Xr L w0 P ops Q n KD Z I (i::ls) (a.put d v) w):Xr L w0 P ops Q (n+1) KD Z I ls a w:=
 Xr.takeY i d hi hd hok (.inl ⟨hw,hrun⟩) h
theorem Xr.skip (i:Nat)(d:Option Tmp){oi:Oper}(hi:ops[i]? = some oi)(hd:oi.dst=d)
 (hok:okTake ops ls KD i=true) (hw:Region.wanted oi (yielded ops a.tmps)=false)
 (h:Xr L w0 P ops Q n KD Z I (i::ls) (a.put d undef) w):Xr L w0 P ops Q (n+1) KD Z I ls a w:=
 Xr.takeY i d hi hd hok (.inr ⟨hw,rfl⟩) h
def okLazy (ops:Array Oper)(ls:List Nat)(Z:List (Nat×Nat))(z d k:Nat):Bool:=
 Region.noSelect ops&&Region.free .any ops (bits ops.size ls) z&&(Region.ready .any ops (bits ops.size ls)).contains z &&
 (match ops[z]? with
  | some oz=>oz.guard.isNone&&oz.dst == some d&&Z.all fun x=>x.1 != k&&x.2 != d&&x.1 != z&&!(oz.looksAt ops).contains x.2
  | none=>false) &&
 (match ops[k]? with
  | some ok=>ok.after.any fun e=>Region.binds .any e&&e.on == z
  | none=>false) &&
 (List.range ops.size).all fun j=>j == k || j == z || ls.contains j || match ops[j]? with
  | some oj=>!(oj.looksAt ops).contains d&&oj.dst != some d
  | none=>true
theorem bits_getD {n j:Nat}{ls:List Nat}(h:(bits n ls).getD j true=false):ls.contains j=false:=by
 unfold bits at h;rcases Nat.lt_or_ge j n with hj|hj
 ·simpa[hj] using h
 ·simp[hj] at h
theorem Xr.lazy (z d k:Nat)(v:Nat→Value)(T:Nat)(cs:Array Value){oz:Oper}(hz:ops[z]? = some oz)(hL:∀b∈L,b<w0.heap.size)
 (hok:okLazy ops ls KD z d k=true) (hI:∀p∈I,p.2≤w.heap.size)
 (hrun:∀w',(execOp a.eval oz).run P w'=.ok (.value (v w'.heap.size)) (w'.alloc (.cells cs T)))
 (h:Xr L w0 P ops Q n ((k,d)::KD) (⟨z,d,k,v,T,cs⟩::Z) I (z::ls) a w):Xr L w0 P ops Q (n+1) KD Z I ls a w:=by
 intro hKD;have h':wpX L w0 P ops (NoPanic Q) n (⟨z,d,k,v,T,cs⟩::Z) I (bits ops.size (z::ls)) a w:=h (by simp[hKD]);clear h;subst hKD;simp only[okLazy,hz,Bool.and_eq_true] at hok;obtain⟨⟨⟨⟨⟨h1,h2⟩,h3⟩,⟨h4,h4d⟩,h4z⟩,h5⟩,h6⟩:=hok;refine declare (q:=⟨z,d,k,v,T,cs⟩) hL (Region.noSelect_spec h1) (NoPanic.never Q) hz (by simpa using h4) (by simpa using h4d) ?_ n hrun (by simpa using h3) (Region.free_spec hz h2) ?_ ?_ hI ?_
 ·intro o ho
  simp only at ho
  rw[ho] at h5;obtain⟨e,he,hb⟩:=Array.any_eq_true'.1 h5;simp only[Bool.and_eq_true,beq_iff_eq] at hb;exact⟨e,he,hb⟩
 ·intro j oj hj hjk hjz hl;have h7:=List.all_eq_true.1 h6 j (List.mem_range.2 (Array.getElem?_eq_some_iff.1 hj).1);have h8:=bits_getD hl
  simp only at hjk hjz
  simp only[hj,Bool.or_eq_true,beq_iff_eq,hjk,hjz,h8,Bool.false_eq_true,false_or,Bool.and_eq_true,bne_iff_ne,ne_eq,Bool.not_eq_true'] at h7;refine⟨fun hm=>?_,h7.2⟩;have:=h7.1;rw[List.contains_iff_mem.2 hm] at this;cases this
 ·intro x hx;have h7:=List.all_eq_true.1 h4z (x.k,x.d) (List.mem_map.2 ⟨x,hx,rfl⟩);simp only[Bool.and_eq_true,bne_iff_ne,ne_eq,Bool.not_eq_true'] at h7;refine⟨h7.1.1.1,h7.1.1.2,h7.1.2,fun hm=>?_⟩;have:=h7.2;rw[List.contains_iff_mem.2 hm] at this;cases this
 ·rw[bits_set];exact h'
theorem step_of {i:Nat}{o:Oper}{K:Act→World→Prop}{a:Act}{w:World}(ho:ops[i]? = some o)(hw:Region.wanted o (yielded ops a.tmps)=true)
 (h:∀K',(∀a w,K a w→K' a w)→o.wp P a w K' (NoPanic Q)):wpOp P ops (NoPanic Q) i K a w:=by
 unfold wpOp;simp only[ho,hw,if_true];exact .inl (h K fun _ _ h=>h)
theorem kd_find {Z:List Lz}{i:Nat}(h:((Z.map fun q=>(q.k,q.d)).all fun x=>x.1 != i)=true):∀q∈Z,q.k≠i:=fun q hq e=>by
 have:=List.all_eq_true.1 h (q.k,q.d) (List.mem_map.2 ⟨q,hq,rfl⟩);simp[e] at this
theorem Xr.step (i:Nat){o:Oper}(ho:ops[i]? = some o)
 (hr:(Region.ready .any ops (bits ops.size ls) == [i]&&KD.all fun x=>x.1 != i)=true) (hw:Region.wanted o (yielded ops a.tmps)=true)
 (h:∀w',Ext w w'→Kp L w0 w'→∀K,(∀a2 w2,WI L I w' w2→Kp L w0 w2→Xr L w0 P ops Q n KD Z ((w'.heap.size,w2.heap.size)::I) (i::ls) a2 w2→K a2 w2)→o.wp P a w' K (NoPanic Q)) :
 Xr L w0 P ops Q (n+1) KD Z I ls a w:=by
 intro hKD;simp only[Bool.and_eq_true,beq_iff_eq] at hr;obtain⟨hr,hZ⟩:=hr;refine⟨fun h0=>(by rw[hr] at h0;cases h0),fun j hj w' h1 h2=>?_⟩;rw[hr] at hj;obtain rfl:j=i:=by simpa using hj
 have hf:Z.find? (fun q=>q.k == j)=none:=find_no (kd_find (by rw[hKD];exact hZ))
 (try unfold stepX)
 rw[hf];refine step_of ho hw fun K' hK'=>h w' h1 h2 K' fun a2 w2 h3 h4 h5=>hK' a2 w2 ⟨h3,h4,?_⟩;rw[bits_set];exact h5 hKD
theorem Xr.call (i:Nat){o:Oper}(ho:ops[i]? = some o)
 (hr:(Region.ready .any ops (bits ops.size ls) == [i]&&KD.all fun x=>x.1 != i)=true) (hw:Region.wanted o (yielded ops a.tmps)=true)
 (h:∀w',Ext w w'→Kp L w0 w'→∀K,(∀a2 w2,Ext w' w2→Xr L w0 P ops Q n KD Z ((w'.heap.size,w2.heap.size)::I) (i::ls) a2 w2→K a2 w2)→o.wp P a w' K (NoPanic Q)) :
 Xr L w0 P ops Q (n+1) KD Z I ls a w:=by
 intro hKD;simp only[Bool.and_eq_true,beq_iff_eq] at hr;obtain⟨hr,hZ⟩:=hr;refine⟨fun h0=>(by rw[hr] at h0;cases h0),fun j hj w' h1 h2=>?_⟩;rw[hr] at hj;obtain rfl:j=i:=by simpa using hj
 have hf:Z.find? (fun q=>q.k == j)=none:=find_no (kd_find (by rw[hKD];exact hZ))
 (try unfold stepX)
 rw[hf];refine step_of ho hw fun K' hK'=>h w' h1 h2 K' fun a2 w2 h3 h5=>hK' a2 w2 ⟨KpP.of_ext h3,h2.ext h3,?_⟩;rw[bits_set];exact h5 hKD
theorem Xr.stepZ {z d k:Nat}{v:Nat→Value}{T:Nat}{cs:Array Value}{o:Oper}(ho:ops[k]? = some o)
 (hr:(Region.ready .any ops (bits ops.size ls) == [k]&&KD.all fun x=>x.1 != k)=true)
 (hw:∀g,Region.wanted o (yielded ops (a.put (some d) (v g)).tmps)=true)
 (h:∀w' g,Ext w w'→Kp L w0 w'→w0.heap.size≤g→Blk w' g T cs→¬InI I g→∀K,(∀a2 w2,WI L ((g,g+1)::I) w' w2→Kp L w0 w2→
  Xr L w0 P ops Q n KD Z ((w'.heap.size,w2.heap.size)::(g,g+1)::I) (k::ls) a2 w2→K a2 w2)→o.wp P (a.put (some d) (v g)) w' K (NoPanic Q)) :
 Xr L w0 P ops Q (n+1) ((k,d)::KD) (⟨z,d,k,v,T,cs⟩::Z) I ls a w:=by
 intro hKD0;have hKD:Z.map (fun q=>(q.k,q.d))=KD:=by simpa using hKD0
 clear hKD0;simp only[Bool.and_eq_true,beq_iff_eq] at hr;obtain⟨hr,hZ⟩:=hr;refine⟨fun h0=>(by rw[hr] at h0;cases h0),fun j hj w' h1 h2=>?_⟩;rw[hr] at hj;obtain rfl:j=k:=by simpa using hj
 have hf:=kd_find (Z:=Z) (i:=j) (by rw[hKD];exact hZ)
 (try unfold stepX)
 rw[find_head (q:=⟨z,d,j,v,T,cs⟩)];intro g hg;rw[filter_head (q:=⟨z,d,j,v,T,cs⟩) hf];refine step_of ho (hw g) fun K' hK'=>h w' g h1 h2 hg.1 hg.2.1 hg.2.2 K' fun a2 w2 h3 h4 h5=>hK' a2 w2 ⟨h3,h4,?_⟩;rw[bits_set];exact h5 hKD
theorem Xr.done (hr:Region.ready .any ops (bits ops.size ls)=[])
 (h:∀w',Ext w w'→Kp L w0 w'→Q .normal a w'):Xr L w0 P ops Q n [] [] I ls a w:=by
 intro _
 cases n with
 | zero=>exact⟨hr,rfl,fun w' h1 h2=>h w' h1 h2⟩
 | succ n=>exact⟨fun _=>⟨rfl,fun w' h1 h2=>h w' h1 h2⟩,fun i hi=>by rw[hr] at hi;cases hi⟩
end
section
variable {P:Program} {ops:Array Oper} {Q:Exit→Act→World→Prop} {L:List Nat} {w0:World}
variable {n:Nat} {KD:List (Nat×Nat)} {Z:List Lz} {I:List (Nat×Nat)} {ls:List Nat} {a:Act} {w:World}
theorem Xtk (i:Nat){d:Option Tmp}{oi:Oper}{v:Value}{b:Act}(h:Xr L w0 P ops Q n KD Z I (i::ls) b w)(hi:ops[i]? = some oi:=by rfl)(hd:oi.dst=d:=by(conv=>lhs;whnf);try rfl)(hok:okTake ops ls KD i=true:=by decide +kernel)(hw:Region.wanted oi (yielded ops a.tmps)=true:=by rfl)
 (hrun:∀w',Kp L w0 w'→(execOp a.eval oi).run P w'=.ok (.value v) w':=by intro w' hk;go_simp;(try with_reducible rfl);done)
 (hb:a.put d v=b:=by(try simp only[Act.put,List.setIfInBounds_toArray,List.set_cons_zero,List.set_cons_succ]);(try with_reducible rfl);done):Xr L w0 P ops Q (n+1) KD Z I ls a w:=Xr.take i d hi hd hok hw hrun (hb▸h)
theorem Xsk (i:Nat){d:Option Tmp}{oi:Oper}{b:Act}(h:Xr L w0 P ops Q n KD Z I (i::ls) b w)(hi:ops[i]? = some oi:=by rfl)(hd:oi.dst=d:=by(conv=>lhs;whnf);try rfl)(hok:okTake ops ls KD i=true:=by decide +kernel)(hw:Region.wanted oi (yielded ops a.tmps)=false:=by rfl)
 (hb:a.put d undef=b:=by(try simp only[Act.put,List.setIfInBounds_toArray,List.set_cons_zero,List.set_cons_succ]);(try with_reducible rfl);done):Xr L w0 P ops Q (n+1) KD Z I ls a w:=Xr.skip i d hi hd hok hw (hb▸h)
theorem Xtn {i j:Nat}{d:Option Tmp}{oi:Oper}{v:Value}{b:Act}(h:Xr L w0 P ops Q n KD Z I (j::i::ls) b w)(hj:i+1=j:=by simp only[Nat.reduceAdd];rfl)(hi:ops[j]? = some oi:=by rfl)(hd:oi.dst=d:=by(conv=>lhs;whnf);try rfl)(hok:okTake ops (i::ls) KD j=true:=by decide +kernel)(hw:Region.wanted oi (yielded ops a.tmps)=true:=by rfl)
 (hrun:∀w',Kp L w0 w'→(execOp a.eval oi).run P w'=.ok (.value v) w':=by intro w' hk;go_simp;(try with_reducible rfl);done)
 (hb:a.put d v=b:=by(try simp only[Act.put,List.setIfInBounds_toArray,List.set_cons_zero,List.set_cons_succ]);(try with_reducible rfl);done):Xr L w0 P ops Q (n+1) KD Z I (i::ls) a w:=Xr.take j d hi hd hok hw hrun (hb▸h)
theorem Xsn {i j:Nat}{d:Option Tmp}{oi:Oper}{b:Act}(h:Xr L w0 P ops Q n KD Z I (j::i::ls) b w)(hj:i+1=j:=by simp only[Nat.reduceAdd];rfl)(hi:ops[j]? = some oi:=by rfl)(hd:oi.dst=d:=by(conv=>lhs;whnf);try rfl)(hok:okTake ops (i::ls) KD j=true:=by decide +kernel)(hw:Region.wanted oi (yielded ops a.tmps)=false:=by rfl)
 (hb:a.put d undef=b:=by(try simp only[Act.put,List.setIfInBounds_toArray,List.set_cons_zero,List.set_cons_succ]);(try with_reducible rfl);done):Xr L w0 P ops Q (n+1) KD Z I (i::ls) a w:=Xr.skip j d hi hd hok hw (hb▸h)
theorem Xdn (h:∀w',Ext w w'→Kp L w0 w'→Q .normal a w')(hr:Region.ready .any ops (bits ops.size ls)=[]:=by decide +kernel):Xr L w0 P ops Q n [] [] I ls a w:=Xr.done hr h
theorem Xsp (i:Nat){o:Oper}(h:∀w',Ext w w'→Kp L w0 w'→∀K,(∀a2 w2,WI L I w' w2→Kp L w0 w2→Xr L w0 P ops Q n KD Z ((w'.heap.size,w2.heap.size)::I) (i::ls) a2 w2→K a2 w2)→o.wp P a w' K (NoPanic Q))(ho:ops[i]? = some o:=by rfl)
 (hr:(Region.ready .any ops (bits ops.size ls) == [i]&&KD.all fun x=>x.1 != i)=true:=by decide +kernel) (hw:Region.wanted o (yielded ops a.tmps)=true:=by rfl):Xr L w0 P ops Q (n+1) KD Z I ls a w:=Xr.step i ho hr hw h
theorem Xcl (i:Nat){o:Oper}(h:∀w',Ext w w'→Kp L w0 w'→∀K,(∀a2 w2,Ext w' w2→Xr L w0 P ops Q n KD Z ((w'.heap.size,w2.heap.size)::I) (i::ls) a2 w2→K a2 w2)→o.wp P a w' K (NoPanic Q))(ho:ops[i]? = some o:=by rfl)
 (hr:(Region.ready .any ops (bits ops.size ls) == [i]&&KD.all fun x=>x.1 != i)=true:=by decide +kernel) (hw:Region.wanted o (yielded ops a.tmps)=true:=by rfl):Xr L w0 P ops Q (n+1) KD Z I ls a w:=Xr.call i ho hr hw h
end
end
section
open Go.RowKit
def around (n m:Int):Int:=(if n<0 then -(n+1) else n) % m
theorem around_bd (n m:Int)(h:1≤m):0≤around n m∧around n m<m:=
 ⟨Int.emod_nonneg _ om,Int.emod_lt_of_pos _ om⟩
theorem around_any (n m:Int)(w:World)(hn:I64 n)(h0:1≤m)(h1:m≤4294967296) :
 Calls Tryz.prog 17 #[.int .i64 n,.int .i64 m] w (RetQ (.int .i64 (around n m)) w):=by
 obtain⟨h2,h3⟩:=hn;by_cases h:n<0
 ·have e:around n m = -(n+1) % m:=by simp[around,h]
  have E:=lh e;clear e;have h4 : -(n+1)≥0:=om;go_enter Tryz.func17,Tryz.ntmps17
  go_wp2
  go_ret
  refine⟨?_,0,rfl⟩;rw[E.out]
  show Ending.returned (Value.int IntKind.i64 _)=_
  rw[←Int.neg_tmod,Int.tmod_eq_emod_of_nonneg h4]
 ·have e:around n m=n % m:=by simp[around,h]
  have E:=lh e;clear e;go_enter Tryz.func17,Tryz.ntmps17
  go_wp2
  go_ret
  exact⟨by rw[E.out];rfl,0,rfl⟩
def pick (l:List Int)(i:Nat)(m:Int):Int:=if h:i<l.length then around l[i] m else 0
theorem pick_any (A:Option Addr)(c:Nat)(l:List Int)(i:Nat)(m:Int)(w:World)(hl:IL w A c l)(h0:1≤m)(h1:m≤4294967296)(hi:i≤9223372036854775807) :
 Calls Tryz.prog 37 #[.slice A l.length c,.int .i64 i,.int .i64 m] w (RetQ (.int .i64 (pick l i m)) w):=by
 obtain⟨hlen,hcap⟩:=hl.len;by_cases h:i<l.length
 ·obtain⟨b,o,rfl,hc⟩:=hl.get h;have hw:=hl.wf h;have e:pick l i m=around l[i] m:=by simp[pick,h]
  have E:=lh e;clear e;have hlt:(i:Int)<l.length:=om;go_enter Tryz.func37,Tryz.ntmps37
  go_wp2_with (go_at_call 17;refine(around_any _ _ _ hw h0 h1).mono ?_;rintro e w1 ⟨rfl,n,rfl⟩)
  go_ret
  exact⟨by rw[E.out];rfl,n,rfl⟩
 ·have e:pick l i m=0:=by simp[pick,h]
  have E:=lh e;clear e;go_enter Tryz.func37,Tryz.ntmps37
  go_wp2
  go_ret
  exact⟨by rw[E.out];rfl,0,rfl⟩
theorem beq_take_succ (xs ys:List Int)(k:Nat)(h1:k<xs.length)(h2:k<ys.length)(h:xs.take k=ys.take k)(he:xs[k]=ys[k]):xs.take (k+1)=ys.take (k+1):=by
 rw[List.take_succ_eq_append_getElem h1,List.take_succ_eq_append_getElem h2,h,he]
theorem sameInts_any (A B:Option Addr)(c d:Nat)(xs ys:List Int)(w:World)(ha:IL w A c xs)(hb:IL w B d ys) :
 Calls Tryz.prog 54 #[.slice A xs.length c,.slice B ys.length d] w (RetQ (.bool (xs == ys)) w):=by
 obtain⟨a1,a2⟩:=ha.len;obtain⟨b1,b2⟩:=hb.len;by_cases hl:xs.length=ys.length
 ·have hl2:((xs.length:Int) != (ys.length:Int))=false:=by simp[hl]
  have hl':xs.length≤ys.length:=om;have hl'':ys.length≤xs.length:=om;have HL:=lh hl;clear hl;go_enter Tryz.func54,Tryz.ntmps54
  go_wp2
  go_loopw [5] (fun i wr=>∃k:Nat,k≤xs.length∧i=.int .i64 k∧Hid (xs.take k=ys.take k)∧∃n,wr=w.drewN n) (fun i _=>xs.length-(intOf i).toNat)
  case atStart=>exact⟨0,Nat.zero_le _,rfl,rfl,0,rfl⟩
  case round=>
   obtain⟨k,hk,rfl,ht,n,rfl⟩:=hrel;by_cases hlt:k<xs.length
   ·obtain⟨p1,o1,rfl,g1⟩:=ha.get hlt;obtain⟨p2,o2,rfl,g2⟩:=hb.get (show k<ys.length by omega);have hlt2:(k:Int)<xs.length:=om;have hlt3:(k:Int)<ys.length:=om;have hlt4:k<ys.length:=om;by_cases he:xs[k]=ys[k]
    ·have he':(xs[k] != ys[k])=false:=by simp[he]
     have HT:=lh (beq_take_succ xs ys k hlt om ht.out he);clear he
     go_wp2_with (go_quiet (fail))
     go_roundw
     case rel=>exact⟨k+1,om,by go_num,HT.out,_,rfl⟩
     case measure=>simp[intOf];omega
    ·have he':(xs[k] != ys[k])=true:=by simp[he]
     have hne:(xs == ys)=false:=by
      rw[beq_eq_false_iff_ne];rintro rfl;exact he rfl
     have HN:=lh hne;clear he hne
     go_wp2_with (go_quiet (fail))
     go_ret
     exact⟨by rw[HN.out];rfl,_,by rw[World.drewN_drewN]⟩
   ·have hne:(xs == ys)=true:=by
     have h1:=ht.out;rw[List.take_of_length_le om,List.take_of_length_le om] at h1;simp[h1]
    have HN:=lh hne;clear hne
    go_wp2
    go_ret
    exact⟨by rw[HN.out];rfl,_,rfl⟩
 ·have hl2:((xs.length:Int) != (ys.length:Int))=true:=by simp;omega
  have hne:(xs == ys)=false:=by
   rw[beq_eq_false_iff_ne];rintro rfl;exact hl rfl
  have HN:=lh hne;clear hne hl;go_enter Tryz.func54,Tryz.ntmps54
  go_wp2
  go_ret
  exact⟨by rw[HN.out];rfl,0,rfl⟩
end
section
open Go.RowKit Go.ChangeShapes
theorem I64.of_wf {n:Int}(h:(Lit.int .i64 n).wf=true):I64 n:=bounds_i64 h
theorem IL.of_row {w:World}{a:Option Addr}{len cap:Nat}{zs:List Int}
 (h:(a=none∧len=0∧cap=0∧zs=[])∨∃x,a=some x∧len≤cap∧cap≤maxLen∧zs.length=cap∧(∀i,i<zs.length→w.cell? (x.add i)=some (.int .i64 (zs.getD i 0)))∧∀n∈zs,(Lit.int .i64 n).wf=true) :
 ∃l:List Int,l.length=len∧IL w a cap l:=by
 rcases h with⟨rfl,rfl,rfl,rfl⟩|⟨x,rfl,hl,hm,hz,hc,hw⟩
 ·exact⟨[],rfl,IL.nil w⟩
 ·have hlen:(zs.take len).length=len:=by rw[List.length_take];omega
  refine⟨zs.take len,hlen,om,hm,fun n hn=>I64.of_wf (hw n (List.mem_of_mem_take hn)),fun hn=>?_⟩;have h0:0<len:=by
   rw[←hlen];exact List.length_pos_iff.2 hn
  obtain⟨b,off,spot⟩:=x;have hs:=hc 0 om;have hspot:spot=none:=by simpa[Addr.add] using World.cell?_spot hs
  subst hspot;refine⟨b,off,rfl,fun i hi=>?_⟩;rw[hlen] at hi;have h1:=hc i om;have e1:(zs.take len)[i]'(by rw[hlen];exact hi)=zs.getD i 0:=by
   rw[List.getElem_take,List.getD_eq_getElem?_getD,List.getElem?_eq_getElem om];rfl
  rw[e1,←h1]
  congr 1
  unfold Addr.add
  split
  ·subst_vars;rfl
  ·rfl
end
end Go.Proofs.YtmocoldobnimfaaGreat
