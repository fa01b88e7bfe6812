/- Texts of this proof: R0 R1 E6o E6 E7 E8 E9 E14 Cat E15 P4 K1 C0 Hp. -/
import Derived.Test.YtmocoldobnimfaaGreatRS02
import Derived.Test.YtmocoldobnimfaaGreatRS03
import Derived.Deep.DrawnRows
import Derived.Deep.RegionHeld3
import Derived.Deep.CutRange
import Derived.Deep.DeepCutAuto
import Derived.Lib.AppendZeros
set_option linter.all false
set_option maxRecDepth 100000
set_option maxHeartbeats 2000000
namespace Go.Proofs.YtmocoldobnimfaaGreat
section
inductive Sh where
 | lf (ts:List Int)
 | nd (l r:Sh)
namespace Sh
def text:Sh->List Int
 | lf ts=>ts
 | nd l r=>l.text++r.text
def hgt:Sh->Nat
 | lf _=>1
 | nd l r=>max l.hgt r.hgt+1
def Av:Sh->Prop
 | lf ts=>1<=ts.length/\ts.length<=32
 | nd l r=>Av l/\Av r/\l.hgt<=r.hgt+1/\r.hgt<=l.hgt+1
theorem hgt_pos:∀t:Sh,1<=t.hgt
 | lf _=>Nat.le_refl _
 | nd _ _=>by simp[hgt]
theorem Av.len:∀{t:Sh},Av t->1<=t.text.length
 | lf _,h=>h.1
 | nd l _,h=>by have:=Av.len h.1;simp[text];omega
theorem Av.high:∀{t:Sh},Av t->2 ^ (t.hgt-1)<=t.text.length*t.text.length
 | lf ts,h=>by
  have h1:1<=ts.length:=h.1;exact Nat.mul_le_mul h1 h1
 | nd l r,h=>by
  obtain⟨ha,hb,h1,h2⟩:=h;have ia:=Av.high ha;have ib:=Av.high hb;have pa:=ha.len;have pb:=hb.len;have qa:=hgt_pos l;have qb:=hgt_pos r;simp only[hgt,text,List.length_append];generalize l.text.length=a at *;generalize r.text.length=b at *;generalize l.hgt=x at *;generalize r.hgt=y at *;have e0:(a+b)*(a+b)=a*a+b*b+2*(a*b):=by
   rw[Nat.add_mul,Nat.mul_add,Nat.mul_add,Nat.mul_comm b a];omega
  rw[e0,Nat.add_sub_cancel];have key:∀p q u v:Nat,1<=p->1<=q->1<=v->v<=u->u<=v+1->2 ^ (u-1)<=p*p->2 ^ (v-1)<=q*q->2 ^ u<=p*p+q*q+2*(p*q):=fun p q u v hp hq hv h1 h2 e1 e2=>by
   have eu:2 ^ u=2*2 ^ (u-1):=by
    have:u=(u-1)+1:=om
    conv=>lhs;rw[this,Nat.pow_succ]
    omega
   have ev:2 ^ (u-1)<=2*2 ^ (v-1):=by
    rcases Nat.eq_or_lt_of_le h1 with h3|h3
    ·subst h3;omega
    ·have:u-1=(v-1)+1:=om;rw[this,Nat.pow_succ];omega
   have evu:2 ^ (v-1)<=2 ^ (u-1):=Nat.pow_le_pow_right om om;generalize 2 ^ (u-1)=U at *;generalize 2 ^ (v-1)=V at *;have hm:V<=p*q:=by
    rcases Nat.le_total p q with h5|h5
    ·have e3:V<=p*p:=om;exact Nat.le_trans e3 (Nat.mul_le_mul_left _ h5)
    ·exact Nat.le_trans e2 (Nat.mul_le_mul_right _ h5)
   omega
  rcases Nat.le_total x y with h3|h3
  ·rw[Nat.max_eq_right h3];have:=key b a y x pb pa qa h3 h2 ib ia;rw[Nat.mul_comm b a] at this;omega
  ·rw[Nat.max_eq_left h3];exact key a b x y pa pb qb h3 h1 ia ib
theorem Av.hgt_le {t:Sh}(h:Av t)(hl:t.text.length<=65536):t.hgt<=33:=by
 have h1:=h.high;have h2:t.text.length*t.text.length<=65536*65536:=Nat.mul_le_mul hl hl;rcases Nat.lt_or_ge 33 t.hgt with h3|h3
 ·have h4:2 ^ 33<=2 ^ (t.hgt-1):=Nat.pow_le_pow_right om om;have h5:2 ^ 33=8589934592:=by decide
  omega
 ·exact h3
def balL (l r:Sh):Sh×Nat:=
 match l with
 | nd x y=>if r.hgt+1<l.hgt then(match y with
  | nd a b=>if x.hgt<y.hgt then(nd (nd x a) (nd b r),3) else(nd x (nd y r),2)
  | lf _=>(nd x (nd y r),2)) else(nd l r,1)
 | lf _=>(nd l r,1)
def bal (l r:Sh):Sh×Nat:=
 match r with
 | nd x y=>if l.hgt+1<r.hgt then(match x with
  | nd a b=>if y.hgt<x.hgt then(nd (nd l a) (nd b y),3) else(nd (nd l x) y,2)
  | lf _=>(nd (nd l x) y,2)) else balL l r
 | lf _=>balL l r
def catF:Nat->Sh->Sh->Sh×Nat
 | 0,l,r=>(nd l r,1)
 | f+1,l,r=>
  if r.hgt+1<l.hgt then(match l with
   | nd a b=>((bal a (catF f b r).1).1,(catF f b r).2+(bal a (catF f b r).1).2)
   | lf _=>(nd l r,1))
  else if l.hgt+1<r.hgt then(match r with
   | nd a b=>((bal (catF f l a).1 b).1,(catF f l a).2+(bal (catF f l a).1 b).2)
   | lf _=>(nd l r,1))
  else(nd l r,1)
def cat (l r:Sh):Sh×Nat:=catF (l.hgt+r.hgt) l r
end Sh
open Sh
def catO:Option Sh->Option Sh->Option Sh×Nat
 | none,r=>(r,0)
 | some l,none=>(some l,0)
 | some l,some r=>(some (cat l r).1,(cat l r).2)
def txtO:Option Sh->List Int
 | none=>[]
 | some t=>t.text
def hgtO:Option Sh->Nat
 | none=>0
 | some t=>t.hgt
def AvO:Option Sh->Prop
 | none=>True
 | some t=>Av t
def hdS:Sh->Nat->Option Sh×List Int×Nat
 | lf ts,k=>(none,ts.take k,0)
 | nd l r,k=>if k<l.text.length then hdS l k else((catO (some l) (hdS r (k-l.text.length)).1).1,(hdS r (k-l.text.length)).2.1,(hdS r (k-l.text.length)).2.2+(catO (some l) (hdS r (k-l.text.length)).1).2)
def tlS:Sh->Nat->List Int×Option Sh×Nat
 | lf ts,k=>(ts.drop k,none,0)
 | nd l r,k=>if l.text.length<=k then tlS r (k-l.text.length) else((tlS l k).1,(catO (tlS l k).2.1 (some r)).1,(tlS l k).2.2+(catO (tlS l k).2.1 (some r)).2)
def hdO:Option Sh->Nat->Option Sh×List Int×Nat
 | none,_=>(none,[],0)
 | some t,k=>hdS t k
def tlO:Option Sh->Nat->List Int×Option Sh×Nat
 | none,_=>([],none,0)
 | some t,k=>tlS t k
def bldF:Nat->List Int->Nat->Sh×Nat
 | 0,ts,_=>(lf ts,1)
 | f+1,ts,L=>if L=1 then(lf ts,1) else
  (nd (bldF f (ts.take (ts.length*(L / 2) / L)) (L / 2)).1 (bldF f (ts.drop (ts.length*(L / 2) / L)) (L-L / 2)).1,(bldF f (ts.take (ts.length*(L / 2) / L)) (L / 2)).2+(bldF f (ts.drop (ts.length*(L / 2) / L)) (L-L / 2)).2+1)
def treeS (ts:List Int):Option Sh×Nat:=
 if ts=[] then(none,0) else(some (bldF ((ts.length+31) / 32) ts ((ts.length+31) / 32)).1,(bldF ((ts.length+31) / 32) ts ((ts.length+31) / 32)).2)
def edS (t:Option Sh)(k d:Nat)(ins:List Int):Option Sh×Nat:=
 let h:=hdO t k
 let l:=tlO t (k+d)
 let m:=treeS (h.2.1++ins++l.1)
 let x:=catO h.1 m.1
 let y:=catO x.1 l.2.1
 (y.1,h.2.2+l.2.2+m.2+x.2+y.2)
namespace Sh
theorem bal_ok {l r:Sh}(hl:Av l)(hr:Av r)(h1:l.hgt<=r.hgt+2)(h2:r.hgt<=l.hgt+2) :
 Av (bal l r).1/\(bal l r).1.text=l.text++r.text/\max l.hgt r.hgt<=(bal l r).1.hgt/\(bal l r).1.hgt<=max l.hgt r.hgt+1/\(l.hgt<=r.hgt+1->r.hgt<=l.hgt+1->(bal l r).1.hgt=max l.hgt r.hgt+1)/\(bal l r).2<=3:=by
 have p0:l.hgt<=r.hgt+1->r.hgt<=l.hgt+1->bal l r=(nd l r,1):=fun k1 k2=>by
  unfold bal balL
  cases r with
  | lf b=>cases l with
   | lf a=>rfl
   | nd x y=>simp only;rw[if_neg om]
  | nd u v=>simp only;rw[if_neg om];cases l with
   | lf a=>rfl
   | nd x y=>simp only;rw[if_neg om]
 by_cases hc:l.hgt+1<r.hgt
 ·cases r with
  | lf b=>simp only[hgt] at hc;have:=hgt_pos l;omega
  | nd x y=>
   obtain⟨ax,ay,b1,b2⟩:=hr;have px:=hgt_pos x;have py:=hgt_pos y;have pl:=hgt_pos l;unfold bal
   simp only
   rw[if_pos hc]
   cases x with
   | lf a=>simp only[Av,text,hgt] at *;refine⟨⟨⟨hl,ax,om,om⟩,ay,om,om⟩,by simp,om,om,om,om⟩
   | nd a b=>
    obtain⟨aa,ab,b3,b4⟩:=ax;have pa:=hgt_pos a;have pb:=hgt_pos b;by_cases hd:y.hgt<(nd a b).hgt
    ·simp only;rw[if_pos hd];simp only[Av,text,hgt] at *
     refine⟨⟨⟨hl,aa,om,om⟩,⟨ab,ay,om,om⟩,om,om⟩,by simp,om,om,om,om⟩
    ·simp only;rw[if_neg hd];simp only[Av,text,hgt] at *
     refine⟨⟨⟨hl,⟨aa,ab,b3,b4⟩,om,om⟩,ay,om,om⟩,by simp,om,om,om,om⟩
 ·by_cases hd:r.hgt+1<l.hgt
  ·have e:bal l r=balL l r:=by
    unfold bal
    cases r with
    | lf b=>rfl
    | nd u v=>simp only;rw[if_neg hc]
   rw[e]
   cases l with
   | lf b=>simp only[hgt] at hd;have:=hgt_pos r;omega
   | nd x y=>
    obtain⟨ax,ay,b1,b2⟩:=hl;have px:=hgt_pos x;have py:=hgt_pos y;have pr:=hgt_pos r;unfold balL
    simp only
    rw[if_pos hd]
    cases y with
    | lf a=>simp only[Av,text,hgt] at *;refine⟨⟨ax,⟨ay,hr,om,om⟩,om,om⟩,by simp,om,om,om,om⟩
    | nd a b=>
     obtain⟨aa,ab,b3,b4⟩:=ay;have pa:=hgt_pos a;have pb:=hgt_pos b;by_cases he:x.hgt<(nd a b).hgt
     ·simp only;rw[if_pos he];simp only[Av,text,hgt] at *
      refine⟨⟨⟨ax,aa,om,om⟩,⟨ab,hr,om,om⟩,om,om⟩,by simp,om,om,om,om⟩
     ·simp only;rw[if_neg he];simp only[Av,text,hgt] at *
      refine⟨⟨ax,⟨⟨aa,ab,b3,b4⟩,hr,om,om⟩,om,om⟩,by simp,om,om,om,om⟩
  ·rw[p0 om om];simp only[Av,text,hgt];exact⟨⟨hl,hr,om,om⟩,trivial,om,om,fun _ _=>trivial,om⟩
theorem cat_ok:∀(f:Nat) {l r:Sh},Av l->Av r->l.hgt+r.hgt<=f->
 Av (catF f l r).1/\(catF f l r).1.text=l.text++r.text/\max l.hgt r.hgt<=(catF f l r).1.hgt/\(catF f l r).1.hgt<=max l.hgt r.hgt+1/\(catF f l r).2<=3*(max l.hgt r.hgt-min l.hgt r.hgt)+1
 | 0,l,r,_,_,hf=>by have:=hgt_pos l;omega
 | f+1,l,r,hl,hr,hf=>by
  have pl:=hgt_pos l;have pr:=hgt_pos r;unfold catF;by_cases h1:r.hgt+1<l.hgt
  ·rw[if_pos h1]
   cases l with
   | lf a=>simp only[hgt] at h1;omega
   | nd a b=>
    obtain⟨aa,ab,b1,b2⟩:=hl;have pa:=hgt_pos a;have pb:=hgt_pos b;simp only[hgt] at h1 hf pl ⊢;obtain⟨i1,i2,i3,i4,i5⟩:=cat_ok f ab hr om;generalize catF f b r=q at *;obtain⟨j1,j2,j3,j4,j5,j6⟩:=bal_ok aa i1 om om;generalize bal a q.1=p at *;refine⟨j1,by rw[j2,i2];simp[text],?_,om,om⟩;rcases Nat.lt_or_ge (a.hgt+1) q.1.hgt with h5|h5
    ·omega
    ·have:=j5 om h5;omega
  ·rw[if_neg h1];by_cases h2:l.hgt+1<r.hgt
   ·rw[if_pos h2]
    cases r with
    | lf a=>simp only[hgt] at h2;omega
    | nd a b=>
     obtain⟨aa,ab,b1,b2⟩:=hr;have pa:=hgt_pos a;have pb:=hgt_pos b;simp only[hgt] at h2 h1 hf pr ⊢;obtain⟨i1,i2,i3,i4,i5⟩:=cat_ok f hl aa om;generalize catF f l a=q at *;obtain⟨j1,j2,j3,j4,j5,j6⟩:=bal_ok i1 ab om om;generalize bal q.1 b=p at *;refine⟨j1,by rw[j2,i2];simp[text],?_,om,om⟩;rcases Nat.lt_or_ge (b.hgt+1) q.1.hgt with h5|h5
     ·omega
     ·have:=j5 h5 om;omega
   ·rw[if_neg h2];simp only[Av,text,hgt];exact⟨⟨hl,hr,om,om⟩,trivial,om,om,om⟩
end Sh
theorem catO_ok {l r:Option Sh}(hl:AvO l)(hr:AvO r):AvO (catO l r).1/\txtO (catO l r).1=txtO l++txtO r/\max (hgtO l) (hgtO r)<=hgtO (catO l r).1/\hgtO (catO l r).1<=max (hgtO l) (hgtO r)+1/\
 (catO l r).2<=3*(max (hgtO l) (hgtO r)-min (hgtO l) (hgtO r))+1/\(l=none->(catO l r).2=0/\(catO l r).1=r)/\(r=none->(catO l r).2=0/\(catO l r).1=l):=by
 cases l with
 | none=>simp only[catO,txtO,hgtO,List.nil_append];exact⟨hr,trivial,om,om,om,fun _=>by simp,fun h=>by simp[h]⟩
 | some a=>cases r with
  | none=>simp only[catO,txtO,hgtO,List.append_nil];exact⟨hl,trivial,om,om,om,fun h=>by simp at h,fun h=>by simp⟩
  | some b=>
   obtain⟨i1,i2,i3,i4,i5⟩:=cat_ok (a.hgt+b.hgt) hl hr (Nat.le_refl _);simp only[catO,txtO,hgtO];exact⟨i1,i2,i3,i4,i5,fun h=>by simp at h,fun h=>by simp at h⟩
theorem hdS_ok:∀{t:Sh} (k:Nat),Av t->AvO (hdS t k).1/\txtO (hdS t k).1++(hdS t k).2.1=t.text.take k/\(hdS t k).2.1.length<=32/\hgtO (hdS t k).1<=t.hgt/\(hdS t k).2.2<=3*(hgtO (hdS t k).1+2*t.hgt)
 | lf ts,k,h=>by
  have h2:ts.length<=32:=h.2;simp only[hdS,txtO,hgtO,text,List.nil_append];exact⟨trivial,trivial,by rw[List.length_take];omega,om,om⟩
 | nd l r,k,h=>by
  obtain⟨al,ar,b1,b2⟩:=h;unfold hdS;by_cases hk:k<l.text.length
  ·rw[if_pos hk];obtain⟨i1,i2,i3,i4,i5⟩:=hdS_ok k al;simp only[hgt,text];exact⟨i1,by rw[i2,List.take_append_of_le_length om],i3,om,om⟩
  ·rw[if_neg hk];obtain⟨i1,i2,i3,i4,i5⟩:=hdS_ok (k-l.text.length) ar
   simp only
   have z1:hgtO (some l)=l.hgt:=rfl;generalize hdS r (k-l.text.length)=q at *;obtain⟨c1,c2,c3,c4,c5,_,c7⟩:=catO_ok (l:=some l) (r:=q.1) al i1;generalize catO (some l) q.1=p at *;simp only[hgt,text];refine⟨c1,?_,i3,?_,?_⟩
   ·rw[c2,List.append_assoc,i2];have e:k=l.text.length+(k-l.text.length):=om
    conv=>rhs;rw[e,List.take_length_add_append]
    rfl
   ·omega
   ·cases hq:q.1 with
    | none=>
     obtain⟨c8,c9⟩:=c7 hq;rw[hq] at i5;have z2:hgtO none=0:=rfl;rw[c9,z1];omega
    | some u=>rw[hq] at i4 i5 c3 c4 c5;omega
theorem tlS_ok:∀{t:Sh} (k:Nat),Av t->AvO (tlS t k).2.1/\(tlS t k).1++txtO (tlS t k).2.1=t.text.drop k/\(tlS t k).1.length<=32/\hgtO (tlS t k).2.1<=t.hgt/\(tlS t k).2.2<=3*(hgtO (tlS t k).2.1+2*t.hgt)
 | lf ts,k,h=>by
  have h2:ts.length<=32:=h.2;simp only[tlS,txtO,hgtO,text,List.append_nil];exact⟨trivial,trivial,by rw[List.length_drop];omega,om,om⟩
 | nd l r,k,h=>by
  obtain⟨al,ar,b1,b2⟩:=h;unfold tlS;by_cases hk:l.text.length<=k
  ·rw[if_pos hk];obtain⟨i1,i2,i3,i4,i5⟩:=tlS_ok (k-l.text.length) ar;simp only[hgt,text];refine⟨i1,?_,i3,om,om⟩;rw[i2];have e:k=l.text.length+(k-l.text.length):=om
   conv=>rhs;rw[e,List.drop_length_add_append]
  ·rw[if_neg hk];obtain⟨i1,i2,i3,i4,i5⟩:=tlS_ok k al
   simp only
   have z1:hgtO (some r)=r.hgt:=rfl;generalize tlS l k=q at *;obtain⟨c1,c2,c3,c4,c5,c6,_⟩:=catO_ok (l:=q.2.1) (r:=some r) i1 ar;generalize catO q.2.1 (some r)=p at *;simp only[hgt,text];refine⟨c1,?_,i3,?_,?_⟩
   ·rw[c2,<-List.append_assoc,i2,List.drop_append_of_le_length om];rfl
   ·omega
   ·cases hq:q.2.1 with
    | none=>
     obtain⟨c8,c9⟩:=c6 hq;rw[hq] at i5;have z2:hgtO none=0:=rfl;rw[c9,z1];omega
    | some u=>rw[hq] at i4 i5 c3 c4 c5;omega
theorem hdO_ok {t:Option Sh}(k:Nat)(h:AvO t):AvO (hdO t k).1/\txtO (hdO t k).1++(hdO t k).2.1=(txtO t).take k/\(hdO t k).2.1.length<=32/\hgtO (hdO t k).1<=hgtO t/\(hdO t k).2.2<=3*(hgtO (hdO t k).1+2*hgtO t):=by
 cases t with
 | none=>simp[hdO,txtO,hgtO,AvO]
 | some t=>exact hdS_ok k h
theorem tlO_ok {t:Option Sh}(k:Nat)(h:AvO t):AvO (tlO t k).2.1/\(tlO t k).1++txtO (tlO t k).2.1=(txtO t).drop k/\(tlO t k).1.length<=32/\hgtO (tlO t k).2.1<=hgtO t/\(tlO t k).2.2<=3*(hgtO (tlO t k).2.1+2*hgtO t):=by
 cases t with
 | none=>simp[tlO,txtO,hgtO,AvO]
 | some t=>exact tlS_ok k h
def hB:Nat->Nat->Nat
 | 0,_=>1
 | f+1,L=>if L=1 then 1 else max (hB f (L / 2)) (hB f (L-L / 2))+1
theorem hB_step:∀(f:Nat) (L:Nat),1<=L->L<=f->(∀g,L<=g->hB g L=hB L L)/\(L+1<=f->hB L L<=hB (L+1) (L+1)/\hB (L+1) (L+1)<=hB L L+1)
 | 0,L,h1,h2=>om
 | f+1,L,h1,h2=>by
  have fu:∀L',1<=L'->L'<=f+1->∀g,L'<=g->hB g L'=if L'=1 then 1 else max (hB (L' / 2) (L' / 2)) (hB (L'-L' / 2) (L'-L' / 2))+1:=fun L' k1 k2 g hg=>by
   cases g with
   | zero=>omega
   | succ g=>
    show(if L'=1 then 1 else max (hB g (L' / 2)) (hB g (L'-L' / 2))+1)=_
    by_cases h3:L'=1
    ·rw[if_pos h3,if_pos h3]
    ·rw[if_neg h3,if_neg h3,(hB_step f (L' / 2) om om).1 g om,(hB_step f (L'-L' / 2) om om).1 g om]
  refine⟨fun g hg=>?_,fun h3=>?_⟩
  ·rw[fu L h1 h2 g hg,fu L h1 h2 L (Nat.le_refl _)]
  ·have ih:∀x,1<=x->x+1<=f->hB x x<=hB (x+1) (x+1)/\hB (x+1) (x+1)<=hB x x+1:=fun x k1 k2=>(hB_step f x k1 om).2 k2;rw[fu L h1 h2 L (Nat.le_refl _),fu (L+1) om h3 (L+1) (Nat.le_refl _)];by_cases h4:L=1
   ·subst h4;decide
   ·rw[if_neg h4,if_neg om];rcases Nat.mod_two_eq_zero_or_one L with h5|h5
    ·have e1:(L+1) / 2=L / 2:=om;have e2:L-L / 2=L / 2:=om;have e3:L+1-L / 2=L / 2+1:=om;rw[e1,e2,e3];have:=ih (L / 2) om om;omega
    ·have e1:(L+1) / 2=L / 2+1:=om;have e2:L-L / 2=L / 2+1:=om;have e3:L+1-(L / 2+1)=L / 2+1:=om;rw[e1,e2,e3];have:=ih (L / 2) om om;omega
theorem bldF_ok:∀(f:Nat) (ts:List Int) (L:Nat),1<=L->L<=f->L<=ts.length->ts.length<=32*L->Av (bldF f ts L).1/\(bldF f ts L).1.text=ts/\(bldF f ts L).1.hgt=hB f L/\(bldF f ts L).2+1=2*L
 | 0,ts,L,h1,h2,_,_=>om
 | f+1,ts,L,h1,h2,h3,h4=>by
  unfold bldF hB;by_cases h5:L=1
  ·subst h5;rw[if_pos rfl,if_pos rfl];exact⟨⟨h3,om⟩,rfl,rfl,rfl⟩
  ·rw[if_neg h5,if_neg h5]
   simp only
   obtain⟨x,hx⟩:∃x,x=L / 2:=⟨_,rfl⟩;obtain⟨c,hc⟩:∃c,c=ts.length*(L / 2) / L:=⟨_,rfl⟩;obtain⟨y,hy⟩:∃y,y=L-L / 2:=⟨_,rfl⟩
   rw[<-hc,<-hy,<-hx]
   rw[<-hx] at hc;have hL:x+y=L:=om;have d1:c*L<=ts.length*x:=by rw[hc];exact Nat.div_mul_le_self _ _
   have d2:ts.length*x<(c+1)*L:=by rw[hc];exact Nat.lt_mul_of_div_lt (Nat.lt_succ_self _) om
   have hx1:1<=x:=om;have hy1:1<=y:=om;generalize hn:ts.length=n at *;have b1:x<=c:=by
    rcases Nat.lt_or_ge c x with h|h
    ·exfalso
     have k1:(c+1)*L<=x*L:=Nat.mul_le_mul_right _ om;have k2:L*x<=n*x:=Nat.mul_le_mul_right _ h3;rw[Nat.mul_comm L x] at k2;omega
    ·exact h
   have b2:c<=32*x:=by
    rcases Nat.lt_or_ge (32*x) c with h|h
    ·exfalso
     have k1:(32*x+1)*L<=c*L:=Nat.mul_le_mul_right _ om;have k2:n*x<=32*L*x:=Nat.mul_le_mul_right _ h4;have e:(32*x+1)*L=32*L*x+L:=by rw[Nat.add_mul,Nat.one_mul,Nat.mul_assoc,Nat.mul_comm x L,<-Nat.mul_assoc]
     omega
    ·exact h
   have b3:c+y<=n:=by
    rcases Nat.lt_or_ge n (c+y) with h|h
    ·exfalso
     have k1:n*L=n*x+n*y:=by rw[<-hL,Nat.mul_add]
     have k2:L*y<=n*y:=Nat.mul_le_mul_right _ h3;have k3:(n+1)*L<=(c+y)*L:=Nat.mul_le_mul_right _ om;have k4:(c+y)*L=c*L+L*y:=by rw[Nat.add_mul,Nat.mul_comm y L]
     have k5:(n+1)*L=n*L+L:=by rw[Nat.add_mul,Nat.one_mul]
     omega
    ·exact h
   have b4:n-c<=32*y:=by
    rcases Nat.lt_or_ge (32*y) (n-c) with h|h
    ·exfalso
     have k1:n*L=n*x+n*y:=by rw[<-hL,Nat.mul_add]
     have k2:n*y<=32*L*y:=Nat.mul_le_mul_right _ h4;have k3:(32*y+1+c)*L<=n*L:=Nat.mul_le_mul_right _ om;have k4:(32*y+1+c)*L=32*L*y+(c+1)*L:=by
      rw[Nat.add_assoc,Nat.add_comm 1 c,Nat.add_mul,Nat.mul_assoc,Nat.mul_comm y L,<-Nat.mul_assoc]
     omega
    ·exact h
   have l1:(ts.take c).length=c:=by rw[List.length_take,hn];omega
   have l2:(ts.drop c).length=n-c:=by rw[List.length_drop,hn]
   obtain⟨i1,i2,i3,i4⟩:=bldF_ok f (ts.take c) x hx1 om om om;obtain⟨j1,j2,j3,j4⟩:=bldF_ok f (ts.drop c) y hy1 om om om;generalize bldF f (ts.take c) x=p at *;generalize bldF f (ts.drop c) y=q at *;have hs:=hB_step (f+1) x hx1 om;have e1:hB f x=hB x x:=hs.1 f om;have e2:hB f y=hB y y:=(hB_step f y hy1 om).1 f om;have hbal:p.1.hgt<=q.1.hgt+1/\q.1.hgt<=p.1.hgt+1:=by
    rw[i3,j3,e1,e2];have h6:y=x\/y=x+1:=om;rcases h6 with h6|h6
    ·subst h6;omega
    ·subst h6;have:=hs.2 om;omega
   refine⟨⟨i1,j1,hbal.1,hbal.2⟩,?_,?_,om⟩
   ·simp only[text];rw[i2,j2,List.take_append_drop]
   ·simp only[hgt];rw[i3,j3]
theorem treeS_ok (ts:List Int):AvO (treeS ts).1/\txtO (treeS ts).1=ts/\(treeS ts).2<=2*((ts.length+31) / 32):=by
 unfold treeS;by_cases h:ts=[]
 ·subst h;rw[if_pos rfl];exact⟨trivial,rfl,by simp⟩
 ·rw[if_neg h];have h1:1<=ts.length:=by cases ts with
   | nil=>exact absurd rfl h
   | cons a b=>simp
  obtain⟨i1,i2,i3,i4⟩:=bldF_ok ((ts.length+31) / 32) ts ((ts.length+31) / 32) om (Nat.le_refl _) om om;exact⟨i1,i2,by simp only;omega⟩
theorem edS_ok {t:Option Sh}{k d:Nat}(ins:List Int)(h:AvO t)(hk:k+d<=(txtO t).length) :
 AvO (edS t k d ins).1/\txtO (edS t k d ins).1=(txtO t).take k++ins++(txtO t).drop (k+d)/\(edS t k d ins).2<=40*(max (hgtO t) (hgtO (edS t k d ins).1)+2)+2*(ins.length / 16+1):=by
 obtain⟨a1,a2,a3,a4,a5⟩:=hdO_ok k h;obtain⟨b1,b2,b3,b4,b5⟩:=tlO_ok (k+d) h;unfold edS
 simp only
 generalize hdO t k=p at *;generalize tlO t (k+d)=q at *;obtain⟨c1,c2,c3⟩:=treeS_ok (p.2.1++ins++q.1);have hl:(p.2.1++ins++q.1).length<=64+ins.length:=by simp only[List.length_append];omega
 generalize treeS (p.2.1++ins++q.1)=m at *;obtain⟨d1,d2,d3,d4,d5,_⟩:=catO_ok (l:=p.1) (r:=m.1) a1 c1;generalize catO p.1 m.1=x at *;obtain⟨e1,e2,e3,e4,e5,_⟩:=catO_ok (l:=x.1) (r:=q.2.1) d1 b1;generalize catO x.1 q.2.1=y at *;refine⟨e1,?_,om⟩;rw[e2,d2,c2,<-a2,<-b2];simp only[List.append_assoc]
end
section
open Go.RowKit
attribute [local go_sem ↓] Go.wp_at_zero Go.wp_at_succ
def TyQ (T:Nat)(w:World)(p:Nat->Prop):Prop:=∀b,p b->∃cur,w.heap[b]? = some (.cells cur T (0,0))
theorem TyQ.no {T:Nat}{w:World}{p:Nat->Prop}(h:TyQ T w p){b T':Nat}{cur:Array Value}(hb:w.heap[b]? = some (.cells cur T' (0,0)))(hT:T'≠T):¬p b:=fun hp=>by
 obtain⟨cur',e⟩:=h b hp;rw[hb] at e;injection e with e
 injection e with _ e
 exact hT e
theorem TyQ.one {T g:Nat}{w:World}{cs:Array Value}(h:Blk w g T cs):TyQ T w (·=g):=fun b hb=>by subst hb;exact⟨cs,h⟩
def TyA (T:Nat)(w:World)(A:Option Addr):Prop:=∀b,A.map (·.block)=some b->∃cur,w.heap[b]? = some (.cells cur T (0,0))
theorem TyA.ext {T:Nat}{w w':World}{A:Option Addr}(h:TyA T w A)(x:Ext w w'):TyA T w' A:=fun b hb=>by
 obtain⟨cur,e⟩:=h b hb;exact⟨cur,(x.block b (Array.getElem?_eq_some_iff.1 e).1).trans e⟩
theorem TyA.kpP {T T':Nat}{w w':World}{A:Option Addr}{p:Nat->Prop}(h:TyA T w A)(k:KpP p w w')(hp:TyQ T' w p)(hT:T≠T'):TyA T w' A:=fun b hb=>by
 obtain⟨cur,e⟩:=h b hb;exact⟨cur,(k.block b (Array.getElem?_eq_some_iff.1 e).1 (hp.no e hT)).trans e⟩
theorem TyA.own {T base size n c:Nat}{w:World}{A:Option Addr}{xs:List Value}(h:OwnS w base T size A n c xs):TyA T w A:=fun b hb=>by
 rcases OwnS.form h with⟨rfl,_⟩|⟨g,cur,rfl,_,hh,_⟩
 ·cases hb
 ·injection hb with hb;subst hb;exact⟨cur,hh⟩
structure Mo (w0:World)(g:Nat)(ok:Int->Prop)(S:World->Nat->List Int->Prop):Prop where
 ext:∀{w w':World} {a:Nat} {ts:List Int},S w a ts->Ext w w'->S w' a ts
 kp:∀{w w':World} {a:Nat} {ts:List Int} {p:Nat->Prop},S w a ts->KpP p w w'->TyQ 170 w p->S w' a ts
 join:∀(w:World),Ext w0 w->∀(a b:Nat) (ta tb:List Int),S w a ta->S w b tb->(∀x∈ta,ok x)->(∀x∈tb,ok x)->ta.length+tb.length<=65536->
  Calls Tryz.prog 27 #[.pointer (some ⟨g,0,none⟩),.pointer (some ⟨a,0,none⟩),.pointer (some ⟨b,0,none⟩)] w (fun e w'=>∃gs,e=.returned (.tuple #[.pointer (some ⟨gs,0,none⟩),.int .i64 0])/\S w' gs (ta++tb)/\Ext w w')
 of:∀(w:World),Ext w0 w->∀(A:Option Addr) (c:Nat) (ts:List Int),IL w A c ts->(∀x∈ts,ok x)->ts.length<=65536->
  Calls Tryz.prog 26 #[.pointer (some ⟨g,0,none⟩),.slice A ts.length c] w (fun e w'=>∃gs,e=.returned (.tuple #[.pointer (some ⟨gs,0,none⟩),.int .i64 0])/\S w' gs ts/\Ext w w')
 emp:∀(w:World),Ext w0 w->Calls Tryz.prog 35 #[.pointer (some ⟨g,0,none⟩)] w (fun e w'=>∃gs,e=.returned (.pointer (some ⟨gs,0,none⟩))/\S w' gs []/\Ext w w')
def lfV (b:Nat):Value:=.iface 236 (.pointer (some ⟨b,0,none⟩))
def inV (b:Nat):Value:=.iface 239 (.pointer (some ⟨b,0,none⟩))
def RtAt (S:World->Nat->List Int->Prop)(w:World):Value->Sh->Prop
 | v,.lf ts=>∃(b:Nat) (A:Option Addr) (c gs:Nat),v=lfV b/\Blk w b 238 #[.slice A ts.length c,.pointer (some ⟨gs,0,none⟩)]/\IL w A c ts/\TyA 3 w A/\S w gs ts
 | v,.nd l r=>∃(b:Nat) (vl vr:Value) (gs:Nat),v=inV b/\Blk w b 241 #[vl,vr,.int .i64 (l.text++r.text).length,.int .i64 (Sh.nd l r).hgt,.pointer (some ⟨gs,0,none⟩)]/\RtAt S w vl l/\RtAt S w vr r/\S w gs (l.text++r.text)
section
variable {w0 w w':World} {g:Nat} {ok:Int->Prop} {S:World->Nat->List Int->Prop}
theorem RtAt.ext (M:Mo w0 g ok S)(x:Ext w w'):∀{t:Sh} {v:Value},RtAt S w v t->RtAt S w' v t
 | .lf _,_,⟨b,A,c,gs,e,hb,hi,ht,hs⟩=>⟨b,A,c,gs,e,hb.ext x,hi.ext x,ht.ext x,M.ext hs x⟩
 | .nd _ _,_,⟨b,vl,vr,gs,e,hb,h1,h2,hs⟩=>⟨b,vl,vr,gs,e,hb.ext x,RtAt.ext M x h1,RtAt.ext M x h2,M.ext hs x⟩
theorem RtAt.kp (M:Mo w0 g ok S){p:Nat->Prop}(k:KpP p w w')(q:TyQ 170 w p):∀{t:Sh} {v:Value},RtAt S w v t->RtAt S w' v t
 | .lf _,_,⟨b,A,c,gs,e,hb,hi,ht,hs⟩=>⟨b,A,c,gs,e,k.blk hb (q.no hb de),hi.kp k (fun _ b' hb'=>by
  obtain⟨cur,e'⟩:=ht b' hb';exact q.no e' de),ht.kpP k q de,M.kp hs k q⟩
 | .nd _ _,_,⟨b,vl,vr,gs,e,hb,h1,h2,hs⟩=>⟨b,vl,vr,gs,e,k.blk hb (q.no hb de),RtAt.kp M k q h1,RtAt.kp M k q h2,M.kp hs k q⟩
end
end
section
open Go.RowKit
theorem rTextO_any (A:Option Addr)(c:Nat)(l:List Int)(m:Nat)(w:World)(hl:IL w A c l)(hm:m<=1000000) :
 Calls Tryz.prog 25 #[.slice A l.length c,.int .i64 m] w (RetOI (rtext l m) w):=by
 obtain⟨i0,hi0,hz0,hz1,hz2⟩:=info_parts infoInt;obtain⟨a1,a2⟩:=hl.len;go_enter Tryz.func25,Tryz.ntmps25
 go_wp2
 go_loopw [5,6] (fun v i wr=>∃(k:Nat) (A':Option Addr) (c':Nat),k<=l.length/\k<=m/\i=.int .i64 k/\v=.slice A' (rtext l k).length c'/\OwnI wr w.heap.size 3 A' c' (rtext l k)/\Ext w wr) (fun _ i _=>l.length-(intOf i).toNat)
 case atStart=>exact⟨0,none,0,Nat.zero_le _,Nat.zero_le _,rfl,rfl,OwnS.nil _ _ _ _,Ext.rfl' _⟩
 case round=>
  obtain⟨k,A',c',hk,hkm,rfl,rfl,hown,hext⟩:=hrel;have hlr:=rtext_len l k;by_cases hlt:k<l.length
  ·by_cases hlm:k<m
   ·have e1:=Ext.alloc wr (.cells (tab12.map (Value.int .i64)).toArray 3);have hB:=(Blk.new wr 3 (tab12.map (Value.int .i64)).toArray);have hs:=rtext_succ l k hlt;have hp:=around_bd l[k] 12 om;have hpk:pick l k 12=around l[k] 12:=by simp[pick,hlt]
    obtain⟨p,hp12,hpp⟩:∃p:Nat,p<12/\around l[k] 12=(p:Int):=⟨(around l[k] 12).toNat,om,om⟩;have hsy:sym12 l[k]=tab12.getD p 0:=by unfold sym12;rw[hpp];rfl
    rw[hsy] at hs;rw[hpp] at hpk;have HS:=lh hs;have HP:=lh hpk;clear hs hpk hsy hpp hp
    go_wp2_with fail
    refine(pick_any A c l k 12 _ (hl.ext (hext.trans e1)) om om om).mono ?_;rintro e w1 h1;obtain⟨rfl,hx1⟩:=h1.v;rw[HP.out];have hcell:=(hB.ext hx1).cell p;rw[show((tab12.map (Value.int .i64)).toArray)[p]? = some (.int .i64 (tab12.getD p 0)) by
     simp[List.getD,List.getElem?_eq_getElem (show p<tab12.length from hp12)]] at hcell
    have hE:=hext.trans (e1.trans hx1);have hown1:=OwnS.ext hown (e1.trans hx1);have hlt1:=(hB.ext hx1).lt;clear hB;have hp0:(p:Int)<12:=om;have HT:=lh (tab12_bd p hp12);generalize tab12.getD p 0=s at *
    go_wp2_with ((at_builtin;refine wpList_app1I (w1:=w1) rfl _ _ _ rfl 3 infoInt Tryz.underlying22 w hE s rfl A' c' (rtext l k) rfl hown1 rfl om (rtext l (k+1)) HS.out ?_;intro A2 c2 w2 hown2 hext2 _ _))
    go_roundw
    case rel=>exact⟨k+1,A2,c2,om,om,by go_num,rfl,hown2,hext2⟩
    case measure=>simp[intOf];omega
   ·have hk':k=m:=om;subst hk'
    go_wp2
    go_ret
    exact⟨A',c',rfl,hown,fun x hx=>I64_of (by have:=rtext_bd l k x hx;omega),hext⟩
  ·have hk':rtext l k=rtext l m:=by
    unfold rtext;rw[List.take_of_length_le om,List.take_of_length_le om]
   rw[hk'] at hown;have HK:=lh hk';clear hk'
   go_wp2
   go_ret
   rw[<-HK.out] at hown ⊢;exact⟨A',c',rfl,hown,fun x hx=>I64_of (by have:=rtext_bd l k x hx;omega),hext⟩
theorem rText_any (A:Option Addr)(c:Nat)(l:List Int)(m:Nat)(w:World)(hl:IL w A c l)(hm:m<=1000000) :
 Calls Tryz.prog 25 #[.slice A l.length c,.int .i64 m] w (RetIL (rtext l m) w):=
 (rTextO_any A c l m w hl hm).mono (fun _ _ ⟨A',c',h1,ho,hr,x⟩=>⟨A',c',h1,IL.of_own ho hr,x,OwnS.row ho⟩)
structure Ed where
 at_:Int
 del:Int
 ins:List Int
end
section
open Go.RowKit
attribute [local go_sem ↓] Go.wp_at_zero Go.wp_at_succ
end
section
open Go.RowKit
def editErr (n:Nat)(a d:Int)(ins:List Int):Int:=
 if 0<=a/\0<=d/\a<=n/\d<=n-a then(if ins.all symOk=true then(if 65536<(n:Int)-d+ins.length then 4 else 0) else 5) else 5
theorem E14z4 {P:Prop} (h:P:=by
 rw[e];go_enter Tryz.func148,Tryz.ntmps148
 go_wp2
 go_ret
 exact⟨rfl,Ext.rfl' _⟩):P:=h
theorem check1_any (x:Int)(w:World):Calls Tryz.prog 148 #[.int .i64 x] w (RetV (.bool (!symOk x)) w):=by
 by_cases h1:x<0
 ·have e:symOk x=false:=by simp[symOk];omega
  exact E14z4
 ·by_cases h2:1114111<x
  ·have e:symOk x=false:=by simp[symOk];omega
   exact E14z4
  ·have e:symOk x=true:=by simp[symOk];omega
   exact E14z4
theorem indexFunc_any (A:Option Addr)(c:Nat)(l:List Int)(w:World)(hl:IL w A c l) :
 Calls Tryz.prog 164 #[.slice A l.length c,.func (Fn.func 148) #[] #[]] w fun e w'=>∃k:Int,e=.returned (.int .i64 k)/\(decide (0<=k) = !l.all symOk)/\Ext w w':=by
 obtain⟨a1,a2⟩:=hl.len;go_enter Tryz.func164,Tryz.ntmps164
 go_wp2
 go_loopw [8] (fun i wr=>∃k:Nat,k<=l.length/\i=.int .i64 k/\Hid ((l.take k).all symOk=true)/\Ext w wr) (fun i _=>l.length-(intOf i).toNat)
 case atStart=>exact⟨0,Nat.zero_le _,rfl,rfl,Ext.rfl' _⟩
 case round=>
  obtain⟨k,hk,rfl,ht,hext⟩:=hrel;by_cases hlt:k<l.length
  ·obtain⟨p1,o1,rfl,g1⟩:=hl.get hlt;replace g1:=hext.cell g1;have hb:=World.block_lt_of_cell? _ _ g1;have hlt2:(k:Int)<l.length:=om
   cases hs:symOk l[k] with
   | false=>
    have H:=lh hs;have hbad:=all_bad l k hlt hs;clear hs
    go_wp2_with fail
    refine(check1_any _ _).mono ?_;rintro e w1 ⟨rfl,hx1⟩;rw[H.out]
    go_wp2
    go_ret
    exact⟨_,rfl,by rw[hbad];simp,hext.trans hx1⟩
   | true=>
    have hs2:=lh (all_take_succ l k hlt ht.out hs);have H:=lh hs;clear hs ht
    go_wp2_with fail
    refine(check1_any _ _).mono ?_;rintro e w1 ⟨rfl,hx1⟩;rw[H.out]
    go_wp2
    go_roundw
    case rel=>exact⟨k+1,om,by go_num,hs2,hext.trans hx1⟩
    case measure=>simp[intOf];omega
  ·go_wp2
   go_ret
   have h1:=ht.out;rw[List.take_of_length_le om] at h1;exact⟨_,rfl,by rw[h1];simp,hext⟩
theorem containsFunc_any (A:Option Addr)(c:Nat)(l:List Int)(w:World)(hl:IL w A c l) :
 Calls Tryz.prog 129 #[.slice A l.length c,.func (Fn.func 148) #[] #[]] w (RetV (.bool (!l.all symOk)) w):=by
 go_enter Tryz.func129,Tryz.ntmps129
 go_wp2_with fail
 refine(indexFunc_any _ _ _ _ hl).mono ?_;rintro e w1 ⟨k,rfl,hk,hx⟩
 rw[<-hk]
 go_wp2
 go_ret
 exact⟨rfl,hx⟩
theorem E14z1 {P:Prop} (h:P:=by
 have e:editErr t a d l=5:=by unfold editErr;rw[if_neg om]
 rw[e];clear e;go_enter Tryz.func103,Tryz.ntmps103
 go_wp2
 go_ret
 exact⟨rfl,Ext.alloc _ _⟩):P:=h
theorem E14z3 {P:Prop} (h:P:=by
 rw[e];clear e;have H:=lh hs;clear hs;go_enter Tryz.func103,Tryz.ntmps103
 go_wp2_with fail
 refine(containsFunc_any _ _ _ _ (hl.ext hx)).mono ?_;rintro e w1 ⟨rfl,hx1⟩;rw[H.out];obtain⟨r0,r1,r2,_,_,_,_⟩:=(hb.ext hx1).c3
 go_wp2
 go_ret
 exact⟨rfl,hx.trans hx1⟩):P:=h
theorem tcheck_any (T:Option Addr)(t tc:Nat)(a d:Int)(A:Option Addr)(c:Nat)(l:List Int)(w:World)(hl:IL w A c l)(_ht:t<=9223372036854775807)(hlen:t+l.length<=9223372036854775807)(hd:I64 d) :
 Calls Tryz.prog 103 #[.slice T t tc,.agg #[.int .i64 a,.int .i64 d,.slice A l.length c]] w (RetV (.int .i64 (editErr t a d l)) w):=by
 obtain⟨d1,d2⟩:=hd;by_cases h1:a<0
 ·exact E14z1
 by_cases h2:d<0
 ·exact E14z1
 by_cases h3:(t:Int)<a
 ·exact E14z1
 by_cases h4:(t:Int)-a<d
 ·exact E14z1
 have hx:=Ext.alloc w (.cells #[.int .i64 a,.int .i64 d,.slice A l.length c] 102);have hb:=Blk.new w 102 #[.int .i64 a,.int .i64 d,.slice A l.length c]
 cases hs:l.all symOk with
 | false=>
  have e:editErr t a d l=5:=by unfold editErr;rw[if_pos om,hs];rfl
  rw[e];clear e;have H:=lh hs;clear hs;go_enter Tryz.func103,Tryz.ntmps103
  go_wp2_with fail
  refine(containsFunc_any _ _ _ _ (hl.ext hx)).mono ?_;rintro e w1 ⟨rfl,hx1⟩;rw[H.out]
  go_wp2
  go_ret
  exact⟨rfl,hx.trans hx1⟩
 | true=>
  by_cases h5:65536<(t:Int)-d+l.length
  ·have e:editErr t a d l=4:=by unfold editErr;rw[if_pos om,if_pos hs,if_pos h5]
   exact E14z3
  ·have e:editErr t a d l=0:=by unfold editErr;rw[if_pos om,if_pos hs,if_neg h5]
   exact E14z3
theorem E14z2 {P:Prop} (h:P:=by
 have e:editErr t a d l=5:=by unfold editErr;rw[if_neg om]
 rw[e];clear e;go_enter Tryz.func53,Tryz.ntmps53
 go_wp2
 go_ret
 exact⟨rfl,Ext.alloc _ _⟩):P:=h
theorem rCheck_any (T:Option Addr)(t tc:Nat)(a d:Int)(A:Option Addr)(c:Nat)(l:List Int)(w:World)(hl:IL w A c l)(_ht:t<=9223372036854775807)(hlen:t+l.length<=9223372036854775807)(hd:I64 d) :
 Calls Tryz.prog 53 #[.slice T t tc,.agg #[.int .i64 a,.int .i64 d,.slice A l.length c]] w (RetV (.int .i64 (editErr t a d l)) w):=by
 obtain⟨d1,d2⟩:=hd;by_cases h1:a<0
 ·exact E14z2
 by_cases h2:d<0
 ·exact E14z2
 by_cases h3:(t:Int)<a
 ·exact E14z2
 by_cases h4:(t:Int)-a<d
 ·exact E14z2
 have hx:=Ext.alloc w (.cells #[.int .i64 a,.int .i64 d,.slice A l.length c] 102);obtain⟨a1,a2⟩:=hl.len;go_enter Tryz.func53,Tryz.ntmps53
 go_wp2
 go_loopw [5] (fun i wr=>∃k:Nat,k<=l.length/\i=.int .i64 k/\Hid ((l.take k).all symOk=true)/\wr=w.alloc (.cells #[.int .i64 a,.int .i64 d,.slice A l.length c] 102)) (fun i _=>l.length-(intOf i).toNat)
 case atStart=>exact⟨0,Nat.zero_le _,rfl,rfl,rfl⟩
 case round=>
  obtain⟨k,hk,rfl,ht',rfl⟩:=hrel;by_cases hlt:k<l.length
  ·obtain⟨p1,o1,rfl,g1⟩:=hl.get hlt;have hb:=World.block_lt_of_cell? _ _ g1;have hlt2:(k:Int)<l.length:=om
   cases hs:symOk l[k] with
   | false=>
    have hbad:=all_bad l k hlt hs;have e:editErr t a d l=5:=by unfold editErr;rw[if_pos om,hbad];rfl
    have hs2:=symOk_f hs;have E:=lh e;clear e hs hbad;generalize l[k]=x at *;by_cases hx0:x<0
    ·go_wp2
     go_ret
     exact⟨by rw[E.out];rfl,hx⟩
    ·have hx1:1114111<x:=om
     go_wp2
     go_ret
     exact⟨by rw[E.out];rfl,hx⟩
   | true=>
    have hs2:=lh (all_take_succ l k hlt ht'.out hs);obtain⟨g2,g3⟩:=symOk_t hs;clear hs ht'
    go_wp2
    go_roundw
    case rel=>exact⟨k+1,om,by go_num,hs2,trivial⟩
    case measure=>simp[intOf];omega
  ·have hall:=ht'.out;rw[List.take_of_length_le om] at hall;by_cases h5:65536<(t:Int)-d+l.length
   ·have e:editErr t a d l=4:=by unfold editErr;rw[if_pos om,if_pos hall,if_pos h5]
    have E:=lh e;clear e hall ht'
    go_wp2
    go_ret
    exact⟨by rw[E.out];rfl,hx⟩
   ·have e:editErr t a d l=0:=by unfold editErr;rw[if_pos om,if_pos hall,if_neg h5]
    have E:=lh e;clear e hall ht'
    go_wp2
    go_ret
    exact⟨by rw[E.out];rfl,hx⟩
def growW (w:World)(n:Nat):World:=w.drew.alloc (.cells (Builtin.zeroCells (Value.int .i64 0).cells n++Builtin.zeroCells (Value.int .i64 0).cells (grownCap w n 0 3-n)) 3)
def growC (w:World)(n:Nat):Nat:=grownCap w n 0 3
theorem growC_bd (w:World)(n:Nat)(h:n<=1099511627776):n<=growC w n/\growC w n<=9223372036854775807:=
 ⟨grownCap_ge w n 0 _,by have:=grownCap_le_maxLen w n 0 3 um;unfold maxLen at this;unfold growC;omega⟩
theorem growW_run (w:World)(n:Nat)(h:0<n/\n<=1099511627776) :
 (Builtin.append_ #[22,3] 22 #[.slice none 0 0,.int .i64 n]).run Tryz.prog w=.ok (.slice (some ⟨w.heap.size,0,none⟩) n (growC w n)) (growW w n):=by
 obtain⟨i0,hi0,hz0,hz1,hz2⟩:=info_parts infoInt;exact Lib.run_append_nil_zeros (P:=Tryz.prog) w 22 3 22 3 i0 (.int .i64 0) .i64 .i64 Tryz.underlying22 Tryz.underlying3 hi0 hz0 n om om om (by rw[hz2];omega)
theorem growW_ext (w:World)(n:Nat):Ext w (growW w n):=(Ext.drew w).trans (Ext.alloc w.drew _)
theorem growW_own (w:World)(n:Nat)(h:n<=1099511627776):OwnS (growW w n) w.heap.size 3 1 (some ⟨w.heap.size,0,none⟩) 0 (growC w n) []:=by
 have hb:=growC_bd w n h;have hS:(Builtin.zeroCells (Value.int .i64 0).cells n++Builtin.zeroCells (Value.int .i64 0).cells (growC w n-n)).size=growC w n*1:=by
  simp[Builtin.zeroCells,Value.cells];omega
 have h1:=OwnS.of_blk (base:=w.heap.size) (c:=growC w n) (n:=0) (Blk.new w.drew 3 (Builtin.zeroCells (Value.int .i64 0).cells n++Builtin.zeroCells (Value.int .i64 0).cells (growC w n-n))) (Nat.le_refl _) hS (Nat.zero_le _) um;have h2:OwnS (w.drew.alloc (.cells (Builtin.zeroCells (Value.int .i64 0).cells n++Builtin.zeroCells (Value.int .i64 0).cells (growC w n-n)) 3)) w.heap.size 3 1 (some ⟨w.heap.size,0,none⟩) 0 (growC w n) []:=by simpa using h1
 exact h2
theorem grow_nil (n:Nat)(w:World)(hn:n<=1099511627776) :
 Calls Tryz.prog 138 #[.slice none 0 0,.int .i64 n] w fun e w'=>∃A c,e=.returned (.slice A 0 c)/\OwnI w' w.heap.size 3 A c []/\Ext w w':=by
 by_cases h0:n=0
 ·subst h0;go_enter Tryz.func138,Tryz.ntmps138
  go_wp2
  go_ret
  exact⟨none,0,rfl,OwnS.nil _ _ _ _,Ext.rfl' _⟩
 ·have hn0:(0:Int)<n:=om;have hnI:(n:Int)<=9223372036854775807:=om;have HB:=lh (show 0<n/\n<=1099511627776 by omega);obtain⟨hge,hle⟩:=growC_bd w n hn;clear h0 hn;go_enter Tryz.func138,Tryz.ntmps138
  go_wp2_with ((at_builtin;refine Lib.wpList_append_run _ rfl _ _ _ _ rfl _ _ rfl rfl _ _ (growW_run w n HB.out) ?_))
  go_ret
  exact⟨_,_,rfl,growW_own w n HB.out.2,growW_ext w n⟩
structure LL (w:World)(A:Option Addr)(c:Nat)(xss:List (List Int)):Prop where
 le:xss.length<=c
 cap:c<=maxLen
 at_:xss≠[]->∃b o,A=some ⟨b,o,none⟩/\∀i (h:i<xss.length),∃B d,w.cell? ⟨b,o+i,none⟩=some (.slice B xss[i].length d)/\IL w B d xss[i]
theorem LL.get {w:World}{A:Option Addr}{c:Nat}{xss:List (List Int)}(h:LL w A c xss){k:Nat}(hk:k<xss.length) :
 ∃b o B d,A=some ⟨b,o,none⟩/\w.cell? ⟨b,o+k,none⟩=some (.slice B xss[k].length d)/\IL w B d xss[k]:=by
 obtain⟨b,o,rfl,hc⟩:=h.at_ (by intro h0;subst h0;simp at hk);obtain⟨B,d,h1,h2⟩:=hc k hk;exact⟨b,o,B,d,rfl,h1,h2⟩
theorem LL.three {w:World}{g T:Nat}{A B C:Option Addr}{a b c:Nat}{x y z:List Int}
 (h:Blk w g T #[.slice A x.length a,.slice B y.length b,.slice C z.length c]) (hx:IL w A a x) (hy:IL w B b y) (hz:IL w C c z):LL w (some ⟨g,0,none⟩) 3 [x,y,z]:=
 ⟨by simp,by unfold maxLen;omega,fun _=>⟨g,0,rfl,fun i hi=>by
  match i,hi with
  | 0,_=>exact⟨A,a,h.cell 0,hx⟩
  | 1,_=>exact⟨B,b,h.cell 1,hy⟩
  | 2,_=>exact⟨C,c,h.cell 2,hz⟩⟩⟩
theorem flatten_take_succ (xss:List (List Int))(k:Nat)(h:k<xss.length):(xss.take (k+1)).flatten=(xss.take k).flatten++xss[k]:=by
 rw[List.take_succ_eq_append_getElem h,List.flatten_append];simp
theorem flatten_take_le (xss:List (List Int))(k:Nat):(xss.take k).flatten.length<=xss.flatten.length:=by
 conv=>rhs;rw[<-List.take_append_drop k xss,List.flatten_append,List.length_append]
 omega
def lenTo (xss:List (List Int))(k:Nat):Nat:=(xss.take k).flatten.length
theorem lenTo_succ (xss:List (List Int))(k:Nat)(h:k<xss.length):lenTo xss (k+1)=lenTo xss k+xss[k].length:=by
 unfold lenTo;rw[flatten_take_succ xss k h,List.length_append]
theorem lenTo_le (xss:List (List Int))(k:Nat):lenTo xss k<=xss.flatten.length:=flatten_take_le xss k
theorem lenTo_all (xss:List (List Int)):lenTo xss xss.length=xss.flatten.length:=by unfold lenTo;rw[List.take_length]
theorem OwnS.lower {w:World}{base base' e size n c:Nat}{A:Option Addr}{xs:List Value}(h:OwnS w base e size A n c xs)(hb:base'<=base):OwnS w base' e size A n c xs:=by
 refine⟨h.1,?_⟩;rcases h.2 with h|⟨g,cap,cur,h1,h2,h3⟩
 ·exact Or.inl h
 ·exact Or.inr ⟨g,cap,cur,h1,Nat.le_trans hb h2,h3⟩
theorem concat_any (A:Option Addr)(c:Nat)(xss:List (List Int))(w:World)(hl:LL w A c xss)(hb:xss.flatten.length<=1099511627776) :
 Calls Tryz.prog 98 #[.slice A xss.length c] w (RetIL xss.flatten w):=by
 obtain⟨i0,hi0,hz0,hz1,hz2⟩:=info_parts infoInt;obtain⟨a1,a2⟩:=(⟨hl.le,by have:=hl.cap;unfold maxLen at this;omega⟩:xss.length<=c/\c<=9223372036854775807);have HB:=lh hb;clear hb;go_enter Tryz.func98,Tryz.ntmps98
 go_wp2
 go_loopw [3,11] (fun s i wr=>∃k:Nat,k<=xss.length/\i=.int .i64 k/\s=.int .i64 (lenTo xss k:Nat)/\Ext w wr) (fun _ i _=>xss.length-(intOf i).toNat)
 case atStart=>exact⟨0,Nat.zero_le _,rfl,rfl,Ext.rfl' _⟩
 case round=>
  obtain⟨k,hk,rfl,rfl,hext⟩:=hrel;by_cases hlt:k<xss.length
  ·obtain⟨p1,o1,B,d,rfl,g1,i1⟩:=hl.get hlt;replace g1:=hext.cell g1;have hb1:=World.block_lt_of_cell? _ _ g1;have hlt2:(k:Int)<xss.length:=om;have hs:=lenTo_succ xss k hlt;have hs2:=lenTo_le xss (k+1);have hB:=HB.out;have hs3:(lenTo xss k:Int)+(xss[k].length:Int)<=1099511627776:=om;have hqm:((lenTo xss k:Int)+(xss[k].length:Int))=((lenTo xss (k+1):Nat):Int):=om;have HQ:=lh hqm;clear hB hs2 hs hqm;generalize xss[k].length=m at *;generalize lenTo xss k=q at *;have hneg:¬((q:Int)+(m:Int)<0):=om;have hneg2:0<=(q:Int)+(m:Int):=om
   go_wp2
   go_roundw
   case rel=>exact⟨k+1,om,by go_num,by rw[<-HQ.out],hext⟩
   case measure=>simp[intOf];omega
  ·have hk':k=xss.length:=om;subst hk';have hN:=lenTo_all xss;have hB:=HB.out
   rw[<-hN] at hB;have HN:=lh hN;have HG:=lh hB;clear hN hB
   go_wp2_with fail
   refine(grow_nil (lenTo xss xss.length) _ HG.out).mono ?_;rintro e w1 ⟨A1,c1,rfl,ho,hx⟩;replace ho:OwnI w1 w.heap.size 3 A1 c1 []:=OwnS.lower ho hext.size;replace hext:=hext.trans hx;clear hx HG
   go_wp2
   go_loopw [6,27] (fun v i wr=>∃(k:Nat) (A':Option Addr) (c':Nat),k<=xss.length/\i=.int .i64 k/\v=.slice A' (lenTo xss k) c'/\OwnI wr w.heap.size 3 A' c' (xss.take k).flatten/\Ext w wr) (fun _ i _=>xss.length-(intOf i).toNat)
   case atStart=>exact⟨0,A1,c1,Nat.zero_le _,rfl,rfl,ho,hext⟩
   case round=>
    clear ho hext;obtain⟨k,A',c',hk,rfl,rfl,hown,hext⟩:=hrel;by_cases hlt:k<xss.length
    ·obtain⟨p1,o1,B,d,rfl,g1,i1⟩:=hl.get hlt;replace g1:=hext.cell g1;replace i1:=i1.ext hext;have hb1:=World.block_lt_of_cell? _ _ g1;have hlt2:(k:Int)<xss.length:=om;have hs:=flatten_take_succ xss k hlt;have hs2:=lenTo_le xss (k+1);have hs3:=lenTo_succ xss k hlt;have hB:=HB.out;have hzl:lenTo xss k=(xss.take k).flatten.length:=rfl;have H63:=lh (show lenTo xss k+xss[k].length<=maxLen by unfold maxLen;omega);have H8:=lh (show(lenTo xss k+xss[k].length)*8<=140737488355328 by omega);have HCL:=lh i1.cells;have H1:=lh (ints_one xss[k]);have HSZ:=lh hext.size;have HS:=lh hs;have HS3:=lh hs3;have HO:=lh hown;unfold OwnI at HO
     rw[<-hzl] at HO;clear hs hs3 hs2 i1 hown hB hzl;generalize xss[k]=ys at *;generalize (xss.take k).flatten=zs at *;generalize hq:lenTo xss k=q at *;clear hq
     go_wp2_with ((at_builtin;refine wpList_app _ rfl _ _ _ rfl w.heap.size 3 i0 (.int .i64 0) 1 8 Tryz.underlying22 hi0 hz0 hz1 hz2 rfl om _ q c' (zs.map (Value.int .i64)) rfl HO.out _ ys.length d (ys.map (Value.int .i64)) rfl si HCL.out H1.out H63.out H8.out HSZ.out ?_;intro A2 c2 w2 hown2 hg2 _))
     have hx2:=hext.app HO.out hg2;go_roundw
     case rel=>exact⟨k+1,A2,c2,om,by go_num,by rw[HS3.out],by have h9:=HS3.out;unfold lenTo at h9;unfold OwnI;rw[h9,HS.out,List.map_append];exact hown2,hx2⟩
     case measure=>simp[intOf];omega
    ·have hk':k=xss.length:=om;subst hk';rw[List.take_length] at hown;have hrng:∀x∈xss.flatten,I64 x:=by
      intro x hx;obtain⟨l,hl1,hl2⟩:=List.mem_flatten.1 hx;obtain⟨j,hj,rfl⟩:=List.getElem_of_mem hl1;obtain⟨_,_,B,d,_,_,i1⟩:=hl.get hj;exact i1.rng x hl2
     have HO:=lh hown;have HR:=lh hrng;clear hown hrng
     go_wp2
     go_ret
     exact⟨A',c',by rw[<-HN.out];rfl,IL.of_own HO.out HR.out,hext,OwnS.row HO.out⟩
end
section
open Go.RowKit
attribute [local go_sem ↓] Go.wp_at_zero Go.wp_at_succ
theorem IL.take {w:World}{A:Option Addr}{c:Nat}{xs:List Int}(h:IL w A c xs)(j:Nat):IL w A c (xs.take j):=by
 have h1:=h.le;refine⟨by simp;omega,h.cap,fun x hx=>h.rng x (List.mem_of_mem_take hx),fun hn=>?_⟩;obtain⟨b,o,rfl,hc⟩:=h.at_ (by rintro rfl;simp at hn);refine⟨b,o,rfl,fun i hi=>?_⟩;rw[List.getElem_take];exact hc i (by simp at hi;omega)
theorem IL.drop {w:World}{A:Option Addr}{c k:Nat}{xs:List Int}(h:IL w A c xs)(hk:k<=xs.length):IL w (A.map (fun x=>x.add k)) (c-k) (xs.drop k):=by
 have h1:=IL.cut_in h (k:=k) (j:=xs.length) hk (Nat.le_refl _)
 rwa [List.take_of_length_le si] at h1
theorem IL.drop_end {w:World}{A:Option Addr}{c k:Nat}{xs:List Int}(h:IL w A c xs)(hk:c=k):IL w A 0 (xs.drop k):=by
 have h1:=IL.cut_end h (j:=xs.length) hk
 rwa [List.take_of_length_le si] at h1
def RetSp (xs:List Int)(err:Int)(w:World)(r:Ending)(w':World):Prop:=
 ∃A c,r=.returned (.tuple #[.slice A xs.length c,.int .i64 err])/\IL w' A c xs/\Ext w w'/\Fr w A
def spliceL (t:List Int)(a d:Int)(l:List Int):List Int:=t.take a.toNat++l++t.drop (a+d).toNat
theorem editErr_ok {n:Nat}{a d:Int}{l:List Int}(h:editErr n a d l=0):0<=a/\0<=d/\a+d<=n/\l.all symOk=true/\(n:Int)-d+l.length<=65536:=by
 unfold editErr at h
 split at h
 ·split at h
  ·split at h
   ·omega
   ·refine⟨om,om,om,by assumption,om⟩
  ·omega
 ·omega
theorem splice_no (T:Option Addr)(tc:Nat)(t:List Int)(a d:Int)(A:Option Addr)(c:Nat)(l:List Int)(w:World)(_ht:IL w T tc t)(hl:IL w A c l)(hd:I64 d)
 (hlen:t.length<=1099511627776) (hlen2:l.length<=1099511627776) (he:editErr t.length a d l≠0) :
 Calls Tryz.prog 95 #[.slice T t.length tc,.agg #[.int .i64 a,.int .i64 d,.slice A l.length c]] w (RetSp [] (editErr t.length a d l) w):=by
 have hx:=Ext.alloc w (.cells #[.int .i64 a,.int .i64 d,.slice A l.length c] 102);have HC:=lh (tcheck_any T t.length tc a d A c l _ (hl.ext hx) om om hd);generalize editErr t.length a d l=er at *;clear hlen hlen2;go_enter Tryz.func95,Tryz.ntmps95
 go_wp2_with fail
 refine HC.out.mono ?_;rintro e w1 ⟨rfl,hx1⟩
 go_wp2
 exact bodyPost_ret (v:=.tuple #[.slice none 0 0,.int .i64 er]) (by simp[results,Tryz.results95,go_sem]) rfl ⟨none,0,rfl,IL.nil _,hx.trans hx1,Fr.nil _⟩
theorem E15z1 {P:Prop} (h:P:=by
 have HCC:=lh (concat_any _ _ _ _ hLL HLL.out)
 rw[<-HSL.out] at HCC;clear hLL;go_simp;refine HCC.out.mono ?_;rintro e w8 ⟨C,cc,rfl,hil,hx8,hfr⟩;refine hKK _ _ (WI_ext hx8) (hK7.ext hx8) ?_;clear hKK;refine ptm ?_;refine Xtk 15 ?_;refine Xtn ?_;refine Xdn fun w9 hE9 hK9=>?_
 go_wp2
 exact bodyPost_ret (v:=.tuple #[.slice C (spliceL t an dn l).length cc,.int .i64 0]) (by simp[results,Tryz.results95,go_sem]) rfl ⟨C,cc,rfl,hil.ext hE9,hx.trans hK9.nil,hfr.mono X7⟩):P:=h
theorem splice_ok (T:Option Addr)(tc:Nat)(t:List Int)(a d:Int)(A:Option Addr)(c:Nat)(l:List Int)(w:World)(ht:IL w T tc t)(hl:IL w A c l)(hd:I64 d)
 (hlen:t.length<=1099511627776) (hlen2:l.length<=1099511627776) (he:editErr t.length a d l=0) :
 Calls Tryz.prog 95 #[.slice T t.length tc,.agg #[.int .i64 a,.int .i64 d,.slice A l.length c]] w (RetSp (spliceL t a d l) 0 w):=by
 obtain⟨e1,e2,e3,e4,e5⟩:=editErr_ok he;obtain⟨an,rfl⟩:∃n:Nat,a=n:=⟨a.toNat,om⟩;obtain⟨dn,rfl⟩:∃n:Nat,d=n:=⟨d.toNat,om⟩;obtain⟨m,hm⟩:∃m:Nat,(an:Int)+(dn:Int)=(m:Int):=⟨an+dn,om⟩;have hx:=Ext.alloc w (.cells #[.int .i64 an,.int .i64 dn,.slice A l.length c] 102);have HC:=lh (tcheck_any T t.length tc an dn A c l _ (hl.ext hx) om om hd);rw[he] at HC;have hb:=Blk.new w 102 #[.int .i64 an,.int .i64 dn,.slice A l.length c];obtain⟨a1,a2⟩:=ht.len;have hsl:spliceL t an dn l=[t.take an,l,t.drop m].flatten:=by simp[spliceL,hm]
 have hll:[t.take an,l,t.drop m].flatten.length<=1099511627776:=by simp;omega
 have HSL:=lh hsl;have HLL:=lh hll;have g1:(m:Int)<=1099511627776:=om;have g2:m<=t.length:=om;have g3:an<=t.length:=om;have g4:an<=tc:=om;have g5:m<=tc:=om;have HT:=lh (show(t.take an).length=an/\(t.drop m).length=t.length-m by simp;omega);clear hlen hlen2 he e1 e2 e4 e5 hsl hll hd;have hg1:(an:Int)+dn<=1099511627776:=om;have hwm:IntKind.i64.wrap (m:Int)=(m:Int):=wj;have g6:(m:Int)<=t.length:=om;by_cases hc:tc=m
 ·subst hc;go_enter Tryz.func95,Tryz.ntmps95
  go_wp2_with fail
  refine HC.out.mono ?_;rintro e w1 ⟨rfl,hx1⟩;replace hx:=hx.trans hx1;obtain⟨p0,p1,p2,_,_,_,pz⟩:=(hb.ext hx1).c3;have kp0:=kc0 p0;have kp1:=kc0 p1;have kp2:=kc0 p2
  go_wp2_with fail
  refine Xr.start [] kr ?_;refine Xtk 0 ?_
  iterate 12(refine Xtn ?_)
  refine Xr.lazy 13 26 14 (fun g=>.slice (some ⟨g,0,none⟩) 3 3) 22 #[.slice T an tc,.slice A l.length c,.slice T (t.length-tc) 0] rfl si dK si (fun w'=>by go_simp) ?_;refine Xr.stepZ rfl dK (fun _=>by rfl) (fun w7 g hE7 hK7 hg hB _ K hKK=>?_);refine ptm ?_;have X7:=hx.trans hK7.nil;have hLL:LL w7 (some ⟨g,0,none⟩) 3 [t.take an,l,t.drop tc]:=LL.three (by rw[HT.out.1,HT.out.2];exact hB) ((ht.ext X7).take an) (hl.ext X7) ((ht.ext X7).drop_end rfl);exact E15z1
 ·have hci:(tc:Int)≠m:=om;go_enter Tryz.func95,Tryz.ntmps95
  go_wp2_with fail
  refine HC.out.mono ?_;rintro e w1 ⟨rfl,hx1⟩;replace hx:=hx.trans hx1;obtain⟨p0,p1,p2,_,_,_,pz⟩:=(hb.ext hx1).c3;have kp0:=kc0 p0;have kp1:=kc0 p1;have kp2:=kc0 p2
  go_wp2_with fail
  refine Xr.start [] kr ?_;refine Xtk 0 ?_
  iterate 12(refine Xtn ?_)
  refine Xr.lazy 13 26 14 (fun g=>.slice (some ⟨g,0,none⟩) 3 3) 22 #[.slice T an tc,.slice A l.length c,.slice (T.map (fun x=>x.add m)) (t.length-m) (tc-m)] rfl si dK si (fun w'=>by go_simp) ?_;refine Xr.stepZ rfl dK (fun _=>by rfl) (fun w7 g hE7 hK7 hg hB _ K hKK=>?_);refine ptm ?_;have X7:=hx.trans hK7.nil;have hLL:LL w7 (some ⟨g,0,none⟩) 3 [t.take an,l,t.drop m]:=LL.three (by rw[HT.out.1,HT.out.2];exact hB) ((ht.ext X7).take an) (hl.ext X7) ((ht.ext X7).drop g2);exact E15z1
end
section
open Go.RowKit
def InsOk (runes:Bool)(caps:Int)(n:Nat)(i:Ins):Prop:=
 (i.op=1\/i.set=[])/\(i.op=2\/i.y=0)/\(i.op=2\/i.op=3\/i.x=0)/\(i.op=4\/i.op=5\/i.n=0)/\
 (i.op=0\/(i.op=1/\validE i.set=0/\∀s,i.set.getLast? = some s->s.2<=topV runes)\/(i.op=2/\(0<=i.x/\i.x<n)/\0<=i.y/\i.y<n)\/(i.op=3/\0<=i.x/\i.x<n)\/
  (i.op=4/\0<=i.n/\i.n<2*caps)\/(i.op=5/\0<=i.n/\i.n<=5))
open Classical in
noncomputable def progE (runes:Bool) (caps:Int) (G:List Ins):Int:=
 if 8192<G.length then 4 else if G.length=0\/caps<0\/9<caps then 1 else if ∀i∈G,InsOk runes caps G.length i then
  (match G.getLast? with|some i=>if i.op=0\/i.op=2\/i.op=3 then 0 else 1|none=>1) else 1
open Classical in
noncomputable def chkE (runes:Bool) (caps:Int) (G:List Ins):Int:=
 if progE runes caps G≠0 then progE runes caps G else if ∃i∈G,i.op=5 then 10 else 0
theorem progE_big {runes:Bool}{caps:Int}{G:List Ins}(h:8192<G.length):progE runes caps G=4:=by unfold progE;rw[if_pos h]
theorem progE_arg {runes:Bool}{caps:Int}{G:List Ins}(h:¬8192<G.length)(h2:G.length=0\/caps<0\/9<caps):progE runes caps G=1:=by unfold progE;rw[if_neg h,if_pos h2]
theorem progE_bad {runes:Bool}{caps:Int}{G:List Ins}(h:¬8192<G.length)(h2:¬(G.length=0\/caps<0\/9<caps)){k:Nat}(hk:k<G.length)(h3:¬InsOk runes caps G.length G[k]):progE runes caps G=1:=by
 unfold progE;rw[if_neg h,if_neg h2,if_neg (fun h4=>h3 (h4 _ (List.getElem_mem hk)))]
theorem progE_end {runes:Bool}{caps:Int}{G:List Ins}(h:¬8192<G.length)(h2:¬(G.length=0\/caps<0\/9<caps))(h3:∀k (hk:k<G.length),InsOk runes caps G.length G[k])(hl:G.length-1<G.length) :
 progE runes caps G=if G[G.length-1].op=0\/G[G.length-1].op=2\/G[G.length-1].op=3 then 0 else 1:=by
 unfold progE;rw[if_neg h,if_neg h2,if_pos (fun i hi=>by obtain⟨k,hk,rfl⟩:=List.mem_iff_getElem.1 hi;exact h3 k hk),List.getLast?_eq_getElem?,List.getElem?_eq_getElem hl]
structure GOk (runes:Bool)(caps:Int)(G:List Ins):Prop where
 len:0<G.length/\G.length<=8192
 cap9:0<=caps/\caps<=9
 ins:∀k (hk:k<G.length),InsOk runes caps G.length G[k]
 last:∀hl:G.length-1<G.length,G[G.length-1].op=0\/G[G.length-1].op=2\/G[G.length-1].op=3
 plain:∀k (hk:k<G.length),G[k].op≠5
theorem chkE_zero {runes:Bool}{caps:Int}{G:List Ins}(h:chkE runes caps G=0):GOk runes caps G:=by
 unfold chkE at h
 split at h
 ·contradiction
 ·rename_i hp
  have hp:progE runes caps G=0:=Classical.not_not.1 hp
  split at h
  ·cases h
  ·rename_i hn
   unfold progE at hp
   split at hp
   ·cases hp
   ·split at hp
    ·cases hp
    ·split at hp
     ·rename_i h1 h2 h3
      refine⟨om,om,fun k hk=>h3 _ (List.getElem_mem hk),fun hl=>?_,fun k hk e=>hn ⟨_,List.getElem_mem hk,e⟩⟩;rw[List.getLast?_eq_getElem?,List.getElem?_eq_getElem hl] at hp
      simp only at hp
      split at hp
      ·assumption
      ·cases hp
     ·cases hp
namespace GOk
variable {runes:Bool} {caps:Int} {G:List Ins}
theorem op (h:GOk runes caps G){k:Nat}(hk:k<G.length):G[k].op=0\/G[k].op=1\/G[k].op=2\/G[k].op=3\/G[k].op=4:=by
 have h1:=(h.ins k hk).2.2.2.2;have h2:=h.plain k hk;omega
theorem next (h:GOk runes caps G){k:Nat}(hk:k<G.length)(ho:G[k].op=1\/G[k].op=4):k+1<G.length:=by
 rcases Nat.lt_or_ge (k+1) G.length with h1|h1
 ·exact h1
 ·have e:G.length-1=k:=om;have h2:=h.last om;have h3:G[G.length-1]'om=G[k]:=by congr 1
  rw[h3] at h2;omega
theorem jump (h:GOk runes caps G){k:Nat}(hk:k<G.length)(ho:G[k].op=2\/G[k].op=3):∃x:Nat,G[k].x=x/\x<G.length:=by
 have h1:=(h.ins k hk).2.2.2.2;exact⟨G[k].x.toNat,om,om⟩
theorem jump2 (h:GOk runes caps G){k:Nat}(hk:k<G.length)(ho:G[k].op=2):∃y:Nat,G[k].y=y/\y<G.length:=by
 have h1:=(h.ins k hk).2.2.2.2;exact⟨G[k].y.toNat,om,om⟩
end GOk
end
section
open Go.RowKit
attribute [local go_sem ↓] Go.wp_at_zero Go.wp_at_succ
theorem has_any (A:Option Addr)(c:Nat)(xs:List Int)(n:Int)(w:World)(ha:IL w A c xs) :
 Calls Tryz.prog 108 #[.slice A xs.length c,.int .i64 n] w (RetQ (.bool (decide (n∈xs))) w):=by
 obtain⟨a1,a2⟩:=ha.len;go_enter Tryz.func108,Tryz.ntmps108
 go_wp2
 go_loopw [5] (fun i wr=>∃k:Nat,k<=xs.length/\i=.int .i64 k/\Hid (n∉xs.take k)/\∃m,wr=w.drewN m) (fun i _=>xs.length-(intOf i).toNat)
 case atStart=>exact⟨0,Nat.zero_le _,rfl,lh si,0,rfl⟩
 case round=>
  obtain⟨k,hk,rfl,ht,m,rfl⟩:=hrel;by_cases hlt:k<xs.length
  ·obtain⟨p1,o1,rfl,g1⟩:=ha.get hlt;have hlt2:(k:Int)<xs.length:=om;by_cases he:xs[k]=n
   ·have he':(xs[k] == n)=true:=by simp[he]
    have HN:=lh (show decide (n∈xs)=true from decide_eq_true (he▸List.getElem_mem hlt));clear he
    go_wp2_with (go_quiet (fail))
    go_ret
    exact⟨by rw[HN.out];rfl,_,rfl⟩
   ·have he':(xs[k] == n)=false:=by simp[he]
    have HT:=lh (show n∉xs.take (k+1) by
     rw[List.take_succ_eq_append_getElem hlt];simp only[List.mem_append,List.mem_singleton,not_or];exact⟨ht.out,fun e=>he e.symm⟩)
    clear he
    go_wp2_with (go_quiet (fail))
    go_roundw
    case rel=>exact⟨k+1,om,by go_num,HT,_,rfl⟩
    case measure=>simp[intOf];omega
  ·have HN:=lh (show decide (n∈xs)=false from decide_eq_false (by
    have:=ht.out
    rwa [List.take_of_length_le om] at this))
   go_wp2
   go_ret
   exact⟨by rw[HN.out];rfl,_,rfl⟩
def castL (l:List Nat):List Int:=l.map (fun(n:Nat)=>(n:Int))
theorem castL_len (l:List Nat):(castL l).length=l.length:=by simp[castL]
theorem castL_snoc (l:List Nat)(n:Nat):castL (l++[n])=castL l++[(n:Int)]:=by simp[castL]
def insL (hs:List Hin):List Ins:=hs.map Hin.ins
theorem insL_len (hs:List Hin):(insL hs).length=hs.length:=by simp[insL]
theorem insL_get {hs:List Hin}{k:Nat}(hk:k<hs.length):(insL hs)[k]? = some hs[k].ins:=by simp[insL,hk]
theorem insL_getElem {hs:List Hin}{k:Nat}(hk:k<(insL hs).length):(insL hs)[k]=(hs[k]'(by rw[insL_len] at hk;exact hk)).ins:=by simp[insL]
theorem KpP.chain {p q:Nat->Prop}{a b c:World}(h:KpP p a b)(k:KpP q b c)(hq:∀i,q i->p i\/a.heap.size<=i):KpP p a c:=
 ⟨k.os.trans h.os,k.tape.trans h.tape,k.output.trans h.output,Nat.le_trans h.size k.size,fun i hi hn=>(k.block i (Nat.lt_of_lt_of_le hi h.size) (fun hm=>by
  rcases hq i hm with h1|h1
  ·exact hn h1
  ·omega)).trans (h.block i hi hn)⟩
theorem Ext.thenP {p:Nat->Prop}{a b c:World}(h:Ext a b)(k:KpP p b c)(hp:∀i,p i->a.heap.size<=i):Ext a c:=
 ⟨k.os.trans h.os,k.tape.trans h.tape,k.output.trans h.output,Nat.le_trans h.size k.size,fun i hi=>(k.block i (Nat.lt_of_lt_of_le hi h.size) (fun hm=>by have:=hp i hm;omega)).trans (h.block i hi)⟩
def two (A B:Option Addr)(b:Nat):Prop:=A.map (·.block)=some b\/B.map (·.block)=some b
structure AddR (a0 w:World)(A0 B0:Option Addr)(L1 L2:List Int)(A:Option Addr)(c:Nat)(B:Option Addr)(d:Nat)(w':World):Prop where
 l:OwnI w' a0.heap.size 3 A c L1
 s:OwnI w' a0.heap.size 3 B d L2
 ap:∀b,A.map (·.block)=some b->B.map (·.block)≠some b
 kp:KpP (two A0 B0) w w'
 na:∀b,A.map (·.block)=some b->A0.map (·.block)=some b\/w.heap.size<=b
 nb:∀b,B.map (·.block)=some b->B0.map (·.block)=some b\/w.heap.size<=b
def progV (gA:Option Addr)(n gc:Nat)(caps:Int)(runes:Bool):Value:=.agg #[.slice gA n gc,.int .i64 caps,.bool runes]
theorem infoNk:(Tryz.prog.info? 3).map (fun i=>(i.zero,i.size,i.bytes))=some (some (.int .i64 0),1,8):=by kernel_rfl
end
section
open Go.RowKit
def SetE (E:List Int)(l:List Sp):Prop:=l.length<=3/\∀s∈l,s.1∈E/\s.2+1∈E
def rimE:List Int:=[0,10,97,98,99,100,256,11]
theorem SetE.nil (E:List Int):SetE E []:=⟨by simp,by simp⟩
theorem setE_of {l:List Sp}(h:SetOk l):SetE rimE l:=by
 refine⟨by have:=h.1;omega,fun s hs=>?_⟩;obtain⟨⟨h1,h2⟩,_⟩:=h.2 s hs;constructor
 ·revert h1;simp only[rimE,List.mem_cons,List.not_mem_nil,or_false];omega
 ·revert h2;simp only[rimE,List.mem_cons,List.not_mem_nil,or_false];omega
def HinOk (w0:World)(h:Hin):Prop:=h.wf/\SL w0 h.A h.c h.l/\SetE rimE h.l
structure CdI (w0 base w:World)(T:Nat)(A:Option Addr)(c:Nat)(hs:List Hin):Prop where
 own:OwnS w base.heap.size T 5 A hs.length c (flatN hs)
 ok:∀h∈hs,HinOk w0 h
 ext:Ext base w
theorem mul_step (B i:Nat):B*(i+1)=B*i+B:=Nat.mul_succ B i
theorem mul_le2 {B i j:Nat}(h:i<=j):B*i<=B*j:=Nat.mul_le_mul_left B h
def Hin.putI (h:Hin)(f:Nat)(v:Int):Hin:=match f with
 | 0=>{ h with op:=v }
 | 1=>{ h with x:=v }
 | 2=>{ h with y:=v }
 | _=>{ h with n:=v }
theorem flatN_cons (h:Hin)(hs:List Hin):flatN (h::hs)=.int .i64 h.op::.int .i64 h.x::.int .i64 h.y::.int .i64 h.n::.slice h.A h.l.length h.c::flatN hs:=rfl
theorem flatN_setI:∀(hs:List Hin) (i f:Nat) (v:Int) (hi:i<hs.length),f<4->(flatN hs).set (i*5+f) (.int .i64 v)=flatN (hs.set i (hs[i].putI f v))
 | [],i,f,v,hi,_=>by simp at hi
 | h::hs,0,f,v,_,hf=>by
  have h4:f=0\/f=1\/f=2\/f=3:=om;rcases h4 with rfl|rfl|rfl|rfl<;>simp[flatN_cons,Hin.putI]
 | h::hs,i+1,f,v,hi,hf=>by
  have ih:=flatN_setI hs i f v (by simpa using hi) hf;have e:(i+1)*5+f=i*5+f+1+1+1+1+1:=om;rw[flatN_cons,e];simp only[List.set_cons_succ,ih,List.getElem_cons_succ,flatN_cons]
theorem putI_l (h:Hin)(f:Nat)(v:Int):(h.putI f v).l=h.l/\(h.putI f v).A=h.A/\(h.putI f v).c=h.c:=by
 unfold Hin.putI;split<;>exact⟨rfl,rfl,rfl⟩
theorem putI_wf {h:Hin}{f:Nat}{v:Int}(hw:h.wf)(hv:I64 v):(h.putI f v).wf:=by
 obtain⟨h1,h2,h3,h4⟩:=hw;unfold Hin.putI;split<;>exact⟨by assumption,by assumption,by assumption,by assumption⟩
end
end Go.Proofs.YtmocoldobnimfaaGreat
