/- Texts of this proof: R0. -/
import Derived.Test.YtmpcoifnpflapaaGreatER00
set_option linter.all false
namespace Go.Proofs.YtmpcoifnpflapaaGreat
section
inductive Sh where
 | lf (ts:List Int)
 | nd (l r:Sh)
namespace Sh
def text:Sh->List Int
 | lf ts=>ts
 | nd l r=>l.text++r.text
def hgt:Sh->Nat
 | lf _=>1
 | nd l r=>max l.hgt r.hgt+1
def Av:Sh->Prop
 | lf ts=>1<=ts.length/\ts.length<=32
 | nd l r=>Av l/\Av r/\l.hgt<=r.hgt+1/\r.hgt<=l.hgt+1
theorem hgt_pos:∀t:Sh,1<=t.hgt
 | lf _=>Nat.le_refl _
 | nd _ _=>by simp[hgt]
theorem Av.len:∀{t:Sh},Av t->1<=t.text.length
 | lf _,h=>h.1
 | nd l _,h=>by have:=Av.len h.1;simp[text];omega
theorem Av.high:∀{t:Sh},Av t->2 ^ (t.hgt-1)<=t.text.length*t.text.length
 | lf ts,h=>by
  have h1:1<=ts.length:=h.1;exact Nat.mul_le_mul h1 h1
 | nd l r,h=>by
  obtain⟨ha,hb,h1,h2⟩:=h;have ia:=Av.high ha;have ib:=Av.high hb;have pa:=ha.len;have pb:=hb.len;have qa:=hgt_pos l;have qb:=hgt_pos r;simp only[hgt,text,List.length_append];generalize l.text.length=a at *;generalize r.text.length=b at *;generalize l.hgt=x at *;generalize r.hgt=y at *;have e0:(a+b)*(a+b)=a*a+b*b+2*(a*b):=by
   rw[Nat.add_mul,Nat.mul_add,Nat.mul_add,Nat.mul_comm b a];omega
  rw[e0,Nat.add_sub_cancel];have key:∀p q u v:Nat,1<=p->1<=q->1<=v->v<=u->u<=v+1->2 ^ (u-1)<=p*p->2 ^ (v-1)<=q*q->2 ^ u<=p*p+q*q+2*(p*q):=fun p q u v hp hq hv h1 h2 e1 e2=>by
   have eu:2 ^ u=2*2 ^ (u-1):=by
    have:u=(u-1)+1:=om
    conv=>lhs;rw[this,Nat.pow_succ]
    omega
   have ev:2 ^ (u-1)<=2*2 ^ (v-1):=by
    rcases Nat.eq_or_lt_of_le h1 with h3|h3
    ·subst h3;omega
    ·have:u-1=(v-1)+1:=om;rw[this,Nat.pow_succ];omega
   have evu:2 ^ (v-1)<=2 ^ (u-1):=Nat.pow_le_pow_right om om;generalize 2 ^ (u-1)=U at *;generalize 2 ^ (v-1)=V at *;have hm:V<=p*q:=by
    rcases Nat.le_total p q with h5|h5
    ·have e3:V<=p*p:=om;exact Nat.le_trans e3 (Nat.mul_le_mul_left _ h5)
    ·exact Nat.le_trans e2 (Nat.mul_le_mul_right _ h5)
   omega
  rcases Nat.le_total x y with h3|h3
  ·rw[Nat.max_eq_right h3];have:=key b a y x pb pa qa h3 h2 ib ia;rw[Nat.mul_comm b a] at this;omega
  ·rw[Nat.max_eq_left h3];exact key a b x y pa pb qb h3 h1 ia ib
theorem Av.hgt_le {t:Sh}(h:Av t)(hl:t.text.length<=65536):t.hgt<=33:=by
 have h1:=h.high;have h2:t.text.length*t.text.length<=65536*65536:=Nat.mul_le_mul hl hl;rcases Nat.lt_or_ge 33 t.hgt with h3|h3
 ·have h4:2 ^ 33<=2 ^ (t.hgt-1):=Nat.pow_le_pow_right om om;have h5:2 ^ 33=8589934592:=by decide
  omega
 ·exact h3
def balL (l r:Sh):Sh×Nat:=
 match l with
 | nd x y=>if r.hgt+1<l.hgt then(match y with
  | nd a b=>if x.hgt<y.hgt then(nd (nd x a) (nd b r),3) else(nd x (nd y r),2)
  | lf _=>(nd x (nd y r),2)) else(nd l r,1)
 | lf _=>(nd l r,1)
def bal (l r:Sh):Sh×Nat:=
 match r with
 | nd x y=>if l.hgt+1<r.hgt then(match x with
  | nd a b=>if y.hgt<x.hgt then(nd (nd l a) (nd b y),3) else(nd (nd l x) y,2)
  | lf _=>(nd (nd l x) y,2)) else balL l r
 | lf _=>balL l r
def catF:Nat->Sh->Sh->Sh×Nat
 | 0,l,r=>(nd l r,1)
 | f+1,l,r=>
  if r.hgt+1<l.hgt then(match l with
   | nd a b=>((bal a (catF f b r).1).1,(catF f b r).2+(bal a (catF f b r).1).2)
   | lf _=>(nd l r,1))
  else if l.hgt+1<r.hgt then(match r with
   | nd a b=>((bal (catF f l a).1 b).1,(catF f l a).2+(bal (catF f l a).1 b).2)
   | lf _=>(nd l r,1))
  else(nd l r,1)
def cat (l r:Sh):Sh×Nat:=catF (l.hgt+r.hgt) l r
end Sh
open Sh
def catO:Option Sh->Option Sh->Option Sh×Nat
 | none,r=>(r,0)
 | some l,none=>(some l,0)
 | some l,some r=>(some (cat l r).1,(cat l r).2)
def txtO:Option Sh->List Int
 | none=>[]
 | some t=>t.text
def hgtO:Option Sh->Nat
 | none=>0
 | some t=>t.hgt
def AvO:Option Sh->Prop
 | none=>True
 | some t=>Av t
def hdS:Sh->Nat->Option Sh×List Int×Nat
 | lf ts,k=>(none,ts.take k,0)
 | nd l r,k=>if k<l.text.length then hdS l k else((catO (some l) (hdS r (k-l.text.length)).1).1,(hdS r (k-l.text.length)).2.1,(hdS r (k-l.text.length)).2.2+(catO (some l) (hdS r (k-l.text.length)).1).2)
def tlS:Sh->Nat->List Int×Option Sh×Nat
 | lf ts,k=>(ts.drop k,none,0)
 | nd l r,k=>if l.text.length<=k then tlS r (k-l.text.length) else((tlS l k).1,(catO (tlS l k).2.1 (some r)).1,(tlS l k).2.2+(catO (tlS l k).2.1 (some r)).2)
def hdO:Option Sh->Nat->Option Sh×List Int×Nat
 | none,_=>(none,[],0)
 | some t,k=>hdS t k
def tlO:Option Sh->Nat->List Int×Option Sh×Nat
 | none,_=>([],none,0)
 | some t,k=>tlS t k
def bldF:Nat->List Int->Nat->Sh×Nat
 | 0,ts,_=>(lf ts,1)
 | f+1,ts,L=>if L=1 then(lf ts,1) else
  (nd (bldF f (ts.take (ts.length*(L / 2) / L)) (L / 2)).1 (bldF f (ts.drop (ts.length*(L / 2) / L)) (L-L / 2)).1,(bldF f (ts.take (ts.length*(L / 2) / L)) (L / 2)).2+(bldF f (ts.drop (ts.length*(L / 2) / L)) (L-L / 2)).2+1)
def treeS (ts:List Int):Option Sh×Nat:=
 if ts=[] then(none,0) else(some (bldF ((ts.length+31) / 32) ts ((ts.length+31) / 32)).1,(bldF ((ts.length+31) / 32) ts ((ts.length+31) / 32)).2)
def edS (t:Option Sh)(k d:Nat)(ins:List Int):Option Sh×Nat:=
 let h:=hdO t k
 let l:=tlO t (k+d)
 let m:=treeS (h.2.1++ins++l.1)
 let x:=catO h.1 m.1
 let y:=catO x.1 l.2.1
 (y.1,h.2.2+l.2.2+m.2+x.2+y.2)
namespace Sh
theorem bal_ok {l r:Sh}(hl:Av l)(hr:Av r)(h1:l.hgt<=r.hgt+2)(h2:r.hgt<=l.hgt+2) :
 Av (bal l r).1/\(bal l r).1.text=l.text++r.text/\max l.hgt r.hgt<=(bal l r).1.hgt/\(bal l r).1.hgt<=max l.hgt r.hgt+1/\(l.hgt<=r.hgt+1->r.hgt<=l.hgt+1->(bal l r).1.hgt=max l.hgt r.hgt+1)/\(bal l r).2<=3:=by
 have p0:l.hgt<=r.hgt+1->r.hgt<=l.hgt+1->bal l r=(nd l r,1):=fun k1 k2=>by
  unfold bal balL
  cases r with
  | lf b=>cases l with
   | lf a=>rfl
   | nd x y=>simp only;rw[if_neg om]
  | nd u v=>simp only;rw[if_neg om];cases l with
   | lf a=>rfl
   | nd x y=>simp only;rw[if_neg om]
 by_cases hc:l.hgt+1<r.hgt
 ·cases r with
  | lf b=>simp only[hgt] at hc;have:=hgt_pos l;omega
  | nd x y=>
   obtain⟨ax,ay,b1,b2⟩:=hr;have px:=hgt_pos x;have py:=hgt_pos y;have pl:=hgt_pos l;unfold bal
   simp only
   rw[if_pos hc]
   cases x with
   | lf a=>simp only[Av,text,hgt] at *;refine⟨⟨⟨hl,ax,om,om⟩,ay,om,om⟩,by simp,om,om,om,om⟩
   | nd a b=>
    obtain⟨aa,ab,b3,b4⟩:=ax;have pa:=hgt_pos a;have pb:=hgt_pos b;by_cases hd:y.hgt<(nd a b).hgt
    ·simp only;rw[if_pos hd];simp only[Av,text,hgt] at *
     refine⟨⟨⟨hl,aa,om,om⟩,⟨ab,ay,om,om⟩,om,om⟩,by simp,om,om,om,om⟩
    ·simp only;rw[if_neg hd];simp only[Av,text,hgt] at *
     refine⟨⟨⟨hl,⟨aa,ab,b3,b4⟩,om,om⟩,ay,om,om⟩,by simp,om,om,om,om⟩
 ·by_cases hd:r.hgt+1<l.hgt
  ·have e:bal l r=balL l r:=by
    unfold bal
    cases r with
    | lf b=>rfl
    | nd u v=>simp only;rw[if_neg hc]
   rw[e]
   cases l with
   | lf b=>simp only[hgt] at hd;have:=hgt_pos r;omega
   | nd x y=>
    obtain⟨ax,ay,b1,b2⟩:=hl;have px:=hgt_pos x;have py:=hgt_pos y;have pr:=hgt_pos r;unfold balL
    simp only
    rw[if_pos hd]
    cases y with
    | lf a=>simp only[Av,text,hgt] at *;refine⟨⟨ax,⟨ay,hr,om,om⟩,om,om⟩,by simp,om,om,om,om⟩
    | nd a b=>
     obtain⟨aa,ab,b3,b4⟩:=ay;have pa:=hgt_pos a;have pb:=hgt_pos b;by_cases he:x.hgt<(nd a b).hgt
     ·simp only;rw[if_pos he];simp only[Av,text,hgt] at *
      refine⟨⟨⟨ax,aa,om,om⟩,⟨ab,hr,om,om⟩,om,om⟩,by simp,om,om,om,om⟩
     ·simp only;rw[if_neg he];simp only[Av,text,hgt] at *
      refine⟨⟨ax,⟨⟨aa,ab,b3,b4⟩,hr,om,om⟩,om,om⟩,by simp,om,om,om,om⟩
  ·rw[p0 om om];simp only[Av,text,hgt];exact⟨⟨hl,hr,om,om⟩,trivial,om,om,fun _ _=>trivial,om⟩
theorem cat_ok:∀(f:Nat) {l r:Sh},Av l->Av r->l.hgt+r.hgt<=f->
 Av (catF f l r).1/\(catF f l r).1.text=l.text++r.text/\max l.hgt r.hgt<=(catF f l r).1.hgt/\(catF f l r).1.hgt<=max l.hgt r.hgt+1/\(catF f l r).2<=3*(max l.hgt r.hgt-min l.hgt r.hgt)+1
 | 0,l,r,_,_,hf=>by have:=hgt_pos l;omega
 | f+1,l,r,hl,hr,hf=>by
  have pl:=hgt_pos l;have pr:=hgt_pos r;unfold catF;by_cases h1:r.hgt+1<l.hgt
  ·rw[if_pos h1]
   cases l with
   | lf a=>simp only[hgt] at h1;omega
   | nd a b=>
    obtain⟨aa,ab,b1,b2⟩:=hl;have pa:=hgt_pos a;have pb:=hgt_pos b;simp only[hgt] at h1 hf pl ⊢;obtain⟨i1,i2,i3,i4,i5⟩:=cat_ok f ab hr om;generalize catF f b r=q at *;obtain⟨j1,j2,j3,j4,j5,j6⟩:=bal_ok aa i1 om om;generalize bal a q.1=p at *;refine⟨j1,by rw[j2,i2];simp[text],?_,om,om⟩;rcases Nat.lt_or_ge (a.hgt+1) q.1.hgt with h5|h5
    ·omega
    ·have:=j5 om h5;omega
  ·rw[if_neg h1];by_cases h2:l.hgt+1<r.hgt
   ·rw[if_pos h2]
    cases r with
    | lf a=>simp only[hgt] at h2;omega
    | nd a b=>
     obtain⟨aa,ab,b1,b2⟩:=hr;have pa:=hgt_pos a;have pb:=hgt_pos b;simp only[hgt] at h2 h1 hf pr ⊢;obtain⟨i1,i2,i3,i4,i5⟩:=cat_ok f hl aa om;generalize catF f l a=q at *;obtain⟨j1,j2,j3,j4,j5,j6⟩:=bal_ok i1 ab om om;generalize bal q.1 b=p at *;refine⟨j1,by rw[j2,i2];simp[text],?_,om,om⟩;rcases Nat.lt_or_ge (b.hgt+1) q.1.hgt with h5|h5
     ·omega
     ·have:=j5 h5 om;omega
   ·rw[if_neg h2];simp only[Av,text,hgt];exact⟨⟨hl,hr,om,om⟩,trivial,om,om,om⟩
end Sh
theorem catO_ok {l r:Option Sh}(hl:AvO l)(hr:AvO r):AvO (catO l r).1/\txtO (catO l r).1=txtO l++txtO r/\max (hgtO l) (hgtO r)<=hgtO (catO l r).1/\hgtO (catO l r).1<=max (hgtO l) (hgtO r)+1/\
 (catO l r).2<=3*(max (hgtO l) (hgtO r)-min (hgtO l) (hgtO r))+1/\(l=none->(catO l r).2=0/\(catO l r).1=r)/\(r=none->(catO l r).2=0/\(catO l r).1=l):=by
 cases l with
 | none=>simp only[catO,txtO,hgtO,List.nil_append];exact⟨hr,trivial,om,om,om,fun _=>by simp,fun h=>by simp[h]⟩
 | some a=>cases r with
  | none=>simp only[catO,txtO,hgtO,List.append_nil];exact⟨hl,trivial,om,om,om,fun h=>by simp at h,fun h=>by simp⟩
  | some b=>
   obtain⟨i1,i2,i3,i4,i5⟩:=cat_ok (a.hgt+b.hgt) hl hr (Nat.le_refl _);simp only[catO,txtO,hgtO];exact⟨i1,i2,i3,i4,i5,fun h=>by simp at h,fun h=>by simp at h⟩
theorem hdS_ok:∀{t:Sh} (k:Nat),Av t->AvO (hdS t k).1/\txtO (hdS t k).1++(hdS t k).2.1=t.text.take k/\(hdS t k).2.1.length<=32/\hgtO (hdS t k).1<=t.hgt/\(hdS t k).2.2<=3*(hgtO (hdS t k).1+2*t.hgt)
 | lf ts,k,h=>by
  have h2:ts.length<=32:=h.2;simp only[hdS,txtO,hgtO,text,List.nil_append];exact⟨trivial,trivial,by rw[List.length_take];omega,om,om⟩
 | nd l r,k,h=>by
  obtain⟨al,ar,b1,b2⟩:=h;unfold hdS;by_cases hk:k<l.text.length
  ·rw[if_pos hk];obtain⟨i1,i2,i3,i4,i5⟩:=hdS_ok k al;simp only[hgt,text];exact⟨i1,by rw[i2,List.take_append_of_le_length om],i3,om,om⟩
  ·rw[if_neg hk];obtain⟨i1,i2,i3,i4,i5⟩:=hdS_ok (k-l.text.length) ar
   simp only
   have z1:hgtO (some l)=l.hgt:=rfl;generalize hdS r (k-l.text.length)=q at *;obtain⟨c1,c2,c3,c4,c5,_,c7⟩:=catO_ok (l:=some l) (r:=q.1) al i1;generalize catO (some l) q.1=p at *;simp only[hgt,text];refine⟨c1,?_,i3,?_,?_⟩
   ·rw[c2,List.append_assoc,i2];have e:k=l.text.length+(k-l.text.length):=om
    conv=>rhs;rw[e,List.take_length_add_append]
    rfl
   ·omega
   ·cases hq:q.1 with
    | none=>
     obtain⟨c8,c9⟩:=c7 hq;rw[hq] at i5;have z2:hgtO none=0:=rfl;rw[c9,z1];omega
    | some u=>rw[hq] at i4 i5 c3 c4 c5;omega
theorem tlS_ok:∀{t:Sh} (k:Nat),Av t->AvO (tlS t k).2.1/\(tlS t k).1++txtO (tlS t k).2.1=t.text.drop k/\(tlS t k).1.length<=32/\hgtO (tlS t k).2.1<=t.hgt/\(tlS t k).2.2<=3*(hgtO (tlS t k).2.1+2*t.hgt)
 | lf ts,k,h=>by
  have h2:ts.length<=32:=h.2;simp only[tlS,txtO,hgtO,text,List.append_nil];exact⟨trivial,trivial,by rw[List.length_drop];omega,om,om⟩
 | nd l r,k,h=>by
  obtain⟨al,ar,b1,b2⟩:=h;unfold tlS;by_cases hk:l.text.length<=k
  ·rw[if_pos hk];obtain⟨i1,i2,i3,i4,i5⟩:=tlS_ok (k-l.text.length) ar;simp only[hgt,text];refine⟨i1,?_,i3,om,om⟩;rw[i2];have e:k=l.text.length+(k-l.text.length):=om
   conv=>rhs;rw[e,List.drop_length_add_append]
  ·rw[if_neg hk];obtain⟨i1,i2,i3,i4,i5⟩:=tlS_ok k al
   simp only
   have z1:hgtO (some r)=r.hgt:=rfl;generalize tlS l k=q at *;obtain⟨c1,c2,c3,c4,c5,c6,_⟩:=catO_ok (l:=q.2.1) (r:=some r) i1 ar;generalize catO q.2.1 (some r)=p at *;simp only[hgt,text];refine⟨c1,?_,i3,?_,?_⟩
   ·rw[c2,<-List.append_assoc,i2,List.drop_append_of_le_length om];rfl
   ·omega
   ·cases hq:q.2.1 with
    | none=>
     obtain⟨c8,c9⟩:=c6 hq;rw[hq] at i5;have z2:hgtO none=0:=rfl;rw[c9,z1];omega
    | some u=>rw[hq] at i4 i5 c3 c4 c5;omega
theorem hdO_ok {t:Option Sh}(k:Nat)(h:AvO t):AvO (hdO t k).1/\txtO (hdO t k).1++(hdO t k).2.1=(txtO t).take k/\(hdO t k).2.1.length<=32/\hgtO (hdO t k).1<=hgtO t/\(hdO t k).2.2<=3*(hgtO (hdO t k).1+2*hgtO t):=by
 cases t with
 | none=>simp[hdO,txtO,hgtO,AvO]
 | some t=>exact hdS_ok k h
theorem tlO_ok {t:Option Sh}(k:Nat)(h:AvO t):AvO (tlO t k).2.1/\(tlO t k).1++txtO (tlO t k).2.1=(txtO t).drop k/\(tlO t k).1.length<=32/\hgtO (tlO t k).2.1<=hgtO t/\(tlO t k).2.2<=3*(hgtO (tlO t k).2.1+2*hgtO t):=by
 cases t with
 | none=>simp[tlO,txtO,hgtO,AvO]
 | some t=>exact tlS_ok k h
def hB:Nat->Nat->Nat
 | 0,_=>1
 | f+1,L=>if L=1 then 1 else max (hB f (L / 2)) (hB f (L-L / 2))+1
theorem hB_step:∀(f:Nat) (L:Nat),1<=L->L<=f->(∀g,L<=g->hB g L=hB L L)/\(L+1<=f->hB L L<=hB (L+1) (L+1)/\hB (L+1) (L+1)<=hB L L+1)
 | 0,L,h1,h2=>om
 | f+1,L,h1,h2=>by
  have fu:∀L',1<=L'->L'<=f+1->∀g,L'<=g->hB g L'=if L'=1 then 1 else max (hB (L' / 2) (L' / 2)) (hB (L'-L' / 2) (L'-L' / 2))+1:=fun L' k1 k2 g hg=>by
   cases g with
   | zero=>omega
   | succ g=>
    show(if L'=1 then 1 else max (hB g (L' / 2)) (hB g (L'-L' / 2))+1)=_
    by_cases h3:L'=1
    ·rw[if_pos h3,if_pos h3]
    ·rw[if_neg h3,if_neg h3,(hB_step f (L' / 2) om om).1 g om,(hB_step f (L'-L' / 2) om om).1 g om]
  refine⟨fun g hg=>?_,fun h3=>?_⟩
  ·rw[fu L h1 h2 g hg,fu L h1 h2 L (Nat.le_refl _)]
  ·have ih:∀x,1<=x->x+1<=f->hB x x<=hB (x+1) (x+1)/\hB (x+1) (x+1)<=hB x x+1:=fun x k1 k2=>(hB_step f x k1 om).2 k2;rw[fu L h1 h2 L (Nat.le_refl _),fu (L+1) om h3 (L+1) (Nat.le_refl _)];by_cases h4:L=1
   ·subst h4;decide
   ·rw[if_neg h4,if_neg om];rcases Nat.mod_two_eq_zero_or_one L with h5|h5
    ·have e1:(L+1) / 2=L / 2:=om;have e2:L-L / 2=L / 2:=om;have e3:L+1-L / 2=L / 2+1:=om;rw[e1,e2,e3];have:=ih (L / 2) om om;omega
    ·have e1:(L+1) / 2=L / 2+1:=om;have e2:L-L / 2=L / 2+1:=om;have e3:L+1-(L / 2+1)=L / 2+1:=om;rw[e1,e2,e3];have:=ih (L / 2) om om;omega
theorem bldF_ok:∀(f:Nat) (ts:List Int) (L:Nat),1<=L->L<=f->L<=ts.length->ts.length<=32*L->Av (bldF f ts L).1/\(bldF f ts L).1.text=ts/\(bldF f ts L).1.hgt=hB f L/\(bldF f ts L).2+1=2*L
 | 0,ts,L,h1,h2,_,_=>om
 | f+1,ts,L,h1,h2,h3,h4=>by
  unfold bldF hB;by_cases h5:L=1
  ·subst h5;rw[if_pos rfl,if_pos rfl];exact⟨⟨h3,om⟩,rfl,rfl,rfl⟩
  ·rw[if_neg h5,if_neg h5]
   simp only
   obtain⟨x,hx⟩:∃x,x=L / 2:=⟨_,rfl⟩;obtain⟨c,hc⟩:∃c,c=ts.length*(L / 2) / L:=⟨_,rfl⟩;obtain⟨y,hy⟩:∃y,y=L-L / 2:=⟨_,rfl⟩
   rw[<-hc,<-hy,<-hx]
   rw[<-hx] at hc;have hL:x+y=L:=om;have d1:c*L<=ts.length*x:=by rw[hc];exact Nat.div_mul_le_self _ _
   have d2:ts.length*x<(c+1)*L:=by rw[hc];exact Nat.lt_mul_of_div_lt (Nat.lt_succ_self _) om
   have hx1:1<=x:=om;have hy1:1<=y:=om;generalize hn:ts.length=n at *;have b1:x<=c:=by
    rcases Nat.lt_or_ge c x with h|h
    ·exfalso
     have k1:(c+1)*L<=x*L:=Nat.mul_le_mul_right _ om;have k2:L*x<=n*x:=Nat.mul_le_mul_right _ h3;rw[Nat.mul_comm L x] at k2;omega
    ·exact h
   have b2:c<=32*x:=by
    rcases Nat.lt_or_ge (32*x) c with h|h
    ·exfalso
     have k1:(32*x+1)*L<=c*L:=Nat.mul_le_mul_right _ om;have k2:n*x<=32*L*x:=Nat.mul_le_mul_right _ h4;have e:(32*x+1)*L=32*L*x+L:=by rw[Nat.add_mul,Nat.one_mul,Nat.mul_assoc,Nat.mul_comm x L,<-Nat.mul_assoc]
     omega
    ·exact h
   have b3:c+y<=n:=by
    rcases Nat.lt_or_ge n (c+y) with h|h
    ·exfalso
     have k1:n*L=n*x+n*y:=by rw[<-hL,Nat.mul_add]
     have k2:L*y<=n*y:=Nat.mul_le_mul_right _ h3;have k3:(n+1)*L<=(c+y)*L:=Nat.mul_le_mul_right _ om;have k4:(c+y)*L=c*L+L*y:=by rw[Nat.add_mul,Nat.mul_comm y L]
     have k5:(n+1)*L=n*L+L:=by rw[Nat.add_mul,Nat.one_mul]
     omega
    ·exact h
   have b4:n-c<=32*y:=by
    rcases Nat.lt_or_ge (32*y) (n-c) with h|h
    ·exfalso
     have k1:n*L=n*x+n*y:=by rw[<-hL,Nat.mul_add]
     have k2:n*y<=32*L*y:=Nat.mul_le_mul_right _ h4;have k3:(32*y+1+c)*L<=n*L:=Nat.mul_le_mul_right _ om;have k4:(32*y+1+c)*L=32*L*y+(c+1)*L:=by
      rw[Nat.add_assoc,Nat.add_comm 1 c,Nat.add_mul,Nat.mul_assoc,Nat.mul_comm y L,<-Nat.mul_assoc]
     omega
    ·exact h
   have l1:(ts.take c).length=c:=by rw[List.length_take,hn];omega
   have l2:(ts.drop c).length=n-c:=by rw[List.length_drop,hn]
   obtain⟨i1,i2,i3,i4⟩:=bldF_ok f (ts.take c) x hx1 om om om;obtain⟨j1,j2,j3,j4⟩:=bldF_ok f (ts.drop c) y hy1 om om om;generalize bldF f (ts.take c) x=p at *;generalize bldF f (ts.drop c) y=q at *;have hs:=hB_step (f+1) x hx1 om;have e1:hB f x=hB x x:=hs.1 f om;have e2:hB f y=hB y y:=(hB_step f y hy1 om).1 f om;have hbal:p.1.hgt<=q.1.hgt+1/\q.1.hgt<=p.1.hgt+1:=by
    rw[i3,j3,e1,e2];have h6:y=x\/y=x+1:=om;rcases h6 with h6|h6
    ·subst h6;omega
    ·subst h6;have:=hs.2 om;omega
   refine⟨⟨i1,j1,hbal.1,hbal.2⟩,?_,?_,om⟩
   ·simp only[text];rw[i2,j2,List.take_append_drop]
   ·simp only[hgt];rw[i3,j3]
theorem treeS_ok (ts:List Int):AvO (treeS ts).1/\txtO (treeS ts).1=ts/\(treeS ts).2<=2*((ts.length+31) / 32):=by
 unfold treeS;by_cases h:ts=[]
 ·subst h;rw[if_pos rfl];exact⟨trivial,rfl,by simp⟩
 ·rw[if_neg h];have h1:1<=ts.length:=by cases ts with
   | nil=>exact absurd rfl h
   | cons a b=>simp
  obtain⟨i1,i2,i3,i4⟩:=bldF_ok ((ts.length+31) / 32) ts ((ts.length+31) / 32) om (Nat.le_refl _) om om;exact⟨i1,i2,by simp only;omega⟩
theorem edS_ok {t:Option Sh}{k d:Nat}(ins:List Int)(h:AvO t)(hk:k+d<=(txtO t).length) :
 AvO (edS t k d ins).1/\txtO (edS t k d ins).1=(txtO t).take k++ins++(txtO t).drop (k+d)/\(edS t k d ins).2<=40*(max (hgtO t) (hgtO (edS t k d ins).1)+2)+2*(ins.length / 16+1):=by
 obtain⟨a1,a2,a3,a4,a5⟩:=hdO_ok k h;obtain⟨b1,b2,b3,b4,b5⟩:=tlO_ok (k+d) h;unfold edS
 simp only
 generalize hdO t k=p at *;generalize tlO t (k+d)=q at *;obtain⟨c1,c2,c3⟩:=treeS_ok (p.2.1++ins++q.1);have hl:(p.2.1++ins++q.1).length<=64+ins.length:=by simp only[List.length_append];omega
 generalize treeS (p.2.1++ins++q.1)=m at *;obtain⟨d1,d2,d3,d4,d5,_⟩:=catO_ok (l:=p.1) (r:=m.1) a1 c1;generalize catO p.1 m.1=x at *;obtain⟨e1,e2,e3,e4,e5,_⟩:=catO_ok (l:=x.1) (r:=q.2.1) d1 b1;generalize catO x.1 q.2.1=y at *;refine⟨e1,?_,om⟩;rw[e2,d2,c2,<-a2,<-b2];simp only[List.append_assoc]
end
end Go.Proofs.YtmpcoifnpflapaaGreat
