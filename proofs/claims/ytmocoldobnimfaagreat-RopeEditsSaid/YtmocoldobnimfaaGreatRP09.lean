/- Texts of this proof: E4 E5 P1 P3 P2 J1. -/
import Derived.Test.YtmocoldobnimfaaGreatRP05
import Derived.Test.YtmocoldobnimfaaGreatRP06
import Derived.Test.YtmocoldobnimfaaGreatRP07
set_option linter.all false
namespace Go.Proofs.YtmocoldobnimfaaGreat
section
open Go.RowKit
end
section
open Go.RowKit
theorem infoInt:(Tryz.prog.info? 3).map (fun i=>(i.zero,i.size,i.bytes))=some (some (.int .i64 0),1,8):=by kernel_rfl
def tab12:List Int:=[97,97,97,98,98,99,97,98,10,32,65,200]
def sym12 (x:Int):Int:=tab12.getD (around x 12).toNat 0
def rtext (l:List Int)(m:Nat):List Int:=(l.take m).map sym12
theorem tab12_bd:∀p,p<12→0≤tab12.getD p 0∧tab12.getD p 0≤200:=by decide
theorem sym12_bd (x:Int):0≤sym12 x∧sym12 x≤200:=by
 have h:=around_bd x 12 om;exact tab12_bd _ om
theorem rtext_bd (l:List Int)(m:Nat):∀x∈rtext l m,0≤x∧x≤200:=by
 intro x hx;obtain⟨y,_,rfl⟩:=List.mem_map.1 hx;exact sym12_bd y
theorem rtext_len (l:List Int)(m:Nat):(rtext l m).length≤m:=by simp[rtext];omega
theorem rtext_succ (l:List Int)(k:Nat)(h:k<l.length):rtext l (k+1)=rtext l k++[sym12 l[k]]:=by
 unfold rtext;rw[List.take_succ_eq_append_getElem h,List.map_append];rfl
theorem I64_of {x:Int}(h : -1000000000000≤x∧x≤1000000000000):I64 x:=by unfold I64;omega
end
section
abbrev St:=List Nat
structure Ins where
 op:Int
 x:Int
 y:Int
 n:Int
 set:List Sp
def addR (G:List Ins):Nat→List Nat×List Nat→Nat→List Nat×List Nat
 | 0,s,_=>s
 | f+1,s,pc=>if pc∈s.2 then s else
  match G[pc]? with
  | none=>s
  | some i=>
   if i.op=2 then addR G f (addR G f (s.1,s.2++[pc]) i.x.toNat) i.y.toNat
   else if i.op=3 then addR G f (s.1,s.2++[pc]) i.x.toNat
   else if i.op=4 then addR G f (s.1,s.2++[pc]) (pc+1)
   else(s.1++[pc],s.2++[pc])
def addP (G:List Ins):Nat→List Nat×List Nat→Nat→(List Nat×List Nat)×Bool
 | 0,s,_=>(s,true)
 | f+1,s,pc=>if pc∈s.2 then(s,true) else
  match G[pc]? with
  | none=>(s,true)
  | some i=>
   if i.op=2 then
    if(addP G f (s.1,s.2++[pc]) i.x.toNat).2=true then addP G f (addP G f (s.1,s.2++[pc]) i.x.toNat).1 i.y.toNat
    else addP G f (s.1,s.2++[pc]) i.x.toNat
   else if i.op=3 then addP G f (s.1,s.2++[pc]) i.x.toNat
   else if i.op=4 then addP G f (s.1,s.2++[pc]) (pc+1)
   else((s.1++[pc],s.2++[pc]),decide (i.op≠0))
def isD (G:List Ins)(pc:Nat):Bool:=match G[pc]? with|some i=>decide (i.op=0)|none=>false
theorem addR_pre (G:List Ins):∀f s pc,∃t,(addR G f s pc).1=s.1++t
 | 0,s,pc=>⟨[],by simp[addR]⟩
 | f+1,s,pc=>by
  unfold addR
  split
  ·exact⟨[],by simp⟩
  ·split
   ·exact⟨[],by simp⟩
   ·rename_i i _
    split
    ·obtain⟨t1,h1⟩:=addR_pre G f (s.1,s.2++[pc]) i.x.toNat;obtain⟨t2,h2⟩:=addR_pre G f (addR G f (s.1,s.2++[pc]) i.x.toNat) i.y.toNat;exact⟨t1++t2,by rw[h2,h1,List.append_assoc]⟩
    ·split
     ·exact addR_pre G f (s.1,s.2++[pc]) i.x.toNat
     ·split
      ·exact addR_pre G f (s.1,s.2++[pc]) (pc+1)
      ·exact⟨[pc],rfl⟩
theorem addP_addR (G:List Ins):∀f s pc,(∀p∈s.1,isD G p=false)→
 ((addP G f s pc).2=true∧addR G f s pc=(addP G f s pc).1∧∀p∈(addP G f s pc).1.1,isD G p=false)∨
 ((addP G f s pc).2=false∧∃u d t,(addP G f s pc).1.1=u++[d]∧(∀p∈u,isD G p=false)∧isD G d=true∧(addR G f s pc).1=u++[d]++t)
 | 0,s,pc,h=>.inl ⟨rfl,rfl,h⟩
 | f+1,s,pc,h=>by
  unfold addP addR;by_cases hm:pc∈s.2
  ·simp only[hm,if_true];exact .inl ⟨trivial,trivial,h⟩
  ·simp only[hm,if_false]
   cases hg:G[pc]? with
   | none=>exact .inl ⟨rfl,rfl,h⟩
   | some i=>
    simp only
    by_cases h2:i.op=2
    ·simp only[h2,if_true];rcases addP_addR G f (s.1,s.2++[pc]) i.x.toNat h with⟨e1,e2,e3⟩|⟨e1,u,d,t,e2,e3,e4,e5⟩
     ·simp only[e1,if_true];rw[e2];exact addP_addR G f _ i.y.toNat e3
     ·simp only[e1];obtain⟨t2,h3⟩:=addR_pre G f (addR G f (s.1,s.2++[pc]) i.x.toNat) i.y.toNat;exact .inr ⟨e1,u,d,t++t2,e2,e3,e4,by rw[h3,e5];simp only[List.append_assoc]⟩
    ·simp only[h2,if_false];by_cases h3:i.op=3
     ·simp only[h3,if_true];exact addP_addR G f (s.1,s.2++[pc]) i.x.toNat h
     ·simp only[h3,if_false];by_cases h4:i.op=4
      ·simp only[h4,if_true];exact addP_addR G f (s.1,s.2++[pc]) (pc+1) h
      ·simp only[h4,if_false];by_cases h0:i.op=0
       ·right
        refine⟨by simp[h0],s.1,pc,[],rfl,h,by simp[isD,hg,h0],by simp⟩
       ·left
        refine⟨by simp[h0],trivial,fun p hp=>?_⟩;rcases List.mem_append.1 hp with hp|hp
        ·exact h p hp
        ·have:p=pc:=by simpa using hp
         subst this;simp[isD,hg,h0]
def listR (G:List Ins)(N:Nat)(from_:List Nat):List Nat×List Nat:=from_.foldl (addR G N) ([],[])
def listP (G:List Ins)(N:Nat):List Nat→List Nat×List Nat→List Nat×List Nat
 | [],s=>s
 | p::r,s=>if(addP G N s p).2=true then listP G N r (addP G N s p).1 else(addP G N s p).1
def cutD (G:List Ins):List Nat→List Nat
 | []=>[]
 | p::r=>if isD G p=true then[p] else p::cutD G r
theorem cutD_none {G:List Ins}:∀{l:List Nat},(∀p∈l,isD G p=false)→cutD G l=l
 | [],_=>rfl
 | p::r,h=>by
  unfold cutD;rw[h p si];simp only[Bool.false_eq_true,if_false];rw[cutD_none (fun q hq=>h q (by simp[hq]))]
theorem cutD_at {G:List Ins}{d:Nat}{t:List Nat}(hd:isD G d=true):∀{u:List Nat},(∀p∈u,isD G p=false)→cutD G (u++[d]++t)=u++[d]
 | [],_=>by simp[cutD,hd]
 | p::r,h=>by
  simp only[List.cons_append];unfold cutD;rw[h p si];simp only[Bool.false_eq_true,if_false];have:=cutD_at (t:=t) hd (u:=r) (fun q hq=>h q (by simp[hq]));simp only[List.append_assoc,List.singleton_append] at this ⊢;rw[this]
theorem foldR_pre (G:List Ins)(N:Nat):∀(r:List Nat) (s:List Nat×List Nat),∃t,(r.foldl (addR G N) s).1=s.1++t
 | [],s=>⟨[],by simp⟩
 | p::r,s=>by
  obtain⟨t1,h1⟩:=addR_pre G N s p;obtain⟨t2,h2⟩:=foldR_pre G N r (addR G N s p);exact⟨t1++t2,by rw[List.foldl_cons,h2,h1,List.append_assoc]⟩
theorem listP_listR (G:List Ins)(N:Nat):∀(r:List Nat) (s:List Nat×List Nat),(∀p∈s.1,isD G p=false)→(listP G N r s).1=cutD G (r.foldl (addR G N) s).1
 | [],s,h=>by simp[listP,cutD_none h]
 | p::r,s,h=>by
  unfold listP;rw[List.foldl_cons];rcases addP_addR G N s p h with⟨e1,e2,e3⟩|⟨e1,u,d,t,e2,e3,e4,e5⟩
  ·simp only[e1,if_true];rw[e2];exact listP_listR G N r _ e3
  ·simp only[e1];obtain⟨t2,h2⟩:=foldR_pre G N r (addR G N s p);rw[h2,e5,List.append_assoc];simp only[Bool.false_eq_true,if_false];rw[e2,cutD_at e4 e3]
def stateG (G:List Ins)(from_:List Nat):List Nat:=cutD G (listR G (G.length+1) from_).1
theorem state_prog (G:List Ins)(from_:List Nat):(listP G (G.length+1) from_ ([],[])).1=stateG G from_:=listP_listR G _ from_ _ si
def grow (L:List St)(s:St):List St:=if s=[]∨s∈L then L else L++[s]
def growAll (ts:List St)(L:List St):List St:=ts.foldl grow L
theorem grow_pre (L:List St)(s:St):∃t,grow L s=L++t:=by
 unfold grow;split
 ·exact⟨[],by simp⟩
 ·exact⟨[s],rfl⟩
theorem growAll_pre:∀(ts:List St) (L:List St),∃t,growAll ts L=L++t
 | [],L=>⟨[],by simp[growAll]⟩
 | s::ts,L=>by
  obtain⟨t1,h1⟩:=grow_pre L s;obtain⟨t2,h2⟩:=growAll_pre ts (grow L s);exact⟨t1++t2,by show growAll ts (grow L s)=_;rw[h2,h1,List.append_assoc]⟩
theorem grow_mem (L:List St)(s:St):s=[]∨s∈grow L s:=by
 unfold grow;split
 ·assumption
 ·exact .inr si
theorem growAll_mem:∀(ts:List St) (L:List St),∀s∈ts,s=[]∨s∈growAll ts L
 | [],_,s,h=>by cases h
 | t::ts,L,s,h=>by
  show s=[]∨s∈growAll ts (grow L t)
  rcases List.mem_cons.1 h with rfl|h
  ·rcases grow_mem L s with h1|h1
   ·exact .inl h1
   ·obtain⟨u,hu⟩:=growAll_pre ts (grow L s);exact .inr (by rw[hu];simp[h1])
  ·exact growAll_mem ts _ s h
def GoodL (L:List St):Prop:=L.Nodup∧[]∉L
theorem grow_good {L:List St}(h:GoodL L)(s:St):GoodL (grow L s):=by
 unfold grow;split
 ·exact h
 ·rename_i hn
  simp only[not_or] at hn;refine⟨?_,?_⟩
  ·rw[List.nodup_append];exact⟨h.1,by simp,fun a ha b hb=>by
    have:b=s:=by simpa using hb
    subst this;rintro rfl;exact hn.2 ha⟩
  ·simp only[List.mem_append,List.mem_singleton,not_or];exact⟨h.2,fun e=>hn.1 e.symm⟩
theorem growAll_good:∀(ts:List St) {L:List St},GoodL L→GoodL (growAll ts L)
 | [],_,h=>h
 | s::ts,_,h=>growAll_good ts (grow_good h s)
def expl (nx:St→List St):Nat→Nat→List St→Option (List St)
 | 0,_,_=>none
 | f+1,i,L=>if 1024<L.length then none else match L[i]? with
  | none=>some L
  | some l=>expl nx f (i+1) (growAll (nx l) L)
theorem expl_over {nx:St→List St}{f i:Nat}{L:List St}(h:1024<L.length):expl nx f i L=none:=by
 cases f with
 | zero=>rfl
 | succ f=>unfold expl;rw[if_pos h]
theorem expl_step {nx:St→List St}{f i:Nat}{L:List St}(h:¬1024<L.length)(hi:i<L.length):expl nx (f+1) i L=expl nx f (i+1) (growAll (nx L[i]) L):=by
 rw[expl,if_neg h,List.getElem?_eq_getElem hi]
theorem expl_end {nx:St→List St}{f i:Nat}{L:List St}(h:¬1024<L.length)(hi:L.length≤i):expl nx (f+1) i L=some L:=by
 rw[expl,if_neg h,List.getElem?_eq_none hi]
def idx (L:List St)(s:St):Int:=if s=[] then -1 else(L.idxOf s:Nat)
theorem idx_pre {L t:List St}{s:St}(h:s=[]∨s∈L):idx (L++t) s=idx L s:=by
 unfold idx
 split
 ·rfl
 ·rename_i hn
  have hm:s∈L:=h.resolve_left hn;rw[List.idxOf_append,if_pos hm]
theorem idx_get {L:List St}(hg:GoodL L){j:Nat}(hj:j<L.length):idx L L[j]=j:=by
 unfold idx;have hne:L[j]≠[]:=fun e=>hg.2 (by rw[←e];exact List.getElem_mem hj);rw[if_neg hne,hg.1.idxOf_getElem]
theorem idx_bd {L:List St}{s:St}(h:s∈L)(hn:s≠[]):0≤idx L s∧idx L s<L.length∧L[(idx L s).toNat]? = some s:=by
 unfold idx;rw[if_neg hn];have h1:=List.idxOf_lt_length_of_mem h;refine⟨om,om,?_⟩;simp[h1]
inductive Rch {α:Type} (E:α→α→Prop):α→α→Prop
 | one {a b:α}:E a b→Rch E a b
 | cons {a b c:α}:E a b→Rch E b c→Rch E a c
theorem Rch.trans {α:Type}{E:α→α→Prop}{a b c:α}(h:Rch E a b)(k:Rch E b c):Rch E a c:=by
 induction h with
 | one h=>exact .cons h k
 | cons h _ ih=>exact .cons h (ih k)
theorem Rch.map {α β:Type}{E:α→α→Prop}{F:β→β→Prop}{g:α→β}(hg:∀a b,E a b→F (g a) (g b)){a b:α}(h:Rch E a b):Rch F (g a) (g b):=by
 induction h with
 | one h=>exact .one (hg _ _ h)
 | cons h _ ih=>exact .cons (hg _ _ h) ih
structure Lead (E:Nat→Nat→Prop)(M M':Nat→Prop)(t:Nat):Prop where
 sub:∀x,M x→M' x
 all:∀p,E p t→M' p
 new:∀x,M' x→¬M x→Rch E x t∧∀p,E p x→M' p
structure LeadI (E:Nat→Nat→Prop)(M M':Nat→Prop)(t:Nat)(P:Nat→Prop):Prop where
 sub:∀x,M x→M' x
 all:∀p,P p→M' p
 new:∀x,M' x→¬M x→Rch E x t∧∀p,E p x→M' p
theorem LeadI.start (E:Nat→Nat→Prop)(M:Nat→Prop)(t:Nat):LeadI E M M t (fun _=>False):=⟨fun _ h=>h,fun _ h=>h.elim,fun x h k=>absurd h k⟩
theorem LeadI.old {E:Nat→Nat→Prop}{M M':Nat→Prop}{t:Nat}{P:Nat→Prop}(h:LeadI E M M' t P){s:Nat}(hs:M' s):LeadI E M M' t (fun p=>P p∨p=s):=
 ⟨h.sub,fun p hp=>hp.elim (h.all p) (fun e=>e▸hs),h.new⟩
theorem LeadI.step {E:Nat→Nat→Prop}{M M' M'':Nat→Prop}{t:Nat}{P:Nat→Prop}(h:LeadI E M M' t P){s:Nat}(hE:E s t)(k:Lead E (fun x=>M' x∨x=s) M'' s):LeadI E M M'' t (fun p=>P p∨p=s):=by
 refine⟨fun x hx=>k.sub x (.inl (h.sub x hx)),fun p hp=>k.sub p (hp.imp (h.all p) id),fun x hx hM=>?_⟩;by_cases h1:M' x
 ·obtain⟨h2,h3⟩:=h.new x h1 hM;exact⟨h2,fun p hp=>k.sub p (.inl (h3 p hp))⟩
 ·by_cases h4:x=s
  ·subst h4;exact⟨.one hE,k.all⟩
  ·obtain⟨h5,h6⟩:=k.new x hx (by rintro(h7|h7);exact h1 h7;exact h4 h7);exact⟨h5.trans (.one hE),h6⟩
theorem LeadI.done {E:Nat→Nat→Prop}{M M':Nat→Prop}{t:Nat}{P:Nat→Prop}(h:LeadI E M M' t P)(hP:∀p,E p t→P p):Lead E M M' t:=⟨h.sub,fun p hp=>h.all p (hP p hp),h.new⟩
structure FindI (E:Nat→Nat→Prop)(M:Nat→Prop)(T:Nat→Prop):Prop where
 why:∀x,M x→∃t,T t∧Rch E x t
 clo:∀x,M x→∀p,E p x→M p
 all:∀t,T t→∀p,E p t→M p
theorem FindI.step {E:Nat→Nat→Prop}{M M':Nat→Prop}{T:Nat→Prop}(h:FindI E M T){t:Nat}(k:Lead E M M' t):FindI E M' (fun x=>T x∨x=t):=by
 refine⟨fun x hx=>?_,fun x hx p hp=>?_,fun u hu p hp=>?_⟩
 ·by_cases h1:M x
  ·obtain⟨u,h2,h3⟩:=h.why x h1;exact⟨u,.inl h2,h3⟩
  ·exact⟨t,.inr rfl,(k.new x hx h1).1⟩
 ·by_cases h1:M x
  ·exact k.sub p (h.clo x h1 p hp)
  ·exact(k.new x hx h1).2 p hp
 ·rcases hu with hu|rfl
  ·exact k.sub p (h.all u hu p hp)
  ·exact k.all p hp
theorem FindI.law {E:Nat→Nat→Prop}{M:Nat→Prop}{T:Nat→Prop}(h:FindI E M T)(x:Nat):M x↔∃t,T t∧Rch E x t:=by
 refine⟨h.why x,?_⟩;rintro⟨t,ht,hr⟩;induction hr with
 | one he=>exact h.all _ ht _ he
 | cons he _ ih=>exact h.clo _ (ih ht) _ he
def Stp (f:St→Int→St)(cs:List Int)(a b:St):Prop:=b≠[]∧∃c∈cs,f a c=b
def Opn (f:St→Int→St)(cs:List Int)(dn:St→Bool)(s:St):Prop:=∃t,Rch (Stp f cs) s t∧dn t=true
section
variable {f:St→Int→St} {cs:List Int} {dn:St→Bool}
end
def StpI (nx:Nat→Nat→Int)(m:Nat)(p t:Nat):Prop:=∃k,k<m∧nx p k=(t:Int)
theorem opn_idx {f:St→Int→St}{cs:List Int}{dn:St→Bool}{R:List St}(hg:GoodL R)(hc:∀l∈R,∀c∈cs,f l c=[]∨f l c∈R)
 {nx:Nat→Nat→Int} (hnx:∀(p:Nat) (hp:p<R.length) (k:Nat) (hk:k<cs.length),nx p k=idx R (f R[p] cs[k])) {E:Nat→Nat→Prop} (hE:∀p t,E p t↔p<R.length∧StpI nx cs.length p t)
 {j:Nat} (hj:j<R.length):(∃t,(∃ht:t<R.length,dn R[t]=true)∧Rch E j t)↔Opn f cs dn R[j]:=by
 have h1:∀p t,E p t→∃(hp:p<R.length) (ht:t<R.length),Stp f cs R[p] R[t]:=by
  intro p t h;obtain⟨hp,k,hk,h⟩:=(hE p t).1 h;rw[hnx p hp k hk] at h;have hm:=hc R[p] (List.getElem_mem hp) cs[k] (List.getElem_mem hk);by_cases hn:f R[p] cs[k]=[]
  ·rw[hn] at h;unfold idx at h;rw[if_pos rfl] at h;omega
  ·obtain⟨h2,h3,h4⟩:=idx_bd (hm.resolve_left hn) hn;rw[h] at h3 h4;have ht:t<R.length:=om;have e:((t:Int)).toNat=t:=om;rw[e] at h4;obtain⟨_,h5⟩:=List.getElem?_eq_some_iff.1 h4;exact⟨hp,ht,by rw[h5];exact hn,cs[k],List.getElem_mem hk,h5.symm⟩
 constructor
 ·rintro⟨t,⟨ht,hd⟩,hr⟩;have:∀{a b:Nat},Rch E a b→∃(ha:a<R.length) (hb:b<R.length),Rch (Stp f cs) R[a] R[b]:=by
   intro a b h;induction h with
   | one h=>obtain⟨hp,ht,h⟩:=h1 _ _ h;exact⟨hp,ht,.one h⟩
   | cons h _ ih=>
    obtain⟨hp,ht,h⟩:=h1 _ _ h;obtain⟨_,hb,k⟩:=ih;exact⟨hp,hb,.cons h k⟩
  obtain⟨_,_,h⟩:=this hr;exact⟨R[t],h,hd⟩
 ·rintro⟨b,hr,hd⟩;have:∀{a b:St},Rch (Stp f cs) a b→∀(p:Nat) (hp:p<R.length),R[p]=a→∃(t:Nat) (ht:t<R.length),R[t]=b∧Rch E p t:=by
   have step:∀{a b:St},Stp f cs a b→∀(p:Nat) (hp:p<R.length),R[p]=a→∃(t:Nat) (ht:t<R.length),R[t]=b∧E p t:=by
    rintro a b ⟨hn,c,hcm,rfl⟩ p hp rfl;obtain⟨k,hk,rfl⟩:=List.mem_iff_getElem.1 hcm;obtain⟨t,ht,he⟩:=List.mem_iff_getElem.1 ((hc R[p] (List.getElem_mem hp) cs[k] (List.getElem_mem hk)).resolve_left hn);exact⟨t,ht,he,(hE p t).2 ⟨hp,k,hk,by rw[hnx p hp k hk,←he,idx_get hg]⟩⟩
   intro a b h;induction h with
   | one h=>intro p hp e;obtain⟨t,ht,h1,h2⟩:=step h p hp e;exact⟨t,ht,h1,.one h2⟩
   | cons h _ ih=>
    intro p hp e;obtain⟨t,ht,h1,h2⟩:=step h p hp e;obtain⟨u,hu,h3,h4⟩:=ih t ht h1;exact⟨u,hu,h3,.cons h2 h4⟩
  obtain⟨t,ht,h1,h2⟩:=this hr j hj rfl;subst h1;exact⟨t,⟨ht,hd⟩,h2⟩
def runM (nx:Int→Nat→Int)(dn:Int→Bool):List Nat→Nat→Int→Int→Int×Int
 | [],_,s,last=>(s,last)
 | c::r,k,s,last=>if s = -1 then(s,last) else runM nx dn r (k+1) (nx s c) (if nx s c≠-1∧dn (nx s c)=true then((k+1:Nat):Int) else last)
section
variable (nx:Int→Nat→Int) (dn:Int→Bool)
theorem runM_dead (l:List Nat)(k:Nat)(last:Int):runM nx dn l k (-1) last=(-1,last):=by
 cases l with
 | nil=>rfl
 | cons c r=>unfold runM;rw[if_pos rfl]
theorem runM_append:∀(a b:List Nat) (k:Nat) (s last:Int),
 runM nx dn (a++b) k s last=runM nx dn b (k+a.length) (runM nx dn a k s last).1 (runM nx dn a k s last).2
 | [],b,k,s,last=>by simp[runM]
 | c::r,b,k,s,last=>by
  rw[List.cons_append];by_cases h:s = -1
  ·subst h;rw[runM_dead,runM_dead,runM_dead]
  ·rw[runM,if_neg h,runM_append r b,runM,if_neg h,List.length_cons];have e:k+1+r.length=k+(r.length+1):=om;rw[e]
theorem runM_shift:∀(l:List Nat) (k j:Nat) (s a b L:Int),b=(if a = -1 then L else k+a)→
 runM nx dn l (k+j) s b=((runM nx dn l j s a).1,if(runM nx dn l j s a).2 = -1 then L else k+(runM nx dn l j s a).2)
 | [],k,j,s,a,b,L,h=>by
  subst h
  rfl
 | c::r,k,j,s,a,b,L,h=>by
  by_cases hs:s = -1
  ·subst hs;rw[runM_dead,runM_dead,h]
  ·rw[runM,if_neg hs,runM,if_neg hs];have e:k+j+1=k+(j+1):=om;rw[e];refine runM_shift r k (j+1) (nx s c) _ _ L ?_;by_cases h2:nx s c≠-1∧dn (nx s c)=true
   ·rw[if_pos h2,if_pos h2,if_neg om];omega
   ·rw[if_neg h2,if_neg h2,h]
theorem runM_last:∀(l:List Nat) (k:Nat) (s a:Int),(runM nx dn l k s a).2=a∨((k:Int)<(runM nx dn l k s a).2∧(runM nx dn l k s a).2≤(k+l.length:Nat))
 | [],_,_,_=>.inl rfl
 | c::r,k,s,a=>by
  by_cases hs:s = -1
  ·subst hs;rw[runM_dead];exact .inl rfl
  ·rw[runM,if_neg hs];rcases runM_last r (k+1) (nx s c) (if nx s c≠-1∧dn (nx s c)=true then((k+1:Nat):Int) else a) with h|h
   ·rw[h];by_cases h2:nx s c≠-1∧dn (nx s c)=true
    ·rw[if_pos h2,List.length_cons];right;omega
    ·rw[if_neg h2];exact .inl rfl
   ·right;rw[List.length_cons];omega
def toS (cl:List Nat)(i:Int):Int×Int:=runM nx dn cl 0 i (-1)
def iniL (first:Int)(k:Nat):Int:=if first≠-1∧dn first=true then(k:Int) else -1
def enS (first:Int)(cl:List Nat)(k:Nat):Int×Int:=runM nx dn (cl.drop k) k first (iniL dn first k)
def aftS (la:Nat)(to_:Int→Int×Int)(p:Int×Int):Int×Int:=
 if p.1 = -1 then(-1,p.2) else((to_ p.1).1,if(to_ p.1).2 = -1 then p.2 else la+(to_ p.1).2)
theorem aft_run (b:List Nat)(la:Nat)(p:Int×Int):aftS la (toS nx dn b) p=runM nx dn b la p.1 p.2:=by
 unfold aftS toS;by_cases h:p.1 = -1
 ·rw[if_pos h,h,runM_dead]
 ·rw[if_neg h];have:=runM_shift nx dn b la 0 p.1 (-1) p.2 p.2 si;rw[Nat.add_zero] at this;rw[this]
theorem toS_join (a b:List Nat)(i:Int):toS nx dn (a++b) i=aftS a.length (toS nx dn b) (toS nx dn a i):=by
 rw[aft_run];unfold toS;rw[runM_append,Nat.zero_add]
theorem enS_join_left (first:Int)(a b:List Nat){k:Nat}(h:k≤a.length):enS nx dn first (a++b) k=aftS a.length (toS nx dn b) (enS nx dn first a k):=by
 rw[aft_run];unfold enS;rw[List.drop_append_of_le_length h,runM_append];have e:k+(a.drop k).length=a.length:=by rw[List.length_drop];omega
 rw[e]
theorem enS_join_right (first:Int)(a b:List Nat){j:Nat}:enS nx dn first (a++b) (a.length+j) =
 ((enS nx dn first b j).1,if(enS nx dn first b j).2 = -1 then -1 else a.length+(enS nx dn first b j).2):=by
 unfold enS;have e:(a++b).drop (a.length+j)=b.drop j:=by simp
 rw[e];refine runM_shift nx dn (b.drop j) a.length j first (iniL dn first j) _ (-1) ?_;unfold iniL;by_cases h:first≠-1∧dn first=true
 ·rw[if_pos h,if_pos h,if_neg om];omega
 ·rw[if_neg h,if_neg h,if_pos rfl]
end
def runR (f:St→Int→St)(dn:St→Bool):List Int→Nat→St→Int→St×Int
 | [],_,s,last=>(s,last)
 | c::r,k,s,last=>runR f dn r (k+1) (f s c) (if dn (f s c)=true then((k+1:Nat):Int) else last)
theorem runR_nil {f:St→Int→St}{dn:St→Bool}(hf:∀c,f [] c=[])(hd:dn []=false):∀(l:List Int) (k:Nat) (last:Int),runR f dn l k [] last=([],last)
 | [],_,_=>rfl
 | c::r,k,last=>by
  rw[runR,hf,hd];simp only[Bool.false_eq_true,if_false];exact runR_nil hf hd r (k+1) last
theorem run_eq {f:St→Int→St}{dn:St→Bool}{nx:Int→Nat→Int}{dm:Int→Bool}{g:St→Int}{R:St→Prop}{A:Int→Prop}{cl:Int→Nat}
 (hf:∀c,f [] c=[]) (hd:dn []=false) (hg0:g [] = -1) (hgR:∀s,R s→g s≠-1)
 (hR:∀s c,R s→A c→f s c=[]∨R (f s c)) (hnx:∀s c,R s→A c→nx (g s) (cl c)=g (f s c)) (hdm:∀s,R s→dm (g s)=dn s) :
 ∀(l:List Int) (k:Nat) (s:St) (last:Int),(∀c∈l,A c)→s=[]∨R s→
  runM nx dm (l.map cl) k (g s) last=(g (runR f dn l k s last).1,(runR f dn l k s last).2)∧((runR f dn l k s last).1=[]∨R (runR f dn l k s last).1)
 | [],_,s,last,_,hs=>⟨rfl,hs⟩
 | c::r,k,s,last,hl,hs=>by
  rcases hs with rfl|hs
  ·rw[runR_nil hf hd,hg0,runM_dead];exact⟨rfl,.inl rfl⟩
  ·have hc:=hl c si;have ih:=run_eq hf hd hg0 hgR hR hnx hdm r (k+1) (f s c) (if dn (f s c)=true then((k+1:Nat):Int) else last) (fun x hx=>hl x (by simp[hx])) (hR s c hs hc);rw[List.map_cons,runM,if_neg (hgR s hs),runR,hnx s c hs hc];have e:(if g (f s c)≠-1∧dm (g (f s c))=true then((k+1:Nat):Int) else last)=(if dn (f s c)=true then((k+1:Nat):Int) else last):=by
    rcases hR s c hs hc with h|h
    ·rw[h,hg0,hd];simp
    ·rw[hdm _ h];simp[hgR _ h]
   rw[e];exact ih
end
section
open Go.RowKit
structure Hin where
 op:Int
 x:Int
 y:Int
 n:Int
 A:Option Addr
 c:Nat
 l:List Sp
def Hin.ins (h:Hin):Ins:=⟨h.op,h.x,h.y,h.n,h.l⟩
def Hin.wf (h:Hin):Prop:=I64 h.op∧I64 h.x∧I64 h.y∧I64 h.n
def flatN (hs:List Hin):List Value:=hs.flatMap fun h=>[.int .i64 h.op,.int .i64 h.x,.int .i64 h.y,.int .i64 h.n,.slice h.A h.l.length h.c]
theorem flatN_append (l m:List Hin):flatN (l++m)=flatN l++flatN m:=by simp[flatN]
theorem flatN_len (l:List Hin):(flatN l).length=l.length*5:=by
 induction l with
 | nil=>rfl
 | cons y l ih=>simp only[flatN,List.flatMap_cons,List.length_append] at *;simp only[List.length_cons,List.length_nil];omega
theorem flatN_one (l:List Hin):∀u∈flatN l,u.oneCell'=true:=by
 intro u hu;obtain⟨o,_,hu⟩:=List.mem_flatMap.1 hu;simp only[List.mem_cons,List.not_mem_nil,or_false] at hu;rcases hu with rfl|rfl|rfl|rfl|rfl<;>rfl
theorem flatN_get (l:List Hin)(i:Nat)(h:i<l.length):(flatN l)[i*5]? = some (.int .i64 l[i].op)∧(flatN l)[i*5+1]? = some (.int .i64 l[i].x)∧(flatN l)[i*5+2]? = some (.int .i64 l[i].y)∧
 (flatN l)[i*5+3]? = some (.int .i64 l[i].n)∧(flatN l)[i*5+4]? = some (.slice l[i].A l[i].l.length l[i].c):=by
 induction l generalizing i with
 | nil=>simp at h
 | cons y l ih=>
  cases i with
  | zero=>simp[flatN]
  | succ i=>
   have hi:i<l.length:=by simpa using h
   have e:flatN (y::l)=.int .i64 y.op::.int .i64 y.x::.int .i64 y.y::.int .i64 y.n::.slice y.A y.l.length y.c::flatN l:=by simp[flatN]
   have e1:(i+1)*5=i*5+5:=om;rw[e,e1];exact ih i hi
structure PL (w:World)(A:Option Addr)(c:Nat)(hs:List Hin):Prop where
 le:hs.length≤c
 cap:c≤maxLen
 rng:∀h∈hs,h.wf
 sl:∀h∈hs,SL w h.A h.c h.l
 at_:hs≠[]→∃b o,A=some ⟨b,o,none⟩∧∀i (h:i<hs.length),w.cell? ⟨b,o+i*5,none⟩=some (.int .i64 hs[i].op)∧w.cell? ⟨b,o+i*5+1,none⟩=some (.int .i64 hs[i].x)∧
  w.cell? ⟨b,o+i*5+2,none⟩=some (.int .i64 hs[i].y)∧w.cell? ⟨b,o+i*5+3,none⟩=some (.int .i64 hs[i].n)∧w.cell? ⟨b,o+i*5+4,none⟩=some (.slice hs[i].A hs[i].l.length hs[i].c)
namespace PL
variable {w w':World} {A:Option Addr} {c:Nat} {hs:List Hin}
theorem ext (h:PL w A c hs)(k:Ext w w'):PL w' A c hs:=by
 refine⟨h.le,h.cap,h.rng,fun z hz=>(h.sl z hz).ext k,fun hn=>?_⟩;obtain⟨b,o,rfl,hc⟩:=h.at_ hn;exact⟨b,o,rfl,fun i hi=>⟨k.cell (hc i hi).1,k.cell (hc i hi).2.1,k.cell (hc i hi).2.2.1,k.cell (hc i hi).2.2.2.1,k.cell (hc i hi).2.2.2.2⟩⟩
theorem nil (w:World):PL w none 0 []:=⟨Nat.le_refl _,Nat.zero_le _,by simp,by simp,fun h=>absurd rfl h⟩
theorem len (h:PL w A c hs):hs.length≤c∧c≤9223372036854775807:=⟨h.le,by have:=h.cap;unfold maxLen at this;omega⟩
theorem get {k:Nat}(h:PL w A c hs)(hk:k<hs.length):∃b o,A=some ⟨b,o,none⟩∧w.cell? ⟨b,o+k*5,none⟩=some (.int .i64 hs[k].op)∧w.cell? ⟨b,o+k*5+1,none⟩=some (.int .i64 hs[k].x)∧
 w.cell? ⟨b,o+k*5+2,none⟩=some (.int .i64 hs[k].y)∧w.cell? ⟨b,o+k*5+3,none⟩=some (.int .i64 hs[k].n)∧w.cell? ⟨b,o+k*5+4,none⟩=some (.slice hs[k].A hs[k].l.length hs[k].c):=by
 obtain⟨b,o,rfl,hc⟩:=h.at_ (by intro h0;subst h0;simp at hk);exact⟨b,o,rfl,hc k hk⟩
theorem of_own {base T:Nat}(h:OwnS w base T 5 A hs.length c (flatN hs))(hr:∀z∈hs,z.wf)(hsl:∀z∈hs,SL w z.A z.c z.l):PL w A c hs:=by
 have hc:=OwnS.caps h;refine⟨hc.1,by unfold maxLen;omega,hr,hsl,fun hn=>?_⟩;obtain⟨b,o,hA,hcell⟩:=OwnS.cells h (by intro e;have:=flatN_len hs;rw[e] at this;simp at this;exact hn (List.length_eq_zero_iff.1 om));have one:∀(i:Nat) (v:Value),(flatN hs)[i]? = some v→w.cell? ⟨b,o+i,none⟩=some v:=fun i v hv=>by
  obtain⟨l1,e1⟩:=List.getElem?_eq_some_iff.1 hv;rw[hcell i l1,e1]
 refine⟨b,o,hA,fun i hi=>?_⟩;obtain⟨g0,g1,g2,g3,g4⟩:=flatN_get hs i hi;refine⟨one _ _ g0,?_,?_,?_,?_⟩
 ·rw[Nat.add_assoc];exact one _ _ g1
 ·rw[Nat.add_assoc];exact one _ _ g2
 ·rw[Nat.add_assoc];exact one _ _ g3
 ·rw[Nat.add_assoc];exact one _ _ g4
end PL
end
def endsL (c:List Sp):List Int:=c.flatMap (fun s=>[s.1,s.2])
theorem endsL_has {c:List Sp}(h:∀s∈c,s.1≤s.2){x:Int}(hx:x∈endsL c):has c x=true:=by
 unfold endsL at hx;obtain⟨s,hs,hx⟩:=List.mem_flatMap.1 hx;have:=h s hs;rw[has_iff];simp only[List.mem_cons,List.not_mem_nil,or_false] at hx;rcases hx with rfl|rfl
 ·exact⟨s,hs,Int.le_refl _,this⟩
 ·exact⟨s,hs,this,Int.le_refl _⟩
def symV (runes:Bool)(x:Int):Bool:=if runes=true then decide (0≤x∧x<55296) || decide (57343<x∧x≤1114111) else decide (0≤x∧x≤255)
def topV (runes:Bool):Int:=if runes=true then 1114111 else 255
theorem endsL_any {runes:Bool}{c:List Sp}(hc:∀s∈c,0≤s.1∧s.2≤topV runes){x:Int}(hx:has c x=true)(hv:symV runes x=true):∃y∈endsL c,symV runes y=true:=by
 obtain⟨s,hs,h1,h2⟩:=has_iff.1 hx;have hb:=hc s hs;have m1:s.1∈endsL c:=List.mem_flatMap.2 ⟨s,hs,by simp⟩;have m2:s.2∈endsL c:=List.mem_flatMap.2 ⟨s,hs,by simp⟩;unfold symV topV at *;cases runes
 ·simp only[Bool.false_eq_true,if_false,decide_eq_true_eq] at *;exact⟨s.1,m1,om⟩
 ·simp only[if_true,Bool.or_eq_true,decide_eq_true_eq] at *;by_cases h3:s.1<55296
  ·exact⟨s.1,m1,om⟩
  ·exact⟨s.2,m2,om⟩
def keepC (runes:Bool)(cs:List (List Sp)):List (List Sp):=cs.filter (fun c=>(endsL c).any (symV runes))
def smpP (runes:Bool)(c:List Sp):Int:=((endsL c).find? (symV runes)).getD 0
theorem smpP_in {runes:Bool}{c:List Sp}(h:(endsL c).any (symV runes)=true):smpP runes c∈endsL c∧symV runes (smpP runes c)=true:=by
 unfold smpP
 cases hf:(endsL c).find? (symV runes) with
 | none=>
  obtain⟨y,hy,hv⟩:=List.any_eq_true.1 h;have:=List.find?_eq_none.1 hf y hy;rw[hv] at this;simp at this
 | some y=>exact⟨List.mem_of_find?_eq_some hf,List.find?_some hf⟩
def strs (kept:List (List Sp)):List (Int×Nat):=kept.zipIdx.flatMap (fun p=>p.1.map (fun s=>(s.1,p.2)))
theorem strs_mem {kept:List (List Sp)}{p:Int×Nat}:p∈strs kept↔∃hk:p.2<kept.length,∃s∈kept[p.2],p.1=s.1:=by
 unfold strs;rw[List.mem_flatMap];constructor
 ·rintro⟨q,hq,hp⟩;obtain⟨s,hs,rfl⟩:=List.mem_map.1 hp;obtain⟨h1,h2,h3⟩:=List.mem_zipIdx hq;simp only[Nat.sub_zero] at h3;refine⟨om,s,?_,rfl⟩
  rw[←h3];exact hs
 ·rintro⟨hk,s,hs,h1⟩;refine⟨(kept[p.2],p.2),?_,?_⟩
  ·rw[List.mem_zipIdx_iff_getElem?];simp[hk]
  ·exact List.mem_map.2 ⟨s,hs,by rw[←h1]⟩
theorem stretch_law {kept:List (List Sp)}(hle:∀c∈kept,∀s∈c,s.1≤s.2)
 (hdis:∀x k k' (hk:k<kept.length) (hk':k'<kept.length),has kept[k] x=true→has kept[k'] x=true→k=k')
 {st:List (Int×Nat)} (hp:(strs kept).Perm st) (hs:st.Pairwise (fun a b=>a.1≤b.1)) {x:Int} {k:Nat} (hk:k<kept.length) (hx:has kept[k] x=true)
 {i:Nat} (hi:i≤st.length) (h1:∀j (hj:j<st.length),j<i→st[j].1≤x) (h2:∀(hj:i<st.length),x<st[i].1):∃h0:i-1<st.length,0<i∧st[i-1].2=k:=by
 obtain⟨s,hsm,h3,h4⟩:=has_iff.1 hx;have hm:(s.1,k)∈st:=hp.mem_iff.1 (strs_mem.2 ⟨hk,s,hsm,rfl⟩);obtain⟨j',hj',he⟩:=List.mem_iff_getElem.1 hm;have hsrt:=List.pairwise_iff_getElem.1 hs;have hj'i:j'<i:=by
  rcases Nat.lt_or_ge j' i with h|h
  ·exact h
  ·have hi2:i<st.length:=om;have h5:=h2 hi2;rcases Nat.lt_or_ge i j' with h6|h6
   ·have:=hsrt i j' hi2 hj' h6;rw[he] at this;simp only at this;omega
   ·have:i=j':=om;subst this;rw[he] at h5;simp only at h5;omega
 have h0:i-1<st.length:=om;refine⟨h0,om,?_⟩;have h5:=h1 (i-1) h0 om;have h6:s.1≤st[i-1].1:=by
  rcases Nat.lt_or_ge j' (i-1) with h|h
  ·have:=hsrt j' (i-1) hj' h0 h;rw[he] at this;exact this
  ·have:j'=i-1:=om;subst this;rw[he];exact Int.le_refl _
 obtain⟨hk2,s2,hs2,h7⟩:=strs_mem.1 (hp.mem_iff.2 (List.getElem_mem h0));have h8:=hle _ (List.getElem_mem hk2) s2 hs2;exact hdis st[i-1].1 _ _ hk2 hk (has_iff.2 ⟨s2,hs2,om,om⟩) (has_iff.2 ⟨s,hsm,h6,om⟩)
section
open Go.RowKit
structure Nd where
 op:Int
 A:Option Addr
 c:Nat
 l:List Sp
 K:Option Addr
 kc:Nat
 ks:List Value
 mn:Int
 mx:Int
 md:Int
 n:Int
 neg:Bool
def Nd.val (h:Nd):Value:=.agg #[.int .i64 h.op,.slice h.A h.l.length h.c,.slice h.K h.ks.length h.kc,.int .i64 h.mn,.int .i64 h.mx,.int .i64 h.md,.int .i64 h.n,.bool h.neg]
def Nd.cs (h:Nd):List Value:=[.int .i64 h.op,.slice h.A h.l.length h.c,.slice h.K h.ks.length h.kc,.int .i64 h.mn,.int .i64 h.mx,.int .i64 h.md,.int .i64 h.n,.bool h.neg]
def cellsOf:Value→List Value
 | .agg cs=>cs.toList
 | v=>[v]
theorem Nd.cells (h:Nd):cellsOf h.val=h.cs:=rfl
def SetOk (l:List Sp):Prop:=l.length≤2∧∀s∈l,(s.1∈[0,10,97,98,99,100,(256:Int)]∧s.2+1∈[11,97,98,99,100,(256:Int)])∧0≤s.1∧s.1≤s.2
structure NdOk (b:Nat)(h:Nd):Prop where
 op:h.op=0∨h.op=1∨h.op=2∨h.op=3∨h.op=4∨h.op=5∨h.op=11
 alt:h.op=3→2≤h.ks.length
 one:h.op=4∨h.op=5→1≤h.ks.length
 few:h.ks.length≤3
 mn:0≤h.mn∧h.mn≤b
 mx : -1≤h.mx∧h.mx≤b
 mm:h.mx = -1→h.mn+1≤b
 md:0≤h.md∧h.md≤1
 n:0≤h.n∧h.n≤9
 set:SetOk h.l
inductive TreeAt (b:Nat) (S:Nat→Prop) (w:World):Nat→Value→Prop
 | mk {d:Nat} (h:Nd):NdOk b h→SL w h.A h.c h.l→h.ks.length≤h.kc→h.kc≤maxLen→CellsAt w h.K (h.ks.flatMap cellsOf)→(∀u∈h.ks,TreeAt b S w d u)→(h.l≠[]→∀k,h.A.map (·.block)=some k→S k)→(h.ks≠[]→∀k,h.K.map (·.block)=some k→S k)→TreeAt b S w (d+1) h.val
theorem CellsAt.kpZ {w w':World}{A:Option Addr}{xs:List Value}{p:Nat→Prop}(h:CellsAt w A xs)(k:KpP p w w')(hn:∀b,A.map (·.block)=some b→¬p b):CellsAt w' A xs:=fun hx=>by
 obtain⟨b,o,rfl,hc⟩:=h hx;refine⟨b,o,rfl,fun i hi=>?_⟩;have h1:=hc i hi;rw[World.cell?_of_block (w:=w) (k.block b (World.block_lt_of_cell? _ _ h1) (hn b rfl))];exact h1
theorem SL.kpZ {w w':World}{A:Option Addr}{c:Nat}{l:List Sp}{p:Nat→Prop}(h:SL w A c l)(k:KpP p w w')(hn:l≠[]→∀b,A.map (·.block)=some b→¬p b):SL w' A c l:=by
 refine⟨h.le,h.cap,h.rng,fun hx=>?_⟩;obtain⟨b,o,rfl,hc⟩:=h.at_ hx;refine⟨b,o,rfl,fun i hi=>?_⟩;have h1:=hc i hi;have hb:=k.block b (World.block_lt_of_cell? _ _ h1.1) (hn hx b rfl);exact⟨by rw[World.cell?_of_block (w:=w) hb];exact h1.1,by rw[World.cell?_of_block (w:=w) hb];exact h1.2⟩
namespace TreeAt
variable {b:Nat} {S S':Nat→Prop} {w w':World} {d:Nat} {v:Value}
theorem ext (h:TreeAt b S w d v)(x:Ext w w'):TreeAt b S w' d v:=by
 induction h with
 | mk h h1 h2 h3 h4 h5 _ h7 h8 ih=>exact .mk h h1 (h2.ext x) h3 h4 (h5.ext x) ih h7 h8
theorem kp {q:Nat→Prop}(h:TreeAt b S w d v)(k:KpP q w w')(hq:∀i,q i→¬S i):TreeAt b S w' d v:=by
 induction h with
 | mk h h1 h2 h3 h4 h5 _ h7 h8 ih=>
  refine .mk h h1 (h2.kpZ k (fun hn i hi hqi=>hq i hqi (h7 hn i hi))) h3 h4 ?_ ih h7 h8;intro hx;have hn:h.ks≠[]:=by intro e;rw[e] at hx;exact hx rfl
  exact(h5.kpZ k (fun i hi hqi=>hq i hqi (h8 hn i hi))) hx
theorem mono (h:TreeAt b S w d v):∀{e:Nat},d≤e→TreeAt b S w e v:=by
 induction h with
 | mk h h1 h2 h3 h4 h5 _ h7 h8 ih=>
  intro e he;obtain⟨e,rfl⟩:∃k,e=k+1:=⟨e-1,om⟩;exact .mk h h1 h2 h3 h4 h5 (fun u hu=>ih u hu om) h7 h8
end TreeAt
end
end Go.Proofs.YtmocoldobnimfaaGreat
