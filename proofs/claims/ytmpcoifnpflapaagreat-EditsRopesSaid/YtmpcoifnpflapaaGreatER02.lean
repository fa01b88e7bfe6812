/- Texts of this proof: Fw W1. -/
import Derived.Test.YtmpcoifnpflapaaGreatER00
import Derived.OrdersHeld
import Derived.Deep.RegionHeld3
import Derived.Lib.Zigzag
import Derived.Laws.BitsAllLaws
set_option linter.all false
namespace Go.Proofs.YtmpcoifnpflapaaGreat
section
open Go.RowKit
structure KpP (p:Nat->Prop)(w w':World):Prop where
 os:w'.os=w.os
 tape:w'.tape=w.tape
 output:w'.output=w.output
 size:w.heap.size<=w'.heap.size
 block:∀k,k<w.heap.size->¬p k->w'.heap[k]? = w.heap[k]?
namespace KpP
variable {p q:Nat->Prop} {a b c w w':World}
theorem refl (p:Nat->Prop)(w:World):KpP p w w:=⟨rfl,rfl,rfl,Nat.le_refl _,fun _ _ _=>rfl⟩
theorem of_ext (h:Ext w w'):KpP p w w':=⟨h.os,h.tape,h.output,h.size,fun k hk _=>h.block k hk⟩
theorem mono (h:KpP p a b)(hpq:∀k,p k->q k):KpP q a b:=⟨h.os,h.tape,h.output,h.size,fun k hk hn=>h.block k hk (fun hp=>hn (hpq k hp))⟩
theorem trans (h:KpP p a b)(k:KpP p b c):KpP p a c:=
 ⟨k.os.trans h.os,k.tape.trans h.tape,k.output.trans h.output,Nat.le_trans h.size k.size,fun i hi hn=>(k.block i (Nat.lt_of_lt_of_le hi h.size) hn).trans (h.block i hi hn)⟩
theorem set (h:KpP p a w){x:Addr}(hp:p x.block\/a.heap.size<=x.block)(u:Value):KpP p a (w.setCell x u):=
 ⟨h.os,h.tape,h.output,by simpa[World.setCell] using h.size,fun k hk hn=>(Below.heap_setCell w x u k (by
  rintro rfl;rcases hp with hp|hp
  ·exact hn hp
  ·omega)).trans (h.block k hk hn)⟩
theorem blk {g T:Nat}{cs:Array Value}(h:KpP p a b)(hb:Blk a g T cs)(hn:¬p g):Blk b g T cs:=(h.block g hb.lt hn).trans hb
end KpP
structure Lz where
 z:Nat
 d:Nat
 k:Nat
 v:Nat->Value
 T:Nat
 cs:Array Value
def InI (I:List (Nat×Nat))(b:Nat):Prop:=∃p∈I,p.1<=b/\b<p.2
section
variable {P:Program} {ops:Array Oper} {Q:Exit->Act->World->Prop} (L:List Nat) (w0:World)
def WI (I:List (Nat×Nat))(w w':World):Prop:=KpP (fun b=>b∈L\/InI I b) w w'
def LzFact (I:List (Nat×Nat))(q:Lz)(g:Nat)(w:World):Prop:=w0.heap.size<=g/\Blk w g q.T q.cs/\¬InI I g
def stepX (P:Program)(ops:Array Oper)(Q:Exit->Act->World->Prop)(R:List Lz->List (Nat×Nat)->Array Bool->Act->World->Prop)
 (Z:List Lz) (I:List (Nat×Nat)) (listed:Array Bool) (a:Act) (w:World) (i:Nat):Prop:=
 ∀w',Ext w w'->Kp L w0 w'->
  match Z.find? (fun q=>q.k == i) with
  | none=>wpOp P ops Q i (fun a2 w2=>WI L I w' w2/\Kp L w0 w2/\R Z ((w'.heap.size,w2.heap.size)::I) (listed.setIfInBounds i true) a2 w2) a w'
  | some q=>∀g,LzFact w0 I q g w'->wpOp P ops Q i (fun a2 w2=>WI L ((g,g+1)::I) w' w2/\Kp L w0 w2/\
   R (Z.filter (fun q=>q.k != i)) ((w'.heap.size,w2.heap.size)::(g,g+1)::I) (listed.setIfInBounds i true) a2 w2) (a.put (some q.d) (q.v g)) w'
def wpX (P:Program)(ops:Array Oper)(Q:Exit->Act->World->Prop):Nat->List Lz->List (Nat×Nat)->Array Bool->Act->World->Prop
 | 0,Z,_,listed,a,w=>Region.ready .any ops listed=[]/\Z=[]/\∀w',Ext w w'->Kp L w0 w'->Q .normal a w'
 | n+1,Z,I,listed,a,w=>
  (Region.ready .any ops listed=[]->Z=[]/\∀w',Ext w w'->Kp L w0 w'->Q .normal a w')/\
  ∀i∈Region.ready .any ops listed,stepX L w0 P ops Q (wpX P ops Q n) Z I listed a w i
variable {L w0}
theorem wpX_ext:∀(n:Nat) {Z:List Lz} {I:List (Nat×Nat)} {listed:Array Bool} {a:Act} {w w':World},wpX L w0 P ops Q n Z I listed a w->Ext w w'->wpX L w0 P ops Q n Z I listed a w'
 | 0,_,_,_,_,_,_,h,k=>⟨h.1,h.2.1,fun w2 h2=>h.2.2 w2 (k.trans h2)⟩
 | _+1,_,_,_,_,_,_,h,k=>⟨fun hr=>⟨(h.1 hr).1,fun w2 h2=>(h.1 hr).2 w2 (k.trans h2)⟩,fun i hi w2 h2=>h.2 i hi w2 (k.trans h2)⟩
theorem InI_mono {I J:List (Nat×Nat)}(h:∀p∈I,p∈J){b:Nat}(hb:InI I b):InI J b:=let⟨p,hp,r⟩:=hb;⟨p,h p hp,r⟩
theorem WI_mono {I J:List (Nat×Nat)}(h:∀p∈I,p∈J){w w':World}(hw:WI L I w w'):WI L J w w':=KpP.mono hw (fun _ hk=>hk.imp id (InI_mono h))
theorem LzFact_mono {I J:List (Nat×Nat)}(h:∀p∈I,p∈J){q:Lz}{g:Nat}{w:World}(hw:LzFact w0 J q g w):LzFact w0 I q g w:=⟨hw.1,hw.2.1,fun hi=>hw.2.2 (InI_mono h hi)⟩
theorem wpX_mono:∀(n:Nat) {Z:List Lz} {I J:List (Nat×Nat)} {listed:Array Bool} {a:Act} {w:World},(∀p∈I,p∈J)->wpX L w0 P ops Q n Z I listed a w->wpX L w0 P ops Q n Z J listed a w
 | 0,_,_,_,_,_,_,_,h=>h
 | n+1,Z,I,J,listed,a,w,hIJ,h=>by
  refine⟨h.1,fun i hi w' h1 h2=>?_⟩;have h3:=h.2 i hi w' h1 h2;have c2:∀(x:Nat×Nat),∀p∈x::I,p∈x::J:=fun x p hp=>by
   rcases List.mem_cons.1 hp with rfl|hp
   ·simp
   ·exact List.mem_cons_of_mem _ (hIJ p hp)
  unfold stepX at *;generalize hf:Z.find? (fun q=>q.k == i)=f at h3 ⊢
  cases f with
  | none=>
   exact wpOp_mono (fun a2 w2 h4=>⟨WI_mono hIJ h4.1,h4.2.1,wpX_mono n (c2 _) h4.2.2⟩) h3
  | some q=>
   intro g hg;refine wpOp_mono (fun a2 w2 h4=>⟨WI_mono (c2 _) h4.1,h4.2.1,wpX_mono n ?_ h4.2.2⟩) (h3 g (LzFact_mono hIJ hg));intro p hp;rcases List.mem_cons.1 hp with rfl|hp
   ·simp
   ·exact List.mem_cons_of_mem _ (c2 _ p hp)
theorem wpAny_of_X:∀(n:Nat) {I:List (Nat×Nat)} {listed:Array Bool} {a:Act} {w:World},Kp L w0 w->wpX L w0 P ops Q n [] I listed a w->wpAny P .any ops Q n listed a w
 | 0,_,_,_,w,hk,h=>⟨h.1,h.2.2 w (Ext.rfl' w) hk⟩
 | n+1,_,_,_,w,hk,h=>⟨fun hr=>(h.1 hr).2 w (Ext.rfl' w) hk,fun i hi=>
  wpOp_mono (fun _ _ h4=>wpAny_of_X n h4.2.1 h4.2.2) (h.2 i hi w (Ext.rfl' w) hk)⟩
theorem wpOp_far {i d:Nat}{o:Oper}{v:Value}(ho:ops[i]? = some o)(hs:∀cs b,o.op≠.select cs b)(hl:d∉o.looksAt ops)(hd:o.dst≠some d)
 (hQ:∀c a w,¬Q (.panic c) a w) {K K':Act->World->Prop} {a:Act} {w:World} (hK:∀a2 w2,K a2 w2->K' (a2.put (some d) v) w2)
 (h:wpOp P ops Q i K a w):wpOp P ops Q i K' (a.put (some d) v) w:=by
 have hl':∀x,some d=some x->x∉o.looksAt ops:=fun x hx=>by injection hx with hx;subst hx;exact hl
 have hc:∀u,(a.put (some d) v).put o.dst u=(a.put o.dst u).put (some d) v:=fun u=>Act.put_comm a v u (fun x hx=>by injection hx with hx;subst hx;exact hd);unfold wpOp at *;simp only[ho] at *;rw[wanted_put o a (some d) v hl']
 split
 ·rename_i hw
  simp only[hw,if_true] at h;rcases h with h|⟨hasks,hlets⟩
  case inr=>exact .inr ⟨by unfold Oper.asks at *;rw[execOp_put o hs a (some d) v hl'];exact hasks,hlets⟩
  refine .inl ?_;unfold Oper.wp at *;rw[execOp_put o hs a (some d) v hl'];generalize (execOp a.eval o).run P w=r at *
  cases r with
  | ok n w'=>
   cases n<;>simp only[Oper.upon] at h ⊢
   case value u=>rw[hc];exact hK _ _ h
   case skip=>rw[hc];exact hK _ _ h
   case defer e=>
    have:=hK _ _ h
    rw[<-Act.put_comm _ v undef (fun x hx=>by injection hx with hx;subst hx;exact hd),<-Act.put_defers] at this;exact this
   case enter f args=>
    refine Calls.mono h fun e w'' he=>?_
    cases e with
    | returned u=>show K' _ _;rw[hc];exact hK _ _ he
    | panicked c=>exact absurd he (hQ _ _ _)
    | outgrown=>exact he
   case row row args=>exact Rows.mono h fun u w'' he=>by rw[hc];exact hK _ _ he
  | halt x w'=>
   cases x<;>simp only[Oper.upon] at h ⊢
   case panic u=>exact absurd h (hQ _ _ _)
 ·rename_i hw
  simp only[hw] at h;rw[hc];exact hK _ _ h
theorem wpOp_shape {i:Nat}{o:Oper}(ho:ops[i]? = some o){K:Act->World->Prop}{a:Act}{w:World}(h:wpOp P ops Q i K a w) :
 wpOp P ops Q i (fun a2 w2=>K a2 w2/\∃u,a2.tmps=(a.put o.dst u).tmps) a w:=by
 unfold wpOp at *;simp only[ho] at *
 split
 ·rename_i hw
  simp only[hw,if_true] at h;rcases h with h|h
  case inr=>exact .inr h
  refine .inl ?_;unfold Oper.wp at *;generalize (execOp a.eval o).run P w=r at *
  cases r with
  | ok n w'=>
   cases n<;>simp only[Oper.upon] at h ⊢
   case value u=>exact⟨h,u,rfl⟩
   case skip=>exact⟨h,_,rfl⟩
   case defer e=>exact⟨h,undef,by rw[<-Act.put_defers]⟩
   case enter f args=>
    refine Calls.mono h fun e w'' he=>?_
    cases e with
    | returned u=>exact⟨he,u,rfl⟩
    | panicked c=>exact he
    | outgrown=>exact he
   case row row args=>exact Rows.mono h fun u w'' he=>⟨he,u,rfl⟩
  | halt x w'=>cases x<;>simp only[Oper.upon] at h ⊢<;>exact h
 ·rename_i hw
  simp only[hw] at h;exact⟨h,undef,rfl⟩
theorem find_head {Z:List Lz}{q:Lz}:(q::Z).find? (fun x=>x.k == q.k)=some q:=by simp
theorem find_tail {Z:List Lz}{q:Lz}{i:Nat}(h:q.k≠i):(q::Z).find? (fun x=>x.k == i)=Z.find? (fun x=>x.k == i):=by
 have e:(q.k == i)=false:=by simp[h]
 rw[List.find?_cons,e]
theorem find_no {Z:List Lz}{i:Nat}(h:∀q∈Z,q.k≠i):Z.find? (fun x=>x.k == i)=none:=by
 rw[List.find?_eq_none];intro x hx;simpa using h x hx
theorem filter_head {Z:List Lz}{q:Lz}(h:∀x∈Z,x.k≠q.k):(q::Z).filter (fun x=>x.k != q.k)=Z:=by
 have h1:Z.filter (fun x=>x.k != q.k)=Z:=by rw[List.filter_eq_self];intro x hx;simpa using h x hx
 rw[List.filter_cons];simp[h1]
theorem filter_tail {Z:List Lz}{q:Lz}{i:Nat}(h:q.k≠i):(q::Z).filter (fun x=>x.k != i)=q::Z.filter (fun x=>x.k != i):=by
 rw[List.filter_cons];simp[h]
theorem unlisted_set {listed:Array Bool}{i j:Nat}(h:(listed.setIfInBounds i true).getD j true=false):j≠i/\listed.getD j true=false:=by
 by_cases hij:i=j
 ·subst hij
  exfalso
  rcases Nat.lt_or_ge i listed.size with h'|h'
  ·simp[h'] at h
  ·have h2:(listed.setIfInBounds i true).size<=i:=by simpa using h'
   simp[Array.getElem?_eq_none h2] at h
 ·rw[getD_set_ne true hij] at h;exact⟨fun e=>hij e.symm,h⟩
theorem swap2 {α:Type}{x y p:α}{I:List α}(h:p∈x::y::I):p∈y::x::I:=by
 simp only[List.mem_cons] at h ⊢;rcases h with h|h|h
 ·exact Or.inr (Or.inl h)
 ·exact Or.inl h
 ·exact Or.inr (Or.inr h)
theorem rot3 {α:Type}{x y z p:α}{I:List α}(h:p∈x::y::z::I):p∈y::z::x::I:=by
 simp only[List.mem_cons] at h ⊢;rcases h with h|h|h|h
 ·exact Or.inr (Or.inr (Or.inl h))
 ·exact Or.inl h
 ·exact Or.inr (Or.inl h)
 ·exact Or.inr (Or.inr (Or.inr h))
theorem lz_done {q:Lz}(hL:∀b∈L,b<w0.heap.size)(hsel:∀(j:Nat) (o:Oper) cs b,ops[j]? = some o->o.op≠.select cs b)(hQ:∀c a w,¬Q (.panic c) a w) :
 ∀(n:Nat) {Z:List Lz} {I:List (Nat×Nat)} {listed:Array Bool} {a:Act} {w:World} {g:Nat},(∀x∈Z,x.k≠q.k/\x.d≠q.d)->
  (∀j oj,ops[j]? = some oj->j≠q.k->listed.getD j true=false->q.d∉oj.looksAt ops/\oj.dst≠some q.d)->
  LzFact w0 I q g w->wpX L w0 P ops Q n (q::Z) I listed a w->wpX L w0 P ops Q n Z ((g,g+1)::I) listed (a.put (some q.d) (q.v g)) w
 | 0,_,_,_,_,_,_,_,_,_,h=>(by have:=h.2.1;cases this)
 | n+1,Z,I,listed,a,w,g,hk,hfar,hg,h=>by
  refine⟨fun hr=>(by have:=(h.1 hr).1;cases this),fun i hi w' h1 h2=>?_⟩;have h3:=h.2 i hi w' h1 h2;obtain⟨hun,oi,hoi,hall⟩:=mem_ready.1 hi;have hgB:Blk w' g q.T q.cs:=hg.2.1.ext h1;have hglt:=hgB.lt;have hgL:∀J,¬InI J g->¬(g∈L\/InI J g):=fun J hJ hor=>hor.elim (fun hm=>by have:=hL g hm;have:=hg.1;omega) hJ;have hfar':∀j oj,ops[j]? = some oj->j≠q.k->(listed.setIfInBounds i true).getD j true=false->q.d∉oj.looksAt ops/\oj.dst≠some q.d:=
   fun j oj hj hjk hl=>hfar j oj hj hjk (unlisted_set hl).2
  by_cases hik:q.k=i
  ·subst hik
   (try unfold stepX at h3)
   rw[find_head] at h3;rw[find_no (fun x hx=>(hk x hx).1)];have h4:=h3 g ⟨hg.1,hgB,hg.2.2⟩;rw[filter_head (fun x hx=>(hk x hx).1)] at h4;exact h4
  ·have hf:=hfar i oi hoi (fun e=>hik e.symm) hun
   (try unfold stepX at h3)
   rw[find_tail hik] at h3;generalize hf2:Z.find? (fun x=>x.k == i)=f at h3 ⊢
   cases f with
   | none=>
    refine wpOp_far hoi (fun cs b=>hsel i oi cs b hoi) hf.1 hf.2 hQ (fun a2 w2 h4=>?_) h3;refine⟨WI_mono (fun p hp=>List.mem_cons_of_mem _ hp) h4.1,h4.2.1,wpX_mono n ?_ (lz_done hL hsel hQ n hk hfar' ⟨hg.1,?_,?_⟩ h4.2.2)⟩
    ·exact fun p hp=>swap2 hp
    ·exact KpP.blk h4.1 hgB (hgL I hg.2.2)
    ·rintro⟨p,hp,hp1,hp2⟩;rcases List.mem_cons.1 hp with rfl|hp
     ·simp only at hp1;omega
     ·exact hg.2.2 ⟨p,hp,hp1,hp2⟩
   | some q'=>
    intro g' hg';have hm:=List.mem_of_find?_eq_some hf2;have h4:=h3 g' (LzFact_mono (fun p hp=>List.mem_cons_of_mem _ hp) hg');rw[filter_tail hik] at h4;have hne:g'≠g:=fun e=>hg'.2.2 ⟨(g,g+1),by simp,by simp;omega⟩;rw[Act.put_comm a (x:=some q.d) (y:=some q'.d) _ _ (fun x hx=>by injection hx with hx;subst hx;intro e;injection e with e;exact(hk q' hm).2 e)];refine wpOp_far hoi (fun cs b=>hsel i oi cs b hoi) hf.1 hf.2 hQ (fun a2 w2 h5=>?_) h4;have hgI:¬InI ((g',g'+1)::I) g:=by
     rintro⟨p,hp,hp1,hp2⟩;rcases List.mem_cons.1 hp with rfl|hp
     ·simp only at hp1 hp2;omega
     ·exact hg.2.2 ⟨p,hp,hp1,hp2⟩
    have hg2lt:=hg'.2.1.lt;refine⟨WI_mono ?_ h5.1,h5.2.1,wpX_mono n ?_ (lz_done hL hsel hQ n (fun x hx=>hk x (List.mem_filter.1 hx).1) hfar' ⟨hg.1,?_,?_⟩ h5.2.2)⟩
    ·intro p hp;rcases List.mem_cons.1 hp with rfl|hp
     ·simp
     ·exact List.mem_cons_of_mem _ (List.mem_cons_of_mem _ hp)
    ·exact fun p hp=>rot3 hp
    ·exact KpP.blk h5.1 hgB (hgL _ hgI)
    ·rintro⟨p,hp,hp1,hp2⟩;rcases List.mem_cons.1 hp with rfl|hp
     ·simp only at hp1;omega
     ·exact hgI ⟨p,hp,hp1,hp2⟩
theorem eval_of_tmps {a b:Act}(h:a.tmps=b.tmps):a.eval=b.eval:=by
 funext x;cases x<;>simp[Act.eval,h]
theorem declare {q:Lz}{oz:Oper}(hL:∀b∈L,b<w0.heap.size)(hsel:∀(j:Nat) (o:Oper) cs b,ops[j]? = some o->o.op≠.select cs b)(hQ:∀c a w,¬Q (.panic c) a w)
 (hz:ops[q.z]? = some oz) (hzg:oz.guard=none) (hzd:oz.dst=some q.d) (hkw:∀o,ops[q.k]? = some o->∃e∈o.after,Region.binds .any e=true/\e.on=q.z) :
 ∀(n:Nat) {Z:List Lz} {I:List (Nat×Nat)} {listed:Array Bool} {a:Act} {w:World},
  (∀w',(execOp a.eval oz).run P w'=.ok (.value (q.v w'.heap.size)) (w'.alloc (.cells q.cs q.T)))->
  q.z∈Region.ready .any ops listed->
  (∀j oj,ops[j]? = some oj->j≠q.z->listed.getD j true=false->(∀e∈oj.after,Region.binds .any e=true->e.on≠q.z)->oz.apart ops oj=true)->
  (∀j oj,ops[j]? = some oj->j≠q.k->j≠q.z->listed.getD j true=false->q.d∉oj.looksAt ops/\oj.dst≠some q.d)->
  (∀x∈Z,x.k≠q.k/\x.d≠q.d/\x.k≠q.z/\x.d∉oz.looksAt ops)->(∀p∈I,p.2<=w.heap.size)->
  wpX L w0 P ops Q n (q::Z) I (listed.setIfInBounds q.z true) a w->wpX L w0 P ops Q (n+1) Z I listed a w
 | 0,_,_,_,_,_,_,_,_,_,_,_,h=>(by have:=h.2.1;cases this)
 | n+1,Z,I,listed,a,w,hrun,hrd,hfree,hfar,hk,hI,h=>by
  refine⟨fun hr=>(by rw[hr] at hrd;cases hrd),fun i hi w' h1 h2=>?_⟩;obtain⟨hzun,_,_,_⟩:=mem_ready.1 hrd;by_cases hiz:i=q.z
  ·subst hiz
   (try unfold stepX)
   rw[find_no (fun x hx=>(hk x hx).2.2.1)]
   simp only
   unfold wpOp;rw[hz];simp only[Region.wanted,hzg,if_true];refine .inl ?_;unfold Oper.wp;rw[hrun w'];simp only[Oper.upon];have hE:Ext w' (w'.alloc (.cells q.cs q.T)):=Ext.alloc _ _;refine⟨KpP.of_ext hE,h2.ext hE,?_⟩;rw[hzd,World.size_alloc];refine lz_done hL hsel hQ (n+1) (fun x hx=>⟨(hk x hx).1,(hk x hx).2.1⟩) (fun j oj hj hjk hl=>?_) ⟨h2.size,Blk.new _ _ _,?_⟩ (wpX_ext _ h (h1.trans hE))
   ·have hl':=unlisted_set hl;exact hfar j oj hj hjk hl'.1 hl'.2
   ·rintro⟨p,hp,hp1,hp2⟩;have:=hI p hp;have:=h1.size;omega
  ·obtain⟨hun,oi,hoi,hall⟩:=mem_ready.1 hi;have hnw:∀e∈oi.after,Region.binds .any e=true->e.on≠q.z:=fun e he hb heq=>by
    have h3:=hall e he hb;rw[heq] at h3;rcases Nat.lt_or_ge q.z listed.size with h'|h'
    ·simp[h'] at h3 hzun;rw[h3] at hzun;cases hzun
    ·simp[Array.getElem?_eq_none h'] at h3
   have hik:q.k≠i:=fun e=>by
    obtain⟨ed,he,hb,hon⟩:=hkw oi (e▸hoi);exact hnw ed he hb hon
   have hap:=Oper.apart_spec (hfree i oi hoi hiz hun hnw);have h3:=h.2 i (ready_mono hi hiz) w' h1 h2;have hfree':∀j oj,ops[j]? = some oj->j≠q.z->(listed.setIfInBounds i true).getD j true=false->(∀e∈oj.after,Region.binds .any e=true->e.on≠q.z)->oz.apart ops oj=true:=
    fun j oj hj hjz hl hno=>hfree j oj hj hjz (unlisted_set hl).2 hno
   have hfar':∀j oj,ops[j]? = some oj->j≠q.k->j≠q.z->(listed.setIfInBounds i true).getD j true=false->q.d∉oj.looksAt ops/\oj.dst≠some q.d:=
    fun j oj hj hjk hjz hl=>hfar j oj hj hjk hjz (unlisted_set hl).2
   have hrd':=ready_mono hrd (Ne.symm hiz)
   (try unfold stepX at h3)
   (try unfold stepX)
   rw[find_tail hik] at h3;generalize hf2:Z.find? (fun x=>x.k == i)=f at h3 ⊢
   cases f with
   | none=>
    refine wpOp_mono (fun a2 w2 h4=>?_) (wpOp_shape hoi h3);obtain⟨⟨h5,h6,h7⟩,u,hu⟩:=h4;refine⟨h5,h6,declare hL hsel hQ hz hzg hzd hkw n ?_ hrd' hfree' hfar' hk ?_ ?_⟩
    ·intro w3;rw[eval_of_tmps hu,execOp_put oz (fun cs b=>hsel q.z oz cs b hz) a oi.dst u hap.2.2];exact hrun w3
    ·intro p hp;rcases List.mem_cons.1 hp with rfl|hp
     ·exact Nat.le_refl _
     ·have:=hI p hp;have:=h1.size;have:=h5.size;omega
    ·rw[Array.setIfInBounds_comm _ _ hiz];exact h7
   | some q'=>
    intro g' hg';have hm:=List.mem_of_find?_eq_some hf2;have h4:=h3 g' hg';rw[filter_tail hik] at h4;refine wpOp_mono (fun a2 w2 h4=>?_) (wpOp_shape hoi h4);obtain⟨⟨h5,h6,h7⟩,u,hu⟩:=h4;refine⟨h5,h6,declare hL hsel hQ hz hzg hzd hkw n ?_ hrd' hfree' hfar' (fun x hx=>hk x (List.mem_filter.1 hx).1) ?_ ?_⟩
    ·intro w3;rw[eval_of_tmps hu,execOp_put oz (fun cs b=>hsel q.z oz cs b hz) _ oi.dst u hap.2.2,
      execOp_put oz (fun cs b=>hsel q.z oz cs b hz) a (some q'.d) _ (fun x hx=>by injection hx with hx;subst hx;exact(hk q' hm).2.2.2)]
     exact hrun w3
    ·intro p hp;have hlt:=hg'.2.1.lt;rcases List.mem_cons.1 hp with rfl|hp
     ·exact Nat.le_refl _
     ·rcases List.mem_cons.1 hp with rfl|hp
      ·have:=h5.size;simp only;omega
      ·have:=hI p hp;have:=h1.size;have:=h5.size;omega
    ·rw[Array.setIfInBounds_comm _ _ hiz];exact h7
theorem takeX {i:Nat}{oi:Oper}{v:Value}(hi:ops[i]? = some oi)(hsel:∀(j:Nat) (o:Oper) cs b,ops[j]? = some o->o.op≠.select cs b)(hQ:∀c a w,¬Q (.panic c) a w) :
 ∀(n:Nat) {Z:List Lz} {I:List (Nat×Nat)} {listed:Array Bool} {a:Act} {w:World},
  (∀j oj,ops[j]? = some oj->j≠i->listed.getD j true=false->(∀e∈oj.after,Region.binds .any e=true->e.on≠i)->oi.apart ops oj=true)->
  i∈Region.ready .any ops listed->YieldsIf P ops (Kp L w0) oi v a->(∀x∈Z,x.k≠i/\x.d∉oi.looksAt ops/\oi.dst≠some x.d)->
  wpX L w0 P ops Q n Z I (listed.setIfInBounds i true) (a.put oi.dst v) w->wpX L w0 P ops Q (n+1) Z I listed a w:=by
 intro n;induction n with
 | zero=>
  intro Z I listed a w _ hr hy hZ h;refine⟨fun h0=>(by rw[h0] at hr;cases hr),fun j hj w' h1 h2=>?_⟩;by_cases hji:j=i
  ·subst hji
   (try unfold stepX)
   rw[find_no (fun x hx=>(hZ x hx).1)];exact hy.wpOp hi h2 ⟨KpP.refl _ _,h2,wpX_mono 0 (fun p hp=>List.mem_cons_of_mem _ hp) (wpX_ext 0 h h1)⟩
  ·have:=ready_mono hj hji;rw[h.1] at this;cases this
 | succ n ih=>
  intro Z I listed a w hfree hr hy hZ h;refine⟨fun h0=>(by rw[h0] at hr;cases hr),fun j hj w' h1 h2=>?_⟩;by_cases hji:j=i
  ·subst hji
   (try unfold stepX)
   rw[find_no (fun x hx=>(hZ x hx).1)];exact hy.wpOp hi h2 ⟨KpP.refl _ _,h2,wpX_mono (n+1) (fun p hp=>List.mem_cons_of_mem _ hp) (wpX_ext (n+1) h h1)⟩
  ·obtain⟨hjun,oj,hoj,hall⟩:=mem_ready.1 hj;have hnot:∀e∈oj.after,Region.binds .any e=true->e.on≠i:=fun e he hb heq=>by
    have h1:=hall e he hb;have h0:=(mem_ready.1 hr).1;rw[heq] at h1;rcases Nat.lt_or_ge i listed.size with h'|h'
    ·simp[h'] at h0 h1;rw[h0] at h1;cases h1
    ·simp[Array.getElem?_eq_none h'] at h1
   have hap:=hfree j oj hoj hji hjun hnot;have h3:=h.2 j (ready_mono hj hji) w' h1 h2;have hQ':∀c a w,Q (.panic c) (a.put oi.dst v) w->Q (.panic c) a w:=fun c a w h=>absurd h (hQ _ _ _);have hfree':∀k ok,ops[k]? = some ok->k≠i->(listed.setIfInBounds j true).getD k true=false->
    (∀e∈ok.after,Region.binds .any e=true->e.on≠i)->oi.apart ops ok=true:=fun k ok hk hki hun hno=>hfree k ok hk hki (unlisted_set hun).2 hno
   (try unfold stepX at h3)
   (try unfold stepX)
   generalize hf2:Z.find? (fun x=>x.k == j)=f at h3 ⊢
   cases f with
   | none=>
    refine wpOp_mono (fun a2 w2 h4=>?_) (wpOp_putIf hoj hap (fun cs b=>hsel i oi cs b hi) (fun cs b=>hsel j oj cs b hoj) hQ' hy h3);obtain⟨h5,h6,h7,h8⟩:=h4;refine⟨h6,h7,ih hfree' (ready_mono hr (Ne.symm hji)) h5 hZ ?_⟩;rw[Array.setIfInBounds_comm _ _ hji];exact h8
   | some q'=>
    intro g' hg';have hm:=List.mem_of_find?_eq_some hf2;have hz:=hZ q' hm;have hz':∀x,some q'.d=some x->x∉oi.looksAt ops:=fun x hx=>by injection hx with hx;subst hx;exact hz.2.1
    have h4:=h3 g' hg';have hcomm:(a.put oi.dst v).put (some q'.d) (q'.v g')=(a.put (some q'.d) (q'.v g')).put oi.dst v:=Act.put_comm a v _ (fun d hd e=>hz.2.2 (by rw[hd,e]));rw[hcomm] at h4;have hy':YieldsIf P ops (Kp L w0) oi v (a.put (some q'.d) (q'.v g')):=hy.of_same (execOp_put oi (fun cs b=>hsel i oi cs b hi) a (some q'.d) _ hz') (wanted_put oi a (some q'.d) _ hz');refine wpOp_mono (fun a2 w2 h4=>?_) (wpOp_putIf hoj hap (fun cs b=>hsel i oi cs b hi) (fun cs b=>hsel j oj cs b hoj) hQ' hy' h4);obtain⟨h5,h6,h7,h8⟩:=h4;refine⟨h6,h7,ih hfree' (ready_mono hr (Ne.symm hji)) h5 (fun x hx=>hZ x (List.mem_filter.1 hx).1) ?_⟩;rw[Array.setIfInBounds_comm _ _ hji];exact h8
end
theorem InI_head (g:Nat)(I:List (Nat×Nat)):InI ((g,g+1)::I) g:=⟨(g,g+1),by simp,by simp⟩
theorem WI_set {L:List Nat}{I:List (Nat×Nat)}{g:Nat}{a w:World}(h:WI L ((g,g+1)::I) a w)(o:Nat)(u:Value):WI L ((g,g+1)::I) a (w.setCell ⟨g,o,none⟩ u):=
 KpP.set h (Or.inl (Or.inr (InI_head g I))) u
theorem WI_setL {L:List Nat}{I:List (Nat×Nat)}{g:Nat}{a w:World}(h:WI L I a w)(hg:g∈L)(o:Nat)(u:Value):WI L I a (w.setCell ⟨g,o,none⟩ u):=
 KpP.set h (Or.inl (Or.inl hg)) u
theorem WI_refl (L:List Nat)(I:List (Nat×Nat))(w:World):WI L I w w:=KpP.refl _ _
theorem WI_ext {L:List Nat}{I:List (Nat×Nat)}{a w:World}(h:Ext a w):WI L I a w:=KpP.of_ext h
theorem Kp.setN {L:List Nat}{g:Nat}{a w:World}(h:Kp L a w)(hg:a.heap.size<=g)(o:Nat)(u:Value):Kp L a (w.setCell ⟨g,o,none⟩ u):=h.set (Or.inr hg) u
theorem Kp.setL {L:List Nat}{g:Nat}{a w:World}(h:Kp L a w)(hg:g∈L)(o:Nat)(u:Value):Kp L a (w.setCell ⟨g,o,none⟩ u):=h.set (Or.inl hg) u
def bits (n:Nat)(ls:List Nat):Array Bool:=((List.range n).map fun j=>ls.contains j).toArray
theorem bits_set (n i:Nat)(ls:List Nat):(bits n ls).setIfInBounds i true=bits n (i::ls):=by
 apply Array.ext
 ·simp[bits]
 ·intro j h1 h2;simp only[bits,List.setIfInBounds_toArray,List.getElem_toArray,List.getElem_set,List.getElem_map,List.getElem_range,List.contains_cons];by_cases h:i=j
  ·subst h;simp
  ·have:(j == i)=false:=by simp;exact fun e=>h e.symm
   simp[h,this]
theorem bits_nil (n:Nat):bits n []=Array.replicate n false:=by
 apply Array.ext
 ·simp[bits]
 ·intro j h1 h2;simp[bits]
section
variable {P:Program} {ops:Array Oper} {Q:Exit->Act->World->Prop} {L:List Nat} {w0:World}
def Xr (L:List Nat)(w0:World)(P:Program)(ops:Array Oper)(Q:Exit->Act->World->Prop)(n:Nat)(KD:List (Nat×Nat))(Z:List Lz)(I:List (Nat×Nat))(ls:List Nat)(a:Act)(w:World):Prop:=
 Z.map (fun q=>(q.k,q.d))=KD->wpX L w0 P ops (NoPanic Q) n Z I (bits ops.size ls) a w
theorem Xr.start {id:Nat}{a:Act}{w:World}(L:List Nat)(hm:P.follows .mixedOrders=true)(h:Xr L w P ops Q ops.size [] [] [] [] a w):(Code.region id ops true).wp P Q a w:=by
 refine wp_region_noPanic (wp_region_any hm ?_);have h:=h rfl;rw[bits_nil] at h;exact wpAny_of_X _ (Kp.drew w) (wpX_ext _ h (Ext.drew w))
def okTake (ops:Array Oper)(ls:List Nat)(Z:List (Nat×Nat))(i:Nat):Bool:=
 Region.noSelect ops&&Region.free .any ops (bits ops.size ls) i&&(Region.ready .any ops (bits ops.size ls)).contains i &&
  match ops[i]? with
  | some oi=>Z.all fun x=>x.1 != i&&!(oi.looksAt ops).contains x.2&&oi.dst != some x.2
  | none=>false
theorem NoPanic.never (Q:Exit->Act->World->Prop):∀c a w,¬NoPanic Q (.panic c) a w:=fun _ _ _ h=>h
variable {n:Nat} {KD:List (Nat×Nat)} {Z:List Lz} {I:List (Nat×Nat)} {ls:List Nat} {a:Act} {w:World}
theorem Xr.takeY (i:Nat)(d:Option Tmp){oi:Oper}{v:Value}(hi:ops[i]? = some oi)(hd:oi.dst=d)
 (hok:okTake ops ls KD i=true) (hy:YieldsIf P ops (Kp L w0) oi v a) (h:Xr L w0 P ops Q n KD Z I (i::ls) (a.put d v) w):Xr L w0 P ops Q (n+1) KD Z I ls a w:=by
 subst hd;intro hKD;have h':wpX L w0 P ops (NoPanic Q) n Z I (bits ops.size (i::ls)) (a.put oi.dst v) w:=h hKD;clear h;subst hKD;simp only[okTake,hi,Bool.and_eq_true] at hok;obtain⟨⟨⟨h1,h2⟩,h3⟩,h4⟩:=hok;refine takeX hi (Region.noSelect_spec h1) (NoPanic.never Q) n (Region.free_spec hi h2) (by simpa using h3) hy ?_ ?_
 ·intro x hx;have h5:=List.all_eq_true.1 h4 (x.k,x.d) (List.mem_map.2 ⟨x,hx,rfl⟩);simp only[Bool.and_eq_true,bne_iff_ne,ne_eq,Bool.not_eq_true'] at h5;refine⟨h5.1.1,?_,h5.2⟩;have h6:=h5.1.2;intro hm;rw[List.contains_iff_mem.2 hm] at h6;cases h6
 ·rw[bits_set];exact h'
theorem Xr.take (i:Nat)(d:Option Tmp){oi:Oper}{v:Value}(hi:ops[i]? = some oi)(hd:oi.dst=d)
 (hok:okTake ops ls KD i=true) (hw:Region.wanted oi (yielded ops a.tmps)=true)
 (hrun:∀w',Kp L w0 w'->(execOp a.eval oi).run P w'=.ok (.value v) w') (h:Xr L w0 P ops Q n KD Z I (i::ls) (a.put d v) w):Xr L w0 P ops Q (n+1) KD Z I ls a w:=
 Xr.takeY i d hi hd hok (.inl ⟨hw,hrun⟩) h
theorem Xr.skip (i:Nat)(d:Option Tmp){oi:Oper}(hi:ops[i]? = some oi)(hd:oi.dst=d)
 (hok:okTake ops ls KD i=true) (hw:Region.wanted oi (yielded ops a.tmps)=false)
 (h:Xr L w0 P ops Q n KD Z I (i::ls) (a.put d undef) w):Xr L w0 P ops Q (n+1) KD Z I ls a w:=
 Xr.takeY i d hi hd hok (.inr ⟨hw,rfl⟩) h
def okLazy (ops:Array Oper)(ls:List Nat)(Z:List (Nat×Nat))(z d k:Nat):Bool:=
 Region.noSelect ops&&Region.free .any ops (bits ops.size ls) z&&(Region.ready .any ops (bits ops.size ls)).contains z &&
 (match ops[z]? with
  | some oz=>oz.guard.isNone&&oz.dst == some d&&Z.all fun x=>x.1 != k&&x.2 != d&&x.1 != z&&!(oz.looksAt ops).contains x.2
  | none=>false) &&
 (match ops[k]? with
  | some ok=>ok.after.any fun e=>Region.binds .any e&&e.on == z
  | none=>false) &&
 (List.range ops.size).all fun j=>j == k || j == z || ls.contains j || match ops[j]? with
  | some oj=>!(oj.looksAt ops).contains d&&oj.dst != some d
  | none=>true
theorem bits_getD {n j:Nat}{ls:List Nat}(h:(bits n ls).getD j true=false):ls.contains j=false:=by
 unfold bits at h;rcases Nat.lt_or_ge j n with hj|hj
 ·simpa[hj] using h
 ·simp[hj] at h
theorem Xr.lazy (z d k:Nat)(v:Nat->Value)(T:Nat)(cs:Array Value){oz:Oper}(hz:ops[z]? = some oz)(hL:∀b∈L,b<w0.heap.size)
 (hok:okLazy ops ls KD z d k=true) (hI:∀p∈I,p.2<=w.heap.size)
 (hrun:∀w',(execOp a.eval oz).run P w'=.ok (.value (v w'.heap.size)) (w'.alloc (.cells cs T)))
 (h:Xr L w0 P ops Q n ((k,d)::KD) (⟨z,d,k,v,T,cs⟩::Z) I (z::ls) a w):Xr L w0 P ops Q (n+1) KD Z I ls a w:=by
 intro hKD;have h':wpX L w0 P ops (NoPanic Q) n (⟨z,d,k,v,T,cs⟩::Z) I (bits ops.size (z::ls)) a w:=h (by simp[hKD]);clear h;subst hKD;simp only[okLazy,hz,Bool.and_eq_true] at hok;obtain⟨⟨⟨⟨⟨h1,h2⟩,h3⟩,⟨h4,h4d⟩,h4z⟩,h5⟩,h6⟩:=hok;refine declare (q:=⟨z,d,k,v,T,cs⟩) hL (Region.noSelect_spec h1) (NoPanic.never Q) hz (by simpa using h4) (by simpa using h4d) ?_ n hrun (by simpa using h3) (Region.free_spec hz h2) ?_ ?_ hI ?_
 ·intro o ho
  simp only at ho
  rw[ho] at h5;obtain⟨e,he,hb⟩:=Array.any_eq_true'.1 h5;simp only[Bool.and_eq_true,beq_iff_eq] at hb;exact⟨e,he,hb⟩
 ·intro j oj hj hjk hjz hl;have h7:=List.all_eq_true.1 h6 j (List.mem_range.2 (Array.getElem?_eq_some_iff.1 hj).1);have h8:=bits_getD hl
  simp only at hjk hjz
  simp only[hj,Bool.or_eq_true,beq_iff_eq,hjk,hjz,h8,Bool.false_eq_true,false_or,Bool.and_eq_true,bne_iff_ne,ne_eq,Bool.not_eq_true'] at h7;refine⟨fun hm=>?_,h7.2⟩;have:=h7.1;rw[List.contains_iff_mem.2 hm] at this;cases this
 ·intro x hx;have h7:=List.all_eq_true.1 h4z (x.k,x.d) (List.mem_map.2 ⟨x,hx,rfl⟩);simp only[Bool.and_eq_true,bne_iff_ne,ne_eq,Bool.not_eq_true'] at h7;refine⟨h7.1.1.1,h7.1.1.2,h7.1.2,fun hm=>?_⟩;have:=h7.2;rw[List.contains_iff_mem.2 hm] at this;cases this
 ·rw[bits_set];exact h'
theorem step_of {i:Nat}{o:Oper}{K:Act->World->Prop}{a:Act}{w:World}(ho:ops[i]? = some o)(hw:Region.wanted o (yielded ops a.tmps)=true)
 (h:∀K',(∀a w,K a w->K' a w)->o.wp P a w K' (NoPanic Q)):wpOp P ops (NoPanic Q) i K a w:=by
 unfold wpOp;simp only[ho,hw,if_true];exact .inl (h K fun _ _ h=>h)
theorem kd_find {Z:List Lz}{i:Nat}(h:((Z.map fun q=>(q.k,q.d)).all fun x=>x.1 != i)=true):∀q∈Z,q.k≠i:=fun q hq e=>by
 have:=List.all_eq_true.1 h (q.k,q.d) (List.mem_map.2 ⟨q,hq,rfl⟩);simp[e] at this
theorem Xr.step (i:Nat){o:Oper}(ho:ops[i]? = some o)
 (hr:(Region.ready .any ops (bits ops.size ls) == [i]&&KD.all fun x=>x.1 != i)=true) (hw:Region.wanted o (yielded ops a.tmps)=true)
 (h:∀w',Ext w w'->Kp L w0 w'->∀K,(∀a2 w2,WI L I w' w2->Kp L w0 w2->Xr L w0 P ops Q n KD Z ((w'.heap.size,w2.heap.size)::I) (i::ls) a2 w2->K a2 w2)->o.wp P a w' K (NoPanic Q)) :
 Xr L w0 P ops Q (n+1) KD Z I ls a w:=by
 intro hKD;simp only[Bool.and_eq_true,beq_iff_eq] at hr;obtain⟨hr,hZ⟩:=hr;refine⟨fun h0=>(by rw[hr] at h0;cases h0),fun j hj w' h1 h2=>?_⟩;rw[hr] at hj;obtain rfl:j=i:=by simpa using hj
 have hf:Z.find? (fun q=>q.k == j)=none:=find_no (kd_find (by rw[hKD];exact hZ))
 (try unfold stepX)
 rw[hf];refine step_of ho hw fun K' hK'=>h w' h1 h2 K' fun a2 w2 h3 h4 h5=>hK' a2 w2 ⟨h3,h4,?_⟩;rw[bits_set];exact h5 hKD
theorem Xr.call (i:Nat){o:Oper}(ho:ops[i]? = some o)
 (hr:(Region.ready .any ops (bits ops.size ls) == [i]&&KD.all fun x=>x.1 != i)=true) (hw:Region.wanted o (yielded ops a.tmps)=true)
 (h:∀w',Ext w w'->Kp L w0 w'->∀K,(∀a2 w2,Ext w' w2->Xr L w0 P ops Q n KD Z ((w'.heap.size,w2.heap.size)::I) (i::ls) a2 w2->K a2 w2)->o.wp P a w' K (NoPanic Q)) :
 Xr L w0 P ops Q (n+1) KD Z I ls a w:=by
 intro hKD;simp only[Bool.and_eq_true,beq_iff_eq] at hr;obtain⟨hr,hZ⟩:=hr;refine⟨fun h0=>(by rw[hr] at h0;cases h0),fun j hj w' h1 h2=>?_⟩;rw[hr] at hj;obtain rfl:j=i:=by simpa using hj
 have hf:Z.find? (fun q=>q.k == j)=none:=find_no (kd_find (by rw[hKD];exact hZ))
 (try unfold stepX)
 rw[hf];refine step_of ho hw fun K' hK'=>h w' h1 h2 K' fun a2 w2 h3 h5=>hK' a2 w2 ⟨KpP.of_ext h3,h2.ext h3,?_⟩;rw[bits_set];exact h5 hKD
theorem Xr.stepZ {z d k:Nat}{v:Nat->Value}{T:Nat}{cs:Array Value}{o:Oper}(ho:ops[k]? = some o)
 (hr:(Region.ready .any ops (bits ops.size ls) == [k]&&KD.all fun x=>x.1 != k)=true)
 (hw:∀g,Region.wanted o (yielded ops (a.put (some d) (v g)).tmps)=true)
 (h:∀w' g,Ext w w'->Kp L w0 w'->w0.heap.size<=g->Blk w' g T cs->¬InI I g->∀K,(∀a2 w2,WI L ((g,g+1)::I) w' w2->Kp L w0 w2->
  Xr L w0 P ops Q n KD Z ((w'.heap.size,w2.heap.size)::(g,g+1)::I) (k::ls) a2 w2->K a2 w2)->o.wp P (a.put (some d) (v g)) w' K (NoPanic Q)) :
 Xr L w0 P ops Q (n+1) ((k,d)::KD) (⟨z,d,k,v,T,cs⟩::Z) I ls a w:=by
 intro hKD0;have hKD:Z.map (fun q=>(q.k,q.d))=KD:=by simpa using hKD0
 clear hKD0;simp only[Bool.and_eq_true,beq_iff_eq] at hr;obtain⟨hr,hZ⟩:=hr;refine⟨fun h0=>(by rw[hr] at h0;cases h0),fun j hj w' h1 h2=>?_⟩;rw[hr] at hj;obtain rfl:j=k:=by simpa using hj
 have hf:=kd_find (Z:=Z) (i:=j) (by rw[hKD];exact hZ)
 (try unfold stepX)
 rw[find_head (q:=⟨z,d,j,v,T,cs⟩)];intro g hg;rw[filter_head (q:=⟨z,d,j,v,T,cs⟩) hf];refine step_of ho (hw g) fun K' hK'=>h w' g h1 h2 hg.1 hg.2.1 hg.2.2 K' fun a2 w2 h3 h4 h5=>hK' a2 w2 ⟨h3,h4,?_⟩;rw[bits_set];exact h5 hKD
theorem Xr.done (hr:Region.ready .any ops (bits ops.size ls)=[])
 (h:∀w',Ext w w'->Kp L w0 w'->Q .normal a w'):Xr L w0 P ops Q n [] [] I ls a w:=by
 intro _
 cases n with
 | zero=>exact⟨hr,rfl,fun w' h1 h2=>h w' h1 h2⟩
 | succ n=>exact⟨fun _=>⟨rfl,fun w' h1 h2=>h w' h1 h2⟩,fun i hi=>by rw[hr] at hi;cases hi⟩
end
section
variable {P:Program} {ops:Array Oper} {Q:Exit->Act->World->Prop} {L:List Nat} {w0:World}
variable {n:Nat} {KD:List (Nat×Nat)} {Z:List Lz} {I:List (Nat×Nat)} {ls:List Nat} {a:Act} {w:World}
theorem Xtk (i:Nat){d:Option Tmp}{oi:Oper}{v:Value}{b:Act}(h:Xr L w0 P ops Q n KD Z I (i::ls) b w)(hi:ops[i]? = some oi:=by rfl)(hd:oi.dst=d:=by(conv=>lhs;whnf);try rfl)(hok:okTake ops ls KD i=true:=by decide +kernel)(hw:Region.wanted oi (yielded ops a.tmps)=true:=by rfl)
 (hrun:∀w',Kp L w0 w'->(execOp a.eval oi).run P w'=.ok (.value v) w':=by intro w' hk;go_simp;(try with_reducible rfl);done)
 (hb:a.put d v=b:=by(try simp only[Act.put,List.setIfInBounds_toArray,List.set_cons_zero,List.set_cons_succ]);(try with_reducible rfl);done):Xr L w0 P ops Q (n+1) KD Z I ls a w:=Xr.take i d hi hd hok hw hrun (hb▸h)
theorem Xsk (i:Nat){d:Option Tmp}{oi:Oper}{b:Act}(h:Xr L w0 P ops Q n KD Z I (i::ls) b w)(hi:ops[i]? = some oi:=by rfl)(hd:oi.dst=d:=by(conv=>lhs;whnf);try rfl)(hok:okTake ops ls KD i=true:=by decide +kernel)(hw:Region.wanted oi (yielded ops a.tmps)=false:=by rfl)
 (hb:a.put d undef=b:=by(try simp only[Act.put,List.setIfInBounds_toArray,List.set_cons_zero,List.set_cons_succ]);(try with_reducible rfl);done):Xr L w0 P ops Q (n+1) KD Z I ls a w:=Xr.skip i d hi hd hok hw (hb▸h)
theorem Xtn {i j:Nat}{d:Option Tmp}{oi:Oper}{v:Value}{b:Act}(h:Xr L w0 P ops Q n KD Z I (j::i::ls) b w)(hj:i+1=j:=by simp only[Nat.reduceAdd];rfl)(hi:ops[j]? = some oi:=by rfl)(hd:oi.dst=d:=by(conv=>lhs;whnf);try rfl)(hok:okTake ops (i::ls) KD j=true:=by decide +kernel)(hw:Region.wanted oi (yielded ops a.tmps)=true:=by rfl)
 (hrun:∀w',Kp L w0 w'->(execOp a.eval oi).run P w'=.ok (.value v) w':=by intro w' hk;go_simp;(try with_reducible rfl);done)
 (hb:a.put d v=b:=by(try simp only[Act.put,List.setIfInBounds_toArray,List.set_cons_zero,List.set_cons_succ]);(try with_reducible rfl);done):Xr L w0 P ops Q (n+1) KD Z I (i::ls) a w:=Xr.take j d hi hd hok hw hrun (hb▸h)
theorem Xsn {i j:Nat}{d:Option Tmp}{oi:Oper}{b:Act}(h:Xr L w0 P ops Q n KD Z I (j::i::ls) b w)(hj:i+1=j:=by simp only[Nat.reduceAdd];rfl)(hi:ops[j]? = some oi:=by rfl)(hd:oi.dst=d:=by(conv=>lhs;whnf);try rfl)(hok:okTake ops (i::ls) KD j=true:=by decide +kernel)(hw:Region.wanted oi (yielded ops a.tmps)=false:=by rfl)
 (hb:a.put d undef=b:=by(try simp only[Act.put,List.setIfInBounds_toArray,List.set_cons_zero,List.set_cons_succ]);(try with_reducible rfl);done):Xr L w0 P ops Q (n+1) KD Z I (i::ls) a w:=Xr.skip j d hi hd hok hw (hb▸h)
theorem Xdn (h:∀w',Ext w w'->Kp L w0 w'->Q .normal a w')(hr:Region.ready .any ops (bits ops.size ls)=[]:=by decide +kernel):Xr L w0 P ops Q n [] [] I ls a w:=Xr.done hr h
theorem Xsp (i:Nat){o:Oper}(h:∀w',Ext w w'->Kp L w0 w'->∀K,(∀a2 w2,WI L I w' w2->Kp L w0 w2->Xr L w0 P ops Q n KD Z ((w'.heap.size,w2.heap.size)::I) (i::ls) a2 w2->K a2 w2)->o.wp P a w' K (NoPanic Q))(ho:ops[i]? = some o:=by rfl)
 (hr:(Region.ready .any ops (bits ops.size ls) == [i]&&KD.all fun x=>x.1 != i)=true:=by decide +kernel) (hw:Region.wanted o (yielded ops a.tmps)=true:=by rfl):Xr L w0 P ops Q (n+1) KD Z I ls a w:=Xr.step i ho hr hw h
theorem Xcl (i:Nat){o:Oper}(h:∀w',Ext w w'->Kp L w0 w'->∀K,(∀a2 w2,Ext w' w2->Xr L w0 P ops Q n KD Z ((w'.heap.size,w2.heap.size)::I) (i::ls) a2 w2->K a2 w2)->o.wp P a w' K (NoPanic Q))(ho:ops[i]? = some o:=by rfl)
 (hr:(Region.ready .any ops (bits ops.size ls) == [i]&&KD.all fun x=>x.1 != i)=true:=by decide +kernel) (hw:Region.wanted o (yielded ops a.tmps)=true:=by rfl):Xr L w0 P ops Q (n+1) KD Z I ls a w:=Xr.call i ho hr hw h
end
def U8 (b:Int):Prop:=0<=b/\b<256
end
end Go.Proofs.YtmpcoifnpflapaaGreat
