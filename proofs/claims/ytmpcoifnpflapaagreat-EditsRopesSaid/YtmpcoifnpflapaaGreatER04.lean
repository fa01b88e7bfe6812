/- Texts of this proof: S2 S3 S4 S5. -/
import Derived.Test.YtmpcoifnpflapaaGreatER00
set_option linter.all false
namespace Go.Proofs.YtmpcoifnpflapaaGreat
section
open Go.RowKit
def segsT:List Int->Int->List Sp
 | [],_=>[]
 | [a],top=>[(a,top)]
 | a::b::r,top=>(a,b-1)::segsT (b::r) top
theorem segsT_cons (a b:Int)(r:List Int)(top:Int):segsT (a::b::r) top=(a,b-1)::segsT (b::r) top:=rfl
theorem segsT_len:∀(l:List Int) (top:Int),(segsT l top).length=l.length
 | [],_=>rfl
 | [_],_=>rfl
 | a::b::r,top=>by rw[segsT_cons,List.length_cons,segsT_len (b::r) top];rfl
structure Ends (l:List Int)(top:Int):Prop where
 inc:l.Pairwise (· < ·)
 le:∀x∈l,x<=top
theorem Ends.tail {a:Int}{l:List Int}{top:Int}(h:Ends (a::l) top):Ends l top:=⟨(List.pairwise_cons.1 h.inc).2,fun x hx=>h.le x (by simp[hx])⟩
theorem segsT_mem:∀{l:List Int} {top:Int},Ends l top->∀s∈segsT l top,s.1∈l/\s.1<=s.2/\s.2<=top/\∀e∈l,¬(s.1<e/\e<=s.2)
 | [],_,_,s,hs=>by simp[segsT] at hs
 | [a],top,h,s,hs=>by
  obtain rfl:=List.mem_singleton.1 hs;have:=h.le a si;refine⟨by simp,this,Int.le_refl _,fun e he=>?_⟩;obtain rfl:=List.mem_singleton.1 he
  simp only;omega
 | a::b::r,top,h,s,hs=>by
  have hp:=List.pairwise_cons.1 h.inc;have hab:=hp.1 b si;have hb:=h.le b si;rw[segsT_cons] at hs;rcases List.mem_cons.1 hs with rfl|hs
  ·refine⟨by simp,by simp only;omega,by simp only;omega,fun e he=>?_⟩
   simp only
   rcases List.mem_cons.1 he with rfl|he
   ·omega
   ·rcases List.mem_cons.1 he with rfl|he
    ·omega
    ·have:=(List.pairwise_cons.1 hp.2).1 e he;omega
  ·obtain⟨h1,h2,h3,h4⟩:=segsT_mem h.tail s hs;refine⟨List.mem_cons_of_mem _ h1,h2,h3,fun e he=>?_⟩;rcases List.mem_cons.1 he with rfl|he
   ·have:=hp.1 s.1 h1;omega
   ·exact h4 e he
theorem segsT_pair:∀{l:List Int} {top:Int},Ends l top->(segsT l top).Pairwise (fun s t=>s.2<t.1)
 | [],_,_=>List.Pairwise.nil
 | [a],_,_=>by simp[segsT]
 | a::b::r,top,h=>by
  rw[segsT_cons];refine List.pairwise_cons.2 ⟨fun t ht=>?_,segsT_pair h.tail⟩;have h1:=(segsT_mem h.tail t ht).1
  simp only
  rcases List.mem_cons.1 h1 with h2|h2
  ·omega
  ·have:=(List.pairwise_cons.1 h.tail.inc).1 t.1 h2;omega
theorem segsT_has:∀{l:List Int} {top:Int},Ends l top->∀a,l.head? = some a->∀x,a<=x->x<=top->∃s∈segsT l top,s.1<=x/\x<=s.2
 | [],_,_,a,ha,_,_,_=>by simp at ha
 | [b],top,_,a,ha,x,h1,h2=>by
  simp at ha;subst ha;exact⟨(b,top),by simp[segsT],h1,h2⟩
 | b::c::r,top,h,a,ha,x,h1,h2=>by
  simp at ha;subst ha;rw[segsT_cons];by_cases hc:x<c
  ·exact⟨(b,c-1),by simp,h1,by simp only;omega⟩
  ·obtain⟨s,hs,h3⟩:=segsT_has h.tail c rfl x om h2;exact⟨s,List.mem_cons_of_mem _ hs,h3⟩
def cls (l:List Int)(top:Int)(p:Int->Bool):List Sp:=((segsT l top).filter (fun s=>p s.1)).foldl addS []
theorem cls_canon {l:List Int}{top:Int}(h:Ends l top)(p:Int->Bool):Canon (cls l top p)/\∀x,has (cls l top p) x=true<->∃s∈segsT l top,p s.1=true/\s.1<=x/\x<=s.2:=by
 have hm:=segsT_mem h;have hp:((segsT l top).filter (fun s=>p s.1)).Pairwise (fun s t=>s.1<=t.1):=by
  refine List.Pairwise.filter _ ((segsT_pair h).imp_of_mem (fun{s t} hs ht hst=>?_));have:=(hm s hs).2.1;omega
 obtain⟨h1,h2⟩:=addAll_law ((segsT l top).filter (fun s=>p s.1)) [] Canon.nil (fun s hs=>(hm s (List.mem_filter.1 hs).1).2.1) hp si;refine⟨h1,fun x=>?_⟩;unfold cls;rw[h2,has_nil,Bool.false_or,has_iff];constructor
 ·rintro⟨s,hs,h3⟩;obtain⟨h4,h5⟩:=List.mem_filter.1 hs;exact⟨s,h4,h5,h3⟩
 ·rintro⟨s,hs,h3,h4⟩;exact⟨s,List.mem_filter.2 ⟨hs,h3⟩,h4⟩
def Steady (l:List Int)(top:Int)(p:Int->Bool):Prop:=∀e x,e<=x->x<=top->(∀y∈l,¬(e<y/\y<=x))->p x=p e
theorem cls_has {l:List Int}{top:Int}(h:Ends l top){p:Int->Bool}(hp:Steady l top p){a:Int}(ha:l.head? = some a)(x:Int):has (cls l top p) x=(p x&&decide (a<=x/\x<=top)):=by
 rw[Bool.eq_iff_iff,(cls_canon h p).2];simp only[Bool.and_eq_true,decide_eq_true_eq];constructor
 ·rintro⟨s,hs,h1,h2,h3⟩;obtain⟨h4,h5,h6,h7⟩:=segsT_mem h s hs;refine⟨?_,?_,om⟩
  ·rw[hp s.1 x h2 om (fun y hy hc=>h7 y hy ⟨hc.1,om⟩)];exact h1
  ·have:a<=s.1:=by
    rcases l with _|⟨b,l⟩
    ·simp at ha
    ·simp at ha;subst ha;rcases List.mem_cons.1 h4 with e|e
     ·omega
     ·have:=(List.pairwise_cons.1 h.inc).1 s.1 e;omega
   omega
 ·rintro⟨h1,h2,h3⟩;obtain⟨s,hs,h4,h5⟩:=segsT_has h a ha x h2 h3;obtain⟨_,_,h6,h7⟩:=segsT_mem h s hs;exact⟨s,hs,by rw[<-hp s.1 x h4 h3 (fun y hy hc=>h7 y hy ⟨hc.1,om⟩)];exact h1,h4,h5⟩
def EndsIn (a:List Sp)(l:List Int)(top:Int):Prop:=∀s∈a,(s.1<=top->s.1∈l)/\(s.2+1<=top->s.2+1∈l)
theorem has_steady {a:List Sp}{l:List Int}{top:Int}(h:EndsIn a l top)(e x:Int)(hx:e<=x)(ht:x<=top)(hg:∀y∈l,¬(e<y/\y<=x)):has a x=has a e:=by
 rw[Bool.eq_iff_iff,has_iff,has_iff];constructor
 ·rintro⟨s,hs,h1,h2⟩;refine⟨s,hs,?_,om⟩;rcases Int.lt_or_le e s.1 with h3|h3
  ·exact absurd ⟨h3,h1⟩ (hg s.1 ((h s hs).1 om))
  ·exact h3
 ·rintro⟨s,hs,h1,h2⟩;refine⟨s,hs,om,?_⟩;rcases Int.lt_or_le s.2 x with h3|h3
  ·exact absurd ⟨om,om⟩ (hg (s.2+1) ((h s hs).2 om))
  ·exact h3
def upto (l:List Int)(n:Int):Nat:=(l.takeWhile (fun x=>decide (x<n))).length
theorem upto_lt:∀(l:List Int) (n:Int) (i:Nat) (h:i<l.length),i<upto l n->l[i]<n
 | a::l,n,i,h,hi=>by
  unfold upto at hi;rw[List.takeWhile_cons] at hi;by_cases ha:a<n
  ·simp only[ha,decide_true,if_true,List.length_cons] at hi;rcases i with _|i
   ·exact ha
   ·exact upto_lt l n i (by simpa using h) (by unfold upto;omega)
  ·simp[ha] at hi
theorem upto_at:∀(l:List Int) (n:Int) (h:upto l n<l.length),¬l[upto l n]<n
 | a::l,n,h=>by
  by_cases ha:a<n
  ·have e:upto (a::l) n=upto l n+1:=by simp[upto,List.takeWhile_cons,ha]
   have h2:upto l n<l.length:=by rw[e] at h;simpa using h
   have:=upto_at l n h2;simp only[e,List.getElem_cons_succ];exact this
  ·have e:upto (a::l) n=0:=by simp[upto,List.takeWhile_cons,ha]
   simp only[e,List.getElem_cons_zero];exact ha
def putE (l:List Int)(n top:Int):List Int:=if top<n\/l[upto l n]? = some n then l else l.take (upto l n)++n::l.drop (upto l n)
theorem putE_mem {l:List Int}{n top x:Int}(h:Ends l top):x∈putE l n top<->x∈l\/(x=n/\n<=top):=by
 unfold putE
 split
 ·rename_i hc
  constructor
  ·exact fun hx=>.inl hx
  ·rintro(hx|⟨rfl,hx⟩)
   ·exact hx
   ·rcases hc with hc|hc
    ·omega
    ·exact List.mem_of_getElem? hc
 ·rename_i hc
  rw[not_or] at hc;rw[List.mem_append,List.mem_cons];constructor
  ·rintro(hx|hx|hx)
   ·exact .inl (List.mem_of_mem_take hx)
   ·exact .inr ⟨hx,om⟩
   ·exact .inl (List.mem_of_mem_drop hx)
  ·rintro(hx|⟨hx,_⟩)
   ·rw[<-List.take_append_drop (upto l n) l] at hx;rcases List.mem_append.1 hx with hx|hx
    ·exact .inl hx
    ·exact .inr (.inr hx)
   ·exact .inr (.inl hx)
theorem putE_ends {l:List Int}{n top:Int}(h:Ends l top):Ends (putE l n top) top:=by
 refine⟨?_,fun x hx=>?_⟩
 ·unfold putE
  split
  ·exact h.inc
  ·rename_i hc
   rw[not_or] at hc;refine List.pairwise_append.2 ⟨h.inc.sublist (List.take_sublist _ _),List.pairwise_cons.2 ⟨fun y hy=>?_,h.inc.sublist (List.drop_sublist _ _)⟩,fun x hx y hy=>?_⟩
   ·have hlt:upto l n<l.length:=by
     rcases Nat.lt_or_ge (upto l n) l.length with h1|h1
     ·exact h1
     ·rw[List.drop_eq_nil_of_le h1] at hy;simp at hy
    have h1:=upto_at l n hlt;have h2:l[upto l n]≠n:=fun e=>hc.2 (by rw[List.getElem?_eq_getElem hlt,e]);rw[List.drop_eq_getElem_cons hlt] at hy;rcases List.mem_cons.1 hy with rfl|hy
    ·omega
    ·have h3:=h.inc.sublist (List.drop_sublist (upto l n) l);rw[List.drop_eq_getElem_cons hlt] at h3;have:=(List.pairwise_cons.1 h3).1 y hy;omega
   ·have hxn:x<n:=by
     obtain⟨i,hi,rfl⟩:=List.getElem_of_mem hx;rw[List.length_take] at hi;rw[List.getElem_take];exact upto_lt l n i om om
    rcases List.mem_cons.1 hy with rfl|hy
    ·exact hxn
    ·have h3:=h.inc
     rw[<-List.take_append_drop (upto l n) l] at h3;exact(List.pairwise_append.1 h3).2.2 x hx y hy
 ·rcases(putE_mem h).1 hx with hx|⟨rfl,hx⟩
  ·exact h.le x hx
  ·exact hx
theorem putE_head {l:List Int}{n top:Int}(h:l.head? = some 0)(hn:0<=n):(putE l n top).head? = some 0:=by
 rcases l with _|⟨a,l⟩
 ·simp at h
 ·obtain rfl:a=0:=by simpa using h
  unfold putE
  split
  ·rfl
  ·rename_i hc
   rw[not_or] at hc;by_cases h0:(0:Int)<n
   ·have e:upto (0::l) n=upto l n+1:=by simp[upto,List.takeWhile_cons,h0]
    rw[e];simp
   ·have e:upto (0::l) n=0:=by simp[upto,List.takeWhile_cons,h0]
    obtain rfl:n=0:=om;rw[e] at hc;simp at hc
def putS (top:Int)(l:List Int)(s:Sp):List Int:=putE (putE l s.1 top) (s.2+1) top
def endsT (top:Int)(ls:List (List Sp)):List Int:=ls.flatten.foldl (putS top) [0]
structure EndsOk (l:List Int)(top:Int)(a:List Sp):Prop where
 ends:Ends l top
 head:l.head? = some 0
 inn:EndsIn a l top
 only:∀x∈l,x=0\/∃s∈a,x=s.1\/x=s.2+1
theorem EndsOk.put {l:List Int}{top:Int}{a:List Sp}(h:EndsOk l top a){s:Sp}(hs:0<=s.1/\s.1<=s.2):EndsOk (putS top l s) top (a++[s]):=by
 have h1:=putE_ends (n:=s.1) h.ends;refine⟨putE_ends h1,putE_head (putE_head h.head hs.1) om,fun t ht=>?_,fun x hx=>?_⟩
 ·unfold putS;rcases List.mem_append.1 ht with ht|ht
  ·have:=h.inn t ht;exact⟨fun hx=>(putE_mem h1).2 (.inl ((putE_mem h.ends).2 (.inl (this.1 hx)))),fun hx=>(putE_mem h1).2 (.inl ((putE_mem h.ends).2 (.inl (this.2 hx))))⟩
  ·obtain rfl:=List.mem_singleton.1 ht;exact⟨fun hx=>(putE_mem h1).2 (.inl ((putE_mem h.ends).2 (.inr ⟨rfl,hx⟩))),fun hx=>(putE_mem h1).2 (.inr ⟨rfl,hx⟩)⟩
 ·unfold putS at hx;rcases(putE_mem h1).1 hx with hx|⟨hx,_⟩
  ·rcases(putE_mem h.ends).1 hx with hx|⟨hx,_⟩
   ·rcases h.only x hx with h2|⟨t,ht,h2⟩
    ·exact .inl h2
    ·exact .inr ⟨t,List.mem_append_left _ ht,h2⟩
   ·exact .inr ⟨s,by simp,.inl hx⟩
  ·exact .inr ⟨s,by simp,.inr hx⟩
theorem EndsOk.all:∀(b:List Sp) {l:List Int} {top:Int} {a:List Sp},EndsOk l top a->(∀s∈b,0<=s.1/\s.1<=s.2)->EndsOk (b.foldl (putS top) l) top (a++b)
 | [],l,top,a,h,_=>by simpa using h
 | s::b,l,top,a,h,hb=>by
  have:=EndsOk.all b (h.put (hb s si)) (fun t ht=>hb t (by simp[ht]))
  simpa using this
theorem endsT_ok {top:Int}(h0:0<=top){ls:List (List Sp)}(hb:∀s∈ls.flatten,0<=s.1/\s.1<=s.2):EndsOk (endsT top ls) top ls.flatten:=by
 have h:EndsOk [0] top []:=⟨⟨by simp,by simpa using h0⟩,rfl,fun s hs=>by simp at hs,by simp⟩;have:=h.all ls.flatten hb
 simpa[endsT] using this
def goodS (s:Sp):Prop:=0<=s.1/\s.1<=s.2/\s.2<=1114111
theorem ref_has {ls:List (List Sp)}{top:Int}(h0:0<=top)(hg:∀s∈ls.flatten,0<=s.1/\s.1<=s.2){p:Int->Bool}(hp:Steady (endsT top ls) top p)(x:Int) :
 has (cls (endsT top ls) top p) x=(p x&&decide (0<=x/\x<=top)):=by
 have h:=endsT_ok h0 hg;exact cls_has h.ends hp h.head x
theorem steady_of {n:List Int}{top:Int}{ls:List (List Sp)}(h:∀a∈ls,EndsIn a n top)(k:List Bool->Bool):Steady n top (fun x=>k (ls.map (fun a=>has a x))):=by
 intro e x h1 h2 h3;have:ls.map (fun a=>has a x)=ls.map (fun a=>has a e):=List.map_congr_left (fun a ha=>has_steady (h a ha) e x h1 h2 h3);simp only[this]
structure AllEnds (n:List Int)(ls:List (List Sp)):Prop where
 inc:n.Pairwise (· < ·)
 inn:∀a∈ls,∀s∈a,s.1∈n/\s.2+1∈n
end
end Go.Proofs.YtmpcoifnpflapaaGreat
