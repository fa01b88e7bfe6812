/- Texts of this proof: S3 S4 S5 G1. -/
import Derived.Test.YtmocoldobnimfaaGreatU04
import Derived.Test.YtmocoldobnimfaaGreatU05
import Derived.Test.YtmocoldobnimfaaGreatRows
import Derived.WalkLawsBesides
import Derived.Deep.QuietTactic
import Derived.BigQuiet
set_option linter.all false
set_option maxHeartbeats 2000000
namespace Go.Proofs.YtmocoldobnimfaaGreat
section
open Go.RowKit
def ofStep (st:List Sp×Bool)(s:Sp)(b:Bool):List Sp×Bool:=
 (if b then(match st.2,st.1.getLast? with
  | true,some t=>st.1.dropLast++[(t.1,s.2)]
  | _,_=>st.1++[s]) else st.1,b)
def ofAll (p:Int→Bool)(l:List Sp)(st:List Sp×Bool):List Sp×Bool:=l.foldl (fun st s=>ofStep st s (p s.1)) st
def OfI (st:List Sp×Bool)(acc:List Sp)(nxt:Int):Prop:=st.1=acc∧(st.2=true→∃t,acc.getLast? = some t∧t.2+1=nxt)∧(st.2=false→∀t,acc.getLast? = some t→t.2+1<nxt)
theorem ofStep_law {st:List Sp×Bool}{acc:List Sp}{s:Sp}{b:Bool}(h:OfI st acc s.1)(hs:s.1≤s.2) :
 OfI (ofStep st s b) (if b then addS acc s else acc) (s.2+1):=by
 obtain⟨h1,h2,h3⟩:=h;obtain⟨l,f⟩:=st
 simp only at h1 h2 h3
 subst h1
 cases b with
 | false=>
  refine⟨rfl,fun hf=>by simp[ofStep] at hf,fun _ t ht=>?_⟩;have ht':l.getLast? = some t:=by simpa using ht
  cases f with
  | false=>have:=h3 rfl t ht';omega
  | true=>
   obtain⟨u,hu,hu2⟩:=h2 rfl;rw[hu] at ht';injection ht' with ht'
   subst ht';omega
 | true=>
  cases f with
  | false=>
   have e1:addS l s=l++[s]:=by
    unfold addS
    cases hl:l.getLast? with
    | none=>rw[List.getLast?_eq_none_iff] at hl;subst hl;rfl
    | some t=>
     have:=h3 rfl t hl
     simp only
     rw[if_neg om]
   refine⟨by simp[ofStep,e1],fun _=>⟨s,by simp[e1],rfl⟩,fun hf=>by simp[ofStep] at hf⟩
  | true=>
   obtain⟨t,hl,ht⟩:=h2 rfl;have e1:addS l s=l.dropLast++[(t.1,s.2)]:=by
    unfold addS;rw[hl]
    simp only
    rw[if_pos om,Int.max_eq_right om]
   refine⟨by simp[ofStep,e1,hl],fun _=>⟨(t.1,s.2),by simp[e1],rfl⟩,fun hf=>by simp[ofStep] at hf⟩
theorem ofAll_law (p:Int→Bool):∀(l:List Int) (a top:Int) (st:List Sp×Bool) (acc:List Sp),Ends (a::l) top→OfI st acc a→(ofAll p (segsT (a::l) top) st).1=((segsT (a::l) top).filter (fun s=>p s.1)).foldl addS acc
 | [],a,top,st,acc,hE,h=>by
  have:=(ofStep_law (s:=(a,top)) (b:=p a) h (hE.le a si)).1;simp only[ofAll,segsT,List.foldl_cons,List.foldl_nil,List.filter_cons,List.filter_nil];rw[this]
  cases p a<;>rfl
 | b::r,a,top,st,acc,hE,h=>by
  have hab:=(List.pairwise_cons.1 hE.inc).1 b si;have h2:=ofStep_law (s:=(a,b-1)) (b:=p a) h (by simp only;omega);have e:b-1+1=b:=om;simp only[e] at h2;have h3:=ofAll_law p r b top _ _ hE.tail h2;rw[segsT_cons];unfold ofAll at h3 ⊢;rw[List.foldl_cons,h3,List.filter_cons]
  cases p a<;>simp
theorem of_cls {l:List Int}{top:Int}(hE:Ends l top)(p:Int→Bool):(ofAll p (segsT l top) ([],false)).1=cls l top p:=by
 rcases l with _|⟨a,l⟩
 ·rfl
 ·exact ofAll_law p l a top _ _ hE ⟨rfl,fun h=>by simp at h,fun _ t ht=>by simp at ht⟩
end
section
open Go.RowKit
def upto (l:List Int)(n:Int):Nat:=(l.takeWhile (fun x=>decide (x<n))).length
theorem upto_le (l:List Int)(n:Int):upto l n≤l.length:=by
 unfold upto;induction l with
 | nil=>simp
 | cons a l ih=>rw[List.takeWhile_cons];split<;>simp<;>omega
theorem upto_lt:∀(l:List Int) (n:Int) (i:Nat) (h:i<l.length),i<upto l n→l[i]<n
 | a::l,n,i,h,hi=>by
  unfold upto at hi;rw[List.takeWhile_cons] at hi;by_cases ha:a<n
  ·simp only[ha,decide_true,if_true,List.length_cons] at hi;rcases i with _|i
   ·exact ha
   ·exact upto_lt l n i (by simpa using h) (by unfold upto;omega)
  ·simp[ha] at hi
theorem upto_at:∀(l:List Int) (n:Int) (h:upto l n<l.length),¬l[upto l n]<n
 | a::l,n,h=>by
  by_cases ha:a<n
  ·have e:upto (a::l) n=upto l n+1:=by simp[upto,List.takeWhile_cons,ha]
   have h2:upto l n<l.length:=by rw[e] at h;simpa using h
   have:=upto_at l n h2;simp only[e,List.getElem_cons_succ];exact this
  ·have e:upto (a::l) n=0:=by simp[upto,List.takeWhile_cons,ha]
   simp only[e,List.getElem_cons_zero];exact ha
theorem upto_eq {l:List Int}{n:Int}{k:Nat}(h1:∀i (h:i<l.length),i<k→l[i]<n)(hk:k≤l.length)(h2:∀h:k<l.length,¬l[k]<n):upto l n=k:=by
 rcases Nat.lt_trichotomy (upto l n) k with h|h|h
 ·exact absurd (h1 _ om h) (upto_at l n om)
 ·exact h
 ·have:=upto_le l n;exact absurd (upto_lt l n k om h) (h2 om)
def putE (l:List Int)(n top:Int):List Int:=if top<n∨l[upto l n]? = some n then l else l.take (upto l n)++n::l.drop (upto l n)
theorem putE_mem {l:List Int}{n top x:Int}(h:Ends l top):x∈putE l n top↔x∈l∨(x=n∧n≤top):=by
 unfold putE
 split
 ·rename_i hc
  constructor
  ·exact fun hx=>.inl hx
  ·rintro(hx|⟨rfl,hx⟩)
   ·exact hx
   ·rcases hc with hc|hc
    ·omega
    ·exact List.mem_of_getElem? hc
 ·rename_i hc
  rw[not_or] at hc;rw[List.mem_append,List.mem_cons];constructor
  ·rintro(hx|hx|hx)
   ·exact .inl (List.mem_of_mem_take hx)
   ·exact .inr ⟨hx,om⟩
   ·exact .inl (List.mem_of_mem_drop hx)
  ·rintro(hx|⟨hx,_⟩)
   ·rw[←List.take_append_drop (upto l n) l] at hx;rcases List.mem_append.1 hx with hx|hx
    ·exact .inl hx
    ·exact .inr (.inr hx)
   ·exact .inr (.inl hx)
theorem putE_ends {l:List Int}{n top:Int}(h:Ends l top):Ends (putE l n top) top:=by
 refine⟨?_,fun x hx=>?_⟩
 ·unfold putE
  split
  ·exact h.inc
  ·rename_i hc
   rw[not_or] at hc;refine List.pairwise_append.2 ⟨h.inc.sublist (List.take_sublist _ _),List.pairwise_cons.2 ⟨fun y hy=>?_,h.inc.sublist (List.drop_sublist _ _)⟩,fun x hx y hy=>?_⟩
   ·have hlt:upto l n<l.length:=by
     rcases Nat.lt_or_ge (upto l n) l.length with h1|h1
     ·exact h1
     ·rw[List.drop_eq_nil_of_le h1] at hy;simp at hy
    have h1:=upto_at l n hlt;have h2:l[upto l n]≠n:=fun e=>hc.2 (by rw[List.getElem?_eq_getElem hlt,e]);rw[List.drop_eq_getElem_cons hlt] at hy;rcases List.mem_cons.1 hy with rfl|hy
    ·omega
    ·have h3:=h.inc.sublist (List.drop_sublist (upto l n) l);rw[List.drop_eq_getElem_cons hlt] at h3;have:=(List.pairwise_cons.1 h3).1 y hy;omega
   ·have hxn:x<n:=by
     obtain⟨i,hi,rfl⟩:=List.getElem_of_mem hx;rw[List.length_take] at hi;rw[List.getElem_take];exact upto_lt l n i om om
    rcases List.mem_cons.1 hy with rfl|hy
    ·exact hxn
    ·have h3:=h.inc
     rw[←List.take_append_drop (upto l n) l] at h3;exact(List.pairwise_append.1 h3).2.2 x hx y hy
 ·rcases(putE_mem h).1 hx with hx|⟨rfl,hx⟩
  ·exact h.le x hx
  ·exact hx
theorem putE_head {l:List Int}{n top:Int}(h:l.head? = some 0)(hn:0≤n):(putE l n top).head? = some 0:=by
 rcases l with _|⟨a,l⟩
 ·simp at h
 ·obtain rfl:a=0:=by simpa using h
  unfold putE
  split
  ·rfl
  ·rename_i hc
   rw[not_or] at hc;by_cases h0:(0:Int)<n
   ·have e:upto (0::l) n=upto l n+1:=by simp[upto,List.takeWhile_cons,h0]
    rw[e];simp
   ·have e:upto (0::l) n=0:=by simp[upto,List.takeWhile_cons,h0]
    obtain rfl:n=0:=om;rw[e] at hc;simp at hc
theorem putE_len (l:List Int)(n top:Int):(putE l n top).length≤l.length+1:=by
 unfold putE;have:=upto_le l n
 split
 ·omega
 ·simp;omega
def putS (top:Int)(l:List Int)(s:Sp):List Int:=putE (putE l s.1 top) (s.2+1) top
def endsT (top:Int)(ls:List (List Sp)):List Int:=ls.flatten.foldl (putS top) [0]
structure EndsOk (l:List Int)(top:Int)(a:List Sp):Prop where
 ends:Ends l top
 head:l.head? = some 0
 inn:EndsIn a l top
 only:∀x∈l,x=0∨∃s∈a,x=s.1∨x=s.2+1
theorem EndsOk.put {l:List Int}{top:Int}{a:List Sp}(h:EndsOk l top a){s:Sp}(hs:0≤s.1∧s.1≤s.2):EndsOk (putS top l s) top (a++[s]):=by
 have h1:=putE_ends (n:=s.1) h.ends;refine⟨putE_ends h1,putE_head (putE_head h.head hs.1) om,fun t ht=>?_,fun x hx=>?_⟩
 ·unfold putS;rcases List.mem_append.1 ht with ht|ht
  ·have:=h.inn t ht;exact⟨fun hx=>(putE_mem h1).2 (.inl ((putE_mem h.ends).2 (.inl (this.1 hx)))),fun hx=>(putE_mem h1).2 (.inl ((putE_mem h.ends).2 (.inl (this.2 hx))))⟩
  ·obtain rfl:=List.mem_singleton.1 ht;exact⟨fun hx=>(putE_mem h1).2 (.inl ((putE_mem h.ends).2 (.inr ⟨rfl,hx⟩))),fun hx=>(putE_mem h1).2 (.inr ⟨rfl,hx⟩)⟩
 ·unfold putS at hx;rcases(putE_mem h1).1 hx with hx|⟨hx,_⟩
  ·rcases(putE_mem h.ends).1 hx with hx|⟨hx,_⟩
   ·rcases h.only x hx with h2|⟨t,ht,h2⟩
    ·exact .inl h2
    ·exact .inr ⟨t,List.mem_append_left _ ht,h2⟩
   ·exact .inr ⟨s,by simp,.inl hx⟩
  ·exact .inr ⟨s,by simp,.inr hx⟩
theorem EndsOk.all:∀(b:List Sp) {l:List Int} {top:Int} {a:List Sp},EndsOk l top a→(∀s∈b,0≤s.1∧s.1≤s.2)→EndsOk (b.foldl (putS top) l) top (a++b)
 | [],l,top,a,h,_=>by simpa using h
 | s::b,l,top,a,h,hb=>by
  have:=EndsOk.all b (h.put (hb s si)) (fun t ht=>hb t (by simp[ht]))
  simpa using this
theorem endsT_ok {top:Int}(h0:0≤top){ls:List (List Sp)}(hb:∀s∈ls.flatten,0≤s.1∧s.1≤s.2):EndsOk (endsT top ls) top ls.flatten:=by
 have h:EndsOk [0] top []:=⟨⟨by simp,by simpa using h0⟩,rfl,fun s hs=>by simp at hs,by simp⟩;have:=h.all ls.flatten hb
 simpa[endsT] using this
theorem foldl_putS_len (top:Int):∀(b:List Sp) (l:List Int),(b.foldl (putS top) l).length≤l.length+2*b.length
 | [],l=>by simp
 | s::b,l=>by
  have h1:=foldl_putS_len top b (putS top l s);have h2:=putE_len l s.1 top;have h3:=putE_len (putE l s.1 top) (s.2+1) top;rw[List.foldl_cons,List.length_cons];unfold putS at *;omega
end
section
open Go.RowKit
def goodS (s:Sp):Prop:=0≤s.1∧s.1≤s.2∧s.2≤1114111
theorem ref_has {ls:List (List Sp)}{top:Int}(h0:0≤top)(hg:∀s∈ls.flatten,0≤s.1∧s.1≤s.2){p:Int→Bool}(hp:Steady (endsT top ls) top p)(x:Int) :
 has (cls (endsT top ls) top p) x=(p x&&decide (0≤x∧x≤top)):=by
 have h:=endsT_ok h0 hg;exact cls_has h.ends hp h.head x
theorem steady_of {n:List Int}{top:Int}{ls:List (List Sp)}(h:∀a∈ls,EndsIn a n top)(k:List Bool→Bool):Steady n top (fun x=>k (ls.map (fun a=>has a x))):=by
 intro e x h1 h2 h3;have:ls.map (fun a=>has a x)=ls.map (fun a=>has a e):=List.map_congr_left (fun a ha=>has_steady (h a ha) e x h1 h2 h3);simp only[this]
structure AllEnds (n:List Int)(ls:List (List Sp)):Prop where
 inc:n.Pairwise (· < ·)
 inn:∀a∈ls,∀s∈a,s.1∈n∧s.2+1∈n
end
section
open Go.RowKit
theorem infoS:(Tryz.prog.info? 38).map (fun i=>(i.zero,i.size,i.bytes))=some (some (.agg #[.int .i64 0,.int .i64 0]),2,16):=by kernel_rfl
def flatS (l:List Sp):List Value:=l.flatMap fun s=>[.int .i64 s.1,.int .i64 s.2]
theorem flatS_append (l m:List Sp):flatS (l++m)=flatS l++flatS m:=by simp[flatS]
theorem flatS_cons (s:Sp)(l:List Sp):flatS (s::l)=.int .i64 s.1::.int .i64 s.2::flatS l:=by simp[flatS]
theorem flatS_len (l:List Sp):(flatS l).length=l.length*2:=by
 induction l with
 | nil=>rfl
 | cons y l ih=>rw[flatS_cons];simp only[List.length_cons];omega
theorem flatS_one (l:List Sp):∀u∈flatS l,u.oneCell'=true:=by
 intro u hu;obtain⟨s,_,hs⟩:=List.mem_flatMap.1 hu;simp only[List.mem_cons,List.not_mem_nil,or_false] at hs;rcases hs with rfl|rfl<;>rfl
theorem flatS_get (l:List Sp)(i:Nat)(h:i<l.length):(flatS l)[i*2]? = some (.int .i64 l[i].1)∧(flatS l)[i*2+1]? = some (.int .i64 l[i].2):=by
 induction l generalizing i with
 | nil=>simp at h
 | cons y l ih=>
  cases i with
  | zero=>simp[flatS_cons]
  | succ i=>
   have hi:i<l.length:=by simpa using h
   have e1:(i+1)*2=i*2+2:=om;rw[flatS_cons,e1];exact ih i hi
def S64 (s:Sp):Prop:=I64 s.1∧I64 s.2
structure SL (w:World)(A:Option Addr)(c:Nat)(l:List Sp):Prop where
 le:l.length≤c
 cap:c≤maxLen
 rng:∀s∈l,S64 s
 at_:l≠[]→∃b o,A=some ⟨b,o,none⟩∧∀i (h:i<l.length),w.cell? ⟨b,o+i*2,none⟩=some (.int .i64 l[i].1)∧w.cell? ⟨b,o+i*2+1,none⟩=some (.int .i64 l[i].2)
namespace SL
variable {w w':World} {A:Option Addr} {c:Nat} {l:List Sp}
theorem ext (h:SL w A c l)(k:Ext w w'):SL w' A c l:=by
 refine⟨h.le,h.cap,h.rng,fun hn=>?_⟩;obtain⟨b,o,rfl,hc⟩:=h.at_ hn;exact⟨b,o,rfl,fun i hi=>⟨k.cell (hc i hi).1,k.cell (hc i hi).2⟩⟩
theorem nil (w:World):SL w none 0 []:=⟨Nat.le_refl _,Nat.zero_le _,by simp,fun h=>absurd rfl h⟩
theorem len (h:SL w A c l):l.length≤c∧c≤9223372036854775807:=⟨h.le,by have:=h.cap;unfold maxLen at this;omega⟩
theorem get {k:Nat}(h:SL w A c l)(hk:k<l.length):∃b o,A=some ⟨b,o,none⟩∧w.cell? ⟨b,o+k*2,none⟩=some (.int .i64 l[k].1)∧w.cell? ⟨b,o+k*2+1,none⟩=some (.int .i64 l[k].2):=by
 obtain⟨b,o,rfl,hc⟩:=h.at_ (by intro h0;subst h0;simp at hk);exact⟨b,o,rfl,hc k hk⟩
theorem wf {k:Nat}(h:SL w A c l)(hk:k<l.length):S64 l[k]:=h.rng _ (List.getElem_mem hk)
theorem blt (h:SL w A c l)(hn:l≠[]){b:Nat}(hb:A.map (·.block)=some b):b<w.heap.size:=by
 obtain⟨b',o,rfl,hc⟩:=h.at_ hn;have hbb:b'=b:=by simpa using hb
 subst hbb;have h0:=(hc 0 (List.length_pos_iff.2 hn)).1;exact World.block_lt_of_cell? _ _ h0
theorem of_own {base:Nat}(h:OwnS w base 38 2 A l.length c (flatS l))(hr:∀s∈l,S64 s):SL w A c l:=by
 have hc:=OwnS.caps h;refine⟨hc.1,by unfold maxLen;omega,hr,fun hn=>?_⟩;obtain⟨b,o,hA,hcell⟩:=OwnS.cells h (by intro e;have:=flatS_len l;rw[e] at this;simp at this;exact hn (List.length_eq_zero_iff.1 om));have one:∀(i:Nat) (v:Value),(flatS l)[i]? = some v→w.cell? ⟨b,o+i,none⟩=some v:=fun i v hv=>by
  obtain⟨l1,e1⟩:=List.getElem?_eq_some_iff.1 hv;rw[hcell i l1,e1]
 exact⟨b,o,hA,fun i hi=>⟨one _ _ (flatS_get l i hi).1,by rw[Nat.add_assoc];exact one _ _ (flatS_get l i hi).2⟩⟩
theorem cells (h:SL w A c l):CellsAt w A (flatS l):=by
 intro hn;obtain⟨b,o,hA,hc⟩:=h.at_ (by rintro rfl;exact hn rfl);refine⟨b,o,hA,fun i hi=>?_⟩;have hi2:i / 2<l.length:=by rw[flatS_len] at hi;omega
 obtain⟨g1,g2⟩:=flatS_get l (i / 2) hi2;rcases Nat.mod_two_eq_zero_or_one i with h0|h1
 ·have e:i=i / 2*2:=om;have:=(hc _ hi2).1
  rw[←e] at this g1;rw[this,←g1,List.getElem?_eq_getElem]
 ·have e:i=i / 2*2+1:=om;have:=(hc _ hi2).2;rw[Nat.add_assoc,←e] at this
  rw[←e] at g2;rw[this,←g2,List.getElem?_eq_getElem]
end SL
def spV (s:Sp):Value:=.agg #[.int .i64 s.1,.int .i64 s.2]
instance (s:Sp):Decidable (goodS s):=by unfold goodS;infer_instance
def goodB (s:Sp):Bool:=decide (goodS s)
theorem G1z1 {P:Prop} (h:P:=by
 go_enter Tryz.func155,Tryz.ntmps155
 go_wp2
 go_ret
 exact⟨by rw[HR.out];rfl,x1⟩):P:=h
theorem G1z3 {P:Prop} (h:P:=by
 show _=_
 have h:goodB (lo,hi)=true↔(0≤lo∧lo≤hi∧hi≤1114111):=decide_eq_true_iff;rw[Bool.eq_iff_iff,h];simp only[decide_eq_true_eq,Bool.and_eq_true,and_assoc]):P:=h
theorem right_any (s:Sp)(w:World):Calls Tryz.prog 155 #[spV s] w (RetV (.bool (goodB s)) w):=by
 obtain⟨lo,hi⟩:=s;obtain⟨b1,x1⟩:=alloc1 w 38 #[.int .i64 lo,.int .i64 hi];obtain⟨p0,p1,_,_,pz⟩:=b1.c2;have HG:Hid (goodB (lo,hi)=(decide (0≤lo)&&decide (lo≤hi)&&decide (hi≤1114111))):=by
  exact G1z3
 generalize goodB (lo,hi)=r at *;unfold spV
 simp only
 by_cases h0:0≤lo
 ·by_cases h1:lo≤hi
  ·by_cases h2:hi≤1114111
   ·have HR:Hid (r=true):=by show _=_;rw[HG.out];simp[h0,h1,h2]
    exact G1z1
   ·have HR:Hid (r=false):=by show _=_;rw[HG.out];simp[h2]
    exact G1z1
  ·have HR:Hid (r=false):=by show _=_;rw[HG.out];simp[h1]
   exact G1z1
 ·have HR:Hid (r=false):=by show _=_;rw[HG.out];simp[h0]
  exact G1z1
theorem G1z2 {P:Prop} (h:P:=by
 go_enter Tryz.func162,Tryz.ntmps162
 go_wp2
 go_ret
 exact⟨by rw[HR.out];rfl,x1⟩):P:=h
theorem good_any (s:Sp)(w:World):Calls Tryz.prog 162 #[spV s] w (RetV (.bool (goodB s)) w):=by
 obtain⟨lo,hi⟩:=s;obtain⟨b1,x1⟩:=alloc1 w 38 #[.int .i64 lo,.int .i64 hi];obtain⟨p0,p1,_,_,pz⟩:=b1.c2;have HG:Hid (goodB (lo,hi)=(decide (0≤lo)&&decide (lo≤hi)&&decide (hi≤1114111))):=by
  exact G1z3
 generalize goodB (lo,hi)=r at *;unfold spV
 simp only
 by_cases h0:0≤lo
 ·by_cases h1:lo≤hi
  ·by_cases h2:hi≤1114111
   ·have HR:Hid (r=true):=by show _=_;rw[HG.out];simp[h0,h1,h2]
    exact G1z2
   ·have HR:Hid (r=false):=by show _=_;rw[HG.out];simp[h2]
    exact G1z2
  ·have HR:Hid (r=false):=by show _=_;rw[HG.out];simp[h1]
   exact G1z2
 ·have HR:Hid (r=false):=by show _=_;rw[HG.out];simp[h0]
  exact G1z2
theorem noHas {l:List Sp}{x:Int}(h:∀i (hi:i<l.length),¬(l[i].1≤x∧x≤l[i].2)):has l x=false:=by
 rw[Bool.eq_false_iff];intro hh;obtain⟨s,hs,h1⟩:=has_iff.1 hh;obtain⟨i,hi,rfl⟩:=List.getElem_of_mem hs;exact h i hi h1
theorem yesHas {l:List Sp}{x:Int}{i:Nat}(hi:i<l.length)(h1:l[i].1≤x)(h2:x≤l[i].2):has l x=true:=has_iff.2 ⟨_,List.getElem_mem hi,h1,h2⟩
theorem G1z4 {P:Prop} (h:P:=by
 clear HI2 HY2 HN HY
 go_wp2
 go_roundw
 case rel=>exact⟨i+1,by go_num,om,HI3,x1⟩
 case measure=>simp[intOf];omega):P:=h
theorem gHas_any (A:Option Addr)(c:Nat)(l:List Sp)(x:Int)(w:World)(hl:SL w A c l):Calls Tryz.prog 128 #[.slice A l.length c,.int .i64 x] w (RetV (.bool (has l x)) w):=by
 have hlen:=hl.len;have HN:=fun h=>lh (noHas (l:=l) (x:=x) h);have HY:=fun i hi h1 h2=>lh (yesHas (l:=l) (x:=x) (i:=i) hi h1 h2);generalize has l x=r at *;go_enter Tryz.func128,Tryz.ntmps128
 go_wp2
 go_loopw [5] (fun v wr=>∃i:Nat,v=.int .i64 i∧i≤l.length∧Hid (∀j (hj:j<l.length),j<i→¬(l[j].1≤x∧x≤l[j].2))∧Ext w wr) (fun v _=>l.length-(intOf v).toNat)
 case atStart=>exact⟨0,rfl,om,fun j _ hj=>absurd hj (Nat.not_lt_zero _),Ext.rfl' _⟩
 case round=>
  obtain⟨i,rfl,hi,HI,x1⟩:=hrel;by_cases hlt:i<l.length
  ·obtain⟨b,o,rfl,g1,g2⟩:=(hl.ext x1).get hlt;have hI:(i:Int)<l.length:=om;have HI2:=lh (show ¬(l[i].1≤x∧x≤l[i].2)→∀j (hj:j<l.length),j<i+1→¬(l[j].1≤x∧x≤l[j].2) from fun hn j hj hji=>by
    rcases Nat.lt_or_ge j i with h1|h1
    ·exact HI.out j hj h1
    ·have:j=i:=om;subst this;exact hn)
   have HY2:=HY i hlt;generalize l[i]=s at *;obtain⟨lo,hi2⟩:=s
   simp only at g1 g2 HI2 HY2
   by_cases h1:lo≤x
   ·by_cases h2:x≤hi2
    ·have HR:=HY2 h1 h2;clear HI2 HY2 HN HY
     go_wp2
     go_ret
     exact⟨by rw[HR.out];rfl,x1⟩
    ·have HI3:=lh (HI2.out (fun h=>h2 h.2));exact G1z4
   ·have HI3:=lh (HI2.out (fun h=>h1 h.1));exact G1z4
  ·have hI:¬(i:Int)<l.length:=om;have HR:=HN (fun j hj=>HI.out j hj om);clear HN HY
   go_wp2
   go_ret
   exact⟨by rw[HR.out];rfl,x1⟩
end
end Go.Proofs.YtmocoldobnimfaaGreat
