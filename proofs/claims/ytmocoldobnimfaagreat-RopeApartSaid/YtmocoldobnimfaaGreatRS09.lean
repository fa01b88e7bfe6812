/- Texts of this proof: G8. -/
import Derived.Test.YtmocoldobnimfaaGreatRS07
set_option linter.all false
namespace Go.Proofs.YtmocoldobnimfaaGreat
section
open Go.RowKit
structure IB (w:World)(A:Option Addr)(c:Nat)(bs:List Bool):Prop where
 le:bs.length<=c
 cap:c<=maxLen
 at_:bs≠[]->∃b o,A=some ⟨b,o,none⟩/\∀i (h:i<bs.length),w.cell? ⟨b,o+i,none⟩=some (.bool bs[i])
namespace IB
variable {w w':World} {A:Option Addr} {c:Nat} {bs:List Bool}
theorem ext (h:IB w A c bs)(k:Ext w w'):IB w' A c bs:=by
 refine⟨h.le,h.cap,fun hn=>?_⟩;obtain⟨b,o,rfl,hc⟩:=h.at_ hn;exact⟨b,o,rfl,fun i hi=>k.cell (hc i hi)⟩
theorem nil (w:World):IB w none 0 []:=⟨Nat.le_refl _,Nat.zero_le _,fun h=>absurd rfl h⟩
theorem len (h:IB w A c bs):bs.length<=c/\c<=9223372036854775807:=⟨h.le,by have:=h.cap;unfold maxLen at this;omega⟩
theorem get {k:Nat}(h:IB w A c bs)(hk:k<bs.length):∃b o,A=some ⟨b,o,none⟩/\w.cell? ⟨b,o+k,none⟩=some (.bool bs[k]):=by
 obtain⟨b,o,rfl,hc⟩:=h.at_ (by intro h0;subst h0;simp at hk);exact⟨b,o,rfl,hc k hk⟩
theorem of_own {base:Nat}(h:OwnS w base 4 1 A bs.length c (bs.map Value.bool)):IB w A c bs:=by
 have hc:=OwnS.caps h;refine⟨hc.1,by unfold maxLen;omega,fun hn=>?_⟩;obtain⟨b,o,hA,hcell⟩:=OwnS.cells h (by intro e;rw[List.map_eq_nil_iff] at e;exact hn e);refine⟨b,o,hA,fun i hi=>?_⟩;have:=hcell i (by simpa using hi)
 simpa using this
end IB
theorem segsT_get:∀{l:List Int} {top:Int} {i:Nat} (hi:i<l.length),(segsT l top)[i]'(by rw[segsT_len];exact hi)=(l[i],if h:i+1<l.length then l[i+1]-1 else top)
 | [a],top,i,hi=>by
  have:i=0:=by simpa using hi
  subst this;simp[segsT]
 | a::b::r,top,i,hi=>by
  rcases i with _|i
  ·simp[segsT_cons]
  ·have:=segsT_get (l:=b::r) (top:=top) (i:=i) (by simpa using hi);simp only[segsT_cons,List.getElem_cons_succ,this]
   simp
theorem cls_good {l:List Int}{top:Int}(hE:Ends l top)(h0:l.head? = some 0)(ht:top<=1114111)(p:Int->Bool):∀s∈cls l top p,goodS s:=by
 intro s hs;obtain⟨h1,h2⟩:=cls_canon hE p;have h3:=h1.1 s hs;have h4:=(h2 s.1).1 (has_iff.2 ⟨s,hs,Int.le_refl _,h3⟩);have h5:=(h2 s.2).1 (has_iff.2 ⟨s,hs,h3,Int.le_refl _⟩);obtain⟨u,hu,_,h6,_⟩:=h4;obtain⟨v,hv,_,_,h7⟩:=h5;have h8:=segsT_mem hE u hu;have h9:=segsT_mem hE v hv;have h10:0<=u.1:=by
  rcases l with _|⟨a,l⟩
  ·simp at h0
  ·obtain rfl:a=0:=by simpa using h0
   rcases List.mem_cons.1 h8.1 with e|e
   ·omega
   ·have:=(List.pairwise_cons.1 hE.inc).1 u.1 e;omega
 unfold goodS;omega
end
end Go.Proofs.YtmocoldobnimfaaGreat
