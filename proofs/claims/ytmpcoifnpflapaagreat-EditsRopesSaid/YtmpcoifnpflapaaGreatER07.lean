/- Texts of this proof: G1 G2. -/
import Derived.Test.YtmpcoifnpflapaaGreatER02
import Derived.Test.YtmpcoifnpflapaaGreatER03
import Derived.Test.YtmpcoifnpflapaaGreatER04
import Derived.Test.YtmpcoifnpflapaaGreatRows
import Derived.WalkLawsBesides
import Derived.Deep.QuietTactic
import Derived.BigQuiet
set_option linter.all false
set_option maxHeartbeats 2000000
namespace Go.Proofs.YtmpcoifnpflapaaGreat
section
open Go.RowKit
theorem infoS:(Tryz.prog.info? 24).map (fun i=>(i.zero,i.size,i.bytes))=some (some (.agg #[.int .i64 0,.int .i64 0]),2,16):=by kernel_rfl
def flatS (l:List Sp):List Value:=l.flatMap fun s=>[.int .i64 s.1,.int .i64 s.2]
theorem flatS_append (l m:List Sp):flatS (l++m)=flatS l++flatS m:=by simp[flatS]
theorem flatS_cons (s:Sp)(l:List Sp):flatS (s::l)=.int .i64 s.1::.int .i64 s.2::flatS l:=by simp[flatS]
theorem flatS_len (l:List Sp):(flatS l).length=l.length*2:=by
 induction l with
 | nil=>rfl
 | cons y l ih=>rw[flatS_cons];simp only[List.length_cons];omega
theorem flatS_one (l:List Sp):∀u∈flatS l,u.oneCell'=true:=by
 intro u hu;obtain⟨s,_,hs⟩:=List.mem_flatMap.1 hu;simp only[List.mem_cons,List.not_mem_nil,or_false] at hs;rcases hs with rfl|rfl<;>rfl
theorem flatS_get (l:List Sp)(i:Nat)(h:i<l.length):(flatS l)[i*2]? = some (.int .i64 l[i].1)/\(flatS l)[i*2+1]? = some (.int .i64 l[i].2):=by
 induction l generalizing i with
 | nil=>simp at h
 | cons y l ih=>
  cases i with
  | zero=>simp[flatS_cons]
  | succ i=>
   have hi:i<l.length:=by simpa using h
   have e1:(i+1)*2=i*2+2:=om;rw[flatS_cons,e1];exact ih i hi
def S64 (s:Sp):Prop:=I64 s.1/\I64 s.2
structure SL (w:World)(A:Option Addr)(c:Nat)(l:List Sp):Prop where
 le:l.length<=c
 cap:c<=maxLen
 rng:∀s∈l,S64 s
 at_:l≠[]->∃b o,A=some ⟨b,o,none⟩/\∀i (h:i<l.length),w.cell? ⟨b,o+i*2,none⟩=some (.int .i64 l[i].1)/\w.cell? ⟨b,o+i*2+1,none⟩=some (.int .i64 l[i].2)
namespace SL
variable {w w':World} {A:Option Addr} {c:Nat} {l:List Sp}
theorem ext (h:SL w A c l)(k:Ext w w'):SL w' A c l:=by
 refine⟨h.le,h.cap,h.rng,fun hn=>?_⟩;obtain⟨b,o,rfl,hc⟩:=h.at_ hn;exact⟨b,o,rfl,fun i hi=>⟨k.cell (hc i hi).1,k.cell (hc i hi).2⟩⟩
theorem nil (w:World):SL w none 0 []:=⟨Nat.le_refl _,Nat.zero_le _,by simp,fun h=>absurd rfl h⟩
theorem len (h:SL w A c l):l.length<=c/\c<=9223372036854775807:=⟨h.le,by have:=h.cap;unfold maxLen at this;omega⟩
theorem get {k:Nat}(h:SL w A c l)(hk:k<l.length):∃b o,A=some ⟨b,o,none⟩/\w.cell? ⟨b,o+k*2,none⟩=some (.int .i64 l[k].1)/\w.cell? ⟨b,o+k*2+1,none⟩=some (.int .i64 l[k].2):=by
 obtain⟨b,o,rfl,hc⟩:=h.at_ (by intro h0;subst h0;simp at hk);exact⟨b,o,rfl,hc k hk⟩
theorem wf {k:Nat}(h:SL w A c l)(hk:k<l.length):S64 l[k]:=h.rng _ (List.getElem_mem hk)
theorem of_own {base:Nat}(h:OwnS w base 24 2 A l.length c (flatS l))(hr:∀s∈l,S64 s):SL w A c l:=by
 have hc:=OwnS.caps h;refine⟨hc.1,by unfold maxLen;omega,hr,fun hn=>?_⟩;obtain⟨b,o,hA,hcell⟩:=OwnS.cells h (by intro e;have:=flatS_len l;rw[e] at this;simp at this;exact hn (List.length_eq_zero_iff.1 om));have one:∀(i:Nat) (v:Value),(flatS l)[i]? = some v->w.cell? ⟨b,o+i,none⟩=some v:=fun i v hv=>by
  obtain⟨l1,e1⟩:=List.getElem?_eq_some_iff.1 hv;rw[hcell i l1,e1]
 exact⟨b,o,hA,fun i hi=>⟨one _ _ (flatS_get l i hi).1,by rw[Nat.add_assoc];exact one _ _ (flatS_get l i hi).2⟩⟩
theorem cells (h:SL w A c l):CellsAt w A (flatS l):=by
 intro hn;obtain⟨b,o,hA,hc⟩:=h.at_ (by rintro rfl;exact hn rfl);refine⟨b,o,hA,fun i hi=>?_⟩;have hi2:i / 2<l.length:=by rw[flatS_len] at hi;omega
 obtain⟨g1,g2⟩:=flatS_get l (i / 2) hi2;rcases Nat.mod_two_eq_zero_or_one i with h0|h1
 ·have e:i=i / 2*2:=om;have:=(hc _ hi2).1
  rw[<-e] at this g1;rw[this,<-g1,List.getElem?_eq_getElem]
 ·have e:i=i / 2*2+1:=om;have:=(hc _ hi2).2;rw[Nat.add_assoc,<-e] at this
  rw[<-e] at g2;rw[this,<-g2,List.getElem?_eq_getElem]
end SL
def spV (s:Sp):Value:=.agg #[.int .i64 s.1,.int .i64 s.2]
instance (s:Sp):Decidable (goodS s):=by unfold goodS;infer_instance
def goodB (s:Sp):Bool:=decide (goodS s)
theorem G1z1 {P:Prop} (h:P:=by
 go_enter Tryz.func182,Tryz.ntmps182
 go_wp2
 go_ret
 exact⟨by rw[HR.out];rfl,x1⟩):P:=h
theorem G1z3 {P:Prop} (h:P:=by
 show _=_
 have h:goodB (lo,hi)=true<->(0<=lo/\lo<=hi/\hi<=1114111):=decide_eq_true_iff;rw[Bool.eq_iff_iff,h];simp only[decide_eq_true_eq,Bool.and_eq_true,and_assoc]):P:=h
theorem right_any (s:Sp)(w:World):Calls Tryz.prog 182 #[spV s] w (RetV (.bool (goodB s)) w):=by
 obtain⟨lo,hi⟩:=s;obtain⟨b1,x1⟩:=alloc1 w 24 #[.int .i64 lo,.int .i64 hi];obtain⟨p0,p1,_,_,pz⟩:=b1.c2;have HG:Hid (goodB (lo,hi)=(decide (0<=lo)&&decide (lo<=hi)&&decide (hi<=1114111))):=by
  exact G1z3
 generalize goodB (lo,hi)=r at *;unfold spV
 simp only
 by_cases h0:0<=lo
 ·by_cases h1:lo<=hi
  ·by_cases h2:hi<=1114111
   ·have HR:Hid (r=true):=by show _=_;rw[HG.out];simp[h0,h1,h2]
    exact G1z1
   ·have HR:Hid (r=false):=by show _=_;rw[HG.out];simp[h2]
    exact G1z1
  ·have HR:Hid (r=false):=by show _=_;rw[HG.out];simp[h1]
   exact G1z1
 ·have HR:Hid (r=false):=by show _=_;rw[HG.out];simp[h0]
  exact G1z1
theorem noHas {l:List Sp}{x:Int}(h:∀i (hi:i<l.length),¬(l[i].1<=x/\x<=l[i].2)):has l x=false:=by
 rw[Bool.eq_false_iff];intro hh;obtain⟨s,hs,h1⟩:=has_iff.1 hh;obtain⟨i,hi,rfl⟩:=List.getElem_of_mem hs;exact h i hi h1
theorem yesHas {l:List Sp}{x:Int}{i:Nat}(hi:i<l.length)(h1:l[i].1<=x)(h2:x<=l[i].2):has l x=true:=has_iff.2 ⟨_,List.getElem_mem hi,h1,h2⟩
theorem G2z1 {P:Prop} (h:P:=by
 clear HI2 HY2 HN HY
 go_wp2
 go_roundw
 case rel=>exact⟨i+1,by go_num,om,HI3,x2⟩
 case measure=>simp[intOf];omega):P:=h
theorem sHas_any (A:Option Addr)(c:Nat)(l:List Sp)(x:Int)(w:World)(hl:SL w A c l):Calls Tryz.prog 137 #[.slice A l.length c,.int .i64 x] w (RetV (.bool (has l x)) w):=by
 have hlen:=hl.len;have HN:=fun h=>lh (noHas (l:=l) (x:=x) h);have HY:=fun i hi h1 h2=>lh (yesHas (l:=l) (x:=x) (i:=i) hi h1 h2);generalize has l x=r at *;go_enter Tryz.func137,Tryz.ntmps137
 go_wp2
 go_loopw [9] (fun v wr=>∃i:Nat,v=.int .i64 i/\i<=l.length/\Hid (∀j (hj:j<l.length),j<i->¬(l[j].1<=x/\x<=l[j].2))/\Ext w wr) (fun v _=>l.length-(intOf v).toNat)
 case atStart=>exact⟨0,rfl,om,fun j _ hj=>absurd hj (Nat.not_lt_zero _),Ext.rfl' _⟩
 case round=>
  obtain⟨i,rfl,hi,HI,x1⟩:=hrel;by_cases hlt:i<l.length
  ·obtain⟨b,o,rfl,g1,g2⟩:=(hl.ext x1).get hlt;have hI:(i:Int)<l.length:=om;have HI2:=lh (show ¬(l[i].1<=x/\x<=l[i].2)->∀j (hj:j<l.length),j<i+1->¬(l[j].1<=x/\x<=l[j].2) from fun hn j hj hji=>by
    rcases Nat.lt_or_ge j i with h1|h1
    ·exact HI.out j hj h1
    ·have:j=i:=om;subst this;exact hn)
   have HY2:=HY i hlt;generalize l[i]=s at *;obtain⟨lo,hi2⟩:=s
   simp only at g1 g2 HI2 HY2
   obtain⟨b1,xa⟩:=alloc1 wr 24 #[.int .i64 lo,.int .i64 hi2];obtain⟨p0,p1,_,_,pz⟩:=b1.c2;have x2:=x1.trans xa;by_cases h1:lo<=x
   ·by_cases h2:x<=hi2
    ·have HR:=HY2 h1 h2;clear HI2 HY2 HN HY
     go_wp2
     go_ret
     exact⟨by rw[HR.out];rfl,x2⟩
    ·have HI3:=lh (HI2.out (fun h=>h2 h.2));exact G2z1
   ·have HI3:=lh (HI2.out (fun h=>h1 h.1));exact G2z1
  ·have hI:¬(i:Int)<l.length:=om;have HR:=HN (fun j hj=>HI.out j hj om);clear HN HY
   go_wp2
   go_ret
   exact⟨by rw[HR.out];rfl,x1⟩
def okAt (l:List Sp)(i:Nat):Prop:=∀h:i<l.length,goodS l[i]/\(0<i->(l.getD (i-1) (0,0)).2+2<=l[i].1)
def OkL (l:List Sp):Prop:=∀i,i<l.length->okAt l i
open Classical in
noncomputable def validE (l:List Sp):Int:=if OkL l then(if 64<l.length then 4 else 0) else 1
theorem validE_bad {l:List Sp}{i:Nat}(hi:i<l.length)(h:¬okAt l i):validE l=1:=by
 unfold validE;rw[if_neg (fun hk=>h (hk i hi))]
theorem validE_ok {l:List Sp}(h:OkL l):validE l=if 64<l.length then 4 else 0:=by
 unfold validE;rw[if_pos h]
theorem okStep {l:List Sp}{i:Nat}(hi:i<l.length)(h:∀j,j<i->okAt l j) :
 (i=0->(goodS l[i]->okAt l i))/\(0<i->∃p:Sp,l[i-1]? = some p/\goodS p/\(goodS l[i]->p.2+2<=l[i].1->okAt l i)/\(¬(p.2+2<=l[i].1)->¬okAt l i))/\(¬goodS l[i]->¬okAt l i):=by
 refine⟨fun h0 hg _=>⟨hg,fun h1=>om⟩,fun h0=>?_,fun hg hk=>hg (hk hi).1⟩;have h1:i-1<l.length:=om;have hd:l.getD (i-1) (0,0)=l[i-1]:=by simp[List.getD_eq_getElem?_getD,List.getElem?_eq_getElem h1]
 refine⟨l[i-1],List.getElem?_eq_getElem h1,(h (i-1) om h1).1,fun hg hp _=>⟨hg,fun _=>by rw[hd];exact hp⟩,fun hp hk=>hp ?_⟩;have:=(hk hi).2 h0;rw[hd] at this;exact this
theorem okMore {l:List Sp}{i:Nat}(h:∀j,j<i->okAt l j)(hi:okAt l i):∀j,j<i+1->okAt l j:=fun j hj=>by
 rcases Nat.lt_or_ge j i with h1|h1
 ·exact h j h1
 ·have:j=i:=om;subst this;exact hi
end
end Go.Proofs.YtmpcoifnpflapaaGreat
