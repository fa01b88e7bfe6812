/- Texts of this proof: S5 G1. -/
import Derived.Test.YtmocoldobnimfaaGreatRP03
import Derived.Test.YtmocoldobnimfaaGreatRP04
import Derived.Test.YtmocoldobnimfaaGreatRows
import Derived.WalkLawsBesides
import Derived.Deep.QuietTactic
import Derived.BigQuiet
set_option linter.all false
set_option maxHeartbeats 1000000
namespace Go.Proofs.YtmocoldobnimfaaGreat
section
open Go.RowKit
def goodS (s:Sp):Prop:=0≤s.1∧s.1≤s.2∧s.2≤1114111
theorem ref_has {ls:List (List Sp)}{top:Int}(h0:0≤top)(hg:∀s∈ls.flatten,0≤s.1∧s.1≤s.2){p:Int→Bool}(hp:Steady (endsT top ls) top p)(x:Int) :
 has (cls (endsT top ls) top p) x=(p x&&decide (0≤x∧x≤top)):=by
 have h:=endsT_ok h0 hg;exact cls_has h.ends hp h.head x
theorem steady_of {n:List Int}{top:Int}{ls:List (List Sp)}(h:∀a∈ls,EndsIn a n top)(k:List Bool→Bool):Steady n top (fun x=>k (ls.map (fun a=>has a x))):=by
 intro e x h1 h2 h3;have:ls.map (fun a=>has a x)=ls.map (fun a=>has a e):=List.map_congr_left (fun a ha=>has_steady (h a ha) e x h1 h2 h3);simp only[this]
structure AllEnds (n:List Int)(ls:List (List Sp)):Prop where
 inc:n.Pairwise (· < ·)
 inn:∀a∈ls,∀s∈a,s.1∈n∧s.2+1∈n
end
section
open Go.RowKit
theorem infoS:(Tryz.prog.info? 38).map (fun i=>(i.zero,i.size,i.bytes))=some (some (.agg #[.int .i64 0,.int .i64 0]),2,16):=by kernel_rfl
def flatS (l:List Sp):List Value:=l.flatMap fun s=>[.int .i64 s.1,.int .i64 s.2]
theorem flatS_append (l m:List Sp):flatS (l++m)=flatS l++flatS m:=by simp[flatS]
theorem flatS_cons (s:Sp)(l:List Sp):flatS (s::l)=.int .i64 s.1::.int .i64 s.2::flatS l:=by simp[flatS]
theorem flatS_len (l:List Sp):(flatS l).length=l.length*2:=by
 induction l with
 | nil=>rfl
 | cons y l ih=>rw[flatS_cons];simp only[List.length_cons];omega
theorem flatS_one (l:List Sp):∀u∈flatS l,u.oneCell'=true:=by
 intro u hu;obtain⟨s,_,hs⟩:=List.mem_flatMap.1 hu;simp only[List.mem_cons,List.not_mem_nil,or_false] at hs;rcases hs with rfl|rfl<;>rfl
theorem flatS_get (l:List Sp)(i:Nat)(h:i<l.length):(flatS l)[i*2]? = some (.int .i64 l[i].1)∧(flatS l)[i*2+1]? = some (.int .i64 l[i].2):=by
 induction l generalizing i with
 | nil=>simp at h
 | cons y l ih=>
  cases i with
  | zero=>simp[flatS_cons]
  | succ i=>
   have hi:i<l.length:=by simpa using h
   have e1:(i+1)*2=i*2+2:=om;rw[flatS_cons,e1];exact ih i hi
def S64 (s:Sp):Prop:=I64 s.1∧I64 s.2
structure SL (w:World)(A:Option Addr)(c:Nat)(l:List Sp):Prop where
 le:l.length≤c
 cap:c≤maxLen
 rng:∀s∈l,S64 s
 at_:l≠[]→∃b o,A=some ⟨b,o,none⟩∧∀i (h:i<l.length),w.cell? ⟨b,o+i*2,none⟩=some (.int .i64 l[i].1)∧w.cell? ⟨b,o+i*2+1,none⟩=some (.int .i64 l[i].2)
namespace SL
variable {w w':World} {A:Option Addr} {c:Nat} {l:List Sp}
theorem ext (h:SL w A c l)(k:Ext w w'):SL w' A c l:=by
 refine⟨h.le,h.cap,h.rng,fun hn=>?_⟩;obtain⟨b,o,rfl,hc⟩:=h.at_ hn;exact⟨b,o,rfl,fun i hi=>⟨k.cell (hc i hi).1,k.cell (hc i hi).2⟩⟩
theorem nil (w:World):SL w none 0 []:=⟨Nat.le_refl _,Nat.zero_le _,by simp,fun h=>absurd rfl h⟩
theorem len (h:SL w A c l):l.length≤c∧c≤9223372036854775807:=⟨h.le,by have:=h.cap;unfold maxLen at this;omega⟩
theorem get {k:Nat}(h:SL w A c l)(hk:k<l.length):∃b o,A=some ⟨b,o,none⟩∧w.cell? ⟨b,o+k*2,none⟩=some (.int .i64 l[k].1)∧w.cell? ⟨b,o+k*2+1,none⟩=some (.int .i64 l[k].2):=by
 obtain⟨b,o,rfl,hc⟩:=h.at_ (by intro h0;subst h0;simp at hk);exact⟨b,o,rfl,hc k hk⟩
theorem wf {k:Nat}(h:SL w A c l)(hk:k<l.length):S64 l[k]:=h.rng _ (List.getElem_mem hk)
theorem of_own {base:Nat}(h:OwnS w base 38 2 A l.length c (flatS l))(hr:∀s∈l,S64 s):SL w A c l:=by
 have hc:=OwnS.caps h;refine⟨hc.1,by unfold maxLen;omega,hr,fun hn=>?_⟩;obtain⟨b,o,hA,hcell⟩:=OwnS.cells h (by intro e;have:=flatS_len l;rw[e] at this;simp at this;exact hn (List.length_eq_zero_iff.1 om));have one:∀(i:Nat) (v:Value),(flatS l)[i]? = some v→w.cell? ⟨b,o+i,none⟩=some v:=fun i v hv=>by
  obtain⟨l1,e1⟩:=List.getElem?_eq_some_iff.1 hv;rw[hcell i l1,e1]
 exact⟨b,o,hA,fun i hi=>⟨one _ _ (flatS_get l i hi).1,by rw[Nat.add_assoc];exact one _ _ (flatS_get l i hi).2⟩⟩
theorem cells (h:SL w A c l):CellsAt w A (flatS l):=by
 intro hn;obtain⟨b,o,hA,hc⟩:=h.at_ (by rintro rfl;exact hn rfl);refine⟨b,o,hA,fun i hi=>?_⟩;have hi2:i / 2<l.length:=by rw[flatS_len] at hi;omega
 obtain⟨g1,g2⟩:=flatS_get l (i / 2) hi2;rcases Nat.mod_two_eq_zero_or_one i with h0|h1
 ·have e:i=i / 2*2:=om;have:=(hc _ hi2).1
  rw[←e] at this g1;rw[this,←g1,List.getElem?_eq_getElem]
 ·have e:i=i / 2*2+1:=om;have:=(hc _ hi2).2;rw[Nat.add_assoc,←e] at this
  rw[←e] at g2;rw[this,←g2,List.getElem?_eq_getElem]
end SL
def spV (s:Sp):Value:=.agg #[.int .i64 s.1,.int .i64 s.2]
instance (s:Sp):Decidable (goodS s):=by unfold goodS;infer_instance
def goodB (s:Sp):Bool:=decide (goodS s)
theorem G1z1 {P:Prop} (h:P:=by
 go_enter Tryz.func155,Tryz.ntmps155
 go_wp2
 go_ret
 exact⟨by rw[HR.out];rfl,x1⟩):P:=h
theorem G1z3 {P:Prop} (h:P:=by
 show _=_
 have h:goodB (lo,hi)=true↔(0≤lo∧lo≤hi∧hi≤1114111):=decide_eq_true_iff;rw[Bool.eq_iff_iff,h];simp only[decide_eq_true_eq,Bool.and_eq_true,and_assoc]):P:=h
theorem right_any (s:Sp)(w:World):Calls Tryz.prog 155 #[spV s] w (RetV (.bool (goodB s)) w):=by
 obtain⟨lo,hi⟩:=s;obtain⟨b1,x1⟩:=alloc1 w 38 #[.int .i64 lo,.int .i64 hi];obtain⟨p0,p1,_,_,pz⟩:=b1.c2;have HG:Hid (goodB (lo,hi)=(decide (0≤lo)&&decide (lo≤hi)&&decide (hi≤1114111))):=by
  exact G1z3
 generalize goodB (lo,hi)=r at *;unfold spV
 simp only
 by_cases h0:0≤lo
 ·by_cases h1:lo≤hi
  ·by_cases h2:hi≤1114111
   ·have HR:Hid (r=true):=by show _=_;rw[HG.out];simp[h0,h1,h2]
    exact G1z1
   ·have HR:Hid (r=false):=by show _=_;rw[HG.out];simp[h2]
    exact G1z1
  ·have HR:Hid (r=false):=by show _=_;rw[HG.out];simp[h1]
   exact G1z1
 ·have HR:Hid (r=false):=by show _=_;rw[HG.out];simp[h0]
  exact G1z1
theorem noHas {l:List Sp}{x:Int}(h:∀i (hi:i<l.length),¬(l[i].1≤x∧x≤l[i].2)):has l x=false:=by
 rw[Bool.eq_false_iff];intro hh;obtain⟨s,hs,h1⟩:=has_iff.1 hh;obtain⟨i,hi,rfl⟩:=List.getElem_of_mem hs;exact h i hi h1
theorem yesHas {l:List Sp}{x:Int}{i:Nat}(hi:i<l.length)(h1:l[i].1≤x)(h2:x≤l[i].2):has l x=true:=has_iff.2 ⟨_,List.getElem_mem hi,h1,h2⟩
end
end Go.Proofs.YtmocoldobnimfaaGreat
