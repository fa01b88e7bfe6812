/- Texts of this proof: US. -/
import Derived.Test.YtmgpefenkilffaaGreatSW10
import Derived.Test.YtmgpefenkilffaaGreatSW14
import Derived.Shelf.SlSortCmp.NoneTotal
set_option linter.all false
set_option maxHeartbeats 1000000
namespace Go.Proofs.YtmgpefenkilffaaGreat
section
open Go.RowKit
def prOk (p:Sp):Prop:=0<=p.1/\p.1<=1114112
def OwnQ2 (w:World)(base:Nat)(A:Option Addr)(c:Nat)(l:List Sp):Prop:=OwnS w base 54 2 A l.length c (flatS l)
abbrev GQ2:={ s:Sp // prOk s }
instance:Inhabited GQ2:=⟨⟨(0,0),by unfold prOk;simp⟩⟩
def encQ2 (x:GQ2):List Value:=[.int .i64 x.1.1,.int .i64 x.1.2]
def cmpQ2 (x y:GQ2):Int:=x.1.1-y.1.1
theorem ltQ2 (x y:GQ2):Go.Proofs.ltOf cmpQ2 x y=decide (x.1.1<y.1.1):=by
 unfold Go.Proofs.ltOf cmpQ2;rw[Bool.eq_iff_iff];simp only[decide_eq_true_eq];omega
theorem swoQ2:Go.Sort.SWO (Go.Proofs.ltOf cmpQ2) where
 irrefl x:=by rw[ltQ2];simp
 trans x y z h1 h2:=by rw[ltQ2] at *;simp at *;omega
 ntrans x y z h1 h2:=by rw[ltQ2] at *;simp at *;omega
def toQ2:(l:List Sp)->(∀s∈l,prOk s)->List GQ2
 | [],_=>[]
 | s::l,h=>⟨s,h s si⟩::toQ2 l (fun t ht=>h t (by simp[ht]))
theorem toQ2_val:∀(l:List Sp) (h:∀s∈l,prOk s),(toQ2 l h).map (·.1)=l
 | [],_=>rfl
 | s::l,h=>by rw[toQ2,List.map_cons,toQ2_val l]
theorem flatK_getQ2 (d:List GQ2)(j:Nat)(hj:j<d.length*2):(Go.Sort.flatK encQ2 2 d.toArray)[j]! = (flatS (d.map (·.1)))[j]'(by rw[flatS_len,List.length_map];exact hj):=by
 rw[Go.Sort.get_flatK _ _ _ _ (by simpa using hj)];have hi:j / 2<d.length:=om;have hi':j / 2<(d.map (·.1)).length:=by simpa using hi
 obtain⟨g1,g2⟩:=flatS_get (d.map (·.1)) (j / 2) hi';obtain⟨l1,e1⟩:=List.getElem?_eq_some_iff.1 g1;obtain⟨l2,e2⟩:=List.getElem?_eq_some_iff.1 g2;have hd:d.toArray[j / 2]! = d[j / 2]:=by simp[hi]
 rw[hd];rcases Nat.mod_two_eq_zero_or_one j with h0|h1
 ·have e:j=j / 2*2:=om;rw[h0];have:(flatS (d.map (·.1)))[j]'(by rw[flatS_len,List.length_map];exact hj)=.int .i64 d[j / 2].1.1:=by
   have:=e1
   simp only[<-e] at this;rw[this];simp
  rw[this];rfl
 ·have e:j=j / 2*2+1:=om;rw[h1];have:(flatS (d.map (·.1)))[j]'(by rw[flatS_len,List.length_map];exact hj)=.int .i64 d[j / 2].1.2:=by
   have:=e2
   simp only[<-e] at this;rw[this];simp
  rw[this];rfl
theorem holdsQ2 {w:World}{base c g:Nat}{d:List GQ2}(h:OwnQ2 w base (some ⟨g,0,none⟩) c (d.map (·.1))):Go.Sort.HoldsK encQ2 2 w g 0 d.toArray:=by
 intro j hj;rw[Go.Sort.size_flatK] at hj;have hj2:j<d.length*2:=by simpa using hj
 have hfl:j<(flatS (d.map (·.1))).length:=by rw[flatS_len,List.length_map];exact hj2
 obtain⟨g',he,_,h1,h2,_,_⟩:=OwnS.store h hfl;injection he with he;injection he with e1 _ _
 subst e1;rw[Nat.zero_add,flatK_getQ2 d j hj2];exact⟨h1,h2⟩
theorem sortedQ2 {w:World}{base c g n:Nat}{d d':List GQ2}{os:Array Obj}(h:OwnQ2 w base (some ⟨g,0,none⟩) c (d.map (·.1)))(hl:d'.length=d.length) :
 OwnQ2 (Go.Proofs.sortWorldK encQ2 2 w g 0 n d'.toArray os) base (some ⟨g,0,none⟩) c (d'.map (·.1))/\KpP (·=g) w (Go.Proofs.sortWorldK encQ2 2 w g 0 n d'.toArray os):=by
 rcases h.form with⟨h0,_⟩|⟨g',cur,he,hg,hh,hnc,hcm,hcs,ht⟩
 ·cases h0
 ·injection he with he;injection he with e1 _ _
  subst e1;have hlt:g<w.heap.size:=(Array.getElem?_eq_some_iff.1 hh).1;have hk:KpP (·=g) w (Go.Proofs.sortWorldK encQ2 2 w g 0 n d'.toArray os):=by
   refine⟨rfl,rfl,rfl,?_,fun k hk hn=>?_⟩
   ·show w.heap.size<=(Array.size (_++os))
    simp[Go.Sort.putRowK,Go.Sort.putRow,Go.Sort.mapBlock,Go.Sort.ahead]
   ·show(_++os)[k]? = _
    have hne:¬g=k:=fun e=>hn e.symm;rw[Array.getElem?_append_left (by simp[Go.Sort.putRowK,Go.Sort.putRow,Go.Sort.mapBlock,Go.Sort.ahead];exact hk)];simp[Go.Sort.putRowK,Go.Sort.putRow,Go.Sort.mapBlock,Go.Sort.ahead,Array.getElem?_modify,hne]
  refine⟨?_,hk⟩;have hb:Blk (Go.Proofs.sortWorldK encQ2 2 w g 0 n d'.toArray os) g 54 (Go.Sort.putCells id 0 (Go.Sort.flatK encQ2 2 d'.toArray) cur):=by
   show(_++os)[g]? = _
   rw[Array.getElem?_append_left (by simp[Go.Sort.putRowK,Go.Sort.putRow,Go.Sort.mapBlock,Go.Sort.ahead];exact hlt)];simp[Go.Sort.putRowK,Go.Sort.putRow,Go.Sort.mapBlock,Go.Sort.ahead,Array.getElem?_modify,hh,Go.Sort.onCells]
  have:=OwnS.of_blk (n:=(d'.map (·.1)).length) (c:=c) (size:=2) hb hg (by simp[Go.Sort.putCells,hcs]) (by rw[List.length_map] at hnc ⊢;omega) hcm;have e:(Go.Sort.putCells id 0 (Go.Sort.flatK encQ2 2 d'.toArray) cur).toList.take ((d'.map (·.1)).length*2)=flatS (d'.map (·.1)):=by
   have hsz:d'.length*2<=cur.size:=by rw[hcs];rw[List.length_map] at hnc;omega
   refine List.ext_getElem ?_ (fun j h1 h2=>?_)
   ·rw[List.length_take,flatS_len];simp[Go.Sort.putCells];omega
   ·have hj:j<d'.length*2:=by rw[flatS_len,List.length_map] at h2;exact h2
    rw[List.getElem_take];have hjc:j<cur.size:=om;have:(Go.Sort.putCells id 0 (Go.Sort.flatK encQ2 2 d'.toArray) cur)[j]'(by simpa[Go.Sort.putCells] using hjc)=(Go.Sort.flatK encQ2 2 d'.toArray)[j]!:=by
     simp only[Go.Sort.putCells,Array.getElem_mapIdx,Go.Sort.size_flatK];rw[if_pos ⟨Nat.zero_le _,by simpa using hj⟩]
     rfl
    rw[Array.getElem_toList,this,flatK_getQ2 d' j hj]
  rw[e] at this;exact this
theorem cmpQ2_any (x y:GQ2)(W:World):Calls Tryz.prog 143 #[.agg #[.int .i64 x.1.1,.int .i64 x.1.2],.agg #[.int .i64 y.1.1,.int .i64 y.1.2]] W (fun e w'=>e=.returned (.int .i64 (cmpQ2 x y))/\∃q os',w'=Go.Sort.grow (W.drewN q) os'):=by
 obtain⟨⟨x1,x2⟩,hx⟩:=x;obtain⟨⟨y1,y2⟩,hy⟩:=y;have hx':0<=x1/\x1<=1114112:=hx;have hy':0<=y1/\y1<=1114112:=hy;have hw:IntKind.i64.wrap (x1-y1)=x1-y1:=wj;unfold cmpQ2
 simp only
 go_enter Tryz.func143,Tryz.ntmps143
 go_wp2
 go_ret
 exact⟨by rw[<-hw];rfl,0,_,by rw[Go.Sort.alloc_eq_grow,Go.Sort.alloc_eq_grow,Go.Sort.grow_grow];rfl⟩
theorem sortQ2_any (base g c:Nat)(l:List Sp)(hg:∀s∈l,prOk s)(w:World)(hl:OwnQ2 w base (some ⟨g,0,none⟩) c l)(hlen:l.length<=1000000) :
 Calls Tryz.prog 142 #[.slice (some ⟨g,0,none⟩) l.length c,.func (.func 143) #[] #[]] w (fun e w'=>e=.returned (.tuple #[])/\∃m:List Sp,l.Perm m/\m.Pairwise (fun s t=>s.1<=t.1)/\m.length=l.length/\OwnQ2 w' base (some ⟨g,0,none⟩) c m/\KpP (·=g) w w'):=by
 obtain⟨d,hd⟩:∃d:List GQ2,d.map (·.1)=l:=⟨toQ2 l hg,toQ2_val l hg⟩;subst hd;have eg:∀args w,(callFunc 143 args).run Tryz.prog w=.ok (.enter 143 args) w:=enters_of Tryz.func143 kr rfl;have hcmp:Go.Proofs.CmpLays Tryz.prog 143 #[] encQ2 2 cmpQ2 g 0 d.toArray.size w:=fun _ _ _ _ x y=>cmpQ2_any x y _;have hcon:=AnyQ.slices_SortFunc Tryz.sortPair 2 Tryz.isAgg54 Tryz.sizeOf54 encQ2 (fun _=>rfl) (fun x v hv=>by simp[encQ2] at hv;rcases hv with rfl|rfl<;>rfl) cmpQ2 swoQ2 143 #[] g 0 c d.toArray w eg hcmp (holdsQ2 hl) ((OwnS.blt hl rfl).1) (by rw[List.length_map] at hlen;simp;omega);change Calls Tryz.prog 142 _ _ _ at hcon;have hsz:d.toArray.size=(d.map (·.1)).length:=by simp
 rw[hsz] at hcon;refine hcon.mono ?_;rintro e w' ⟨rfl,d',n,os,hp,hs,rfl⟩;have hps:=hp.1;rw[List.size_toArray] at hps;obtain⟨d2,rfl⟩:∃d2:List GQ2,d'=d2.toArray:=⟨d'.toList,by simp⟩;replace hps:d2.length=d.length:=by simpa using hps
 have hperm:d2.Perm d:=by
  have:=hp.2.2;rw[List.length_map] at this;have h4:d2.Perm (d.take d2.length):=by simpa[<-hps] using this
  rw[List.take_of_length_le om] at h4;exact h4
 obtain⟨h1,h2⟩:=sortedQ2 (d':=d2) (n:=n) (os:=os) hl hps;refine⟨rfl,d2.map (·.1),(hperm.symm).map _,?_,by simp[hps],h1,h2⟩;rw[List.pairwise_map,List.pairwise_iff_getElem];intro i j hi hj hij;have h3:=hs i j (Nat.zero_le _) hij (by simp;omega);rw[ltQ2] at h3;have e1:d2.toArray[j]! = d2[j]:=by simp[hj]
 have e2:d2.toArray[i]! = d2[i]:=by simp[hi]
 rw[e1,e2] at h3;simp at h3;exact h3
theorem OwnQ2.some {w:World}{base c:Nat}{A:Option Addr}{l:List Sp}(h:OwnQ2 w base A c l):(A=none/\c=0/\l=[])\/∃g,A=some ⟨g,0,none⟩:=by
 rcases OwnS.form h with⟨h1,h2,h3,_⟩|⟨g,cur,h1,_⟩
 ·exact .inl ⟨h1,h3,List.length_eq_zero_iff.1 h2⟩
 ·exact .inr ⟨g,h1⟩
theorem sortNoneQ2 (p:Option Addr)(c:Nat)(fv:Value)(w:World):Calls Tryz.prog 142 #[.slice p 0 c,fv] w (fun e w'=>e=.returned (.tuple #[])/\w'=w):=by
 have h:=AnyF.slices_SortFunc_none Tryz.sortPair p c fv w;change Calls Tryz.prog 142 _ _ _ at h;exact h
theorem sortAnyQ2 (base c:Nat)(A:Option Addr)(l:List Sp)(hg:∀s∈l,prOk s)(w:World)(hl:OwnQ2 w base A c l)(hlen:l.length<=1000000) :
 Calls Tryz.prog 142 #[.slice A l.length c,.func (.func 143) #[] #[]] w (fun e w'=>e=.returned (.tuple #[])/\∃m:List Sp,l.Perm m/\m.Pairwise (fun s t=>s.1<=t.1)/\m.length=l.length/\OwnQ2 w' base A c m/\KpP (fun b=>A.map (·.block)=some b) w w'):=by
 rcases hl.some with⟨rfl,rfl,rfl⟩|⟨g,rfl⟩
 ·refine(sortNoneQ2 none 0 _ w).mono ?_;rintro e w' ⟨rfl,rfl⟩;exact⟨rfl,[],List.Perm.refl _,List.Pairwise.nil,rfl,hl,KpP.refl _ _⟩
 ·refine(sortQ2_any base g c l hg w hl hlen).mono ?_;rintro e w' ⟨rfl,m,h1,h2,h3,h4,h5⟩;exact⟨rfl,m,h1,h2,h3,h4,h5.mono (fun k hk=>by simp[hk])⟩
def RetSo (base:Nat)(A:Option Addr)(c:Nat)(R:List Sp)(w:World)(e:Ending)(w':World):Prop:=∃m:List Sp,e=.returned (.slice A m.length c)/\R.Perm m/\m.Pairwise (fun s t=>s.1<=t.1)/\OwnQ2 w' base A c m/\KpP (fun b=>A.map (·.block)=some b) w w'
theorem sorted_any (base c:Nat)(A:Option Addr)(R:List Sp)(hg:∀s∈R,prOk s)(w:World)(hl:OwnQ2 w base A c R)(hlen:R.length<=1000000):Calls Tryz.prog 68 #[.slice A R.length c] w (RetSo base A c R w):=by
 have HS:=lh (sortAnyQ2 base c A R hg w hl hlen);have hcap:=OwnS.caps hl;clear hl;go_enter Tryz.func68,Tryz.ntmps68
 go_wp2_with fail
 refine HS.out.mono ?_;rintro e w2 ⟨rfl,m,h1,h2,h3,h4,h5⟩;have HM:=lh (And.intro h1 (And.intro h2 (And.intro h4 h5)));have hl:=h3;clear h1 h2 h3 h4 h5
 go_wp2_with fail
 go_ret
 exact⟨m,by rw[hl];rfl,HM.out.1,HM.out.2.1,HM.out.2.2.1,HM.out.2.2.2⟩
end
end Go.Proofs.YtmgpefenkilffaaGreat
