/- Texts of this proof: G16 G17 G18 G19. -/
import Derived.Test.YtmocoldobnimfaaGreatRP29
set_option linter.all false
set_option maxHeartbeats 1000000
namespace Go.Proofs.YtmocoldobnimfaaGreat
section
open Go.RowKit
end
section
open Go.RowKit
theorem flatS_setLo:∀(l:List Sp) (j:Nat) (h:j<l.length) (v:Int),(flatS l).set (j*2) (.int .i64 v)=flatS (l.set j (v,l[j].2))
 | s::l,0,_,v=>by simp[flatS_cons]
 | s::l,j+1,h,v=>by
  have e:(j+1)*2=j*2+2:=om;rw[flatS_cons,e];simp only[List.set_cons_succ,List.getElem_cons_succ,flatS_cons];rw[flatS_setLo l j (by simpa using h) v]
theorem flatS_setHi:∀(l:List Sp) (j:Nat) (h:j<l.length) (v:Int),(flatS l).set (j*2+1) (.int .i64 v)=flatS (l.set j (l[j].1,v))
 | s::l,0,_,v=>by simp[flatS_cons]
 | s::l,j+1,h,v=>by
  have e:(j+1)*2+1=j*2+1+2:=om;rw[flatS_cons,e];simp only[List.set_cons_succ,List.getElem_cons_succ,flatS_cons];rw[flatS_setHi l j (by simpa using h) v]
theorem OwnP.at {w:World}{base c:Nat}{A:Option Addr}{l:List Sp}(h:OwnP w base A c l){j:Nat}(hj:j<l.length) :
 ∃g,A=some ⟨g,0,none⟩∧base≤g∧w.cell? ⟨g,j*2,none⟩=some (.int .i64 l[j].1)∧w.cell? ⟨g,j*2+1,none⟩=some (.int .i64 l[j].2)∧w.frozen? ⟨g,j*2,none⟩=false∧w.frozen? ⟨g,j*2+1,none⟩=false∧
  (∀v:Int,OwnP (w.setCell ⟨g,j*2,none⟩ (.int .i64 v)) base A c (l.set j (v,l[j].2)))∧(∀v:Int,OwnP (w.setCell ⟨g,j*2+1,none⟩ (.int .i64 v)) base A c (l.set j (l[j].1,v))):=by
 have f1:j*2<(flatS l).length:=by rw[flatS_len];omega
 have f2:j*2+1<(flatS l).length:=by rw[flatS_len];omega
 obtain⟨g,hA,hb,c1,z1,_,s1⟩:=OwnS.store h f1;obtain⟨g2,hA2,_,c2,z2,_,s2⟩:=OwnS.store h f2;rw[hA] at hA2;injection hA2 with hA2;injection hA2 with e1 _ _
 subst e1;obtain⟨v1,v2⟩:=flatS_get l j hj;obtain⟨_,e1⟩:=List.getElem?_eq_some_iff.1 v1;obtain⟨_,e2⟩:=List.getElem?_eq_some_iff.1 v2;rw[e1] at c1;rw[e2] at c2;refine⟨g,hA,hb,c1,c2,z1,z2,fun v=>?_,fun v=>?_⟩
 ·have:=s1 (.int .i64 v);rw[flatS_setLo l j hj v] at this;unfold OwnP;rw[List.length_set];exact this
 ·have:=s2 (.int .i64 v);rw[flatS_setHi l j hj v] at this;unfold OwnP;rw[List.length_set];exact this
def shS (d:Int)(s:Sp):Sp:=(s.1+d,s.2+d)
def ShU (d:Int)(m xs:List Sp)(i:Nat):Prop:=xs.length=m.length∧∀j (h:j<m.length),xs[j]? = some (if j<i then shS d m[j] else m[j])
theorem ShU.start (d:Int)(m:List Sp):ShU d m m 0:=⟨rfl,fun j h=>by simp[h]⟩
theorem ShU.step {d:Int}{m xs:List Sp}{i:Nat}(h:ShU d m xs i)(hi:i<m.length):ShU d m (xs.set i (shS d m[i])) (i+1):=by
 refine⟨by rw[List.length_set];exact h.1,fun j hj=>?_⟩;by_cases e:j=i
 ·subst e;rw[List.getElem?_set_self (by rw[h.1];exact hj),if_pos om]
 ·rw[List.getElem?_set_ne (fun x=>e x.symm),h.2 j hj];by_cases hji:j<i
  ·rw[if_pos hji,if_pos om]
  ·rw[if_neg hji,if_neg om]
theorem ShU.all {d:Int}{m xs:List Sp}(h:ShU d m xs m.length):xs=m.map (shS d):=by
 refine List.ext_getElem? (fun j=>?_);rcases Nat.lt_or_ge j m.length with hj|hj
 ·rw[h.2 j hj,if_pos hj];simp[hj]
 ·rw[List.getElem?_eq_none (by rw[h.1];exact hj),List.getElem?_eq_none (by simpa using hj)]
theorem canon_okL {l:List Sp}(h:Canon l)(hg:∀s∈l,goodS s):OkL l:=fun i hi _=>by
 refine⟨hg _ (List.getElem_mem hi),fun h0=>?_⟩;have h1:i-1<l.length:=om;rw[List.getD_eq_getElem?_getD,List.getElem?_eq_getElem h1];exact List.pairwise_iff_getElem.1 h.2 (i-1) i h1 hi om
end
section
open Go.RowKit
theorem OwnP.sl {w:World}{base c:Nat}{A:Option Addr}{l:List Sp}(h:OwnP w base A c l)(hg:∀s∈l,goodS s):SL w A c l:=
 SL.of_own h (fun s hs=>by have:=hg s hs;unfold goodS at this;exact⟨by unfold I64;omega,by unfold I64;omega⟩)
end
section
open Go.RowKit
theorem infoEn:(Tryz.prog.info? 207).map (fun i=>(i.zero,i.size,i.bytes))=some (some (.agg #[.int .i64 0,.int .i64 0]),2,16):=by kernel_rfl
def enOk (p:Sp):Prop:=0≤p.1∧p.1≤1114112
def OwnE (w:World)(base:Nat)(A:Option Addr)(c:Nat)(l:List Sp):Prop:=OwnS w base 207 2 A l.length c (flatS l)
abbrev GE:={ s:Sp // enOk s }
instance:Inhabited GE:=⟨⟨(0,0),by unfold enOk;simp⟩⟩
def encE (x:GE):List Value:=[.int .i64 x.1.1,.int .i64 x.1.2]
def cmpE (x y:GE):Int:=x.1.1-y.1.1
theorem ltE (x y:GE):Go.Proofs.ltOf cmpE x y=decide (x.1.1<y.1.1):=by
 unfold Go.Proofs.ltOf cmpE;rw[Bool.eq_iff_iff];simp only[decide_eq_true_eq];omega
theorem swoE:Go.Sort.SWO (Go.Proofs.ltOf cmpE) where
 irrefl x:=by rw[ltE];simp
 trans x y z h1 h2:=by rw[ltE] at *;simp at *;omega
 ntrans x y z h1 h2:=by rw[ltE] at *;simp at *;omega
def toE:(l:List Sp)→(∀s∈l,enOk s)→List GE
 | [],_=>[]
 | s::l,h=>⟨s,h s si⟩::toE l (fun t ht=>h t (by simp[ht]))
theorem toE_val:∀(l:List Sp) (h:∀s∈l,enOk s),(toE l h).map (·.1)=l
 | [],_=>rfl
 | s::l,h=>by rw[toE,List.map_cons,toE_val l]
theorem flatK_getE (d:List GE)(j:Nat)(hj:j<d.length*2):(Go.Sort.flatK encE 2 d.toArray)[j]! = (flatS (d.map (·.1)))[j]'(by rw[flatS_len,List.length_map];exact hj):=by
 rw[Go.Sort.get_flatK _ _ _ _ (by simpa using hj)];have hi:j / 2<d.length:=om;have hi':j / 2<(d.map (·.1)).length:=by simpa using hi
 obtain⟨g1,g2⟩:=flatS_get (d.map (·.1)) (j / 2) hi';obtain⟨l1,e1⟩:=List.getElem?_eq_some_iff.1 g1;obtain⟨l2,e2⟩:=List.getElem?_eq_some_iff.1 g2;have hd:d.toArray[j / 2]! = d[j / 2]:=by simp[hi]
 rw[hd];rcases Nat.mod_two_eq_zero_or_one j with h0|h1
 ·have e:j=j / 2*2:=om;rw[h0];have:(flatS (d.map (·.1)))[j]'(by rw[flatS_len,List.length_map];exact hj)=.int .i64 d[j / 2].1.1:=by
   have:=e1
   simp only[←e] at this;rw[this];simp
  rw[this];rfl
 ·have e:j=j / 2*2+1:=om;rw[h1];have:(flatS (d.map (·.1)))[j]'(by rw[flatS_len,List.length_map];exact hj)=.int .i64 d[j / 2].1.2:=by
   have:=e2
   simp only[←e] at this;rw[this];simp
  rw[this];rfl
theorem holdsE {w:World}{base c g:Nat}{d:List GE}(h:OwnE w base (some ⟨g,0,none⟩) c (d.map (·.1))):Go.Sort.HoldsK encE 2 w g 0 d.toArray:=by
 intro j hj;rw[Go.Sort.size_flatK] at hj;have hj2:j<d.length*2:=by simpa using hj
 have hfl:j<(flatS (d.map (·.1))).length:=by rw[flatS_len,List.length_map];exact hj2
 obtain⟨g',he,_,h1,h2,_,_⟩:=OwnS.store h hfl;injection he with he;injection he with e1 _ _
 subst e1;rw[Nat.zero_add,flatK_getE d j hj2];exact⟨h1,h2⟩
theorem sortedE {w:World}{base c g n:Nat}{d d':List GE}{os:Array Obj}(h:OwnE w base (some ⟨g,0,none⟩) c (d.map (·.1)))(hl:d'.length=d.length) :
 OwnE (Go.Proofs.sortWorldK encE 2 w g 0 n d'.toArray os) base (some ⟨g,0,none⟩) c (d'.map (·.1))∧KpP (·=g) w (Go.Proofs.sortWorldK encE 2 w g 0 n d'.toArray os):=by
 rcases h.form with⟨h0,_⟩|⟨g',cur,he,hg,hh,hnc,hcm,hcs,ht⟩
 ·cases h0
 ·injection he with he;injection he with e1 _ _
  subst e1;have hlt:g<w.heap.size:=(Array.getElem?_eq_some_iff.1 hh).1;have hk:KpP (·=g) w (Go.Proofs.sortWorldK encE 2 w g 0 n d'.toArray os):=by
   refine⟨rfl,rfl,rfl,?_,fun k hk hn=>?_⟩
   ·show w.heap.size≤(Array.size (_++os))
    simp[Go.Sort.putRowK,Go.Sort.putRow,Go.Sort.mapBlock,Go.Sort.ahead]
   ·show(_++os)[k]? = _
    have hne:¬g=k:=fun e=>hn e.symm;rw[Array.getElem?_append_left (by simp[Go.Sort.putRowK,Go.Sort.putRow,Go.Sort.mapBlock,Go.Sort.ahead];exact hk)];simp[Go.Sort.putRowK,Go.Sort.putRow,Go.Sort.mapBlock,Go.Sort.ahead,Array.getElem?_modify,hne]
  refine⟨?_,hk⟩;have hb:Blk (Go.Proofs.sortWorldK encE 2 w g 0 n d'.toArray os) g 207 (Go.Sort.putCells id 0 (Go.Sort.flatK encE 2 d'.toArray) cur):=by
   show(_++os)[g]? = _
   rw[Array.getElem?_append_left (by simp[Go.Sort.putRowK,Go.Sort.putRow,Go.Sort.mapBlock,Go.Sort.ahead];exact hlt)];simp[Go.Sort.putRowK,Go.Sort.putRow,Go.Sort.mapBlock,Go.Sort.ahead,Array.getElem?_modify,hh,Go.Sort.onCells]
  have:=OwnS.of_blk (n:=(d'.map (·.1)).length) (c:=c) (size:=2) hb hg (by simp[Go.Sort.putCells,hcs]) (by rw[List.length_map] at hnc ⊢;omega) hcm;have e:(Go.Sort.putCells id 0 (Go.Sort.flatK encE 2 d'.toArray) cur).toList.take ((d'.map (·.1)).length*2)=flatS (d'.map (·.1)):=by
   have hsz:d'.length*2≤cur.size:=by rw[hcs];rw[List.length_map] at hnc;omega
   refine List.ext_getElem ?_ (fun j h1 h2=>?_)
   ·rw[List.length_take,flatS_len];simp[Go.Sort.putCells];omega
   ·have hj:j<d'.length*2:=by rw[flatS_len,List.length_map] at h2;exact h2
    rw[List.getElem_take];have hjc:j<cur.size:=om;have:(Go.Sort.putCells id 0 (Go.Sort.flatK encE 2 d'.toArray) cur)[j]'(by simpa[Go.Sort.putCells] using hjc)=(Go.Sort.flatK encE 2 d'.toArray)[j]!:=by
     simp only[Go.Sort.putCells,Array.getElem_mapIdx,Go.Sort.size_flatK];rw[if_pos ⟨Nat.zero_le _,by simpa using hj⟩]
     rfl
    rw[Array.getElem_toList,this,flatK_getE d' j hj]
  rw[e] at this;exact this
theorem cmpE_any (x y:GE)(W:World):Calls Tryz.prog 157 #[.agg #[.int .i64 x.1.1,.int .i64 x.1.2],.agg #[.int .i64 y.1.1,.int .i64 y.1.2]] W (fun e w'=>e=.returned (.int .i64 (cmpE x y))∧∃q os',w'=Go.Sort.grow (W.drewN q) os'):=by
 obtain⟨⟨x1,x2⟩,hx⟩:=x;obtain⟨⟨y1,y2⟩,hy⟩:=y;have hx':0≤x1∧x1≤1114112:=hx;have hy':0≤y1∧y1≤1114112:=hy;have hw:IntKind.i64.wrap (x1-y1)=x1-y1:=wj;unfold cmpE
 simp only
 go_enter Tryz.func157,Tryz.ntmps157
 go_wp2
 go_ret
 exact⟨by rw[←hw];rfl,0,_,by rw[Go.Sort.alloc_eq_grow,Go.Sort.alloc_eq_grow,Go.Sort.grow_grow];rfl⟩
theorem sortE_any (base g c:Nat)(l:List Sp)(hg:∀s∈l,enOk s)(w:World)(hl:OwnE w base (some ⟨g,0,none⟩) c l)(hlen:l.length≤1000000) :
 Calls Tryz.prog 156 #[.slice (some ⟨g,0,none⟩) l.length c,.func (.func 157) #[] #[]] w (fun e w'=>e=.returned (.tuple #[])∧∃m:List Sp,l.Perm m∧m.Pairwise (fun s t=>s.1≤t.1)∧m.length=l.length∧OwnE w' base (some ⟨g,0,none⟩) c m∧KpP (·=g) w w'):=by
 obtain⟨d,hd⟩:∃d:List GE,d.map (·.1)=l:=⟨toE l hg,toE_val l hg⟩;subst hd;have eg:∀args w,(callFunc 157 args).run Tryz.prog w=.ok (.enter 157 args) w:=enters_of Tryz.func157 kr rfl;have hcmp:Go.Proofs.CmpLays Tryz.prog 157 #[] encE 2 cmpE g 0 d.toArray.size w:=fun _ _ _ _ x y=>cmpE_any x y _;have hcon:=AnyQ.slices_SortFunc Tryz.sortEnd 2 Tryz.isAgg207 Tryz.sizeOf207 encE (fun _=>rfl) (fun x v hv=>by simp[encE] at hv;rcases hv with rfl|rfl<;>rfl) cmpE swoE 157 #[] g 0 c d.toArray w eg hcmp (holdsE hl) ((OwnS.blt hl rfl).1) (by rw[List.length_map] at hlen;simp;omega);change Calls Tryz.prog 156 _ _ _ at hcon;have hsz:d.toArray.size=(d.map (·.1)).length:=by simp
 rw[hsz] at hcon;refine hcon.mono ?_;rintro e w' ⟨rfl,d',n,os,hp,hs,rfl⟩;have hps:=hp.1;rw[List.size_toArray] at hps;obtain⟨d2,rfl⟩:∃d2:List GE,d'=d2.toArray:=⟨d'.toList,by simp⟩;replace hps:d2.length=d.length:=by simpa using hps
 have hperm:d2.Perm d:=by
  have:=hp.2.2;rw[List.length_map] at this;have h4:d2.Perm (d.take d2.length):=by simpa[←hps] using this
  rw[List.take_of_length_le om] at h4;exact h4
 obtain⟨h1,h2⟩:=sortedE (d':=d2) (n:=n) (os:=os) hl hps;refine⟨rfl,d2.map (·.1),(hperm.symm).map _,?_,by simp[hps],h1,h2⟩;rw[List.pairwise_map,List.pairwise_iff_getElem];intro i j hi hj hij;have h3:=hs i j (Nat.zero_le _) hij (by simp;omega);rw[ltE] at h3;have e1:d2.toArray[j]! = d2[j]:=by simp[hj]
 have e2:d2.toArray[i]! = d2[i]:=by simp[hi]
 rw[e1,e2] at h3;simp at h3;exact h3
end
end Go.Proofs.YtmocoldobnimfaaGreat
