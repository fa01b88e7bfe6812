/- Texts of this proof: G14 G15 Y4 Y5 Y6 Y7 Y8 G16 G17 G18 G19. -/
import Derived.Test.YtmgpefenkilffaaGreatSW01
import Derived.Test.YtmgpefenkilffaaGreatSW10
import Derived.Laws.MakeOwn
set_option linter.all false
namespace Go.Proofs.YtmgpefenkilffaaGreat
section
open Go.RowKit
theorem compactUpTo_succ (d:Array Int)(m:Nat):Lib.compactUpTo d (m+1)=Lib.compactUpTo d m++(if Lib.keeps d m then[d[m]!] else[]):=by
 unfold Lib.compactUpTo;rw[List.range_succ,List.filter_append,List.map_append]
 congr 1
 cases h:Lib.keeps d m<;>simp[h]
theorem compact_law {d:Array Int}(h:∀i j,i<=j->j<d.size->d[i]!<=d[j]!):∀m,m<=d.size->(Lib.compactUpTo d m).Pairwise (· < ·)/\(∀x,x∈Lib.compactUpTo d m<->∃i,i<m/\d[i]! = x)/\(Lib.compactUpTo d m).length<=m
 | 0,_=>by simp[Lib.compactUpTo]
 | m+1,hm=>by
  obtain⟨h1,h2,h3⟩:=compact_law h m om;rw[compactUpTo_succ];by_cases hk:Lib.keeps d m=true
  ·rw[if_pos hk];have hk':m=0\/d[m]!≠d[m-1]!:=by simpa[Lib.keeps] using hk
   refine⟨List.pairwise_append.2 ⟨h1,by simp,fun x hx y hy=>?_⟩,fun x=>?_,by simp;omega⟩
   ·obtain rfl:=List.mem_singleton.1 hy;obtain⟨i,hi,rfl⟩:=(h2 x).1 hx;rcases hk' with rfl|hne
    ·omega
    ·have a1:=h i (m-1) om om;have a2:=h (m-1) m om om;omega
   ·rw[List.mem_append,h2];constructor
    ·rintro(⟨i,hi,rfl⟩|hx)
     ·exact⟨i,om,rfl⟩
     ·exact⟨m,om,(List.mem_singleton.1 hx).symm⟩
    ·rintro⟨i,hi,rfl⟩;rcases Nat.lt_or_ge i m with hh|hh
     ·exact .inl ⟨i,hh,rfl⟩
     ·have:i=m:=om;subst this;simp
  ·rw[if_neg hk,List.append_nil];have hk':¬(m=0\/d[m]!≠d[m-1]!):=by simpa[Lib.keeps] using hk
   rw[not_or] at hk';have he:d[m]! = d[m-1]!:=by
    rcases Int.lt_trichotomy d[m]! d[m-1]! with hh|hh|hh
    ·exact absurd om hk'.2
    ·exact hh
    ·exact absurd om hk'.2
   refine⟨h1,fun x=>?_,om⟩;rw[h2];constructor
   ·rintro⟨i,hi,rfl⟩;exact⟨i,om,rfl⟩
   ·rintro⟨i,hi,rfl⟩;rcases Nat.lt_or_ge i m with hh|hh
    ·exact⟨i,hh,rfl⟩
    ·have:i=m:=om;subst this;exact⟨i-1,om,he.symm⟩
def incr (zs:List Int):List Int:=Lib.compact (zs.mergeSort fun x y=>decide (x<=y))
theorem incr_law (zs:List Int):(incr zs).Pairwise (· < ·)/\(∀x,x∈incr zs<->x∈zs)/\(incr zs).length<=zs.length:=by
 have hp:=List.mergeSort_perm zs (fun x y=>decide (x<=y));have hs:(zs.mergeSort fun x y=>decide (x<=y)).Pairwise (fun x y=>decide (x<=y)=true):=List.pairwise_mergeSort (fun a b c h1 h2=>by simp at *;omega) (fun a b=>by simp;omega) zs;generalize hm:(zs.mergeSort fun x y=>decide (x<=y))=m at *;have hd:∀i j,i<=j->j<m.toArray.size->m.toArray[i]!<=m.toArray[j]!:=fun i j hij hj=>by
  have hj':j<m.length:=by simpa using hj
  have e1:m.toArray[i]! = m[i]'om:=by simp[show i<m.length by omega]
  have e2:m.toArray[j]! = m[j]:=by simp[hj']
  rw[e1,e2];rcases Nat.lt_or_ge i j with hh|hh
  ·have:=List.pairwise_iff_getElem.1 hs i j om hj' hh
   simpa using this
  ·have:i=j:=om;subst this;exact Int.le_refl _
 obtain⟨h1,h2,h3⟩:=compact_law hd m.length si;unfold incr;rw[hm];refine⟨h1,fun x=>?_,by have:=hp.length_eq;unfold Lib.compact;omega⟩;unfold Lib.compact;rw[h2,<-hp.mem_iff];constructor
 ·rintro⟨i,hi,rfl⟩;have:m.toArray[i]! = m[i]:=by simp[hi]
  rw[this];exact List.getElem_mem hi
 ·intro hx;obtain⟨i,hi,rfl⟩:=List.getElem_of_mem hx;exact⟨i,hi,by simp[hi]⟩
theorem OwnI.some {w:World}{base e c:Nat}{A:Option Addr}{l:List Int}(h:OwnI w base e A c l):(A=none/\c=0/\l=[])\/∃g,A=some ⟨g,0,none⟩:=by
 rcases OwnS.form h with⟨h1,h2,h3,_⟩|⟨g,cur,h1,_⟩
 ·exact .inl ⟨h1,h3,List.length_eq_zero_iff.1 h2⟩
 ·exact .inr ⟨g,h1⟩
theorem holdsI {w:World}{base e c g:Nat}{l:List Int}(h:OwnI w base e (some ⟨g,0,none⟩) c l):Go.Sort.Holds (Value.int .i64) w g 0 l.toArray:=by
 intro j hj;have hj':j<l.length:=by simpa using hj
 obtain⟨g',he,_,h1,h2,_,_⟩:=OwnS.store h (i:=j) (by simpa using hj');injection he with he;injection he with e1 _ _
 subst e1;rw[Nat.zero_add];refine⟨by rw[h1];simp[hj'],h2⟩
theorem putI {w:World}{base e c g n:Nat}{l m:List Int}{os:Array Obj}(h:OwnI w base e (some ⟨g,0,none⟩) c l)(hl:m.length=l.length) :
 OwnI (Go.Sort.grow (Go.Sort.putRow (Value.int .i64) (Go.Sort.ahead w n) g 0 m.toArray) os) base e (some ⟨g,0,none⟩) c m/\KpP (·=g) w (Go.Sort.grow (Go.Sort.putRow (Value.int .i64) (Go.Sort.ahead w n) g 0 m.toArray) os):=by
 rcases OwnS.form h with⟨h0,_⟩|⟨g',cur,he,hg,hh,hnc,hcm,hcs,ht⟩
 ·cases h0
 ·injection he with he;injection he with e1 _ _
  subst e1;have hlt:g<w.heap.size:=(Array.getElem?_eq_some_iff.1 hh).1;have hk:KpP (·=g) w (Go.Sort.grow (Go.Sort.putRow (Value.int .i64) (Go.Sort.ahead w n) g 0 m.toArray) os):=by
   refine⟨rfl,rfl,rfl,?_,fun k hk hn=>?_⟩
   ·show w.heap.size<=(Array.size (_++os))
    simp[Go.Sort.putRow,Go.Sort.mapBlock,Go.Sort.ahead]
   ·show(_++os)[k]? = _
    have hne:¬g=k:=fun e=>hn e.symm;rw[Array.getElem?_append_left (by simp[Go.Sort.putRow,Go.Sort.mapBlock,Go.Sort.ahead];exact hk)];simp[Go.Sort.putRow,Go.Sort.mapBlock,Go.Sort.ahead,Array.getElem?_modify,hne]
  refine⟨?_,hk⟩;have hb:Blk (Go.Sort.grow (Go.Sort.putRow (Value.int .i64) (Go.Sort.ahead w n) g 0 m.toArray) os) g e (Go.Sort.putCells (Value.int .i64) 0 m.toArray cur):=by
   show(_++os)[g]? = _
   rw[Array.getElem?_append_left (by simp[Go.Sort.putRow,Go.Sort.mapBlock,Go.Sort.ahead];exact hlt)];simp[Go.Sort.putRow,Go.Sort.mapBlock,Go.Sort.ahead,Array.getElem?_modify,hh,Go.Sort.onCells]
  have:=OwnS.of_blk (n:=m.length) (c:=c) (size:=1) hb hg (by simp[Go.Sort.putCells,hcs]) om hcm;have e:(Go.Sort.putCells (Value.int .i64) 0 m.toArray cur).toList.take (m.length*1)=m.map (Value.int .i64):=by
   have hsz:m.length<=cur.size:=by rw[hcs];omega
   refine List.ext_getElem ?_ (fun j h1 h2=>?_)
   ·rw[List.length_take,List.length_map];simp[Go.Sort.putCells];omega
   ·have hj:j<m.length:=by simpa using h2
    rw[List.getElem_take,Array.getElem_toList];simp only[Go.Sort.putCells,Array.getElem_mapIdx];rw[if_pos ⟨Nat.zero_le _,by simpa using hj⟩];simp[hj]
  rw[e] at this;exact this
theorem OwnI.takeK {w:World}{base e c:Nat}{A:Option Addr}{l:List Int}(h:OwnI w base e A c l){k:Nat}(hk:k<=l.length):OwnI w base e A c (l.take k):=by
 have hkl:(l.take k).length=k:=by rw[List.length_take];omega
 rcases OwnS.form h with⟨h1,h2,h3,_⟩|⟨g,cur,rfl,hg,hh,hnc,hcm,hcs,ht⟩
 ·have:l=[]:=List.length_eq_zero_iff.1 h2;subst this
  simpa using h
 ·have hB:Blk w g e cur:=hh;have:=OwnS.of_blk (n:=k) (c:=c) (size:=1) hB hg hcs om hcm;unfold OwnI;rw[hkl,List.map_take,<-ht];have e2:(List.take (l.length*1) cur.toList).take k=cur.toList.take (k*1):=by rw[List.take_take,Nat.mul_one,Nat.mul_one,Nat.min_eq_left hk]
  rw[e2];exact this
theorem sortI_any (base e c:Nat)(A:Option Addr)(l:List Int)(w:World)(hl:OwnI w base e A c l)(hlen:l.length<=1000000) :
 Calls Tryz.prog 132 #[.slice A l.length c] w (fun r w'=>r=.returned (.tuple #[])/\OwnI w' base e A c (l.mergeSort fun x y=>decide (x<=y))/\KpP (fun b=>A.map (·.block)=some b) w w'):=by
 rcases OwnI.some hl with⟨rfl,rfl,rfl⟩|⟨g,rfl⟩
 ·refine(Tryz.slices_Sort_int_none none 0 w).mono ?_;rintro r w' ⟨rfl,rfl⟩;exact⟨rfl,by simpa using hl,KpP.refl _ _⟩
 ·refine(Tryz.slices_Sort_int g 0 c l w (holdsI hl) (OwnS.blt hl rfl).1 om).mono ?_;rintro r w' ⟨rfl,n,os,rfl⟩;obtain⟨h1,h2⟩:=putI (m:=l.mergeSort fun x y=>decide (x<=y)) (n:=n) (os:=os) hl si;exact⟨rfl,h1,h2.mono (fun k hk=>by simp[hk])⟩
theorem compactI_any (base e c:Nat)(A:Option Addr)(l:List Int)(w:World)(hl:OwnI w base e A c l)(hlen:l.length<=1000000)(hcl:(Lib.compact l).length<=l.length) :
 Calls Tryz.prog 133 #[.slice A l.length c] w (fun r w'=>r=.returned (.slice A (Lib.compact l).length c)/\OwnI w' base e A c (Lib.compact l)/\KpP (fun b=>A.map (·.block)=some b) w w'):=by
 rcases OwnI.some hl with⟨rfl,rfl,rfl⟩|⟨g,rfl⟩
 ·refine(Tryz.slices_Compact_int_empty none 0 w).mono ?_;rintro r w' ⟨rfl,rfl⟩;exact⟨rfl,by simpa[Lib.compact,Lib.compactUpTo] using hl,KpP.refl _ _⟩
 ·refine(Tryz.slices_Compact_int g 0 c l w (holdsI hl) om (OwnS.caps hl).1).mono ?_;rintro r w' ⟨rfl,q,rfl⟩;obtain⟨h1,h2⟩:=putI (m:=Lib.compact l++List.replicate (l.length-(Lib.compact l).length) 0) (n:=q) (os:=#[]) hl (by simp;omega);rw[Go.Sort.grow_empty] at h1 h2;have h3:=h1.takeK (k:=(Lib.compact l).length) si;rw[List.take_left'] at h3
  ·exact⟨rfl,h3,h2.mono (fun k hk=>by simp[hk])⟩
  ·rfl
theorem madeCells_one (v:Value)(n:Nat):madeCells #[v] (n*1)=((List.replicate n v)).toArray:=by
 unfold madeCells;refine Array.ext si (fun i h1 h2=>?_);simp[Nat.mod_one]
theorem mkBools (n:Nat)(h:n<=1000000)(W:World):(Instr.makeSlice 85 (.int .i64 (n:Int)) (.int .i64 (n:Int))).run Tryz.prog W=.ok (.slice (some ⟨W.heap.size,0,none⟩) n n) (W.alloc (.cells ((List.replicate n false).map Value.bool).toArray 4)):=by
 obtain⟨i0,hi0,hz0,hz1,hz2⟩:=info_parts infoBl;have:=run_make (P:=Tryz.prog) W 85 4 i0 (.bool false) Tryz.underlying85 hi0 hz0 .i64 .i64 n n om (Int.le_refl _) (by rw[hz2];omega) om;rw[this,hz1];simp only[Int.toNat_natCast,Value.cells];rw[madeCells_one,List.map_replicate]
theorem mkInts (n:Nat)(h:n<=1000000)(W:World):(Instr.makeSlice 22 (.int .i64 (n:Int)) (.int .i64 (n:Int))).run Tryz.prog W=.ok (.slice (some ⟨W.heap.size,0,none⟩) n n) (W.alloc (.cells ((List.replicate n (0:Int)).map (Value.int .i64)).toArray 3)):=by
 obtain⟨i0,hi0,hz0,hz1,hz2⟩:=info_parts infoInt;have:=run_make (P:=Tryz.prog) W 22 3 i0 (.int .i64 0) Tryz.underlying22 hi0 hz0 .i64 .i64 n n om (Int.le_refl _) (by rw[hz2];omega) om;rw[this,hz1];simp only[Int.toNat_natCast,Value.cells];rw[madeCells_one,List.map_replicate]
end
section
open Go.RowKit
def natsI (l:List Nat):List Int:=l.map (fun c:Nat=>(c:Int))
theorem natsI_len (l:List Nat):(natsI l).length=l.length:=by simp[natsI]
end
section
open Go.RowKit
def enOk (p:Sp):Prop:=0<=p.1/\p.1<=1114112
abbrev GE:={ s:Sp // enOk s }
instance:Inhabited GE:=⟨⟨(0,0),by unfold enOk;simp⟩⟩
end
end Go.Proofs.YtmgpefenkilffaaGreat
