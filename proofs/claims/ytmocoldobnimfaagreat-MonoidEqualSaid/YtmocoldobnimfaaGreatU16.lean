/- Texts of this proof: G14 G15. -/
import Derived.Test.YtmocoldobnimfaaGreatU01
import Derived.Test.YtmocoldobnimfaaGreatU14
import Derived.Laws.MakeOwn
set_option linter.all false
namespace Go.Proofs.YtmocoldobnimfaaGreat
section
open Go.RowKit
theorem putI {w:World}{base e c g n:Nat}{l m:List Int}{os:Array Obj}(h:OwnI w base e (some ⟨g,0,none⟩) c l)(hl:m.length=l.length) :
 OwnI (Go.Sort.grow (Go.Sort.putRow (Value.int .i64) (Go.Sort.ahead w n) g 0 m.toArray) os) base e (some ⟨g,0,none⟩) c m∧KpP (·=g) w (Go.Sort.grow (Go.Sort.putRow (Value.int .i64) (Go.Sort.ahead w n) g 0 m.toArray) os):=by
 rcases OwnS.form h with⟨h0,_⟩|⟨g',cur,he,hg,hh,hnc,hcm,hcs,ht⟩
 ·cases h0
 ·injection he with he;injection he with e1 _ _
  subst e1;have hlt:g<w.heap.size:=(Array.getElem?_eq_some_iff.1 hh).1;have hk:KpP (·=g) w (Go.Sort.grow (Go.Sort.putRow (Value.int .i64) (Go.Sort.ahead w n) g 0 m.toArray) os):=by
   refine⟨rfl,rfl,rfl,?_,fun k hk hn=>?_⟩
   ·show w.heap.size≤(Array.size (_++os))
    simp[Go.Sort.putRow,Go.Sort.mapBlock,Go.Sort.ahead]
   ·show(_++os)[k]? = _
    have hne:¬g=k:=fun e=>hn e.symm;rw[Array.getElem?_append_left (by simp[Go.Sort.putRow,Go.Sort.mapBlock,Go.Sort.ahead];exact hk)];simp[Go.Sort.putRow,Go.Sort.mapBlock,Go.Sort.ahead,Array.getElem?_modify,hne]
  refine⟨?_,hk⟩;have hb:Blk (Go.Sort.grow (Go.Sort.putRow (Value.int .i64) (Go.Sort.ahead w n) g 0 m.toArray) os) g e (Go.Sort.putCells (Value.int .i64) 0 m.toArray cur):=by
   show(_++os)[g]? = _
   rw[Array.getElem?_append_left (by simp[Go.Sort.putRow,Go.Sort.mapBlock,Go.Sort.ahead];exact hlt)];simp[Go.Sort.putRow,Go.Sort.mapBlock,Go.Sort.ahead,Array.getElem?_modify,hh,Go.Sort.onCells]
  have:=OwnS.of_blk (n:=m.length) (c:=c) (size:=1) hb hg (by simp[Go.Sort.putCells,hcs]) om hcm;have e:(Go.Sort.putCells (Value.int .i64) 0 m.toArray cur).toList.take (m.length*1)=m.map (Value.int .i64):=by
   have hsz:m.length≤cur.size:=by rw[hcs];omega
   refine List.ext_getElem ?_ (fun j h1 h2=>?_)
   ·rw[List.length_take,List.length_map];simp[Go.Sort.putCells];omega
   ·have hj:j<m.length:=by simpa using h2
    rw[List.getElem_take,Array.getElem_toList];simp only[Go.Sort.putCells,Array.getElem_mapIdx];rw[if_pos ⟨Nat.zero_le _,by simpa using hj⟩];simp[hj]
  rw[e] at this;exact this
end
section
open Go.RowKit
structure CM (wr:World)(gB gI base:Nat)(bs:List Bool)(ps:List Int)(O:Option Addr)(cO:Nat)(xs:List Sp):Prop where
 bB:Blk wr gB 4 (bs.map Value.bool).toArray
 bI:Blk wr gI 3 (ps.map (Value.int .i64)).toArray
 own:OwnP wr base O cO xs
namespace CM
variable {wr w':World} {gB gI base cO:Nat} {bs:List Bool} {ps:List Int} {O:Option Addr} {xs:List Sp}
theorem ext (h:CM wr gB gI base bs ps O cO xs)(x:Ext wr w'):CM w' gB gI base bs ps O cO xs:=⟨h.bB.ext x,h.bI.ext x,h.own.ext x⟩
theorem ne (h:CM wr gB gI base bs ps O cO xs):gB≠gI:=blk_blk h.bB h.bI de
theorem put (h:CM wr gB gI base bs ps O cO xs){O':Option Addr}{cO':Nat}{xs':List Sp}(k:KpP (fun b=>O.map (·.block)=some b) wr w')(ho:OwnP w' base O' cO' xs'):CM w' gB gI base bs ps O' cO' xs':=
 ⟨k.blk h.bB (own_blk h.own h.bB de),k.blk h.bI (own_blk h.own h.bI de),ho⟩
theorem cellB (h:CM wr gB gI base bs ps O cO xs){j:Nat}(hj:j<bs.length):wr.cell? ⟨gB,j,none⟩=some (.bool bs[j])∧wr.frozen? ⟨gB,j,none⟩=false:=by
 refine⟨?_,h.bB.frz j⟩;rw[h.bB.cell];simp[hj]
theorem ib (h:CM wr gB gI base bs ps O cO xs)(hl:bs.length≤maxLen):IB wr (some ⟨gB,0,none⟩) bs.length bs:=
 ⟨Nat.le_refl _,hl,fun _=>⟨gB,0,rfl,fun i hi=>by rw[h.bB.cell];simp[hi]⟩⟩
end CM
theorem madeCells_one (v:Value)(n:Nat):madeCells #[v] (n*1)=((List.replicate n v)).toArray:=by
 unfold madeCells;refine Array.ext si (fun i h1 h2=>?_);simp[Nat.mod_one]
theorem mkBools (n:Nat)(h:n≤1000000)(W:World):(Instr.makeSlice 51 (.int .i64 (n:Int)) (.int .i64 (n:Int))).run Tryz.prog W=.ok (.slice (some ⟨W.heap.size,0,none⟩) n n) (W.alloc (.cells ((List.replicate n false).map Value.bool).toArray 4)):=by
 obtain⟨i0,hi0,hz0,hz1,hz2⟩:=info_parts infoBl;have:=run_make (P:=Tryz.prog) W 51 4 i0 (.bool false) Tryz.underlying51 hi0 hz0 .i64 .i64 n n om (Int.le_refl _) (by rw[hz2];omega) om;rw[this,hz1];simp only[Int.toNat_natCast,Value.cells];rw[madeCells_one,List.map_replicate]
theorem mkInts (n:Nat)(h:n≤1000000)(W:World):(Instr.makeSlice 22 (.int .i64 (n:Int)) (.int .i64 (n:Int))).run Tryz.prog W=.ok (.slice (some ⟨W.heap.size,0,none⟩) n n) (W.alloc (.cells ((List.replicate n (0:Int)).map (Value.int .i64)).toArray 3)):=by
 obtain⟨i0,hi0,hz0,hz1,hz2⟩:=info_parts infoInt;have:=run_make (P:=Tryz.prog) W 22 3 i0 (.int .i64 0) Tryz.underlying22 hi0 hz0 .i64 .i64 n n om (Int.le_refl _) (by rw[hz2];omega) om;rw[this,hz1];simp only[Int.toNat_natCast,Value.cells];rw[madeCells_one,List.map_replicate]
end
end Go.Proofs.YtmocoldobnimfaaGreat
