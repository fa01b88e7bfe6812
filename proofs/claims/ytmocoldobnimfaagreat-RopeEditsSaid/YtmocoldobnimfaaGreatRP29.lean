/- Texts of this proof: G14 G15. -/
import Derived.Test.YtmocoldobnimfaaGreatRP01
import Derived.Test.YtmocoldobnimfaaGreatRP25
import Derived.Laws.MakeOwn
set_option linter.all false
namespace Go.Proofs.YtmocoldobnimfaaGreat
section
open Go.RowKit
theorem OwnI.some {w:World}{base e c:Nat}{A:Option Addr}{l:List Int}(h:OwnI w base e A c l):(A=none∧c=0∧l=[])∨∃g,A=some ⟨g,0,none⟩:=by
 rcases OwnS.form h with⟨h1,h2,h3,_⟩|⟨g,cur,h1,_⟩
 ·exact .inl ⟨h1,h3,List.length_eq_zero_iff.1 h2⟩
 ·exact .inr ⟨g,h1⟩
end
section
open Go.RowKit
structure CM (wr:World)(gB gI base:Nat)(bs:List Bool)(ps:List Int)(O:Option Addr)(cO:Nat)(xs:List Sp):Prop where
 bB:Blk wr gB 4 (bs.map Value.bool).toArray
 bI:Blk wr gI 3 (ps.map (Value.int .i64)).toArray
 own:OwnP wr base O cO xs
namespace CM
variable {wr w':World} {gB gI base cO:Nat} {bs:List Bool} {ps:List Int} {O:Option Addr} {xs:List Sp}
theorem ext (h:CM wr gB gI base bs ps O cO xs)(x:Ext wr w'):CM w' gB gI base bs ps O cO xs:=⟨h.bB.ext x,h.bI.ext x,h.own.ext x⟩
theorem ne (h:CM wr gB gI base bs ps O cO xs):gB≠gI:=blk_blk h.bB h.bI de
theorem put (h:CM wr gB gI base bs ps O cO xs){O':Option Addr}{cO':Nat}{xs':List Sp}(k:KpP (fun b=>O.map (·.block)=some b) wr w')(ho:OwnP w' base O' cO' xs'):CM w' gB gI base bs ps O' cO' xs':=
 ⟨k.blk h.bB (own_blk h.own h.bB de),k.blk h.bI (own_blk h.own h.bI de),ho⟩
theorem cellB (h:CM wr gB gI base bs ps O cO xs){j:Nat}(hj:j<bs.length):wr.cell? ⟨gB,j,none⟩=some (.bool bs[j])∧wr.frozen? ⟨gB,j,none⟩=false:=by
 refine⟨?_,h.bB.frz j⟩;rw[h.bB.cell];simp[hj]
theorem ib (h:CM wr gB gI base bs ps O cO xs)(hl:bs.length≤maxLen):IB wr (some ⟨gB,0,none⟩) bs.length bs:=
 ⟨Nat.le_refl _,hl,fun _=>⟨gB,0,rfl,fun i hi=>by rw[h.bB.cell];simp[hi]⟩⟩
end CM
def PtrOk (ls:List Hs)(ps:List Int)(x:Int):Prop:=
 ps.length=ls.length∧∀j (h:j<ls.length),∃p:Nat,ps[j]? = some (p:Int)∧p≤ls[j].l.length∧∀i (hi:i<ls[j].l.length),i<p→ls[j].l[i].2<x
theorem PtrOk.mono {ls:List Hs}{ps:List Int}{x y:Int}(h:PtrOk ls ps x)(hxy:x≤y):PtrOk ls ps y:=
 ⟨h.1,fun j hj=>by
  obtain⟨p,h1,h2,h3⟩:=h.2 j hj;exact⟨p,h1,h2,fun i hi hip=>by have:=h3 i hi hip;omega⟩⟩
theorem PtrOk.zero {ls:List Hs}{ps:List Int}(hl:ps.length=ls.length)(h0:∀x∈ps,x=0)(x:Int):PtrOk ls ps x:=
 ⟨hl,fun j hj=>⟨0,by
  have hj':j<ps.length:=om;rw[List.getElem?_eq_getElem hj',h0 _ (List.getElem_mem hj')];rfl,Nat.zero_le _,fun i _ hi=>absurd hi (Nat.not_lt_zero _)⟩⟩
theorem PtrOk.set {ls:List Hs}{ps:List Int}{x:Int}(h:PtrOk ls ps x){j p:Nat}(hj:j<ls.length)(hp:p≤ls[j].l.length)(h3:∀i (hi:i<ls[j].l.length),i<p→ls[j].l[i].2<x):PtrOk ls (ps.set j p) x:=by
 refine⟨by rw[List.length_set];exact h.1,fun q hq=>?_⟩;by_cases hqj:q=j
 ·subst hqj;exact⟨p,by rw[List.getElem?_set_self (by rw[h.1];exact hq)],hp,h3⟩
 ·obtain⟨r,h4,h5,h6⟩:=h.2 q hq;exact⟨r,by rw[List.getElem?_set_ne (fun e=>hqj e.symm)];exact h4,h5,h6⟩
theorem madeCells_one (v:Value)(n:Nat):madeCells #[v] (n*1)=((List.replicate n v)).toArray:=by
 unfold madeCells;refine Array.ext si (fun i h1 h2=>?_);simp[Nat.mod_one]
theorem mkBools (n:Nat)(h:n≤1000000)(W:World):(Instr.makeSlice 51 (.int .i64 (n:Int)) (.int .i64 (n:Int))).run Tryz.prog W=.ok (.slice (some ⟨W.heap.size,0,none⟩) n n) (W.alloc (.cells ((List.replicate n false).map Value.bool).toArray 4)):=by
 obtain⟨i0,hi0,hz0,hz1,hz2⟩:=info_parts infoBl;have:=run_make (P:=Tryz.prog) W 51 4 i0 (.bool false) Tryz.underlying51 hi0 hz0 .i64 .i64 n n om (Int.le_refl _) (by rw[hz2];omega) om;rw[this,hz1];simp only[Int.toNat_natCast,Value.cells];rw[madeCells_one,List.map_replicate]
theorem mkInts (n:Nat)(h:n≤1000000)(W:World):(Instr.makeSlice 22 (.int .i64 (n:Int)) (.int .i64 (n:Int))).run Tryz.prog W=.ok (.slice (some ⟨W.heap.size,0,none⟩) n n) (W.alloc (.cells ((List.replicate n (0:Int)).map (Value.int .i64)).toArray 3)):=by
 obtain⟨i0,hi0,hz0,hz1,hz2⟩:=info_parts infoInt;have:=run_make (P:=Tryz.prog) W 22 3 i0 (.int .i64 0) Tryz.underlying22 hi0 hz0 .i64 .i64 n n om (Int.le_refl _) (by rw[hz2];omega) om;rw[this,hz1];simp only[Int.toNat_natCast,Value.cells];rw[madeCells_one,List.map_replicate]
end
end Go.Proofs.YtmocoldobnimfaaGreat
