/- Texts of this proof: G14 G15 Y4 Y5 Y6 G16 G17 G18 G19. -/
import Derived.Test.YtmocoldobnimfaaGreatX02
import Derived.Test.YtmocoldobnimfaaGreatX18
import Derived.Test.YtmocoldobnimfaaGreatX20
import Derived.Laws.MakeOwn
set_option linter.all false
set_option maxRecDepth 100000
set_option maxHeartbeats 8000000
namespace Go.Proofs.YtmocoldobnimfaaGreat
section
open Go.RowKit
theorem OwnI.some {w:World}{base e c:Nat}{A:Option Addr}{l:List Int}(h:OwnI w base e A c l):(A=none∧c=0∧l=[])∨∃g,A=some ⟨g,0,none⟩:=by
 rcases OwnS.form h with⟨h1,h2,h3,_⟩|⟨g,cur,h1,_⟩
 ·exact .inl ⟨h1,h3,List.length_eq_zero_iff.1 h2⟩
 ·exact .inr ⟨g,h1⟩
end
section
open Go.RowKit
structure CM (wr:World)(gB gI base:Nat)(bs:List Bool)(ps:List Int)(O:Option Addr)(cO:Nat)(xs:List Sp):Prop where
 bB:Blk wr gB 4 (bs.map Value.bool).toArray
 bI:Blk wr gI 3 (ps.map (Value.int .i64)).toArray
 own:OwnP wr base O cO xs
namespace CM
variable {wr w':World} {gB gI base cO:Nat} {bs:List Bool} {ps:List Int} {O:Option Addr} {xs:List Sp}
theorem ext (h:CM wr gB gI base bs ps O cO xs)(x:Ext wr w'):CM w' gB gI base bs ps O cO xs:=⟨h.bB.ext x,h.bI.ext x,h.own.ext x⟩
theorem ne (h:CM wr gB gI base bs ps O cO xs):gB≠gI:=blk_blk h.bB h.bI de
theorem put (h:CM wr gB gI base bs ps O cO xs){O':Option Addr}{cO':Nat}{xs':List Sp}(k:KpP (fun b=>O.map (·.block)=some b) wr w')(ho:OwnP w' base O' cO' xs'):CM w' gB gI base bs ps O' cO' xs':=
 ⟨k.blk h.bB (own_blk h.own h.bB de),k.blk h.bI (own_blk h.own h.bI de),ho⟩
theorem cellB (h:CM wr gB gI base bs ps O cO xs){j:Nat}(hj:j<bs.length):wr.cell? ⟨gB,j,none⟩=some (.bool bs[j])∧wr.frozen? ⟨gB,j,none⟩=false:=by
 refine⟨?_,h.bB.frz j⟩;rw[h.bB.cell];simp[hj]
theorem ib (h:CM wr gB gI base bs ps O cO xs)(hl:bs.length≤maxLen):IB wr (some ⟨gB,0,none⟩) bs.length bs:=
 ⟨Nat.le_refl _,hl,fun _=>⟨gB,0,rfl,fun i hi=>by rw[h.bB.cell];simp[hi]⟩⟩
end CM
def PtrOk (ls:List Hs)(ps:List Int)(x:Int):Prop:=
 ps.length=ls.length∧∀j (h:j<ls.length),∃p:Nat,ps[j]? = some (p:Int)∧p≤ls[j].l.length∧∀i (hi:i<ls[j].l.length),i<p→ls[j].l[i].2<x
theorem PtrOk.mono {ls:List Hs}{ps:List Int}{x y:Int}(h:PtrOk ls ps x)(hxy:x≤y):PtrOk ls ps y:=
 ⟨h.1,fun j hj=>by
  obtain⟨p,h1,h2,h3⟩:=h.2 j hj;exact⟨p,h1,h2,fun i hi hip=>by have:=h3 i hi hip;omega⟩⟩
theorem PtrOk.zero {ls:List Hs}{ps:List Int}(hl:ps.length=ls.length)(h0:∀x∈ps,x=0)(x:Int):PtrOk ls ps x:=
 ⟨hl,fun j hj=>⟨0,by
  have hj':j<ps.length:=om;rw[List.getElem?_eq_getElem hj',h0 _ (List.getElem_mem hj')];rfl,Nat.zero_le _,fun i _ hi=>absurd hi (Nat.not_lt_zero _)⟩⟩
theorem PtrOk.set {ls:List Hs}{ps:List Int}{x:Int}(h:PtrOk ls ps x){j p:Nat}(hj:j<ls.length)(hp:p≤ls[j].l.length)(h3:∀i (hi:i<ls[j].l.length),i<p→ls[j].l[i].2<x):PtrOk ls (ps.set j p) x:=by
 refine⟨by rw[List.length_set];exact h.1,fun q hq=>?_⟩;by_cases hqj:q=j
 ·subst hqj;exact⟨p,by rw[List.getElem?_set_self (by rw[h.1];exact hq)],hp,h3⟩
 ·obtain⟨r,h4,h5,h6⟩:=h.2 q hq;exact⟨r,by rw[List.getElem?_set_ne (fun e=>hqj e.symm)];exact h4,h5,h6⟩
theorem madeCells_one (v:Value)(n:Nat):madeCells #[v] (n*1)=((List.replicate n v)).toArray:=by
 unfold madeCells;refine Array.ext si (fun i h1 h2=>?_);simp[Nat.mod_one]
theorem mkBools (n:Nat)(h:n≤1000000)(W:World):(Instr.makeSlice 51 (.int .i64 (n:Int)) (.int .i64 (n:Int))).run Tryz.prog W=.ok (.slice (some ⟨W.heap.size,0,none⟩) n n) (W.alloc (.cells ((List.replicate n false).map Value.bool).toArray 4)):=by
 obtain⟨i0,hi0,hz0,hz1,hz2⟩:=info_parts infoBl;have:=run_make (P:=Tryz.prog) W 51 4 i0 (.bool false) Tryz.underlying51 hi0 hz0 .i64 .i64 n n om (Int.le_refl _) (by rw[hz2];omega) om;rw[this,hz1];simp only[Int.toNat_natCast,Value.cells];rw[madeCells_one,List.map_replicate]
theorem mkInts (n:Nat)(h:n≤1000000)(W:World):(Instr.makeSlice 22 (.int .i64 (n:Int)) (.int .i64 (n:Int))).run Tryz.prog W=.ok (.slice (some ⟨W.heap.size,0,none⟩) n n) (W.alloc (.cells ((List.replicate n (0:Int)).map (Value.int .i64)).toArray 3)):=by
 obtain⟨i0,hi0,hz0,hz1,hz2⟩:=info_parts infoInt;have:=run_make (P:=Tryz.prog) W 22 3 i0 (.int .i64 0) Tryz.underlying22 hi0 hz0 .i64 .i64 n n om (Int.le_refl _) (by rw[hz2];omega) om;rw[this,hz1];simp only[Int.toNat_natCast,Value.cells];rw[madeCells_one,List.map_replicate]
end
section
open Go.RowKit
attribute [local go_sem ↓] Go.wp_at_zero Go.wp_at_succ
section
variable {P:Program} {ops:Array Oper} {Q:Exit→Act→World→Prop} {L:List Nat} {w0:World}
variable {n:Nat} {KD:List (Nat×Nat)} {Z:List Lz} {I:List (Nat×Nat)} {ls:List Nat} {a:Act} {w:World}
theorem Xr.forkM (js:List Nat)(is:List (Nat×Nat×(Nat→Value)×Nat×Array Value))(hjs:is.map (·.1)=js)(hne:js≠[])
 (hr:(Region.ready .any ops (bits ops.size ls) == js&&KD.all fun x=>!js.contains x.1)=true)
 (ho:∀x∈is,∃o,ops[x.1]? = some o∧Region.wanted o (yielded ops a.tmps)=true∧o.dst=some x.2.1∧∀w',(execOp a.eval o).run P w'=.ok (.value (x.2.2.1 w'.heap.size)) (w'.alloc (.cells x.2.2.2.2 x.2.2.2.1)))
 (h:∀x∈is,∀(w':World) (g:Nat),Ext w w'→Kp L w0 w'→w.heap.size≤g→Blk w' g x.2.2.2.1 x.2.2.2.2→Xr L w0 P ops Q n KD Z ((g,g+1)::I) (x.1::ls) (a.put (some x.2.1) (x.2.2.1 g)) w') :
 Xr L w0 P ops Q (n+1) KD Z I ls a w:=by
 intro hKD;simp only[Bool.and_eq_true,beq_iff_eq] at hr;obtain⟨hr,hZ⟩:=hr;refine⟨fun h0=>?_,fun k hk w' x1 x2=>?_⟩
 ·rw[hr] at h0;exact absurd h0 hne
 rw[hr] at hk;have hk2:=hk
 rw[←hjs] at hk2;obtain⟨x,hx,rfl⟩:=List.mem_map.1 hk2;obtain⟨o,o1,o2,o3,o4⟩:=ho x hx;have hZk:(KD.all fun y=>y.1 != x.1)=true:=by
  rw[List.all_eq_true] at hZ ⊢;intro y hy;have h1:=hZ y hy;simp only[Bool.not_eq_true',bne_iff_ne,ne_eq] at h1 ⊢;intro e;rw[e,List.contains_iff_mem.2 hk] at h1;cases h1
 (try unfold stepX)
 rw[find_no (kd_find (by rw[hKD];exact hZk))];refine step_of o1 o2 fun K' hK'=>?_;unfold Oper.wp;rw[o4 w'];simp only[Oper.upon];rw[o3];have hE:Ext w' (w'.alloc (.cells x.2.2.2.2 x.2.2.2.1)):=Ext.alloc _ _;refine hK' _ _ ⟨KpP.of_ext hE,x2.ext hE,?_⟩;have h5:=h x hx (w'.alloc (.cells x.2.2.2.2 x.2.2.2.1)) w'.heap.size (x1.trans hE) (x2.ext hE) x1.size (Blk.new _ _ _);rw[bits_set,World.size_alloc];exact h5 hKD
end
theorem infoK:(Tryz.prog.info? 21).map (fun i=>(i.zero,i.size,i.bytes))=some (some (.int .i32 0),1,4):=by kernel_rfl
theorem mkK (n:Nat)(h:n≤1000000)(W:World):(Instr.makeSlice 152 (.int .i64 (n:Int)) (.int .i64 (n:Int))).run Tryz.prog W=.ok (.slice (some ⟨W.heap.size,0,none⟩) n n) (W.alloc (.cells (List.replicate n (.int .i32 0)).toArray 21)):=by
 obtain⟨i0,hi0,hz0,hz1,hz2⟩:=info_parts infoK;have:=run_make (P:=Tryz.prog) W 152 21 i0 (.int .i32 0) Tryz.underlying152 hi0 hz0 .i64 .i64 n n om (Int.le_refl _) (by rw[hz2];omega) om;rw[this,hz1];simp only[Int.toNat_natCast,Value.cells];rw[madeCells_one]
end
section
open Go.RowKit
attribute [local go_sem ↓] Go.wp_at_zero Go.wp_at_succ
def zeroK (k:Nat):Array Value:=(List.replicate k (.int .i32 0)).toArray
def RetBk (gm N n:Nat)(w:World)(e:Ending)(w':World):Prop:=∃g b1 b2 b3 b4:Nat,e=.returned (.pointer (some ⟨g,0,none⟩))∧Ext w w'∧
 Blk w' g 154 #[.pointer (some ⟨gm,0,none⟩),.int .i64 n,.slice (some ⟨b1,0,none⟩) N N,.slice (some ⟨b2,0,none⟩) N N,.slice (some ⟨b3,0,none⟩) n n,.slice (some ⟨b4,0,none⟩) n n]∧
 Blk w' b1 21 (zeroK N)∧Blk w' b2 21 (zeroK N)∧Blk w' b3 21 (zeroK n)∧Blk w' b4 21 (zeroK n)∧
 (∀b∈[g,b1,b2,b3,b4],w.heap.size≤b)∧[g,b1,b2,b3,b4].Nodup
def NdW (w w':World)(l:List Nat):Prop:=l.Nodup∧∀b∈l,w.heap.size≤b∧b<w'.heap.size
theorem NdW.one {w w':World}{p:Nat}(h:w.heap.size≤p)(h2:p<w'.heap.size):NdW w w' [p]:=⟨by simp,fun b hb=>by
 have:b=p:=(by simpa using hb);omega⟩
theorem NdW.cons {w w1 w2:World}{p:Nat}{l:List Nat}(h:NdW w w1 l)(hw:w.heap.size≤w1.heap.size)(hs:w1.heap.size≤w2.heap.size)(hp:w1.heap.size≤p)(hp2:p<w2.heap.size):NdW w w2 (p::l):=by
 refine⟨List.nodup_cons.2 ⟨fun hm=>?_,h.1⟩,fun b hb=>?_⟩
 ·have:=(h.2 p hm).2;omega
 ·rcases List.mem_cons.1 hb with rfl|hb
  ·omega
  ·have:=h.2 b hb;omega
theorem blank_end {w w4 w5 w6:World}{g N n p3 p5 p7 p9:Nat}{l:List Nat}(hE4:Ext w w4)(B3:Blk w4 p3 21 (zeroK N))(B5:Blk w4 p5 21 (zeroK N))(B7:Blk w4 p7 21 (zeroK n))(B9:Blk w4 p9 21 (zeroK n))
 (hnd:NdW w w4 l) (hl:List.Perm l [p3,p5,p7,p9]) (hE5:Ext w4 w5)
 (hE6:Ext (w5.alloc (.cells #[.pointer (some ⟨g,0,none⟩),.int .i64 n,.slice (some ⟨p3,0,none⟩) N N,.slice (some ⟨p5,0,none⟩) N N,.slice (some ⟨p7,0,none⟩) n n,.slice (some ⟨p9,0,none⟩) n n] 154)) w6) :
 RetBk g N n w (.returned (.pointer (some ⟨w5.heap.size,0,none⟩))) w6:=by
 have x5:=hE5.trans ((Ext.alloc w5 (.cells #[.pointer (some ⟨g,0,none⟩),.int .i64 n,.slice (some ⟨p3,0,none⟩) N N,.slice (some ⟨p5,0,none⟩) N N,.slice (some ⟨p7,0,none⟩) n n,.slice (some ⟨p9,0,none⟩) n n] 154)).trans hE6);have hs:=hE5.size;have hs4:=hE4.size;have hb:∀b∈[p3,p5,p7,p9],w.heap.size≤b∧b<w4.heap.size:=fun b hb=>hnd.2 b (hl.mem_iff.2 hb);refine⟨w5.heap.size,p3,p5,p7,p9,rfl,hE4.trans x5,(Blk.new _ _ _).ext hE6,B3.ext x5,B5.ext x5,B7.ext x5,B9.ext x5,fun b h=>?_,List.nodup_cons.2 ⟨fun hm=>?_,hl.nodup_iff.1 hnd.1⟩⟩
 ·rcases List.mem_cons.1 h with rfl|h
  ·omega
  ·exact(hb b h).1
 ·have:=(hb _ hm).2;omega
theorem bk0 {P:Prop}(h:P:=by
 intro x hx;simp only[List.mem_cons,List.not_mem_nil,or_false] at hx
 (first|(rcases hx with rfl|rfl|rfl|rfl)|(rcases hx with rfl|rfl|rfl)|(rcases hx with rfl|rfl)|(rcases hx with rfl))<;>exact⟨_,rfl,by rfl,rfl,fun w'=>by have hmk:=mkK N hmx w';have hmk2:=mkK n hn w';(first|(go_simp;done)|(go_simp;rfl))⟩):P:=h
theorem bk3 {P:Prop}(h:P:=by
 obtain⟨p3,rfl⟩:∃p,p=gg:=⟨gg,rfl⟩
 try have B5:=B5.ext hE
 try have B7:=B7.ext hE
 try have B9:=B9.ext hE
 have B3:Blk wn p3 21 (zeroK N):=hB
 first|(have hE4a:=hE4;have hE4:=hE4.trans hE;have ND:=lh (NdW.cons ND.out (hE4a.size) hE.size hs B3.lt))|(have hE4:=hE;have ND:Hid (NdW w wn [p3]):=lh (NdW.one hs B3.lt))
 clear hE hK hs hB;refine ptm ?_;exact bkN):P:=h
theorem bk5 {P:Prop}(h:P:=by
 obtain⟨p5,rfl⟩:∃p,p=gg:=⟨gg,rfl⟩
 try have B3:=B3.ext hE
 try have B7:=B7.ext hE
 try have B9:=B9.ext hE
 have B5:Blk wn p5 21 (zeroK N):=hB
 first|(have hE4a:=hE4;have hE4:=hE4.trans hE;have ND:=lh (NdW.cons ND.out (hE4a.size) hE.size hs B5.lt))|(have hE4:=hE;have ND:Hid (NdW w wn [p5]):=lh (NdW.one hs B5.lt))
 clear hE hK hs hB;refine ptm ?_;exact bkN):P:=h
theorem bk7 {P:Prop}(h:P:=by
 obtain⟨p7,rfl⟩:∃p,p=gg:=⟨gg,rfl⟩
 try have B3:=B3.ext hE
 try have B5:=B5.ext hE
 try have B9:=B9.ext hE
 have B7:Blk wn p7 21 (zeroK n):=hB
 first|(have hE4a:=hE4;have hE4:=hE4.trans hE;have ND:=lh (NdW.cons ND.out (hE4a.size) hE.size hs B7.lt))|(have hE4:=hE;have ND:Hid (NdW w wn [p7]):=lh (NdW.one hs B7.lt))
 clear hE hK hs hB;refine ptm ?_;exact bkN):P:=h
theorem bk9 {P:Prop}(h:P:=by
 obtain⟨p9,rfl⟩:∃p,p=gg:=⟨gg,rfl⟩
 try have B3:=B3.ext hE
 try have B5:=B5.ext hE
 try have B7:=B7.ext hE
 have B9:Blk wn p9 21 (zeroK n):=hB
 first|(have hE4a:=hE4;have hE4:=hE4.trans hE;have ND:=lh (NdW.cons ND.out (hE4a.size) hE.size hs B9.lt))|(have hE4:=hE;have ND:Hid (NdW w wn [p9]):=lh (NdW.one hs B9.lt))
 clear hE hK hs hB;refine ptm ?_;exact bkN):P:=h
theorem bkN {P:Prop}(h:P:=by
 first
  | (refine Xr.forkM [3,5,7,9] [(3,14,fun g=>.slice (some ⟨g,0,none⟩) N N,21,zeroK N),(5,16,fun g=>.slice (some ⟨g,0,none⟩) N N,21,zeroK N),(7,18,fun g=>.slice (some ⟨g,0,none⟩) n n,21,zeroK n),(9,20,fun g=>.slice (some ⟨g,0,none⟩) n n,21,zeroK n)] rfl de dK ?_ ?_;exact bk0;intro x hx wn gg hE hK hs hB;simp only[List.mem_cons,List.not_mem_nil,or_false] at hx;rcases hx with rfl|rfl|rfl|rfl;exact bk3;exact bk5;exact bk7;exact bk9)
  | (refine Xr.forkM [3,5,7] [(3,14,fun g=>.slice (some ⟨g,0,none⟩) N N,21,zeroK N),(5,16,fun g=>.slice (some ⟨g,0,none⟩) N N,21,zeroK N),(7,18,fun g=>.slice (some ⟨g,0,none⟩) n n,21,zeroK n)] rfl de dK ?_ ?_;exact bk0;intro x hx wn gg hE hK hs hB;simp only[List.mem_cons,List.not_mem_nil,or_false] at hx;rcases hx with rfl|rfl|rfl;exact bk3;exact bk5;exact bk7)
  | (refine Xr.forkM [3,5,9] [(3,14,fun g=>.slice (some ⟨g,0,none⟩) N N,21,zeroK N),(5,16,fun g=>.slice (some ⟨g,0,none⟩) N N,21,zeroK N),(9,20,fun g=>.slice (some ⟨g,0,none⟩) n n,21,zeroK n)] rfl de dK ?_ ?_;exact bk0;intro x hx wn gg hE hK hs hB;simp only[List.mem_cons,List.not_mem_nil,or_false] at hx;rcases hx with rfl|rfl|rfl;exact bk3;exact bk5;exact bk9)
  | (refine Xr.forkM [3,7,9] [(3,14,fun g=>.slice (some ⟨g,0,none⟩) N N,21,zeroK N),(7,18,fun g=>.slice (some ⟨g,0,none⟩) n n,21,zeroK n),(9,20,fun g=>.slice (some ⟨g,0,none⟩) n n,21,zeroK n)] rfl de dK ?_ ?_;exact bk0;intro x hx wn gg hE hK hs hB;simp only[List.mem_cons,List.not_mem_nil,or_false] at hx;rcases hx with rfl|rfl|rfl;exact bk3;exact bk7;exact bk9)
  | (refine Xr.forkM [5,7,9] [(5,16,fun g=>.slice (some ⟨g,0,none⟩) N N,21,zeroK N),(7,18,fun g=>.slice (some ⟨g,0,none⟩) n n,21,zeroK n),(9,20,fun g=>.slice (some ⟨g,0,none⟩) n n,21,zeroK n)] rfl de dK ?_ ?_;exact bk0;intro x hx wn gg hE hK hs hB;simp only[List.mem_cons,List.not_mem_nil,or_false] at hx;rcases hx with rfl|rfl|rfl;exact bk5;exact bk7;exact bk9)
  | (refine Xr.forkM [3,5] [(3,14,fun g=>.slice (some ⟨g,0,none⟩) N N,21,zeroK N),(5,16,fun g=>.slice (some ⟨g,0,none⟩) N N,21,zeroK N)] rfl de dK ?_ ?_;exact bk0;intro x hx wn gg hE hK hs hB;simp only[List.mem_cons,List.not_mem_nil,or_false] at hx;rcases hx with rfl|rfl;exact bk3;exact bk5)
  | (refine Xr.forkM [3,7] [(3,14,fun g=>.slice (some ⟨g,0,none⟩) N N,21,zeroK N),(7,18,fun g=>.slice (some ⟨g,0,none⟩) n n,21,zeroK n)] rfl de dK ?_ ?_;exact bk0;intro x hx wn gg hE hK hs hB;simp only[List.mem_cons,List.not_mem_nil,or_false] at hx;rcases hx with rfl|rfl;exact bk3;exact bk7)
  | (refine Xr.forkM [3,9] [(3,14,fun g=>.slice (some ⟨g,0,none⟩) N N,21,zeroK N),(9,20,fun g=>.slice (some ⟨g,0,none⟩) n n,21,zeroK n)] rfl de dK ?_ ?_;exact bk0;intro x hx wn gg hE hK hs hB;simp only[List.mem_cons,List.not_mem_nil,or_false] at hx;rcases hx with rfl|rfl;exact bk3;exact bk9)
  | (refine Xr.forkM [5,7] [(5,16,fun g=>.slice (some ⟨g,0,none⟩) N N,21,zeroK N),(7,18,fun g=>.slice (some ⟨g,0,none⟩) n n,21,zeroK n)] rfl de dK ?_ ?_;exact bk0;intro x hx wn gg hE hK hs hB;simp only[List.mem_cons,List.not_mem_nil,or_false] at hx;rcases hx with rfl|rfl;exact bk5;exact bk7)
  | (refine Xr.forkM [5,9] [(5,16,fun g=>.slice (some ⟨g,0,none⟩) N N,21,zeroK N),(9,20,fun g=>.slice (some ⟨g,0,none⟩) n n,21,zeroK n)] rfl de dK ?_ ?_;exact bk0;intro x hx wn gg hE hK hs hB;simp only[List.mem_cons,List.not_mem_nil,or_false] at hx;rcases hx with rfl|rfl;exact bk5;exact bk9)
  | (refine Xr.forkM [7,9] [(7,18,fun g=>.slice (some ⟨g,0,none⟩) n n,21,zeroK n),(9,20,fun g=>.slice (some ⟨g,0,none⟩) n n,21,zeroK n)] rfl de dK ?_ ?_;exact bk0;intro x hx wn gg hE hK hs hB;simp only[List.mem_cons,List.not_mem_nil,or_false] at hx;rcases hx with rfl|rfl;exact bk7;exact bk9)
  | (refine Xr.forkM [3] [(3,14,fun g=>.slice (some ⟨g,0,none⟩) N N,21,zeroK N)] rfl de dK ?_ ?_;exact bk0;intro x hx wn gg hE hK hs hB;simp only[List.mem_cons,List.not_mem_nil,or_false] at hx;rcases hx with rfl;exact bk3)
  | (refine Xr.forkM [5] [(5,16,fun g=>.slice (some ⟨g,0,none⟩) N N,21,zeroK N)] rfl de dK ?_ ?_;exact bk0;intro x hx wn gg hE hK hs hB;simp only[List.mem_cons,List.not_mem_nil,or_false] at hx;rcases hx with rfl;exact bk5)
  | (refine Xr.forkM [7] [(7,18,fun g=>.slice (some ⟨g,0,none⟩) n n,21,zeroK n)] rfl de dK ?_ ?_;exact bk0;intro x hx wn gg hE hK hs hB;simp only[List.mem_cons,List.not_mem_nil,or_false] at hx;rcases hx with rfl;exact bk7)
  | (refine Xr.forkM [9] [(9,20,fun g=>.slice (some ⟨g,0,none⟩) n n,21,zeroK n)] rfl de dK ?_ ?_;exact bk0;intro x hx wn gg hE hK hs hB;simp only[List.mem_cons,List.not_mem_nil,or_false] at hx;rcases hx with rfl;exact bk9)
  | (exact bkL)):P:=h
theorem bkL {P:Prop}(h:P:=by
 refine Xtk 10 ?_;refine Xcl 11 fun w5 hE5 hK5 K hKK=>?_;go_simp;refine hKK _ _ (Ext.alloc _ _) ?_;clear hKK;refine ptm ?_;refine Xtk 12 ?_;refine Xdn fun w6 hE6 hK6=>?_;have FIN:=lh (blank_end hE4 B3 B5 B7 B9 ND.out (by first|exact List.Perm.refl _|(simp only[List.perm_iff_count,List.count_cons,List.count_nil];intro b;omega)) hE5 hE6);clear ND B3 B5 B7 B9 hE4 hE5 hE6 hK5 hK6 c3
 go_wp2_with fail
 go_ret
 exact FIN.out):P:=h
theorem blank_any (w:World)(g:Nat)(m:Ma)(nc:Nat)(hm:MaAt w g m)(ok:MaOk nc m)(n:Nat)(hn:n≤1000000) :
 Calls Tryz.prog 131 #[.pointer (some ⟨g,0,none⟩),.int .i64 n] w (RetBk g m.next.length n w):=by
 have hmx:=ok.len;have c3:w.cell? ⟨g,3,none⟩=some (.slice m.nA m.next.length m.nc):=hm.blk.cell 3;have hnl:=hm.nx.len;clear hm ok;generalize m.next.length=N at *;go_enter Tryz.func131,Tryz.ntmps131
 go_upto_region 2 with fail
 refine Xr.start [] kr ?_;refine Xtk 0 ?_
 iterate 2(refine Xtn ?_)
 refine Xtk 4 ?_;refine Xtk 6 ?_;refine Xtk 8 ?_;exact bkN
end
section
open Go.RowKit
attribute [local go_sem ↓] Go.wp_at_zero Go.wp_at_succ
theorem foundC_any (w:World)(st:Int) :
 Calls Tryz.prog 84 #[.int .i32 st] w (RetV (.bool true) w):=by
 go_enter Tryz.func84,Tryz.ntmps84
 go_wp2_with fail
 go_ret
 exact⟨rfl,Ext.rfl' _⟩
theorem Y6z1 {P:Prop} (h:P:=by
 go_enter Tryz.func85,Tryz.ntmps85
 go_wp2_with fail
 go_ret
 exact⟨rfl,Ext.rfl' _⟩):P:=h
theorem sureC_any (w:World)(cb g:Nat)(m:Ma)(hm:MaAt w g m)(hc:w.cell? ⟨cb,0,none⟩=some (.pointer (some ⟨g,0,none⟩)))(st:Int)(h0 : -1≤st)(h1:st<m.opn.length) :
 Calls Tryz.prog 85 #[.int .i32 st,.pointer (some ⟨cb,0,none⟩)] w (RetV (.bool (decide (st = -1) || !m.opn.getD st.toNat false)) w):=by
 have hol:=hm.op.len;by_cases hd:st = -1
 ·subst hd;have HV:=lh (show(decide ((-1:Int) = -1) || !m.opn.getD ((-1:Int)).toNat false)=true by simp);rw[HV.out];exact Y6z1
 ·obtain⟨k,rfl⟩:∃k:Nat,st=k:=⟨st.toNat,om⟩;have hk:k<m.opn.length:=om;obtain⟨ob,oo,hoA,co⟩:=hm.op.get hk;have c5:w.cell? ⟨g,5,none⟩=some (.slice m.oA m.opn.length m.oc):=hm.blk.cell 5;rw[hoA] at c5;have HV:=lh (show(decide ((k:Int) = -1) || !m.opn.getD ((k:Int)).toNat false) = !m.opn[k] by
   have h2:decide ((k:Int) = -1)=false:=by simp
   rw[h2];simp[List.getD_eq_getElem?_getD,hk])
  rw[HV.out];generalize m.opn[k]=b at *;clear hm hoA HV;have hkI:(k:Int)<m.opn.length:=om;cases b
  ·exact Y6z1
  ·exact Y6z1
end
section
open Go.RowKit
end
section
open Go.RowKit
theorem flatS_setLo:∀(l:List Sp) (j:Nat) (h:j<l.length) (v:Int),(flatS l).set (j*2) (.int .i64 v)=flatS (l.set j (v,l[j].2))
 | s::l,0,_,v=>by simp[flatS_cons]
 | s::l,j+1,h,v=>by
  have e:(j+1)*2=j*2+2:=om;rw[flatS_cons,e];simp only[List.set_cons_succ,List.getElem_cons_succ,flatS_cons];rw[flatS_setLo l j (by simpa using h) v]
theorem flatS_setHi:∀(l:List Sp) (j:Nat) (h:j<l.length) (v:Int),(flatS l).set (j*2+1) (.int .i64 v)=flatS (l.set j (l[j].1,v))
 | s::l,0,_,v=>by simp[flatS_cons]
 | s::l,j+1,h,v=>by
  have e:(j+1)*2+1=j*2+1+2:=om;rw[flatS_cons,e];simp only[List.set_cons_succ,List.getElem_cons_succ,flatS_cons];rw[flatS_setHi l j (by simpa using h) v]
theorem OwnP.at {w:World}{base c:Nat}{A:Option Addr}{l:List Sp}(h:OwnP w base A c l){j:Nat}(hj:j<l.length) :
 ∃g,A=some ⟨g,0,none⟩∧base≤g∧w.cell? ⟨g,j*2,none⟩=some (.int .i64 l[j].1)∧w.cell? ⟨g,j*2+1,none⟩=some (.int .i64 l[j].2)∧w.frozen? ⟨g,j*2,none⟩=false∧w.frozen? ⟨g,j*2+1,none⟩=false∧
  (∀v:Int,OwnP (w.setCell ⟨g,j*2,none⟩ (.int .i64 v)) base A c (l.set j (v,l[j].2)))∧(∀v:Int,OwnP (w.setCell ⟨g,j*2+1,none⟩ (.int .i64 v)) base A c (l.set j (l[j].1,v))):=by
 have f1:j*2<(flatS l).length:=by rw[flatS_len];omega
 have f2:j*2+1<(flatS l).length:=by rw[flatS_len];omega
 obtain⟨g,hA,hb,c1,z1,_,s1⟩:=OwnS.store h f1;obtain⟨g2,hA2,_,c2,z2,_,s2⟩:=OwnS.store h f2;rw[hA] at hA2;injection hA2 with hA2;injection hA2 with e1 _ _
 subst e1;obtain⟨v1,v2⟩:=flatS_get l j hj;obtain⟨_,e1⟩:=List.getElem?_eq_some_iff.1 v1;obtain⟨_,e2⟩:=List.getElem?_eq_some_iff.1 v2;rw[e1] at c1;rw[e2] at c2;refine⟨g,hA,hb,c1,c2,z1,z2,fun v=>?_,fun v=>?_⟩
 ·have:=s1 (.int .i64 v);rw[flatS_setLo l j hj v] at this;unfold OwnP;rw[List.length_set];exact this
 ·have:=s2 (.int .i64 v);rw[flatS_setHi l j hj v] at this;unfold OwnP;rw[List.length_set];exact this
def shS (d:Int)(s:Sp):Sp:=(s.1+d,s.2+d)
def ShU (d:Int)(m xs:List Sp)(i:Nat):Prop:=xs.length=m.length∧∀j (h:j<m.length),xs[j]? = some (if j<i then shS d m[j] else m[j])
theorem ShU.start (d:Int)(m:List Sp):ShU d m m 0:=⟨rfl,fun j h=>by simp[h]⟩
theorem ShU.step {d:Int}{m xs:List Sp}{i:Nat}(h:ShU d m xs i)(hi:i<m.length):ShU d m (xs.set i (shS d m[i])) (i+1):=by
 refine⟨by rw[List.length_set];exact h.1,fun j hj=>?_⟩;by_cases e:j=i
 ·subst e;rw[List.getElem?_set_self (by rw[h.1];exact hj),if_pos om]
 ·rw[List.getElem?_set_ne (fun x=>e x.symm),h.2 j hj];by_cases hji:j<i
  ·rw[if_pos hji,if_pos om]
  ·rw[if_neg hji,if_neg om]
theorem ShU.all {d:Int}{m xs:List Sp}(h:ShU d m xs m.length):xs=m.map (shS d):=by
 refine List.ext_getElem? (fun j=>?_);rcases Nat.lt_or_ge j m.length with hj|hj
 ·rw[h.2 j hj,if_pos hj];simp[hj]
 ·rw[List.getElem?_eq_none (by rw[h.1];exact hj),List.getElem?_eq_none (by simpa using hj)]
theorem canon_okL {l:List Sp}(h:Canon l)(hg:∀s∈l,goodS s):OkL l:=fun i hi _=>by
 refine⟨hg _ (List.getElem_mem hi),fun h0=>?_⟩;have h1:i-1<l.length:=om;rw[List.getD_eq_getElem?_getD,List.getElem?_eq_getElem h1];exact List.pairwise_iff_getElem.1 h.2 (i-1) i h1 hi om
end
section
open Go.RowKit
theorem OwnP.sl {w:World}{base c:Nat}{A:Option Addr}{l:List Sp}(h:OwnP w base A c l)(hg:∀s∈l,goodS s):SL w A c l:=
 SL.of_own h (fun s hs=>by have:=hg s hs;unfold goodS at this;exact⟨by unfold I64;omega,by unfold I64;omega⟩)
end
section
open Go.RowKit
theorem infoEn:(Tryz.prog.info? 207).map (fun i=>(i.zero,i.size,i.bytes))=some (some (.agg #[.int .i64 0,.int .i64 0]),2,16):=by kernel_rfl
def enOk (p:Sp):Prop:=0≤p.1∧p.1≤1114112
def OwnE (w:World)(base:Nat)(A:Option Addr)(c:Nat)(l:List Sp):Prop:=OwnS w base 207 2 A l.length c (flatS l)
abbrev GE:={ s:Sp // enOk s }
instance:Inhabited GE:=⟨⟨(0,0),by unfold enOk;simp⟩⟩
def encE (x:GE):List Value:=[.int .i64 x.1.1,.int .i64 x.1.2]
def cmpE (x y:GE):Int:=x.1.1-y.1.1
theorem ltE (x y:GE):Go.Proofs.ltOf cmpE x y=decide (x.1.1<y.1.1):=by
 unfold Go.Proofs.ltOf cmpE;rw[Bool.eq_iff_iff];simp only[decide_eq_true_eq];omega
theorem swoE:Go.Sort.SWO (Go.Proofs.ltOf cmpE) where
 irrefl x:=by rw[ltE];simp
 trans x y z h1 h2:=by rw[ltE] at *;simp at *;omega
 ntrans x y z h1 h2:=by rw[ltE] at *;simp at *;omega
def toE:(l:List Sp)→(∀s∈l,enOk s)→List GE
 | [],_=>[]
 | s::l,h=>⟨s,h s si⟩::toE l (fun t ht=>h t (by simp[ht]))
theorem toE_val:∀(l:List Sp) (h:∀s∈l,enOk s),(toE l h).map (·.1)=l
 | [],_=>rfl
 | s::l,h=>by rw[toE,List.map_cons,toE_val l]
theorem flatK_getE (d:List GE)(j:Nat)(hj:j<d.length*2):(Go.Sort.flatK encE 2 d.toArray)[j]! = (flatS (d.map (·.1)))[j]'(by rw[flatS_len,List.length_map];exact hj):=by
 rw[Go.Sort.get_flatK _ _ _ _ (by simpa using hj)];have hi:j / 2<d.length:=om;have hi':j / 2<(d.map (·.1)).length:=by simpa using hi
 obtain⟨g1,g2⟩:=flatS_get (d.map (·.1)) (j / 2) hi';obtain⟨l1,e1⟩:=List.getElem?_eq_some_iff.1 g1;obtain⟨l2,e2⟩:=List.getElem?_eq_some_iff.1 g2;have hd:d.toArray[j / 2]! = d[j / 2]:=by simp[hi]
 rw[hd];rcases Nat.mod_two_eq_zero_or_one j with h0|h1
 ·have e:j=j / 2*2:=om;rw[h0];have:(flatS (d.map (·.1)))[j]'(by rw[flatS_len,List.length_map];exact hj)=.int .i64 d[j / 2].1.1:=by
   have:=e1
   simp only[←e] at this;rw[this];simp
  rw[this];rfl
 ·have e:j=j / 2*2+1:=om;rw[h1];have:(flatS (d.map (·.1)))[j]'(by rw[flatS_len,List.length_map];exact hj)=.int .i64 d[j / 2].1.2:=by
   have:=e2
   simp only[←e] at this;rw[this];simp
  rw[this];rfl
theorem holdsE {w:World}{base c g:Nat}{d:List GE}(h:OwnE w base (some ⟨g,0,none⟩) c (d.map (·.1))):Go.Sort.HoldsK encE 2 w g 0 d.toArray:=by
 intro j hj;rw[Go.Sort.size_flatK] at hj;have hj2:j<d.length*2:=by simpa using hj
 have hfl:j<(flatS (d.map (·.1))).length:=by rw[flatS_len,List.length_map];exact hj2
 obtain⟨g',he,_,h1,h2,_,_⟩:=OwnS.store h hfl;injection he with he;injection he with e1 _ _
 subst e1;rw[Nat.zero_add,flatK_getE d j hj2];exact⟨h1,h2⟩
theorem sortedE {w:World}{base c g n:Nat}{d d':List GE}{os:Array Obj}(h:OwnE w base (some ⟨g,0,none⟩) c (d.map (·.1)))(hl:d'.length=d.length) :
 OwnE (Go.Proofs.sortWorldK encE 2 w g 0 n d'.toArray os) base (some ⟨g,0,none⟩) c (d'.map (·.1))∧KpP (·=g) w (Go.Proofs.sortWorldK encE 2 w g 0 n d'.toArray os):=by
 rcases h.form with⟨h0,_⟩|⟨g',cur,he,hg,hh,hnc,hcm,hcs,ht⟩
 ·cases h0
 ·injection he with he;injection he with e1 _ _
  subst e1;have hlt:g<w.heap.size:=(Array.getElem?_eq_some_iff.1 hh).1;have hk:KpP (·=g) w (Go.Proofs.sortWorldK encE 2 w g 0 n d'.toArray os):=by
   refine⟨rfl,rfl,rfl,?_,fun k hk hn=>?_⟩
   ·show w.heap.size≤(Array.size (_++os))
    simp[Go.Sort.putRowK,Go.Sort.putRow,Go.Sort.mapBlock,Go.Sort.ahead]
   ·show(_++os)[k]? = _
    have hne:¬g=k:=fun e=>hn e.symm;rw[Array.getElem?_append_left (by simp[Go.Sort.putRowK,Go.Sort.putRow,Go.Sort.mapBlock,Go.Sort.ahead];exact hk)];simp[Go.Sort.putRowK,Go.Sort.putRow,Go.Sort.mapBlock,Go.Sort.ahead,Array.getElem?_modify,hne]
  refine⟨?_,hk⟩;have hb:Blk (Go.Proofs.sortWorldK encE 2 w g 0 n d'.toArray os) g 207 (Go.Sort.putCells id 0 (Go.Sort.flatK encE 2 d'.toArray) cur):=by
   show(_++os)[g]? = _
   rw[Array.getElem?_append_left (by simp[Go.Sort.putRowK,Go.Sort.putRow,Go.Sort.mapBlock,Go.Sort.ahead];exact hlt)];simp[Go.Sort.putRowK,Go.Sort.putRow,Go.Sort.mapBlock,Go.Sort.ahead,Array.getElem?_modify,hh,Go.Sort.onCells]
  have:=OwnS.of_blk (n:=(d'.map (·.1)).length) (c:=c) (size:=2) hb hg (by simp[Go.Sort.putCells,hcs]) (by rw[List.length_map] at hnc ⊢;omega) hcm;have e:(Go.Sort.putCells id 0 (Go.Sort.flatK encE 2 d'.toArray) cur).toList.take ((d'.map (·.1)).length*2)=flatS (d'.map (·.1)):=by
   have hsz:d'.length*2≤cur.size:=by rw[hcs];rw[List.length_map] at hnc;omega
   refine List.ext_getElem ?_ (fun j h1 h2=>?_)
   ·rw[List.length_take,flatS_len];simp[Go.Sort.putCells];omega
   ·have hj:j<d'.length*2:=by rw[flatS_len,List.length_map] at h2;exact h2
    rw[List.getElem_take];have hjc:j<cur.size:=om;have:(Go.Sort.putCells id 0 (Go.Sort.flatK encE 2 d'.toArray) cur)[j]'(by simpa[Go.Sort.putCells] using hjc)=(Go.Sort.flatK encE 2 d'.toArray)[j]!:=by
     simp only[Go.Sort.putCells,Array.getElem_mapIdx,Go.Sort.size_flatK];rw[if_pos ⟨Nat.zero_le _,by simpa using hj⟩]
     rfl
    rw[Array.getElem_toList,this,flatK_getE d' j hj]
  rw[e] at this;exact this
theorem cmpE_any (x y:GE)(W:World):Calls Tryz.prog 157 #[.agg #[.int .i64 x.1.1,.int .i64 x.1.2],.agg #[.int .i64 y.1.1,.int .i64 y.1.2]] W (fun e w'=>e=.returned (.int .i64 (cmpE x y))∧∃q os',w'=Go.Sort.grow (W.drewN q) os'):=by
 obtain⟨⟨x1,x2⟩,hx⟩:=x;obtain⟨⟨y1,y2⟩,hy⟩:=y;have hx':0≤x1∧x1≤1114112:=hx;have hy':0≤y1∧y1≤1114112:=hy;have hw:IntKind.i64.wrap (x1-y1)=x1-y1:=wj;unfold cmpE
 simp only
 go_enter Tryz.func157,Tryz.ntmps157
 go_wp2
 go_ret
 exact⟨by rw[←hw];rfl,0,_,by rw[Go.Sort.alloc_eq_grow,Go.Sort.alloc_eq_grow,Go.Sort.grow_grow];rfl⟩
theorem sortE_any (base g c:Nat)(l:List Sp)(hg:∀s∈l,enOk s)(w:World)(hl:OwnE w base (some ⟨g,0,none⟩) c l)(hlen:l.length≤1000000) :
 Calls Tryz.prog 156 #[.slice (some ⟨g,0,none⟩) l.length c,.func (.func 157) #[] #[]] w (fun e w'=>e=.returned (.tuple #[])∧∃m:List Sp,l.Perm m∧m.Pairwise (fun s t=>s.1≤t.1)∧m.length=l.length∧OwnE w' base (some ⟨g,0,none⟩) c m∧KpP (·=g) w w'):=by
 obtain⟨d,hd⟩:∃d:List GE,d.map (·.1)=l:=⟨toE l hg,toE_val l hg⟩;subst hd;have eg:∀args w,(callFunc 157 args).run Tryz.prog w=.ok (.enter 157 args) w:=enters_of Tryz.func157 kr rfl;have hcmp:Go.Proofs.CmpLays Tryz.prog 157 #[] encE 2 cmpE g 0 d.toArray.size w:=fun _ _ _ _ x y=>cmpE_any x y _;have hcon:=AnyQ.slices_SortFunc Tryz.sortEnd 2 Tryz.isAgg207 Tryz.sizeOf207 encE (fun _=>rfl) (fun x v hv=>by simp[encE] at hv;rcases hv with rfl|rfl<;>rfl) cmpE swoE 157 #[] g 0 c d.toArray w eg hcmp (holdsE hl) ((OwnS.blt hl rfl).1) (by rw[List.length_map] at hlen;simp;omega);change Calls Tryz.prog 156 _ _ _ at hcon;have hsz:d.toArray.size=(d.map (·.1)).length:=by simp
 rw[hsz] at hcon;refine hcon.mono ?_;rintro e w' ⟨rfl,d',n,os,hp,hs,rfl⟩;have hps:=hp.1;rw[List.size_toArray] at hps;obtain⟨d2,rfl⟩:∃d2:List GE,d'=d2.toArray:=⟨d'.toList,by simp⟩;replace hps:d2.length=d.length:=by simpa using hps
 have hperm:d2.Perm d:=by
  have:=hp.2.2;rw[List.length_map] at this;have h4:d2.Perm (d.take d2.length):=by simpa[←hps] using this
  rw[List.take_of_length_le om] at h4;exact h4
 obtain⟨h1,h2⟩:=sortedE (d':=d2) (n:=n) (os:=os) hl hps;refine⟨rfl,d2.map (·.1),(hperm.symm).map _,?_,by simp[hps],h1,h2⟩;rw[List.pairwise_map,List.pairwise_iff_getElem];intro i j hi hj hij;have h3:=hs i j (Nat.zero_le _) hij (by simp;omega);rw[ltE] at h3;have e1:d2.toArray[j]! = d2[j]:=by simp[hj]
 have e2:d2.toArray[i]! = d2[i]:=by simp[hi]
 rw[e1,e2] at h3;simp at h3;exact h3
end
end Go.Proofs.YtmocoldobnimfaaGreat
