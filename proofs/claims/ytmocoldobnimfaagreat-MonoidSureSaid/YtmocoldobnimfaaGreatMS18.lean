/- Texts of this proof: G14 G15 Y4 Y5 Y6 Y7 Y8 G16 G17 G18 G19. -/
import Derived.Test.YtmocoldobnimfaaGreatMS01
import Derived.Test.YtmocoldobnimfaaGreatMS16
import Derived.Laws.MakeOwn
set_option linter.all false
set_option maxRecDepth 100000
set_option maxHeartbeats 8000000
namespace Go.Proofs.YtmocoldobnimfaaGreat
section
open Go.RowKit
structure CM (wr:World)(gB gI base:Nat)(bs:List Bool)(ps:List Int)(O:Option Addr)(cO:Nat)(xs:List Sp):Prop where
 bB:Blk wr gB 4 (bs.map Value.bool).toArray
 bI:Blk wr gI 3 (ps.map (Value.int .i64)).toArray
 own:WB wr base O cO xs
namespace CM
variable {wr w':World} {gB gI base cO:Nat} {bs:List Bool} {ps:List Int} {O:Option Addr} {xs:List Sp}
end CM
theorem JJ (v:Value)(n:Nat):madeCells #[v] (n*1)=((List.replicate n v)).toArray:=by
 unfold madeCells;refine Array.ext si (fun i h1 h2=>?_);simp[Nat.mod_one]
theorem BE (n:Nat)(h:n<=1000000)(W:World):(Instr.makeSlice 51 (.int .i64 (n:Int)) (.int .i64 (n:Int))).run Tryz.prog W=.ok (.slice (some ⟨W.heap.size,0,none⟩) n n) (W.alloc (.cells ((List.replicate n false).map Value.bool).toArray 4)):=by
 obtain⟨i0,hi0,hz0,hz1,hz2⟩:=info_parts OS;have:=run_make (P:=Tryz.prog) W 51 4 i0 (.bool false) Tryz.underlying51 hi0 hz0 .i64 .i64 n n om (Int.le_refl _) (by rw[hz2];omega) om;rw[this,hz1];simp only[Int.toNat_natCast,Value.cells];rw[JJ,List.map_replicate]
theorem O7 (n:Nat)(h:n<=1000000)(W:World):(Instr.makeSlice 22 (.int .i64 (n:Int)) (.int .i64 (n:Int))).run Tryz.prog W=.ok (.slice (some ⟨W.heap.size,0,none⟩) n n) (W.alloc (.cells ((List.replicate n (0:Int)).map (Value.int .i64)).toArray 3)):=by
 obtain⟨i0,hi0,hz0,hz1,hz2⟩:=info_parts VV;have:=run_make (P:=Tryz.prog) W 22 3 i0 (.int .i64 0) Tryz.underlying22 hi0 hz0 .i64 .i64 n n om (Int.le_refl _) (by rw[hz2];omega) om;rw[this,hz1];simp only[Int.toNat_natCast,Value.cells];rw[JJ,List.map_replicate]
end
section
open Go.RowKit
attribute [local go_sem ↓] Go.wp_at_zero Go.wp_at_succ
section
variable {P:Program} {ops:Array Oper} {Q:Exit->Act->World->Prop} {L:List Nat} {w0:World}
variable {n:Nat} {KD:List (Nat×Nat)} {Z:List Lz} {I:List (Nat×Nat)} {ls:List Nat} {a:Act} {w:World}
theorem Xr.forkM (js:List Nat)(is:List (Nat×Nat×(Nat->Value)×Nat×Array Value))(hjs:is.map (·.1)=js)(hne:js≠[])
 (hr:(Region.ready .any ops (bits ops.size ls) == js&&KD.all fun x=>!js.contains x.1)=true)
 (ho:∀x∈is,∃o,ops[x.1]? = some o/\Region.wanted o (yielded ops a.tmps)=true/\o.dst=some x.2.1/\∀w',(execOp a.eval o).run P w'=.ok (.value (x.2.2.1 w'.heap.size)) (w'.alloc (.cells x.2.2.2.2 x.2.2.2.1)))
 (h:∀x∈is,∀(w':World) (g:Nat),Ext w w'->Kp L w0 w'->w.heap.size<=g->Blk w' g x.2.2.2.1 x.2.2.2.2->Xr L w0 P ops Q n KD Z ((g,g+1)::I) (x.1::ls) (a.put (some x.2.1) (x.2.2.1 g)) w') :
 Xr L w0 P ops Q (n+1) KD Z I ls a w:=by
 intro hKD;simp only[Bool.and_eq_true,beq_iff_eq] at hr;obtain⟨hr,hZ⟩:=hr;refine⟨fun h0=>?_,fun k hk w' x1 x2=>?_⟩
 ·rw[hr] at h0;exact absurd h0 hne
 rw[hr] at hk;have hk2:=hk
 rw[<-hjs] at hk2;obtain⟨x,hx,rfl⟩:=List.mem_map.1 hk2;obtain⟨o,o1,o2,o3,o4⟩:=ho x hx;have hZk:(KD.all fun y=>y.1 != x.1)=true:=by
  rw[List.all_eq_true] at hZ ⊢;intro y hy;have h1:=hZ y hy;simp only[Bool.not_eq_true',bne_iff_ne,ne_eq] at h1 ⊢;intro e;rw[e,List.contains_iff_mem.2 hk] at h1;cases h1
 (try unfold KJ)
 rw[KM (VJ (by rw[hKD];exact hZk))];refine Jy o1 o2 fun K' hK'=>?_;unfold Oper.wp;rw[o4 w'];simp only[Oper.upon];rw[o3];have hE:Ext w' (w'.alloc (.cells x.2.2.2.2 x.2.2.2.1)):=Ext.alloc _ _;refine hK' _ _ ⟨KpP.of_ext hE,x2.ext hE,?_⟩;have h5:=h x hx (w'.alloc (.cells x.2.2.2.2 x.2.2.2.1)) w'.heap.size (x1.trans hE) (x2.ext hE) x1.size (Blk.new _ _ _);rw[Zw,World.size_alloc];exact h5 hKD
end
theorem U1:(Tryz.prog.info? 21).map (fun i=>(i.zero,i.size,i.bytes))=some (some (.int .i32 0),1,4):=by kernel_rfl
theorem mkK (n:Nat)(h:n<=1000000)(W:World):(Instr.makeSlice 152 (.int .i64 (n:Int)) (.int .i64 (n:Int))).run Tryz.prog W=.ok (.slice (some ⟨W.heap.size,0,none⟩) n n) (W.alloc (.cells (List.replicate n (.int .i32 0)).toArray 21)):=by
 obtain⟨i0,hi0,hz0,hz1,hz2⟩:=info_parts U1;have:=run_make (P:=Tryz.prog) W 152 21 i0 (.int .i32 0) Tryz.underlying152 hi0 hz0 .i64 .i64 n n om (Int.le_refl _) (by rw[hz2];omega) om;rw[this,hz1];simp only[Int.toNat_natCast,Value.cells];rw[JJ]
def Q6 (k:Nat):Array Value:=(List.replicate k (.int .i32 0)).toArray
def MN (gm N n:Nat)(w:World)(e:Ending)(w':World):Prop:=∃g b1 b2 b3 b4:Nat,e=.returned (.pointer (some ⟨g,0,none⟩))/\Ext w w'/\
 Blk w' g 154 #[.pointer (some ⟨gm,0,none⟩),.int .i64 n,.slice (some ⟨b1,0,none⟩) N N,.slice (some ⟨b2,0,none⟩) N N,.slice (some ⟨b3,0,none⟩) n n,.slice (some ⟨b4,0,none⟩) n n]/\
 Blk w' b1 21 (Q6 N)/\Blk w' b2 21 (Q6 N)/\Blk w' b3 21 (Q6 n)/\Blk w' b4 21 (Q6 n)/\
 (∀b∈[g,b1,b2,b3,b4],w.heap.size<=b)/\[g,b1,b2,b3,b4].Nodup
def NdW (w w':World)(l:List Nat):Prop:=l.Nodup/\∀b∈l,w.heap.size<=b/\b<w'.heap.size
theorem NdW.one {w w':World}{p:Nat}(h:w.heap.size<=p)(h2:p<w'.heap.size):NdW w w' [p]:=⟨by simp,fun b hb=>by
 have:b=p:=(by simpa using hb);omega⟩
theorem NdW.cons {w w1 w2:World}{p:Nat}{l:List Nat}(h:NdW w w1 l)(hw:w.heap.size<=w1.heap.size)(hs:w1.heap.size<=w2.heap.size)(hp:w1.heap.size<=p)(hp2:p<w2.heap.size):NdW w w2 (p::l):=by
 refine⟨List.nodup_cons.2 ⟨fun hm=>?_,h.1⟩,fun b hb=>?_⟩
 ·have:=(h.2 p hm).2;omega
 ·rcases List.mem_cons.1 hb with rfl|hb
  ·omega
  ·have:=h.2 b hb;omega
theorem O8 {w w4 w5 w6:World}{g N n p3 p5 p7 p9:Nat}{l:List Nat}(hE4:Ext w w4)(B3:Blk w4 p3 21 (Q6 N))(B5:Blk w4 p5 21 (Q6 N))(B7:Blk w4 p7 21 (Q6 n))(B9:Blk w4 p9 21 (Q6 n))
 (hnd:NdW w w4 l) (hl:List.Perm l [p3,p5,p7,p9]) (hE5:Ext w4 w5)
 (hE6:Ext (w5.alloc (.cells #[.pointer (some ⟨g,0,none⟩),.int .i64 n,.slice (some ⟨p3,0,none⟩) N N,.slice (some ⟨p5,0,none⟩) N N,.slice (some ⟨p7,0,none⟩) n n,.slice (some ⟨p9,0,none⟩) n n] 154)) w6) :
 MN g N n w (.returned (.pointer (some ⟨w5.heap.size,0,none⟩))) w6:=by
 have x5:=hE5.trans ((Ext.alloc w5 (.cells #[.pointer (some ⟨g,0,none⟩),.int .i64 n,.slice (some ⟨p3,0,none⟩) N N,.slice (some ⟨p5,0,none⟩) N N,.slice (some ⟨p7,0,none⟩) n n,.slice (some ⟨p9,0,none⟩) n n] 154)).trans hE6);have hs:=hE5.size;have hs4:=hE4.size;have hb:∀b∈[p3,p5,p7,p9],w.heap.size<=b/\b<w4.heap.size:=fun b hb=>hnd.2 b (hl.mem_iff.2 hb);refine⟨w5.heap.size,p3,p5,p7,p9,rfl,hE4.trans x5,(Blk.new _ _ _).ext hE6,B3.ext x5,B5.ext x5,B7.ext x5,B9.ext x5,fun b h=>?_,List.nodup_cons.2 ⟨fun hm=>?_,hl.nodup_iff.1 hnd.1⟩⟩
 ·rcases List.mem_cons.1 h with rfl|h
  ·omega
  ·exact(hb b h).1
 ·have:=(hb _ hm).2;omega
theorem bk0 {P:Prop}(h:P:=by
 intro x hx;simp only[List.mem_cons,List.not_mem_nil,or_false] at hx
 (first|(rcases hx with rfl|rfl|rfl|rfl)|(rcases hx with rfl|rfl|rfl)|(rcases hx with rfl|rfl)|(rcases hx with rfl))<;>exact⟨_,rfl,by rfl,rfl,fun w'=>by have hmk:=mkK N hmx w';have hmk2:=mkK n hn w';(first|(go_simp;done)|(go_simp;rfl))⟩):P:=h
theorem bk3 {P:Prop}(h:P:=by
 obtain⟨p3,rfl⟩:∃p,p=gg:=⟨gg,rfl⟩
 try have B5:=B5.ext hE
 try have B7:=B7.ext hE
 try have B9:=B9.ext hE
 have B3:Blk wn p3 21 (Q6 N):=hB
 first|(have hE4a:=hE4;have hE4:=hE4.trans hE;have ND:=lh (NdW.cons ND.out (hE4a.size) hE.size hs B3.lt))|(have hE4:=hE;have ND:Hid (NdW w wn [p3]):=lh (NdW.one hs B3.lt))
 clear hE hK hs hB;refine ptm ?_;exact bkN):P:=h
theorem bk5 {P:Prop}(h:P:=by
 obtain⟨p5,rfl⟩:∃p,p=gg:=⟨gg,rfl⟩
 try have B3:=B3.ext hE
 try have B7:=B7.ext hE
 try have B9:=B9.ext hE
 have B5:Blk wn p5 21 (Q6 N):=hB
 first|(have hE4a:=hE4;have hE4:=hE4.trans hE;have ND:=lh (NdW.cons ND.out (hE4a.size) hE.size hs B5.lt))|(have hE4:=hE;have ND:Hid (NdW w wn [p5]):=lh (NdW.one hs B5.lt))
 clear hE hK hs hB;refine ptm ?_;exact bkN):P:=h
theorem bk7 {P:Prop}(h:P:=by
 obtain⟨p7,rfl⟩:∃p,p=gg:=⟨gg,rfl⟩
 try have B3:=B3.ext hE
 try have B5:=B5.ext hE
 try have B9:=B9.ext hE
 have B7:Blk wn p7 21 (Q6 n):=hB
 first|(have hE4a:=hE4;have hE4:=hE4.trans hE;have ND:=lh (NdW.cons ND.out (hE4a.size) hE.size hs B7.lt))|(have hE4:=hE;have ND:Hid (NdW w wn [p7]):=lh (NdW.one hs B7.lt))
 clear hE hK hs hB;refine ptm ?_;exact bkN):P:=h
theorem bk9 {P:Prop}(h:P:=by
 obtain⟨p9,rfl⟩:∃p,p=gg:=⟨gg,rfl⟩
 try have B3:=B3.ext hE
 try have B5:=B5.ext hE
 try have B7:=B7.ext hE
 have B9:Blk wn p9 21 (Q6 n):=hB
 first|(have hE4a:=hE4;have hE4:=hE4.trans hE;have ND:=lh (NdW.cons ND.out (hE4a.size) hE.size hs B9.lt))|(have hE4:=hE;have ND:Hid (NdW w wn [p9]):=lh (NdW.one hs B9.lt))
 clear hE hK hs hB;refine ptm ?_;exact bkN):P:=h
theorem bkN {P:Prop}(h:P:=by
 first
  | (refine Xr.forkM [3,5,7,9] [(3,14,fun g=>.slice (some ⟨g,0,none⟩) N N,21,Q6 N),(5,16,fun g=>.slice (some ⟨g,0,none⟩) N N,21,Q6 N),(7,18,fun g=>.slice (some ⟨g,0,none⟩) n n,21,Q6 n),(9,20,fun g=>.slice (some ⟨g,0,none⟩) n n,21,Q6 n)] rfl de dK ?_ ?_;exact bk0;intro x hx wn gg hE hK hs hB;simp only[List.mem_cons,List.not_mem_nil,or_false] at hx;rcases hx with rfl|rfl|rfl|rfl;exact bk3;exact bk5;exact bk7;exact bk9)
  | (refine Xr.forkM [3,5,7] [(3,14,fun g=>.slice (some ⟨g,0,none⟩) N N,21,Q6 N),(5,16,fun g=>.slice (some ⟨g,0,none⟩) N N,21,Q6 N),(7,18,fun g=>.slice (some ⟨g,0,none⟩) n n,21,Q6 n)] rfl de dK ?_ ?_;exact bk0;intro x hx wn gg hE hK hs hB;simp only[List.mem_cons,List.not_mem_nil,or_false] at hx;rcases hx with rfl|rfl|rfl;exact bk3;exact bk5;exact bk7)
  | (refine Xr.forkM [3,5,9] [(3,14,fun g=>.slice (some ⟨g,0,none⟩) N N,21,Q6 N),(5,16,fun g=>.slice (some ⟨g,0,none⟩) N N,21,Q6 N),(9,20,fun g=>.slice (some ⟨g,0,none⟩) n n,21,Q6 n)] rfl de dK ?_ ?_;exact bk0;intro x hx wn gg hE hK hs hB;simp only[List.mem_cons,List.not_mem_nil,or_false] at hx;rcases hx with rfl|rfl|rfl;exact bk3;exact bk5;exact bk9)
  | (refine Xr.forkM [3,7,9] [(3,14,fun g=>.slice (some ⟨g,0,none⟩) N N,21,Q6 N),(7,18,fun g=>.slice (some ⟨g,0,none⟩) n n,21,Q6 n),(9,20,fun g=>.slice (some ⟨g,0,none⟩) n n,21,Q6 n)] rfl de dK ?_ ?_;exact bk0;intro x hx wn gg hE hK hs hB;simp only[List.mem_cons,List.not_mem_nil,or_false] at hx;rcases hx with rfl|rfl|rfl;exact bk3;exact bk7;exact bk9)
  | (refine Xr.forkM [5,7,9] [(5,16,fun g=>.slice (some ⟨g,0,none⟩) N N,21,Q6 N),(7,18,fun g=>.slice (some ⟨g,0,none⟩) n n,21,Q6 n),(9,20,fun g=>.slice (some ⟨g,0,none⟩) n n,21,Q6 n)] rfl de dK ?_ ?_;exact bk0;intro x hx wn gg hE hK hs hB;simp only[List.mem_cons,List.not_mem_nil,or_false] at hx;rcases hx with rfl|rfl|rfl;exact bk5;exact bk7;exact bk9)
  | (refine Xr.forkM [3,5] [(3,14,fun g=>.slice (some ⟨g,0,none⟩) N N,21,Q6 N),(5,16,fun g=>.slice (some ⟨g,0,none⟩) N N,21,Q6 N)] rfl de dK ?_ ?_;exact bk0;intro x hx wn gg hE hK hs hB;simp only[List.mem_cons,List.not_mem_nil,or_false] at hx;rcases hx with rfl|rfl;exact bk3;exact bk5)
  | (refine Xr.forkM [3,7] [(3,14,fun g=>.slice (some ⟨g,0,none⟩) N N,21,Q6 N),(7,18,fun g=>.slice (some ⟨g,0,none⟩) n n,21,Q6 n)] rfl de dK ?_ ?_;exact bk0;intro x hx wn gg hE hK hs hB;simp only[List.mem_cons,List.not_mem_nil,or_false] at hx;rcases hx with rfl|rfl;exact bk3;exact bk7)
  | (refine Xr.forkM [3,9] [(3,14,fun g=>.slice (some ⟨g,0,none⟩) N N,21,Q6 N),(9,20,fun g=>.slice (some ⟨g,0,none⟩) n n,21,Q6 n)] rfl de dK ?_ ?_;exact bk0;intro x hx wn gg hE hK hs hB;simp only[List.mem_cons,List.not_mem_nil,or_false] at hx;rcases hx with rfl|rfl;exact bk3;exact bk9)
  | (refine Xr.forkM [5,7] [(5,16,fun g=>.slice (some ⟨g,0,none⟩) N N,21,Q6 N),(7,18,fun g=>.slice (some ⟨g,0,none⟩) n n,21,Q6 n)] rfl de dK ?_ ?_;exact bk0;intro x hx wn gg hE hK hs hB;simp only[List.mem_cons,List.not_mem_nil,or_false] at hx;rcases hx with rfl|rfl;exact bk5;exact bk7)
  | (refine Xr.forkM [5,9] [(5,16,fun g=>.slice (some ⟨g,0,none⟩) N N,21,Q6 N),(9,20,fun g=>.slice (some ⟨g,0,none⟩) n n,21,Q6 n)] rfl de dK ?_ ?_;exact bk0;intro x hx wn gg hE hK hs hB;simp only[List.mem_cons,List.not_mem_nil,or_false] at hx;rcases hx with rfl|rfl;exact bk5;exact bk9)
  | (refine Xr.forkM [7,9] [(7,18,fun g=>.slice (some ⟨g,0,none⟩) n n,21,Q6 n),(9,20,fun g=>.slice (some ⟨g,0,none⟩) n n,21,Q6 n)] rfl de dK ?_ ?_;exact bk0;intro x hx wn gg hE hK hs hB;simp only[List.mem_cons,List.not_mem_nil,or_false] at hx;rcases hx with rfl|rfl;exact bk7;exact bk9)
  | (refine Xr.forkM [3] [(3,14,fun g=>.slice (some ⟨g,0,none⟩) N N,21,Q6 N)] rfl de dK ?_ ?_;exact bk0;intro x hx wn gg hE hK hs hB;simp only[List.mem_cons,List.not_mem_nil,or_false] at hx;rcases hx with rfl;exact bk3)
  | (refine Xr.forkM [5] [(5,16,fun g=>.slice (some ⟨g,0,none⟩) N N,21,Q6 N)] rfl de dK ?_ ?_;exact bk0;intro x hx wn gg hE hK hs hB;simp only[List.mem_cons,List.not_mem_nil,or_false] at hx;rcases hx with rfl;exact bk5)
  | (refine Xr.forkM [7] [(7,18,fun g=>.slice (some ⟨g,0,none⟩) n n,21,Q6 n)] rfl de dK ?_ ?_;exact bk0;intro x hx wn gg hE hK hs hB;simp only[List.mem_cons,List.not_mem_nil,or_false] at hx;rcases hx with rfl;exact bk7)
  | (refine Xr.forkM [9] [(9,20,fun g=>.slice (some ⟨g,0,none⟩) n n,21,Q6 n)] rfl de dK ?_ ?_;exact bk0;intro x hx wn gg hE hK hs hB;simp only[List.mem_cons,List.not_mem_nil,or_false] at hx;rcases hx with rfl;exact bk9)
  | (exact bkL)):P:=h
theorem bkL {P:Prop}(h:P:=by
 refine Xtk 10 ?_;refine Xcl 11 fun w5 hE5 hK5 K hKK=>?_;go_simp;refine hKK _ _ (Ext.alloc _ _) ?_;clear hKK;refine ptm ?_;refine Xtk 12 ?_;refine Xdn fun w6 hE6 hK6=>?_;have FIN:=lh (O8 hE4 B3 B5 B7 B9 ND.out (by first|exact List.Perm.refl _|(simp only[List.perm_iff_count,List.count_cons,List.count_nil];intro b;omega)) hE5 hE6);clear ND B3 B5 B7 B9 hE4 hE5 hE6 hK5 hK6 c3
 go_wp2_with fail
 go_ret
 exact FIN.out):P:=h
theorem Dk (w:World)(g:Nat)(m:Ma)(nc:Nat)(hm:V9 w g m)(ok:VB nc m)(n:Nat)(hn:n<=1000000) :
 Calls Tryz.prog 131 #[.pointer (some ⟨g,0,none⟩),.int .i64 n] w (MN g m.next.length n w):=by
 have hmx:=ok.len;have c3:w.cell? ⟨g,3,none⟩=some (.slice m.nA m.next.length m.nc):=hm.blk.cell 3;have hnl:=hm.nx.len;clear hm ok;generalize m.next.length=N at *;go_enter Tryz.func131,Tryz.ntmps131
 go_upto_region 2 with fail
 refine Xr.start [] kr ?_;refine Xtk 0 ?_
 iterate 2(refine Xtn ?_)
 refine Xtk 4 ?_;refine Xtk 6 ?_;refine Xtk 8 ?_;exact bkN
theorem MO (w:World)(st:Int) :
 Calls Tryz.prog 84 #[.int .i32 st] w (QD (.bool true) w):=by
 go_enter Tryz.func84,Tryz.ntmps84
 go_wp2_with fail
 go_ret
 exact⟨rfl,Ext.rfl' _⟩
theorem SU {P:Prop} (h:P:=by
 go_enter Tryz.func85,Tryz.ntmps85
 go_wp2_with fail
 go_ret
 exact⟨rfl,Ext.rfl' _⟩):P:=h
theorem PW (w:World)(cb g:Nat)(m:Ma)(hm:V9 w g m)(hc:w.cell? ⟨cb,0,none⟩=some (.pointer (some ⟨g,0,none⟩)))(st:Int)(h0 : -1<=st)(h1:st<m.opn.length) :
 Calls Tryz.prog 85 #[.int .i32 st,.pointer (some ⟨cb,0,none⟩)] w (QD (.bool (decide (st = -1) || !m.opn.getD st.toNat false)) w):=by
 have hol:=hm.op.len;by_cases hd:st = -1
 ·subst hd;have HV:=lh (show(decide ((-1:Int) = -1) || !m.opn.getD ((-1:Int)).toNat false)=true by simp);rw[HV.out];exact SU
 ·obtain⟨k,rfl⟩:∃k:Nat,st=k:=⟨st.toNat,om⟩;have hk:k<m.opn.length:=om;obtain⟨ob,oo,hoA,co⟩:=hm.op.get hk;have c5:w.cell? ⟨g,5,none⟩=some (.slice m.oA m.opn.length m.oc):=hm.blk.cell 5;rw[hoA] at c5;have HV:=lh (show(decide ((k:Int) = -1) || !m.opn.getD ((k:Int)).toNat false) = !m.opn[k] by
   have h2:decide ((k:Int) = -1)=false:=by simp
   rw[h2];simp[List.getD_eq_getElem?_getD,hk])
  rw[HV.out];generalize m.opn[k]=b at *;clear hm hoA HV;have hkI:(k:Int)<m.opn.length:=om;cases b
  ·exact SU
  ·exact SU
end
section
open Go.RowKit
def nxF (rows:List (List Int))(s:Int)(c:Nat):Int:=(rows.getD s.toNat []).getD c 0
def dmF (dn:List Bool)(s:Int):Bool:=dn.getD s.toNat false
def Q3 (l:List Nat):List Int:=l.map (fun c:Nat=>(c:Int))
theorem JI (l:List Nat):(Q3 l).length=l.length:=by simp[Q3]
theorem vB (rows:List (List Int))(dn:List Bool):∀(l:List Nat) (k:Nat) (s la:Int),VP rows dn (Q3 l) k s la=W5 (nxF rows) (dmF dn) l k s la
 | [],_,_,_=>rfl
 | c::r,k,s,la=>by
  show VP rows dn ((c:Int)::Q3 r) k s la=_
  unfold VP W5;by_cases h:s = -1
  ·rw[if_pos h,if_pos h]
  ·rw[if_neg h,if_neg h,vB rows dn r];have e:((c:Int)).toNat=c:=om;rw[e]
   rfl
def Ma.nx (m:Ma):Int->Nat->Int:=nxF (Wq m.next)
def Ma.dn (m:Ma):Int->Bool:=dmF m.done
theorem VB.nx_rng {nc:Nat}{m:Ma}(ok:VB nc m){s:Int}{c:Nat}(h0 : -1<s)(h1:s<m.next.length)(hc:c<nc) : -1<=m.nx s c/\m.nx s c<m.next.length:=by
 obtain⟨k,rfl⟩:∃k:Nat,s=k:=⟨s.toNat,om⟩;have hk:k<m.next.length:=om;have hr:=ok.row _ (List.getElem_mem hk);have hkc:c<m.next[k].l.length:=om;have e:m.nx (k:Int) c=m.next[k].l[c]:=by
  simp[Ma.nx,nxF,Wq,List.getD_eq_getElem?_getD,hk,hkc]
 rw[e];exact ok.rng _ (List.getElem_mem hk) _ (List.getElem_mem hkc)
theorem VB.run_rng {nc:Nat}{m:Ma}(ok:VB nc m):∀(l:List Nat) (k:Nat) (s la:Int),-1<=s->s<m.next.length->(∀c∈l,c<nc)->
 -1<=(W5 m.nx m.dn l k s la).1/\(W5 m.nx m.dn l k s la).1<m.next.length
 | [],_,s,_,h0,h1,_=>⟨h0,h1⟩
 | c::r,k,s,la,h0,h1,hl=>by
  unfold W5;by_cases h:s = -1
  ·rw[if_pos h];exact⟨h0,h1⟩
  ·rw[if_neg h];have:=ok.nx_rng (s:=s) (c:=c) om h1 (hl c si);exact VB.run_rng ok r (k+1) _ _ this.1 this.2 (fun x hx=>hl x (by simp[hx]))
theorem LG (nx:Int->Nat->Int)(dn:Int->Bool)(l:List Nat)(k:Nat)(s a:Int)(h : -1<=a)(h2:a<=(k+l.length:Nat)) : -1<=(W5 nx dn l k s a).2/\(W5 nx dn l k s a).2<=(k+l.length:Nat):=by
 rcases CD nx dn l k s a with e|e
 ·rw[e];omega
 ·omega
def tgF (m:Ma)(cl:List Nat)(i:Nat):Int:=(toS m.nx m.dn cl i).1
def laF (m:Ma)(cl:List Nat)(i:Nat):Int:=(toS m.nx m.dn cl i).2
def stF (m:Ma)(cl:List Nat)(k:Nat):Int:=(enS m.nx m.dn m.first cl k).1
def enF (m:Ma)(cl:List Nat)(k:Nat):Int:=(enS m.nx m.dn m.first cl k).2
def upF (f:Nat->Int)(n:Nat):List Int:=(List.range n).map f
theorem Wz (f:Nat->Int)(n:Nat):(upF f n).length=n:=by simp[upF]
theorem bY (f:Nat->Int)(n i:Nat)(h:i<(upF f n).length):(upF f n)[i]=f i:=by simp[upF]
theorem Gk (f:Nat->Int)(n i:Nat)(h:i<n):(upF f n).getD i 0=f i:=by simp[upF,List.getD_eq_getElem?_getD,h]
theorem LH {f:Nat->Int}{n:Nat}{x:Int}(h:x∈upF f n):∃i,i<n/\x=f i:=by
 obtain⟨i,hi,rfl⟩:=List.mem_map.1 h;exact⟨i,List.mem_range.1 hi,rfl⟩
theorem YL {f f':Nat->Int}{n:Nat}(h:∀i,i<n->f i=f' i):upF f n=upF f' n:=by
 unfold upF;exact List.map_congr_left (fun i hi=>h i (List.mem_range.1 hi))
structure JQ (m:Ma)(g:Nat)(cl:List Nat)(s:Sm):Prop where
 mch:s.m=g
 len:s.len=cl.length
 tg:s.tg=upF (tgF m cl) m.next.length
 last:s.last=upF (laF m cl) m.next.length
 st:s.st=upF (stF m cl) cl.length
 en:s.en=upF (enF m cl) cl.length
section
variable {m:Ma} {nc:Nat} {cl:List Nat}
theorem BO (ok:VB nc m)(hc:∀c∈cl,c<nc){i:Nat}(hi:i<m.next.length) : -1<=tgF m cl i/\tgF m cl i<m.next.length:=ok.run_rng cl 0 i (-1) om om hc
theorem LI (i:Nat) : -1<=laF m cl i/\laF m cl i<=cl.length:=by
 have:=LG m.nx m.dn cl 0 i (-1) om om;unfold laF toS;omega
theorem jK (ok:VB nc m)(hc:∀c∈cl,c<nc)(k:Nat) : -1<=stF m cl k/\stF m cl k<m.next.length:=ok.run_rng (cl.drop k) k m.first _ ok.first.1 ok.first.2 (fun c h=>hc c (List.mem_of_mem_drop h))
theorem TQ (dn:Int->Bool)(f:Int)(k:Nat) : -1<=Jx dn f k/\Jx dn f k<=k:=by
 unfold Jx;split<;>omega
theorem jV {k:Nat}(hk:k<=cl.length) : -1<=enF m cl k/\enF m cl k<=cl.length:=by
 have h0:=TQ m.dn m.first k;have hl:(cl.drop k).length=cl.length-k:=List.length_drop;have:=LG m.nx m.dn (cl.drop k) k m.first (Jx m.dn m.first k) om om;unfold enF enS;rw[hl] at this;omega
end
theorem Dv (m:Ma)(nc:Nat)(ok:VB nc m)(a b:List Nat)(st la:Int)(h0 : -1<=st)(h1:st<m.next.length) :
 Y0 a.length (upF (tgF m b) m.next.length) (upF (laF m b) m.next.length) st la=vW a.length (toS m.nx m.dn b) (st,la):=by
 unfold Y0 vW;by_cases h:st = -1
 ·rw[if_pos h,if_pos h]
 ·rw[if_neg h,if_neg h];obtain⟨k,rfl⟩:∃k:Nat,st=k:=⟨st.toNat,om⟩;have e:((k:Int)).toNat=k:=om;have hk:k<m.next.length:=om;rw[e,Gk _ _ _ hk,Gk _ _ _ hk]
  rfl
theorem TW (m:Ma)(nc:Nat)(ok:VB nc m)(a b:List Nat)(ha:∀c∈a,c<nc){i:Nat}(hi:i<m.next.length) :
 Y0 a.length (upF (tgF m b) m.next.length) (upF (laF m b) m.next.length) (tgF m a i) (laF m a i)=(tgF m (a++b) i,laF m (a++b) i):=by
 have h:=BO ok ha hi;rw[Dv m nc ok a b _ _ h.1 h.2]
 show vW a.length (toS m.nx m.dn b) (toS m.nx m.dn a i)=toS m.nx m.dn (a++b) i
 rw[RU]
theorem TZ (m:Ma)(nc:Nat)(ok:VB nc m)(a b:List Nat)(ha:∀c∈a,c<nc){k:Nat}(hk:k<=a.length) :
 Y0 a.length (upF (tgF m b) m.next.length) (upF (laF m b) m.next.length) (stF m a k) (enF m a k)=(stF m (a++b) k,enF m (a++b) k):=by
 have h:=jK ok ha k;rw[Dv m nc ok a b _ _ h.1 h.2]
 show vW a.length (toS m.nx m.dn b) (enS m.nx m.dn m.first a k)=enS m.nx m.dn m.first (a++b) k
 rw[Ew _ _ _ _ _ hk]
theorem Dw (m:Ma)(a b:List Nat)(j:Nat):stF m (a++b) (a.length+j)=stF m b j/\enF m (a++b) (a.length+j)=(if enF m b j = -1 then -1 else a.length+enF m b j):=by
 have:=BW m.nx m.dn m.first a b (j:=j);exact⟨by unfold stF;rw[this],by unfold enF;rw[this]⟩
def WQ (f:Nat->Int)(i n:Nat):List Int:=upF (fun j=>if j<i then f j else 0) n
theorem KI (f:Nat->Int)(n:Nat):WQ f 0 n=List.replicate n 0:=by
 apply List.ext_getElem
 ·simp[WQ,upF]
 ·intro j h1 h2;simp[WQ,upF]
theorem VD (f:Nat->Int)(i n:Nat)(h:n<=i):WQ f i n=upF f n:=YL (fun j hj=>by rw[if_pos om])
theorem Jk (f:Nat->Int)(i n:Nat):(WQ f i n).set i (f i)=WQ f (i+1) n:=by
 apply List.ext_getElem
 ·simp[WQ,upF]
 ·intro j h1 h2;rw[List.getElem_set];simp only[WQ,upF,List.getElem_map,List.getElem_range];by_cases h:i=j
  ·subst h;simp
  ·rw[if_neg h];by_cases h3:j<i
   ·rw[if_pos h3,if_pos om]
   ·rw[if_neg h3,if_neg om]
def W0 (l:List Int):Array Value:=(l.map (Value.int .i32)).toArray
theorem MP (n:Nat):W0 (List.replicate n 0)=Q6 n:=by simp[W0,Q6]
theorem YM (l:List Int)(i:Nat)(x:Int):(W0 l).setIfInBounds i (.int .i32 x)=W0 (l.set i x):=by
 simp[W0,List.map_set]
theorem KL.of_blk {w:World}{g T:Nat}{l:List Int}(h:Blk w g T (W0 l))(hr:∀x∈l,I32 x)(hm:l.length<=maxLen):KL w (some ⟨g,0,none⟩) l.length l:=
 ⟨Nat.le_refl _,hm,hr,fun _=>⟨g,0,rfl,fun i hi=>by
  rw[h.cell];simp[W0,hi]⟩⟩
theorem Blk.cellK {w:World}{g T:Nat}{l:List Int}(h:Blk w g T (W0 l)){i:Nat}(hi:i<l.length):w.cell? ⟨g,i,none⟩=some (.int .i32 l[i]):=by
 rw[h.cell];simp[W0,hi]
end
section
open Go.RowKit
attribute [local go_sem ↓] Go.wp_at_zero Go.wp_at_succ
def bj (n:Nat)(p:Nat->Bool)(w:World)(e:Ending)(w':World):Prop:=∃i:Nat,e=.returned (.int .i64 i)/\i<=n/\(0<i->p (i-1)=false)/\(i<n->p i=true)/\Ext w w'
theorem TJ (s:Nat)(h:s<=2000000):(IntKind.i64.wrap ((IntKind.u64.wrap (s:Int)) / 2))=((s / 2:Nat):Int):=by
 rw[IntKind.wrap_i64,IntKind.wrap_u64];omega
theorem MR (nf:Nat)(z1 z2:Value)(p:Nat->Bool)(n:Nat)(hn:n<=1000000)(w:World)(eg:∀args w,(callFunc nf args).run Tryz.prog w=.ok (.enter nf args) w)
 (H:∀w',Ext w w'->∀i:Nat,i<n->Calls Tryz.prog nf #[.int .i64 i,z1,z2] w' (QD (.bool (p i)) w')) :
 Calls Tryz.prog 167 #[.int .i64 n,.func (.func nf) #[] #[z1,z2]] w (bj n p w):=by
 have HH:=lh H;clear H;go_enter Tryz.func167,Tryz.ntmps167
 go_upto_region 2 with fail
 go_loopw [5,6] (fun v5 v6 wr=>∃i j:Nat,v5=.int .i64 i/\v6=.int .i64 j/\i<=j/\j<=n/\Hid (0<i->p (i-1)=false)/\Hid (j<n->p j=true)/\Ext w wr) (fun v5 v6 _=>(intOf v6-intOf v5).toNat)
 case atStart=>exact⟨0,n,rfl,rfl,om,om,lh (fun h=>om),lh (fun h=>om),Ext.rfl' _⟩
 case round=>
  obtain⟨i,j,rfl,rfl,hij,hj,hi1,hj1,x1⟩:=hrel;by_cases hlt:i<j
  ·have hltI:(i:Int)<j:=om;obtain⟨s,hs⟩:∃s:Nat,s=i+j:=⟨_,rfl⟩;obtain⟨h,hh⟩:∃h:Nat,h=s / 2:=⟨_,rfl⟩;have hih:i<=h/\h<j:=om;have hsum:IntKind.i64.wrap ((i:Int)+j)=(s:Int):=wj;have hsh:=TJ s om
   rw[<-hh] at hsh;have HC:=lh (HH.out wr x1 h om);have hw1:IntKind.i64.wrap ((h:Int)+1)=((h+1:Nat):Int):=wj;have hp:Hid (p (h+1-1)=p h):=lh si;have HP:=lh hh;clear hh hs;by_cases hb:p h=true
   ·have hp2:=lh hb;have HC2:=lh (show Calls Tryz.prog nf #[.int .i64 h,z1,z2] wr (QD (.bool true) wr) by have h9:=HC.out;rw[hb] at h9;exact h9);clear hb HC hp
    go_upto_region 4 with fail
    go_wp2_with (go_at_fn nf;refine HC2.out.mono ?_;rintro e w7 ⟨rfl,x7⟩)
    go_roundw
    case rel=>exact⟨i,h,rfl,by go_num,om,om,hi1,lh (fun _=>hp2.out),x1.trans x7⟩
    case measure=>simp[intOf];omega
   ·have hb2:p h=false:=by simpa using hb
    have hp2:=lh (hp.out.trans hb2);have HC2:=lh (show Calls Tryz.prog nf #[.int .i64 h,z1,z2] wr (QD (.bool false) wr) by have h9:=HC.out;rw[hb2] at h9;exact h9);clear hb hb2 HC hp
    go_upto_region 4 with fail
    go_wp2_with (go_at_fn nf;refine HC2.out.mono ?_;rintro e w7 ⟨rfl,x7⟩)
    go_roundw
    case rel=>exact⟨h+1,j,by go_num,rfl,om,om,lh (fun _=>hp2.out),hj1,x1.trans x7⟩
    case measure=>simp[intOf];omega
  ·have hltI:¬(i:Int)<j:=om;obtain rfl:i=j:=om
   go_wp2_with fail
   go_ret
   exact⟨i,rfl,om,hi1.out,hj1.out,x1⟩
theorem MS (w:World)(b1 b2 g:Nat)(m:Ma)(hm:V9 w g m)(strt:List Sp)(hst:SL w m.rA m.rc strt)(hrn:m.rn=strt.length)(x:Int)
 (h1:w.cell? ⟨b1,0,none⟩=some (.pointer (some ⟨g,0,none⟩))) (h2:w.cell? ⟨b2,0,none⟩=some (.int .i64 x)) (i:Nat) (hi:i<strt.length) :
 Calls Tryz.prog 168 #[.int .i64 i,.pointer (some ⟨b1,0,none⟩),.pointer (some ⟨b2,0,none⟩)] w (QD (.bool (decide (x<(strt.getD i (0,0)).1))) w):=by
 have hl:=hst.len;obtain⟨sb,so,hA,s1,s2⟩:=hst.get hi;have c1:w.cell? ⟨g,1,none⟩=some (.slice m.rA m.rn m.rc):=hm.blk.cell 1;rw[hA,hrn] at c1;have hgd:strt.getD i (0,0)=strt[i]:=by simp[List.getD_eq_getElem?_getD,hi]
 rw[hgd];have hiI:(i:Int)<strt.length:=om;generalize strt[i]=s at *;obtain⟨lo,cl⟩:=s
 simp only at s1 s2 ⊢
 clear hm hst hA hgd hrn;generalize strt.length=n at *;have j1:=kc0 h1;have j2:=kc0 h2;have j3:=kc0 c1;have j4:=kc0 s1;go_enter Tryz.func168,Tryz.ntmps168
 go_upto_region 1 with fail
 refine Xr.start [] kr ?_;refine Xtk 0 ?_
 iterate 10(refine Xtn ?_)
 refine Xdn fun w4 hE4 hK4=>?_;clear j1 j2 j3 j4
 go_wp2_with fail
 go_ret
 exact⟨rfl,hE4⟩
def jO (strt:List Sp)(x:Int)(k:Nat):Prop:=∀i,i<=strt.length->(∀j (hj:j<strt.length),j<i->strt[j].1<=x)->(∀hj:i<strt.length,x<strt[i].1)->∃h0:i-1<strt.length,0<i/\strt[i-1].2=(k:Int)
theorem eS {strt:List Sp}(hs:strt.Pairwise (fun a b=>a.1<=b.1)){x:Int}{k:Nat}(h:jO strt x k){i:Nat}(hi:i<=strt.length)(h1:0<i->decide (x<(strt.getD (i-1) (0,0)).1)=false)(h2:i<strt.length->decide (x<(strt.getD i (0,0)).1)=true) :
 ∃h0:i-1<strt.length,0<i/\strt[i-1].2=(k:Int):=by
 refine h i hi (fun j hj hji=>?_) (fun hj=>?_)
 ·have h3:=h1 om;have hp:i-1<strt.length:=om;have e:strt.getD (i-1) (0,0)=strt[i-1]:=by simp[List.getD_eq_getElem?_getD,hp]
  rw[e] at h3;have h4:¬x<strt[i-1].1:=by simpa using h3
  rcases Nat.lt_or_ge j (i-1) with h5|h5
  ·have:=List.pairwise_iff_getElem.1 hs j (i-1) hj hp h5;omega
  ·have:j=i-1:=om;subst this;omega
 ·have h3:=h2 hj;have e:strt.getD i (0,0)=strt[i]:=by simp[List.getD_eq_getElem?_getD,hj]
  rw[e] at h3
  simpa using h3
theorem bk:∀args w,(callFunc 168 args).run Tryz.prog w=.ok (.enter 168 args) w:=enters_of Tryz.func168 kr rfl
theorem PZ (w:World)(g:Nat)(m:Ma)(hm:V9 w g m)(strt:List Sp)(hst:SL w m.rA m.rc strt)(hrn:m.rn=strt.length)(hl:strt.length<=1000000)(hs:strt.Pairwise (fun a b=>a.1<=b.1))(x:Int)(k:Nat)(hk:jO strt x k) :
 Calls Tryz.prog 133 #[.pointer (some ⟨g,0,none⟩),.int .i64 x] w (QD (.int .i64 k) w):=by
 obtain⟨B1,B2,xa⟩:=FB w 43 #[.pointer (some ⟨g,0,none⟩)] 3 #[.int .i64 x];have HS:=fun(w':World) (h:Ext ((w.alloc (.cells #[.pointer (some ⟨g,0,none⟩)] 43)).alloc (.cells #[.int .i64 x] 3)) w') i hi=>
  MS w' w.heap.size (w.heap.size+1) g m (hm.ext (xa.trans h)) strt (hst.ext (xa.trans h)) hrn x ((B1.ext h).cell 0) ((B2.ext h).cell 0) i hi
 have HSR:=lh (MR 168 (.pointer (some ⟨w.heap.size,0,none⟩)) (.pointer (some ⟨w.heap.size+1,0,none⟩)) (fun i=>decide (x<(strt.getD i (0,0)).1)) strt.length hl _ bk HS);have HM:=lh hm;have HST:=lh hst;have HK:=lh (fun i hi h1 h2=>eS hs hk (i:=i) hi h1 h2);have hcap:=hst.len;clear hs hk HS hst;have c1:((w.alloc (.cells #[.pointer (some ⟨g,0,none⟩)] 43)).alloc (.cells #[.int .i64 x] 3)).cell? ⟨g,1,none⟩=some (.slice m.rA m.rn m.rc):=(hm.ext xa).blk.cell 1;rw[hrn] at c1;have d1:=B1.cell 0;clear hm hrn;go_enter Tryz.func133,Tryz.ntmps133
 go_upto_region 1 with fail
 generalize (w.alloc (.cells #[.pointer (some ⟨g,0,none⟩)] 43)).alloc (.cells #[.int .i64 x] 3)=w0 at *
 go_upto_region 2 with fail
 refine HSR.out.mono ?_;rintro e w1 ⟨i,rfl,hi,hp1,hp2,x1⟩;obtain⟨h0,hpos,hv⟩:=HK.out i hi hp1 hp2;obtain⟨q,rfl⟩:∃q,i=q+1:=⟨i-1,om⟩;simp only[Nat.add_sub_cancel] at h0 hv;obtain⟨sb,so,hA,s1,s2⟩:=(HST.out.ext (xa.trans x1)).get h0;have e1:=x1.cell c1;have e2:=x1.cell d1;rw[hA] at e1;rw[hv] at s2;have hqI:(q:Int)<strt.length:=om;have hw:IntKind.i64.wrap (((q+1:Nat):Int)-1)=(q:Int):=wj;have X:=xa.trans x1;clear hp1 hp2 HK HSR HST HM B1 B2 hv s1 c1 d1 hA;generalize strt.length=n at *
 go_wp2_with fail
 go_ret
 exact⟨rfl,X⟩
end
section
open Go.RowKit
theorem PJ {l:List Sp}(h:Kk l)(hg:∀s∈l,QH s):OkL l:=fun i hi _=>by
 refine⟨hg _ (List.getElem_mem hi),fun h0=>?_⟩;have h1:i-1<l.length:=om;rw[List.getD_eq_getElem?_getD,List.getElem?_eq_getElem h1];exact List.pairwise_iff_getElem.1 h.2 (i-1) i h1 hi om
theorem WB.sl {w:World}{base c:Nat}{A:Option Addr}{l:List Sp}(h:WB w base A c l)(hg:∀s∈l,QH s):SL w A c l:=
 SL.of_own h (fun s hs=>by have:=hg s hs;unfold QH at this;exact⟨by unfold I64;omega,by unfold I64;omega⟩)
theorem eU:(Tryz.prog.info? 207).map (fun i=>(i.zero,i.size,i.bytes))=some (some (.agg #[.int .i64 0,.int .i64 0]),2,16):=by kernel_rfl
def jP (p:Sp):Prop:=0<=p.1/\p.1<=1114112
def Vj (w:World)(base:Nat)(A:Option Addr)(c:Nat)(l:List Sp):Prop:=QQ w base 207 2 A l.length c (Qz l)
abbrev GE:={ s:Sp // jP s }
instance:Inhabited GE:=⟨⟨(0,0),by unfold jP;simp⟩⟩
def YV (x:GE):List Value:=[.int .i64 x.1.1,.int .i64 x.1.2]
def yK (x y:GE):Int:=x.1.1-y.1.1
theorem ltE (x y:GE):Go.Proofs.ltOf yK x y=decide (x.1.1<y.1.1):=by
 unfold Go.Proofs.ltOf yK;rw[Bool.eq_iff_iff];simp only[decide_eq_true_eq];omega
theorem lL:Go.Sort.SWO (Go.Proofs.ltOf yK) where
 irrefl x:=by rw[ltE];simp
 trans x y z h1 h2:=by rw[ltE] at *;simp at *;omega
 ntrans x y z h1 h2:=by rw[ltE] at *;simp at *;omega
def toE:(l:List Sp)->(∀s∈l,jP s)->List GE
 | [],_=>[]
 | s::l,h=>⟨s,h s si⟩::toE l (fun t ht=>h t (by simp[ht]))
theorem LM:∀(l:List Sp) (h:∀s∈l,jP s),(toE l h).map (·.1)=l
 | [],_=>rfl
 | s::l,h=>by rw[toE,List.map_cons,LM l]
theorem Ak (d:List GE)(j:Nat)(hj:j<d.length*2):(Go.Sort.flatK YV 2 d.toArray)[j]! = (Qz (d.map (·.1)))[j]'(by rw[Q1,List.length_map];exact hj):=by
 rw[Go.Sort.get_flatK _ _ _ _ (by simpa using hj)];have hi:j / 2<d.length:=om;have hi':j / 2<(d.map (·.1)).length:=by simpa using hi
 obtain⟨g1,g2⟩:=ZH (d.map (·.1)) (j / 2) hi';obtain⟨l1,e1⟩:=List.getElem?_eq_some_iff.1 g1;obtain⟨l2,e2⟩:=List.getElem?_eq_some_iff.1 g2;have hd:d.toArray[j / 2]! = d[j / 2]:=by simp[hi]
 rw[hd];rcases Nat.mod_two_eq_zero_or_one j with h0|h1
 ·have e:j=j / 2*2:=om;rw[h0];have:(Qz (d.map (·.1)))[j]'(by rw[Q1,List.length_map];exact hj)=.int .i64 d[j / 2].1.1:=by
   have:=e1
   simp only[<-e] at this;rw[this];simp
  rw[this];rfl
 ·have e:j=j / 2*2+1:=om;rw[h1];have:(Qz (d.map (·.1)))[j]'(by rw[Q1,List.length_map];exact hj)=.int .i64 d[j / 2].1.2:=by
   have:=e2
   simp only[<-e] at this;rw[this];simp
  rw[this];rfl
theorem fQ {w:World}{base c g:Nat}{d:List GE}(h:Vj w base (some ⟨g,0,none⟩) c (d.map (·.1))):Go.Sort.HoldsK YV 2 w g 0 d.toArray:=by
 intro j hj;rw[Go.Sort.size_flatK] at hj;have hj2:j<d.length*2:=by simpa using hj
 have hfl:j<(Qz (d.map (·.1))).length:=by rw[Q1,List.length_map];exact hj2
 obtain⟨g',he,_,h1,h2,_,_⟩:=QQ.store h hfl;injection he with he;injection he with e1 _ _
 subst e1;rw[Nat.zero_add,Ak d j hj2];exact⟨h1,h2⟩
theorem bw {w:World}{base c g n:Nat}{d d':List GE}{os:Array Obj}(h:Vj w base (some ⟨g,0,none⟩) c (d.map (·.1)))(hl:d'.length=d.length) :
 Vj (Go.Proofs.sortWorldK YV 2 w g 0 n d'.toArray os) base (some ⟨g,0,none⟩) c (d'.map (·.1))/\KpP (·=g) w (Go.Proofs.sortWorldK YV 2 w g 0 n d'.toArray os):=by
 rcases h.form with⟨h0,_⟩|⟨g',cur,he,hg,hh,hnc,hcm,hcs,ht⟩
 ·cases h0
 ·injection he with he;injection he with e1 _ _
  subst e1;have hlt:g<w.heap.size:=(Array.getElem?_eq_some_iff.1 hh).1;have hk:KpP (·=g) w (Go.Proofs.sortWorldK YV 2 w g 0 n d'.toArray os):=by
   refine⟨rfl,rfl,rfl,?_,fun k hk hn=>?_⟩
   ·show w.heap.size<=(Array.size (_++os))
    simp[Go.Sort.putRowK,Go.Sort.putRow,Go.Sort.mapBlock,Go.Sort.ahead]
   ·show(_++os)[k]? = _
    have hne:¬g=k:=fun e=>hn e.symm;rw[Array.getElem?_append_left (by simp[Go.Sort.putRowK,Go.Sort.putRow,Go.Sort.mapBlock,Go.Sort.ahead];exact hk)];simp[Go.Sort.putRowK,Go.Sort.putRow,Go.Sort.mapBlock,Go.Sort.ahead,Array.getElem?_modify,hne]
  refine⟨?_,hk⟩;have hb:Blk (Go.Proofs.sortWorldK YV 2 w g 0 n d'.toArray os) g 207 (Go.Sort.putCells id 0 (Go.Sort.flatK YV 2 d'.toArray) cur):=by
   show(_++os)[g]? = _
   rw[Array.getElem?_append_left (by simp[Go.Sort.putRowK,Go.Sort.putRow,Go.Sort.mapBlock,Go.Sort.ahead];exact hlt)];simp[Go.Sort.putRowK,Go.Sort.putRow,Go.Sort.mapBlock,Go.Sort.ahead,Array.getElem?_modify,hh,Go.Sort.onCells]
  have:=QQ.of_blk (n:=(d'.map (·.1)).length) (c:=c) (size:=2) hb hg (by simp[Go.Sort.putCells,hcs]) (by rw[List.length_map] at hnc ⊢;omega) hcm;have e:(Go.Sort.putCells id 0 (Go.Sort.flatK YV 2 d'.toArray) cur).toList.take ((d'.map (·.1)).length*2)=Qz (d'.map (·.1)):=by
   have hsz:d'.length*2<=cur.size:=by rw[hcs];rw[List.length_map] at hnc;omega
   refine List.ext_getElem ?_ (fun j h1 h2=>?_)
   ·rw[List.length_take,Q1];simp[Go.Sort.putCells];omega
   ·have hj:j<d'.length*2:=by rw[Q1,List.length_map] at h2;exact h2
    rw[List.getElem_take];have hjc:j<cur.size:=om;have:(Go.Sort.putCells id 0 (Go.Sort.flatK YV 2 d'.toArray) cur)[j]'(by simpa[Go.Sort.putCells] using hjc)=(Go.Sort.flatK YV 2 d'.toArray)[j]!:=by
     simp only[Go.Sort.putCells,Array.getElem_mapIdx,Go.Sort.size_flatK];rw[if_pos ⟨Nat.zero_le _,by simpa using hj⟩]
     rfl
    rw[Array.getElem_toList,this,Ak d' j hj]
  rw[e] at this;exact this
theorem TK (x y:GE)(W:World):Calls Tryz.prog 157 #[.agg #[.int .i64 x.1.1,.int .i64 x.1.2],.agg #[.int .i64 y.1.1,.int .i64 y.1.2]] W (fun e w'=>e=.returned (.int .i64 (yK x y))/\∃q os',w'=Go.Sort.grow (W.drewN q) os'):=by
 obtain⟨⟨x1,x2⟩,hx⟩:=x;obtain⟨⟨y1,y2⟩,hy⟩:=y;have hx':0<=x1/\x1<=1114112:=hx;have hy':0<=y1/\y1<=1114112:=hy;have hw:IntKind.i64.wrap (x1-y1)=x1-y1:=wj;unfold yK
 simp only
 go_enter Tryz.func157,Tryz.ntmps157
 go_wp2
 go_ret
 exact⟨by rw[<-hw];rfl,0,_,by rw[Go.Sort.alloc_eq_grow,Go.Sort.alloc_eq_grow,Go.Sort.grow_grow];rfl⟩
theorem PK (base g c:Nat)(l:List Sp)(hg:∀s∈l,jP s)(w:World)(hl:Vj w base (some ⟨g,0,none⟩) c l)(hlen:l.length<=1000000) :
 Calls Tryz.prog 156 #[.slice (some ⟨g,0,none⟩) l.length c,.func (.func 157) #[] #[]] w (fun e w'=>e=.returned (.tuple #[])/\∃m:List Sp,l.Perm m/\m.Pairwise (fun s t=>s.1<=t.1)/\m.length=l.length/\Vj w' base (some ⟨g,0,none⟩) c m/\KpP (·=g) w w'):=by
 obtain⟨d,hd⟩:∃d:List GE,d.map (·.1)=l:=⟨toE l hg,LM l hg⟩;subst hd;have eg:∀args w,(callFunc 157 args).run Tryz.prog w=.ok (.enter 157 args) w:=enters_of Tryz.func157 kr rfl;have hcmp:Go.Proofs.CmpLays Tryz.prog 157 #[] YV 2 yK g 0 d.toArray.size w:=fun _ _ _ _ x y=>TK x y _;have hcon:=AnyQ.slices_SortFunc Tryz.sortEnd 2 Tryz.isAgg207 Tryz.sizeOf207 YV (fun _=>rfl) (fun x v hv=>by simp[YV] at hv;rcases hv with rfl|rfl<;>rfl) yK lL 157 #[] g 0 c d.toArray w eg hcmp (fQ hl) ((QQ.blt hl rfl).1) (by rw[List.length_map] at hlen;simp;omega);change Calls Tryz.prog 156 _ _ _ at hcon;have hsz:d.toArray.size=(d.map (·.1)).length:=by simp
 rw[hsz] at hcon;refine hcon.mono ?_;rintro e w' ⟨rfl,d',n,os,hp,hs,rfl⟩;have hps:=hp.1;rw[List.size_toArray] at hps;obtain⟨d2,rfl⟩:∃d2:List GE,d'=d2.toArray:=⟨d'.toList,by simp⟩;replace hps:d2.length=d.length:=by simpa using hps
 have hperm:d2.Perm d:=by
  have:=hp.2.2;rw[List.length_map] at this;have h4:d2.Perm (d.take d2.length):=by simpa[<-hps] using this
  rw[List.take_of_length_le om] at h4;exact h4
 obtain⟨h1,h2⟩:=bw (d':=d2) (n:=n) (os:=os) hl hps;refine⟨rfl,d2.map (·.1),(hperm.symm).map _,?_,by simp[hps],h1,h2⟩;rw[List.pairwise_map,List.pairwise_iff_getElem];intro i j hi hj hij;have h3:=hs i j (Nat.zero_le _) hij (by simp;omega);rw[ltE] at h3;have e1:d2.toArray[j]! = d2[j]:=by simp[hj]
 have e2:d2.toArray[i]! = d2[i]:=by simp[hi]
 rw[e1,e2] at h3;simp at h3;exact h3
end
