/- Texts of this proof: G14 G15 Y4 Y5 Y6 Y7 Y8 Y9 G16 G17 G18 G19. -/
import Derived.Test.YtmpcoifnpflapaaGreatER01
import Derived.Test.YtmpcoifnpflapaaGreatER20
import Derived.Test.YtmpcoifnpflapaaGreatER21
import Derived.Laws.MakeOwn
set_option linter.all false
set_option maxRecDepth 100000
set_option maxHeartbeats 16000000
namespace Go.Proofs.YtmpcoifnpflapaaGreat
section
open Go.RowKit
structure CM (wr:World)(gB gI base:Nat)(bs:List Bool)(ps:List Int)(O:Option Addr)(cO:Nat)(xs:List Sp):Prop where
 bB:Blk wr gB 4 (bs.map Value.bool).toArray
 bI:Blk wr gI 3 (ps.map (Value.int .i64)).toArray
 own:OwnP wr base O cO xs
namespace CM
variable {wr w':World} {gB gI base cO:Nat} {bs:List Bool} {ps:List Int} {O:Option Addr} {xs:List Sp}
end CM
theorem madeCells_one (v:Value)(n:Nat):madeCells #[v] (n*1)=((List.replicate n v)).toArray:=by
 unfold madeCells;refine Array.ext si (fun i h1 h2=>?_);simp[Nat.mod_one]
theorem mkBools (n:Nat)(h:n<=1000000)(W:World):(Instr.makeSlice 81 (.int .i64 (n:Int)) (.int .i64 (n:Int))).run Tryz.prog W=.ok (.slice (some ⟨W.heap.size,0,none⟩) n n) (W.alloc (.cells ((List.replicate n false).map Value.bool).toArray 4)):=by
 obtain⟨i0,hi0,hz0,hz1,hz2⟩:=info_parts infoBl;have:=run_make (P:=Tryz.prog) W 81 4 i0 (.bool false) Tryz.underlying81 hi0 hz0 .i64 .i64 n n om (Int.le_refl _) (by rw[hz2];omega) om;rw[this,hz1];simp only[Int.toNat_natCast,Value.cells];rw[madeCells_one,List.map_replicate]
theorem mkInts (n:Nat)(h:n<=1000000)(W:World):(Instr.makeSlice 22 (.int .i64 (n:Int)) (.int .i64 (n:Int))).run Tryz.prog W=.ok (.slice (some ⟨W.heap.size,0,none⟩) n n) (W.alloc (.cells ((List.replicate n (0:Int)).map (Value.int .i64)).toArray 3)):=by
 obtain⟨i0,hi0,hz0,hz1,hz2⟩:=info_parts infoInt;have:=run_make (P:=Tryz.prog) W 22 3 i0 (.int .i64 0) Tryz.underlying22 hi0 hz0 .i64 .i64 n n om (Int.le_refl _) (by rw[hz2];omega) om;rw[this,hz1];simp only[Int.toNat_natCast,Value.cells];rw[madeCells_one,List.map_replicate]
end
section
open Go.RowKit
attribute [local go_sem ↓] Go.wp_at_zero Go.wp_at_succ
section
variable {P:Program} {ops:Array Oper} {Q:Exit->Act->World->Prop} {L:List Nat} {w0:World}
variable {n:Nat} {KD:List (Nat×Nat)} {Z:List Lz} {I:List (Nat×Nat)} {ls:List Nat} {a:Act} {w:World}
theorem Xr.forkM (js:List Nat)(is:List (Nat×Nat×(Nat->Value)×Nat×Array Value))(hjs:is.map (·.1)=js)(hne:js≠[])
 (hr:(Region.ready .any ops (bits ops.size ls) == js&&KD.all fun x=>!js.contains x.1)=true)
 (ho:∀x∈is,∃o,ops[x.1]? = some o/\Region.wanted o (yielded ops a.tmps)=true/\o.dst=some x.2.1/\∀w',(execOp a.eval o).run P w'=.ok (.value (x.2.2.1 w'.heap.size)) (w'.alloc (.cells x.2.2.2.2 x.2.2.2.1)))
 (h:∀x∈is,∀(w':World) (g:Nat),Ext w w'->Kp L w0 w'->w.heap.size<=g->Blk w' g x.2.2.2.1 x.2.2.2.2->Xr L w0 P ops Q n KD Z ((g,g+1)::I) (x.1::ls) (a.put (some x.2.1) (x.2.2.1 g)) w') :
 Xr L w0 P ops Q (n+1) KD Z I ls a w:=by
 intro hKD;simp only[Bool.and_eq_true,beq_iff_eq] at hr;obtain⟨hr,hZ⟩:=hr;refine⟨fun h0=>?_,fun k hk w' x1 x2=>?_⟩
 ·rw[hr] at h0;exact absurd h0 hne
 rw[hr] at hk;have hk2:=hk
 rw[<-hjs] at hk2;obtain⟨x,hx,rfl⟩:=List.mem_map.1 hk2;obtain⟨o,o1,o2,o3,o4⟩:=ho x hx;have hZk:(KD.all fun y=>y.1 != x.1)=true:=by
  rw[List.all_eq_true] at hZ ⊢;intro y hy;have h1:=hZ y hy;simp only[Bool.not_eq_true',bne_iff_ne,ne_eq] at h1 ⊢;intro e;rw[e,List.contains_iff_mem.2 hk] at h1;cases h1
 (try unfold stepX)
 rw[find_no (kd_find (by rw[hKD];exact hZk))];refine step_of o1 o2 fun K' hK'=>?_;unfold Oper.wp;rw[o4 w'];simp only[Oper.upon];rw[o3];have hE:Ext w' (w'.alloc (.cells x.2.2.2.2 x.2.2.2.1)):=Ext.alloc _ _;refine hK' _ _ ⟨KpP.of_ext hE,x2.ext hE,?_⟩;have h5:=h x hx (w'.alloc (.cells x.2.2.2.2 x.2.2.2.1)) w'.heap.size (x1.trans hE) (x2.ext hE) x1.size (Blk.new _ _ _);rw[bits_set,World.size_alloc];exact h5 hKD
end
theorem infoK:(Tryz.prog.info? 21).map (fun i=>(i.zero,i.size,i.bytes))=some (some (.int .i32 0),1,4):=by kernel_rfl
theorem mkK (n:Nat)(h:n<=1000000)(W:World):(Instr.makeSlice 197 (.int .i64 (n:Int)) (.int .i64 (n:Int))).run Tryz.prog W=.ok (.slice (some ⟨W.heap.size,0,none⟩) n n) (W.alloc (.cells (List.replicate n (.int .i32 0)).toArray 21)):=by
 obtain⟨i0,hi0,hz0,hz1,hz2⟩:=info_parts infoK;have:=run_make (P:=Tryz.prog) W 197 21 i0 (.int .i32 0) Tryz.underlying197 hi0 hz0 .i64 .i64 n n om (Int.le_refl _) (by rw[hz2];omega) om;rw[this,hz1];simp only[Int.toNat_natCast,Value.cells];rw[madeCells_one]
def zeroK (k:Nat):Array Value:=(List.replicate k (.int .i32 0)).toArray
def RetBk (gm N n:Nat)(w:World)(e:Ending)(w':World):Prop:=∃g b1 b2 b3 b4:Nat,e=.returned (.pointer (some ⟨g,0,none⟩))/\Ext w w'/\
 Blk w' g 199 #[.pointer (some ⟨gm,0,none⟩),.int .i64 n,.slice (some ⟨b1,0,none⟩) N N,.slice (some ⟨b2,0,none⟩) N N,.slice (some ⟨b3,0,none⟩) n n,.slice (some ⟨b4,0,none⟩) n n]/\
 Blk w' b1 21 (zeroK N)/\Blk w' b2 21 (zeroK N)/\Blk w' b3 21 (zeroK n)/\Blk w' b4 21 (zeroK n)/\
 (∀b∈[g,b1,b2,b3,b4],w.heap.size<=b)/\[g,b1,b2,b3,b4].Nodup
def NdW (w w':World)(l:List Nat):Prop:=l.Nodup/\∀b∈l,w.heap.size<=b/\b<w'.heap.size
theorem NdW.one {w w':World}{p:Nat}(h:w.heap.size<=p)(h2:p<w'.heap.size):NdW w w' [p]:=⟨by simp,fun b hb=>by
 have:b=p:=(by simpa using hb);omega⟩
theorem NdW.cons {w w1 w2:World}{p:Nat}{l:List Nat}(h:NdW w w1 l)(hw:w.heap.size<=w1.heap.size)(hs:w1.heap.size<=w2.heap.size)(hp:w1.heap.size<=p)(hp2:p<w2.heap.size):NdW w w2 (p::l):=by
 refine⟨List.nodup_cons.2 ⟨fun hm=>?_,h.1⟩,fun b hb=>?_⟩
 ·have:=(h.2 p hm).2;omega
 ·rcases List.mem_cons.1 hb with rfl|hb
  ·omega
  ·have:=h.2 b hb;omega
theorem blank_end {w w4 w5 w6:World}{g N n p3 p5 p7 p9:Nat}{l:List Nat}(hE4:Ext w w4)(B3:Blk w4 p3 21 (zeroK N))(B5:Blk w4 p5 21 (zeroK N))(B7:Blk w4 p7 21 (zeroK n))(B9:Blk w4 p9 21 (zeroK n))
 (hnd:NdW w w4 l) (hl:List.Perm l [p3,p5,p7,p9]) (hE5:Ext w4 w5)
 (hE6:Ext (w5.alloc (.cells #[.pointer (some ⟨g,0,none⟩),.int .i64 n,.slice (some ⟨p3,0,none⟩) N N,.slice (some ⟨p5,0,none⟩) N N,.slice (some ⟨p7,0,none⟩) n n,.slice (some ⟨p9,0,none⟩) n n] 199)) w6) :
 RetBk g N n w (.returned (.pointer (some ⟨w5.heap.size,0,none⟩))) w6:=by
 have x5:=hE5.trans ((Ext.alloc w5 (.cells #[.pointer (some ⟨g,0,none⟩),.int .i64 n,.slice (some ⟨p3,0,none⟩) N N,.slice (some ⟨p5,0,none⟩) N N,.slice (some ⟨p7,0,none⟩) n n,.slice (some ⟨p9,0,none⟩) n n] 199)).trans hE6);have hs:=hE5.size;have hs4:=hE4.size;have hb:∀b∈[p3,p5,p7,p9],w.heap.size<=b/\b<w4.heap.size:=fun b hb=>hnd.2 b (hl.mem_iff.2 hb);refine⟨w5.heap.size,p3,p5,p7,p9,rfl,hE4.trans x5,(Blk.new _ _ _).ext hE6,B3.ext x5,B5.ext x5,B7.ext x5,B9.ext x5,fun b h=>?_,List.nodup_cons.2 ⟨fun hm=>?_,hl.nodup_iff.1 hnd.1⟩⟩
 ·rcases List.mem_cons.1 h with rfl|h
  ·omega
  ·exact(hb b h).1
 ·have:=(hb _ hm).2;omega
theorem bk0 {P:Prop}(h:P:=by
 intro x hx;simp only[List.mem_cons,List.not_mem_nil,or_false] at hx
 (first|(rcases hx with rfl|rfl|rfl|rfl)|(rcases hx with rfl|rfl|rfl)|(rcases hx with rfl|rfl)|(rcases hx with rfl))<;>exact⟨_,rfl,by rfl,rfl,fun w'=>by have hmk:=mkK N hmx w';have hmk2:=mkK n hn w';(first|(go_simp;done)|(go_simp;rfl))⟩):P:=h
theorem bk3 {P:Prop}(h:P:=by
 obtain⟨p3,rfl⟩:∃p,p=gg:=⟨gg,rfl⟩
 try have B5:=B5.ext hE
 try have B7:=B7.ext hE
 try have B9:=B9.ext hE
 have B3:Blk wn p3 21 (zeroK N):=hB
 first|(have hE4a:=hE4;have hE4:=hE4.trans hE;have ND:=lh (NdW.cons ND.out (hE4a.size) hE.size hs B3.lt))|(have hE4:=hE;have ND:Hid (NdW w wn [p3]):=lh (NdW.one hs B3.lt))
 clear hE hK hs hB;refine ptm ?_;exact bkN):P:=h
theorem bk5 {P:Prop}(h:P:=by
 obtain⟨p5,rfl⟩:∃p,p=gg:=⟨gg,rfl⟩
 try have B3:=B3.ext hE
 try have B7:=B7.ext hE
 try have B9:=B9.ext hE
 have B5:Blk wn p5 21 (zeroK N):=hB
 first|(have hE4a:=hE4;have hE4:=hE4.trans hE;have ND:=lh (NdW.cons ND.out (hE4a.size) hE.size hs B5.lt))|(have hE4:=hE;have ND:Hid (NdW w wn [p5]):=lh (NdW.one hs B5.lt))
 clear hE hK hs hB;refine ptm ?_;exact bkN):P:=h
theorem bk7 {P:Prop}(h:P:=by
 obtain⟨p7,rfl⟩:∃p,p=gg:=⟨gg,rfl⟩
 try have B3:=B3.ext hE
 try have B5:=B5.ext hE
 try have B9:=B9.ext hE
 have B7:Blk wn p7 21 (zeroK n):=hB
 first|(have hE4a:=hE4;have hE4:=hE4.trans hE;have ND:=lh (NdW.cons ND.out (hE4a.size) hE.size hs B7.lt))|(have hE4:=hE;have ND:Hid (NdW w wn [p7]):=lh (NdW.one hs B7.lt))
 clear hE hK hs hB;refine ptm ?_;exact bkN):P:=h
theorem bk9 {P:Prop}(h:P:=by
 obtain⟨p9,rfl⟩:∃p,p=gg:=⟨gg,rfl⟩
 try have B3:=B3.ext hE
 try have B5:=B5.ext hE
 try have B7:=B7.ext hE
 have B9:Blk wn p9 21 (zeroK n):=hB
 first|(have hE4a:=hE4;have hE4:=hE4.trans hE;have ND:=lh (NdW.cons ND.out (hE4a.size) hE.size hs B9.lt))|(have hE4:=hE;have ND:Hid (NdW w wn [p9]):=lh (NdW.one hs B9.lt))
 clear hE hK hs hB;refine ptm ?_;exact bkN):P:=h
theorem bkN {P:Prop}(h:P:=by
 first
  | (refine Xr.forkM [3,5,7,9] [(3,14,fun g=>.slice (some ⟨g,0,none⟩) N N,21,zeroK N),(5,16,fun g=>.slice (some ⟨g,0,none⟩) N N,21,zeroK N),(7,18,fun g=>.slice (some ⟨g,0,none⟩) n n,21,zeroK n),(9,20,fun g=>.slice (some ⟨g,0,none⟩) n n,21,zeroK n)] rfl de dK ?_ ?_;exact bk0;intro x hx wn gg hE hK hs hB;simp only[List.mem_cons,List.not_mem_nil,or_false] at hx;rcases hx with rfl|rfl|rfl|rfl;exact bk3;exact bk5;exact bk7;exact bk9)
  | (refine Xr.forkM [3,5,7] [(3,14,fun g=>.slice (some ⟨g,0,none⟩) N N,21,zeroK N),(5,16,fun g=>.slice (some ⟨g,0,none⟩) N N,21,zeroK N),(7,18,fun g=>.slice (some ⟨g,0,none⟩) n n,21,zeroK n)] rfl de dK ?_ ?_;exact bk0;intro x hx wn gg hE hK hs hB;simp only[List.mem_cons,List.not_mem_nil,or_false] at hx;rcases hx with rfl|rfl|rfl;exact bk3;exact bk5;exact bk7)
  | (refine Xr.forkM [3,5,9] [(3,14,fun g=>.slice (some ⟨g,0,none⟩) N N,21,zeroK N),(5,16,fun g=>.slice (some ⟨g,0,none⟩) N N,21,zeroK N),(9,20,fun g=>.slice (some ⟨g,0,none⟩) n n,21,zeroK n)] rfl de dK ?_ ?_;exact bk0;intro x hx wn gg hE hK hs hB;simp only[List.mem_cons,List.not_mem_nil,or_false] at hx;rcases hx with rfl|rfl|rfl;exact bk3;exact bk5;exact bk9)
  | (refine Xr.forkM [3,7,9] [(3,14,fun g=>.slice (some ⟨g,0,none⟩) N N,21,zeroK N),(7,18,fun g=>.slice (some ⟨g,0,none⟩) n n,21,zeroK n),(9,20,fun g=>.slice (some ⟨g,0,none⟩) n n,21,zeroK n)] rfl de dK ?_ ?_;exact bk0;intro x hx wn gg hE hK hs hB;simp only[List.mem_cons,List.not_mem_nil,or_false] at hx;rcases hx with rfl|rfl|rfl;exact bk3;exact bk7;exact bk9)
  | (refine Xr.forkM [5,7,9] [(5,16,fun g=>.slice (some ⟨g,0,none⟩) N N,21,zeroK N),(7,18,fun g=>.slice (some ⟨g,0,none⟩) n n,21,zeroK n),(9,20,fun g=>.slice (some ⟨g,0,none⟩) n n,21,zeroK n)] rfl de dK ?_ ?_;exact bk0;intro x hx wn gg hE hK hs hB;simp only[List.mem_cons,List.not_mem_nil,or_false] at hx;rcases hx with rfl|rfl|rfl;exact bk5;exact bk7;exact bk9)
  | (refine Xr.forkM [3,5] [(3,14,fun g=>.slice (some ⟨g,0,none⟩) N N,21,zeroK N),(5,16,fun g=>.slice (some ⟨g,0,none⟩) N N,21,zeroK N)] rfl de dK ?_ ?_;exact bk0;intro x hx wn gg hE hK hs hB;simp only[List.mem_cons,List.not_mem_nil,or_false] at hx;rcases hx with rfl|rfl;exact bk3;exact bk5)
  | (refine Xr.forkM [3,7] [(3,14,fun g=>.slice (some ⟨g,0,none⟩) N N,21,zeroK N),(7,18,fun g=>.slice (some ⟨g,0,none⟩) n n,21,zeroK n)] rfl de dK ?_ ?_;exact bk0;intro x hx wn gg hE hK hs hB;simp only[List.mem_cons,List.not_mem_nil,or_false] at hx;rcases hx with rfl|rfl;exact bk3;exact bk7)
  | (refine Xr.forkM [3,9] [(3,14,fun g=>.slice (some ⟨g,0,none⟩) N N,21,zeroK N),(9,20,fun g=>.slice (some ⟨g,0,none⟩) n n,21,zeroK n)] rfl de dK ?_ ?_;exact bk0;intro x hx wn gg hE hK hs hB;simp only[List.mem_cons,List.not_mem_nil,or_false] at hx;rcases hx with rfl|rfl;exact bk3;exact bk9)
  | (refine Xr.forkM [5,7] [(5,16,fun g=>.slice (some ⟨g,0,none⟩) N N,21,zeroK N),(7,18,fun g=>.slice (some ⟨g,0,none⟩) n n,21,zeroK n)] rfl de dK ?_ ?_;exact bk0;intro x hx wn gg hE hK hs hB;simp only[List.mem_cons,List.not_mem_nil,or_false] at hx;rcases hx with rfl|rfl;exact bk5;exact bk7)
  | (refine Xr.forkM [5,9] [(5,16,fun g=>.slice (some ⟨g,0,none⟩) N N,21,zeroK N),(9,20,fun g=>.slice (some ⟨g,0,none⟩) n n,21,zeroK n)] rfl de dK ?_ ?_;exact bk0;intro x hx wn gg hE hK hs hB;simp only[List.mem_cons,List.not_mem_nil,or_false] at hx;rcases hx with rfl|rfl;exact bk5;exact bk9)
  | (refine Xr.forkM [7,9] [(7,18,fun g=>.slice (some ⟨g,0,none⟩) n n,21,zeroK n),(9,20,fun g=>.slice (some ⟨g,0,none⟩) n n,21,zeroK n)] rfl de dK ?_ ?_;exact bk0;intro x hx wn gg hE hK hs hB;simp only[List.mem_cons,List.not_mem_nil,or_false] at hx;rcases hx with rfl|rfl;exact bk7;exact bk9)
  | (refine Xr.forkM [3] [(3,14,fun g=>.slice (some ⟨g,0,none⟩) N N,21,zeroK N)] rfl de dK ?_ ?_;exact bk0;intro x hx wn gg hE hK hs hB;simp only[List.mem_cons,List.not_mem_nil,or_false] at hx;rcases hx with rfl;exact bk3)
  | (refine Xr.forkM [5] [(5,16,fun g=>.slice (some ⟨g,0,none⟩) N N,21,zeroK N)] rfl de dK ?_ ?_;exact bk0;intro x hx wn gg hE hK hs hB;simp only[List.mem_cons,List.not_mem_nil,or_false] at hx;rcases hx with rfl;exact bk5)
  | (refine Xr.forkM [7] [(7,18,fun g=>.slice (some ⟨g,0,none⟩) n n,21,zeroK n)] rfl de dK ?_ ?_;exact bk0;intro x hx wn gg hE hK hs hB;simp only[List.mem_cons,List.not_mem_nil,or_false] at hx;rcases hx with rfl;exact bk7)
  | (refine Xr.forkM [9] [(9,20,fun g=>.slice (some ⟨g,0,none⟩) n n,21,zeroK n)] rfl de dK ?_ ?_;exact bk0;intro x hx wn gg hE hK hs hB;simp only[List.mem_cons,List.not_mem_nil,or_false] at hx;rcases hx with rfl;exact bk9)
  | (exact bkL)):P:=h
theorem bkL {P:Prop}(h:P:=by
 refine Xtk 10 ?_;refine Xcl 11 fun w5 hE5 hK5 K hKK=>?_;go_simp;refine hKK _ _ (Ext.alloc _ _) ?_;clear hKK;refine ptm ?_;refine Xtk 12 ?_;refine Xdn fun w6 hE6 hK6=>?_;have FIN:=lh (blank_end hE4 B3 B5 B7 B9 ND.out (by first|exact List.Perm.refl _|(simp only[List.perm_iff_count,List.count_cons,List.count_nil];intro b;omega)) hE5 hE6);clear ND B3 B5 B7 B9 hE4 hE5 hE6 hK5 hK6 c3
 go_wp2_with fail
 go_ret
 exact FIN.out):P:=h
theorem blank_any (w:World)(g:Nat)(m:Ma)(nc:Nat)(hm:MaAt w g m)(ok:MaOk nc m)(n:Nat)(hn:n<=1000000) :
 Calls Tryz.prog 170 #[.pointer (some ⟨g,0,none⟩),.int .i64 n] w (RetBk g m.next.length n w):=by
 have hmx:=ok.len;have c3:w.cell? ⟨g,3,none⟩=some (.slice m.nA m.next.length m.nc):=hm.blk.cell 3;have hnl:=hm.nx.len;clear hm ok;generalize m.next.length=N at *;go_enter Tryz.func170,Tryz.ntmps170
 go_upto_region 2 with fail
 refine Xr.start [] kr ?_;refine Xtk 0 ?_
 iterate 2(refine Xtn ?_)
 refine Xtk 4 ?_;refine Xtk 6 ?_;refine Xtk 8 ?_;exact bkN
end
section
open Go.RowKit
def nxF (rows:List (List Int))(s:Int)(c:Nat):Int:=(rows.getD s.toNat []).getD c 0
def dmF (dn:List Bool)(s:Int):Bool:=dn.getD s.toNat false
def natsI (l:List Nat):List Int:=l.map (fun c:Nat=>(c:Int))
theorem natsI_len (l:List Nat):(natsI l).length=l.length:=by simp[natsI]
theorem runP_runM (rows:List (List Int))(dn:List Bool):∀(l:List Nat) (k:Nat) (s la:Int),runP rows dn (natsI l) k s la=runM (nxF rows) (dmF dn) l k s la
 | [],_,_,_=>rfl
 | c::r,k,s,la=>by
  show runP rows dn ((c:Int)::natsI r) k s la=_
  unfold runP runM;by_cases h:s = -1
  ·rw[if_pos h,if_pos h]
  ·rw[if_neg h,if_neg h,runP_runM rows dn r];have e:((c:Int)).toNat=c:=om;rw[e]
   rfl
def Ma.nx (m:Ma):Int->Nat->Int:=nxF (rowsOf m.next)
def Ma.dn (m:Ma):Int->Bool:=dmF m.done
theorem MaOk.nx_rng {nc:Nat}{m:Ma}(ok:MaOk nc m){s:Int}{c:Nat}(h0 : -1<s)(h1:s<m.next.length)(hc:c<nc) : -1<=m.nx s c/\m.nx s c<m.next.length:=by
 obtain⟨k,rfl⟩:∃k:Nat,s=k:=⟨s.toNat,om⟩;have hk:k<m.next.length:=om;have hr:=ok.row _ (List.getElem_mem hk);have hkc:c<m.next[k].l.length:=om;have e:m.nx (k:Int) c=m.next[k].l[c]:=by
  simp[Ma.nx,nxF,rowsOf,List.getD_eq_getElem?_getD,hk,hkc]
 rw[e];exact ok.rng _ (List.getElem_mem hk) _ (List.getElem_mem hkc)
theorem MaOk.run_rng {nc:Nat}{m:Ma}(ok:MaOk nc m):∀(l:List Nat) (k:Nat) (s la:Int),-1<=s->s<m.next.length->(∀c∈l,c<nc)->
 -1<=(runM m.nx m.dn l k s la).1/\(runM m.nx m.dn l k s la).1<m.next.length
 | [],_,s,_,h0,h1,_=>⟨h0,h1⟩
 | c::r,k,s,la,h0,h1,hl=>by
  unfold runM;by_cases h:s = -1
  ·rw[if_pos h];exact⟨h0,h1⟩
  ·rw[if_neg h];have:=ok.nx_rng (s:=s) (c:=c) om h1 (hl c si);exact MaOk.run_rng ok r (k+1) _ _ this.1 this.2 (fun x hx=>hl x (by simp[hx]))
theorem runM_lo (nx:Int->Nat->Int)(dn:Int->Bool)(l:List Nat)(k:Nat)(s a:Int)(h : -1<=a)(h2:a<=(k+l.length:Nat)) : -1<=(runM nx dn l k s a).2/\(runM nx dn l k s a).2<=(k+l.length:Nat):=by
 rcases runM_last nx dn l k s a with e|e
 ·rw[e];omega
 ·omega
def tgF (m:Ma)(cl:List Nat)(i:Nat):Int:=(toS m.nx m.dn cl i).1
def laF (m:Ma)(cl:List Nat)(i:Nat):Int:=(toS m.nx m.dn cl i).2
def stF (m:Ma)(cl:List Nat)(k:Nat):Int:=(enS m.nx m.dn m.first cl k).1
def enF (m:Ma)(cl:List Nat)(k:Nat):Int:=(enS m.nx m.dn m.first cl k).2
def upF (f:Nat->Int)(n:Nat):List Int:=(List.range n).map f
theorem upF_len (f:Nat->Int)(n:Nat):(upF f n).length=n:=by simp[upF]
theorem upF_get (f:Nat->Int)(n i:Nat)(h:i<(upF f n).length):(upF f n)[i]=f i:=by simp[upF]
theorem upF_getD (f:Nat->Int)(n i:Nat)(h:i<n):(upF f n).getD i 0=f i:=by simp[upF,List.getD_eq_getElem?_getD,h]
theorem upF_mem {f:Nat->Int}{n:Nat}{x:Int}(h:x∈upF f n):∃i,i<n/\x=f i:=by
 obtain⟨i,hi,rfl⟩:=List.mem_map.1 h;exact⟨i,List.mem_range.1 hi,rfl⟩
theorem upF_congr {f f':Nat->Int}{n:Nat}(h:∀i,i<n->f i=f' i):upF f n=upF f' n:=by
 unfold upF;exact List.map_congr_left (fun i hi=>h i (List.mem_range.1 hi))
structure SumOf (m:Ma)(g:Nat)(cl:List Nat)(s:Sm):Prop where
 mch:s.m=g
 len:s.len=cl.length
 tg:s.tg=upF (tgF m cl) m.next.length
 last:s.last=upF (laF m cl) m.next.length
 st:s.st=upF (stF m cl) cl.length
 en:s.en=upF (enF m cl) cl.length
section
variable {m:Ma} {nc:Nat} {cl:List Nat}
theorem tgF_rng (ok:MaOk nc m)(hc:∀c∈cl,c<nc){i:Nat}(hi:i<m.next.length) : -1<=tgF m cl i/\tgF m cl i<m.next.length:=ok.run_rng cl 0 i (-1) om om hc
theorem laF_rng (i:Nat) : -1<=laF m cl i/\laF m cl i<=cl.length:=by
 have:=runM_lo m.nx m.dn cl 0 i (-1) om om;unfold laF toS;omega
theorem stF_rng (ok:MaOk nc m)(hc:∀c∈cl,c<nc)(k:Nat) : -1<=stF m cl k/\stF m cl k<m.next.length:=ok.run_rng (cl.drop k) k m.first _ ok.first.1 ok.first.2 (fun c h=>hc c (List.mem_of_mem_drop h))
theorem iniL_rng (dn:Int->Bool)(f:Int)(k:Nat) : -1<=iniL dn f k/\iniL dn f k<=k:=by
 unfold iniL;split<;>omega
theorem enF_rng {k:Nat}(hk:k<=cl.length) : -1<=enF m cl k/\enF m cl k<=cl.length:=by
 have h0:=iniL_rng m.dn m.first k;have hl:(cl.drop k).length=cl.length-k:=List.length_drop;have:=runM_lo m.nx m.dn (cl.drop k) k m.first (iniL m.dn m.first k) om om;unfold enF enS;rw[hl] at this;omega
end
theorem aftG_aftS (m:Ma)(nc:Nat)(ok:MaOk nc m)(a b:List Nat)(st la:Int)(h0 : -1<=st)(h1:st<m.next.length) :
 aftG a.length (upF (tgF m b) m.next.length) (upF (laF m b) m.next.length) st la=aftS a.length (toS m.nx m.dn b) (st,la):=by
 unfold aftG aftS;by_cases h:st = -1
 ·rw[if_pos h,if_pos h]
 ·rw[if_neg h,if_neg h];obtain⟨k,rfl⟩:∃k:Nat,st=k:=⟨st.toNat,om⟩;have e:((k:Int)).toNat=k:=om;have hk:k<m.next.length:=om;rw[e,upF_getD _ _ _ hk,upF_getD _ _ _ hk]
  rfl
theorem tgF_join (m:Ma)(nc:Nat)(ok:MaOk nc m)(a b:List Nat)(ha:∀c∈a,c<nc){i:Nat}(hi:i<m.next.length) :
 aftG a.length (upF (tgF m b) m.next.length) (upF (laF m b) m.next.length) (tgF m a i) (laF m a i)=(tgF m (a++b) i,laF m (a++b) i):=by
 have h:=tgF_rng ok ha hi;rw[aftG_aftS m nc ok a b _ _ h.1 h.2]
 show aftS a.length (toS m.nx m.dn b) (toS m.nx m.dn a i)=toS m.nx m.dn (a++b) i
 rw[toS_join]
theorem stF_join (m:Ma)(nc:Nat)(ok:MaOk nc m)(a b:List Nat)(ha:∀c∈a,c<nc){k:Nat}(hk:k<=a.length) :
 aftG a.length (upF (tgF m b) m.next.length) (upF (laF m b) m.next.length) (stF m a k) (enF m a k)=(stF m (a++b) k,enF m (a++b) k):=by
 have h:=stF_rng ok ha k;rw[aftG_aftS m nc ok a b _ _ h.1 h.2]
 show aftS a.length (toS m.nx m.dn b) (enS m.nx m.dn m.first a k)=enS m.nx m.dn m.first (a++b) k
 rw[enS_join_left _ _ _ _ _ hk]
theorem stF_right (m:Ma)(a b:List Nat)(j:Nat):stF m (a++b) (a.length+j)=stF m b j/\enF m (a++b) (a.length+j)=(if enF m b j = -1 then -1 else a.length+enF m b j):=by
 have:=enS_join_right m.nx m.dn m.first a b (j:=j);exact⟨by unfold stF;rw[this],by unfold enF;rw[this]⟩
def upTo (f:Nat->Int)(i n:Nat):List Int:=upF (fun j=>if j<i then f j else 0) n
theorem upTo_zero (f:Nat->Int)(n:Nat):upTo f 0 n=List.replicate n 0:=by
 apply List.ext_getElem
 ·simp[upTo,upF]
 ·intro j h1 h2;simp[upTo,upF]
theorem upTo_all (f:Nat->Int)(i n:Nat)(h:n<=i):upTo f i n=upF f n:=upF_congr (fun j hj=>by rw[if_pos om])
theorem upTo_set (f:Nat->Int)(i n:Nat):(upTo f i n).set i (f i)=upTo f (i+1) n:=by
 apply List.ext_getElem
 ·simp[upTo,upF]
 ·intro j h1 h2;rw[List.getElem_set];simp only[upTo,upF,List.getElem_map,List.getElem_range];by_cases h:i=j
  ·subst h;simp
  ·rw[if_neg h];by_cases h3:j<i
   ·rw[if_pos h3,if_pos om]
   ·rw[if_neg h3,if_neg om]
def kInts (l:List Int):Array Value:=(l.map (Value.int .i32)).toArray
theorem kInts_zero (n:Nat):kInts (List.replicate n 0)=zeroK n:=by simp[kInts,zeroK]
theorem kInts_set (l:List Int)(i:Nat)(x:Int):(kInts l).setIfInBounds i (.int .i32 x)=kInts (l.set i x):=by
 simp[kInts,List.map_set]
theorem KL.of_blk {w:World}{g T:Nat}{l:List Int}(h:Blk w g T (kInts l))(hr:∀x∈l,I32 x)(hm:l.length<=maxLen):KL w (some ⟨g,0,none⟩) l.length l:=
 ⟨Nat.le_refl _,hm,hr,fun _=>⟨g,0,rfl,fun i hi=>by
  rw[h.cell];simp[kInts,hi]⟩⟩
theorem Blk.cellK {w:World}{g T:Nat}{l:List Int}(h:Blk w g T (kInts l)){i:Nat}(hi:i<l.length):w.cell? ⟨g,i,none⟩=some (.int .i32 l[i]):=by
 rw[h.cell];simp[kInts,hi]
end
section
open Go.RowKit
attribute [local go_sem ↓] Go.wp_at_zero Go.wp_at_succ
def RetSrch (n:Nat)(p:Nat->Bool)(w:World)(e:Ending)(w':World):Prop:=∃i:Nat,e=.returned (.int .i64 i)/\i<=n/\(0<i->p (i-1)=false)/\(i<n->p i=true)/\Ext w w'
theorem half_shr (s:Nat)(h:s<=2000000):(IntKind.i64.wrap ((IntKind.u64.wrap (s:Int)) / 2))=((s / 2:Nat):Int):=by
 rw[IntKind.wrap_i64,IntKind.wrap_u64];omega
theorem search_any (nf:Nat)(z1 z2:Value)(p:Nat->Bool)(n:Nat)(hn:n<=1000000)(w:World)(eg:∀args w,(callFunc nf args).run Tryz.prog w=.ok (.enter nf args) w)
 (H:∀w',Ext w w'->∀i:Nat,i<n->Calls Tryz.prog nf #[.int .i64 i,z1,z2] w' (RetV (.bool (p i)) w')) :
 Calls Tryz.prog 202 #[.int .i64 n,.func (.func nf) #[] #[z1,z2]] w (RetSrch n p w):=by
 have HH:=lh H;clear H;go_enter Tryz.func202,Tryz.ntmps202
 go_upto_region 2 with fail
 go_loopw [5,6] (fun v5 v6 wr=>∃i j:Nat,v5=.int .i64 i/\v6=.int .i64 j/\i<=j/\j<=n/\Hid (0<i->p (i-1)=false)/\Hid (j<n->p j=true)/\Ext w wr) (fun v5 v6 _=>(intOf v6-intOf v5).toNat)
 case atStart=>exact⟨0,n,rfl,rfl,om,om,lh (fun h=>om),lh (fun h=>om),Ext.rfl' _⟩
 case round=>
  obtain⟨i,j,rfl,rfl,hij,hj,hi1,hj1,x1⟩:=hrel;by_cases hlt:i<j
  ·have hltI:(i:Int)<j:=om;obtain⟨s,hs⟩:∃s:Nat,s=i+j:=⟨_,rfl⟩;obtain⟨h,hh⟩:∃h:Nat,h=s / 2:=⟨_,rfl⟩;have hih:i<=h/\h<j:=om;have hsum:IntKind.i64.wrap ((i:Int)+j)=(s:Int):=wj;have hsh:=half_shr s om
   rw[<-hh] at hsh;have HC:=lh (HH.out wr x1 h om);have hw1:IntKind.i64.wrap ((h:Int)+1)=((h+1:Nat):Int):=wj;have hp:Hid (p (h+1-1)=p h):=lh si;have HP:=lh hh;clear hh hs;by_cases hb:p h=true
   ·have hp2:=lh hb;have HC2:=lh (show Calls Tryz.prog nf #[.int .i64 h,z1,z2] wr (RetV (.bool true) wr) by have h9:=HC.out;rw[hb] at h9;exact h9);clear hb HC hp
    go_upto_region 4 with fail
    go_wp2_with (go_at_fn nf;refine HC2.out.mono ?_;rintro e w7 ⟨rfl,x7⟩)
    go_roundw
    case rel=>exact⟨i,h,rfl,by go_num,om,om,hi1,lh (fun _=>hp2.out),x1.trans x7⟩
    case measure=>simp[intOf];omega
   ·have hb2:p h=false:=by simpa using hb
    have hp2:=lh (hp.out.trans hb2);have HC2:=lh (show Calls Tryz.prog nf #[.int .i64 h,z1,z2] wr (RetV (.bool false) wr) by have h9:=HC.out;rw[hb2] at h9;exact h9);clear hb hb2 HC hp
    go_upto_region 4 with fail
    go_wp2_with (go_at_fn nf;refine HC2.out.mono ?_;rintro e w7 ⟨rfl,x7⟩)
    go_roundw
    case rel=>exact⟨h+1,j,by go_num,rfl,om,om,lh (fun _=>hp2.out),hj1,x1.trans x7⟩
    case measure=>simp[intOf];omega
  ·have hltI:¬(i:Int)<j:=om;obtain rfl:i=j:=om
   go_wp2_with fail
   go_ret
   exact⟨i,rfl,om,hi1.out,hj1.out,x1⟩
theorem classC_any (w:World)(b1 b2 g:Nat)(m:Ma)(hm:MaAt w g m)(strt:List Sp)(hst:SL w m.rA m.rc strt)(hrn:m.rn=strt.length)(x:Int)
 (h1:w.cell? ⟨b1,0,none⟩=some (.pointer (some ⟨g,0,none⟩))) (h2:w.cell? ⟨b2,0,none⟩=some (.int .i64 x)) (i:Nat) (hi:i<strt.length) :
 Calls Tryz.prog 203 #[.int .i64 i,.pointer (some ⟨b1,0,none⟩),.pointer (some ⟨b2,0,none⟩)] w (RetV (.bool (decide (x<(strt.getD i (0,0)).1))) w):=by
 have hl:=hst.len;obtain⟨sb,so,hA,s1,s2⟩:=hst.get hi;have c1:w.cell? ⟨g,1,none⟩=some (.slice m.rA m.rn m.rc):=hm.blk.cell 1;rw[hA,hrn] at c1;have hgd:strt.getD i (0,0)=strt[i]:=by simp[List.getD_eq_getElem?_getD,hi]
 rw[hgd];have hiI:(i:Int)<strt.length:=om;generalize strt[i]=s at *;obtain⟨lo,cl⟩:=s
 simp only at s1 s2 ⊢
 clear hm hst hA hgd hrn;generalize strt.length=n at *;have j1:=kc0 h1;have j2:=kc0 h2;have j3:=kc0 c1;have j4:=kc0 s1;go_enter Tryz.func203,Tryz.ntmps203
 go_upto_region 1 with fail
 refine Xr.start [] kr ?_;refine Xtk 0 ?_
 iterate 10(refine Xtn ?_)
 refine Xdn fun w4 hE4 hK4=>?_;clear j1 j2 j3 j4
 go_wp2_with fail
 go_ret
 exact⟨rfl,hE4⟩
def ClsAt (strt:List Sp)(x:Int)(k:Nat):Prop:=∀i,i<=strt.length->(∀j (hj:j<strt.length),j<i->strt[j].1<=x)->(∀hj:i<strt.length,x<strt[i].1)->∃h0:i-1<strt.length,0<i/\strt[i-1].2=(k:Int)
theorem cls_of {strt:List Sp}(hs:strt.Pairwise (fun a b=>a.1<=b.1)){x:Int}{k:Nat}(h:ClsAt strt x k){i:Nat}(hi:i<=strt.length)(h1:0<i->decide (x<(strt.getD (i-1) (0,0)).1)=false)(h2:i<strt.length->decide (x<(strt.getD i (0,0)).1)=true) :
 ∃h0:i-1<strt.length,0<i/\strt[i-1].2=(k:Int):=by
 refine h i hi (fun j hj hji=>?_) (fun hj=>?_)
 ·have h3:=h1 om;have hp:i-1<strt.length:=om;have e:strt.getD (i-1) (0,0)=strt[i-1]:=by simp[List.getD_eq_getElem?_getD,hp]
  rw[e] at h3;have h4:¬x<strt[i-1].1:=by simpa using h3
  rcases Nat.lt_or_ge j (i-1) with h5|h5
  ·have:=List.pairwise_iff_getElem.1 hs j (i-1) hj hp h5;omega
  ·have:j=i-1:=om;subst this;omega
 ·have h3:=h2 hj;have e:strt.getD i (0,0)=strt[i]:=by simp[List.getD_eq_getElem?_getD,hj]
  rw[e] at h3
  simpa using h3
theorem egClass:∀args w,(callFunc 203 args).run Tryz.prog w=.ok (.enter 203 args) w:=enters_of Tryz.func203 kr rfl
theorem class_any (w:World)(g:Nat)(m:Ma)(hm:MaAt w g m)(strt:List Sp)(hst:SL w m.rA m.rc strt)(hrn:m.rn=strt.length)(hl:strt.length<=1000000)(hs:strt.Pairwise (fun a b=>a.1<=b.1))(x:Int)(k:Nat)(hk:ClsAt strt x k) :
 Calls Tryz.prog 172 #[.pointer (some ⟨g,0,none⟩),.int .i64 x] w (RetV (.int .i64 k) w):=by
 obtain⟨B1,B2,xa⟩:=alloc2 w 37 #[.pointer (some ⟨g,0,none⟩)] 3 #[.int .i64 x];have HS:=fun(w':World) (h:Ext ((w.alloc (.cells #[.pointer (some ⟨g,0,none⟩)] 37)).alloc (.cells #[.int .i64 x] 3)) w') i hi=>
  classC_any w' w.heap.size (w.heap.size+1) g m (hm.ext (xa.trans h)) strt (hst.ext (xa.trans h)) hrn x ((B1.ext h).cell 0) ((B2.ext h).cell 0) i hi
 have HSR:=lh (search_any 203 (.pointer (some ⟨w.heap.size,0,none⟩)) (.pointer (some ⟨w.heap.size+1,0,none⟩)) (fun i=>decide (x<(strt.getD i (0,0)).1)) strt.length hl _ egClass HS);have HM:=lh hm;have HST:=lh hst;have HK:=lh (fun i hi h1 h2=>cls_of hs hk (i:=i) hi h1 h2);have hcap:=hst.len;clear hs hk HS hst;have c1:((w.alloc (.cells #[.pointer (some ⟨g,0,none⟩)] 37)).alloc (.cells #[.int .i64 x] 3)).cell? ⟨g,1,none⟩=some (.slice m.rA m.rn m.rc):=(hm.ext xa).blk.cell 1;rw[hrn] at c1;have d1:=B1.cell 0;clear hm hrn;go_enter Tryz.func172,Tryz.ntmps172
 go_upto_region 1 with fail
 generalize (w.alloc (.cells #[.pointer (some ⟨g,0,none⟩)] 37)).alloc (.cells #[.int .i64 x] 3)=w0 at *
 go_upto_region 2 with fail
 refine HSR.out.mono ?_;rintro e w1 ⟨i,rfl,hi,hp1,hp2,x1⟩;obtain⟨h0,hpos,hv⟩:=HK.out i hi hp1 hp2;obtain⟨q,rfl⟩:∃q,i=q+1:=⟨i-1,om⟩;simp only[Nat.add_sub_cancel] at h0 hv;obtain⟨sb,so,hA,s1,s2⟩:=(HST.out.ext (xa.trans x1)).get h0;have e1:=x1.cell c1;have e2:=x1.cell d1;rw[hA] at e1;rw[hv] at s2;have hqI:(q:Int)<strt.length:=om;have hw:IntKind.i64.wrap (((q+1:Nat):Int)-1)=(q:Int):=wj;have X:=xa.trans x1;clear hp1 hp2 HK HSR HST HM B1 B2 hv s1 c1 d1 hA;generalize strt.length=n at *
 go_wp2_with fail
 go_ret
 exact⟨rfl,X⟩
structure MachAt (w:World)(g:Nat)(m:Ma)(nc:Nat)(strt:List Sp):Prop where
 at_:MaAt w g m
 ok:MaOk nc m
 st:SL w m.rA m.rc strt
 rn:m.rn=strt.length
 sl:strt.length<=1000000
 srt:strt.Pairwise (fun a b=>a.1<=b.1)
 ol:m.opn.length=m.next.length
 ncl:nc<=1000000
theorem MachAt.ext {w w':World}{g nc:Nat}{m:Ma}{strt:List Sp}(h:MachAt w g m nc strt)(k:Ext w w'):MachAt w' g m nc strt:=⟨h.at_.ext k,h.ok,h.st.ext k,h.rn,h.sl,h.srt,h.ol,h.ncl⟩
def SymsOk (strt:List Sp)(nc:Nat)(cf:Int->Nat)(ts:List Int):Prop:=∀x∈ts,ClsAt strt x (cf x)/\cf x<nc
def RetSum (m:Ma)(g:Nat)(cl:List Nat)(w:World)(e:Ending)(w':World):Prop:=∃(gs:Nat) (s:Sm),e=.returned (.pointer (some ⟨gs,0,none⟩))/\SmAt w' gs s/\SumOf m g cl s/\Ext w w'
structure WhI (wr w0:World)(g N n gs b1 b2 b3 b4:Nat)(t l s e:List Int):Prop where
 bs:Blk wr gs 199 #[.pointer (some ⟨g,0,none⟩),.int .i64 n,.slice (some ⟨b1,0,none⟩) N N,.slice (some ⟨b2,0,none⟩) N N,.slice (some ⟨b3,0,none⟩) n n,.slice (some ⟨b4,0,none⟩) n n]
 k1:Blk wr b1 21 (kInts t)
 k2:Blk wr b2 21 (kInts l)
 k3:Blk wr b3 21 (kInts s)
 k4:Blk wr b4 21 (kInts e)
 nd:[gs,b1,b2,b3,b4].Nodup
 lo:∀b∈[gs,b1,b2,b3,b4],w0.heap.size<=b
namespace WhI
variable {wr w' w0:World} {g N n gs b1 b2 b3 b4:Nat} {t l s e:List Int}
theorem ext (h:WhI wr w0 g N n gs b1 b2 b3 b4 t l s e)(x:Ext wr w'):WhI w' w0 g N n gs b1 b2 b3 b4 t l s e:=⟨h.bs.ext x,h.k1.ext x,h.k2.ext x,h.k3.ext x,h.k4.ext x,h.nd,h.lo⟩
theorem ne (h:WhI wr w0 g N n gs b1 b2 b3 b4 t l s e):gs≠b1/\gs≠b2/\gs≠b3/\gs≠b4/\b1≠b2/\b1≠b3/\b1≠b4/\b2≠b3/\b2≠b4/\b3≠b4:=by
 have:=h.nd;simp only[List.nodup_cons,List.mem_cons,List.not_mem_nil,or_false,not_or,List.nodup_nil,not_false_eq_true,and_true] at this;omega
theorem low (h:WhI wr w0 g N n gs b1 b2 b3 b4 t l s e):w0.heap.size<=gs/\w0.heap.size<=b1/\w0.heap.size<=b2/\w0.heap.size<=b3/\w0.heap.size<=b4:=
 ⟨h.lo gs si,h.lo b1 si,h.lo b2 si,h.lo b3 si,h.lo b4 si⟩
theorem set1 (h:WhI wr w0 g N n gs b1 b2 b3 b4 t l s e)(i:Nat)(x:Int):WhI (wr.setCell ⟨b1,i,none⟩ (.int .i32 x)) w0 g N n gs b1 b2 b3 b4 (t.set i x) l s e:=by
 obtain⟨n1,n2,n3,n4,n5,n6,n7,n8,n9,n10⟩:=h.ne;refine⟨h.bs.far n1 _,?_,h.k2.far n5.symm _,h.k3.far n6.symm _,h.k4.far n7.symm _,h.nd,h.lo⟩
 rw[<-kInts_set];exact h.k1.set i _
theorem set2 (h:WhI wr w0 g N n gs b1 b2 b3 b4 t l s e)(i:Nat)(x:Int):WhI (wr.setCell ⟨b2,i,none⟩ (.int .i32 x)) w0 g N n gs b1 b2 b3 b4 t (l.set i x) s e:=by
 obtain⟨n1,n2,n3,n4,n5,n6,n7,n8,n9,n10⟩:=h.ne;refine⟨h.bs.far n2 _,h.k1.far n5 _,?_,h.k3.far n8.symm _,h.k4.far n9.symm _,h.nd,h.lo⟩
 rw[<-kInts_set];exact h.k2.set i _
theorem set3 (h:WhI wr w0 g N n gs b1 b2 b3 b4 t l s e)(i:Nat)(x:Int):WhI (wr.setCell ⟨b3,i,none⟩ (.int .i32 x)) w0 g N n gs b1 b2 b3 b4 t l (s.set i x) e:=by
 obtain⟨n1,n2,n3,n4,n5,n6,n7,n8,n9,n10⟩:=h.ne;refine⟨h.bs.far n3 _,h.k1.far n6 _,h.k2.far n8 _,?_,h.k4.far n10.symm _,h.nd,h.lo⟩
 rw[<-kInts_set];exact h.k3.set i _
theorem set4 (h:WhI wr w0 g N n gs b1 b2 b3 b4 t l s e)(i:Nat)(x:Int):WhI (wr.setCell ⟨b4,i,none⟩ (.int .i32 x)) w0 g N n gs b1 b2 b3 b4 t l s (e.set i x):=by
 obtain⟨n1,n2,n3,n4,n5,n6,n7,n8,n9,n10⟩:=h.ne;refine⟨h.bs.far n4 _,h.k1.far n7 _,h.k2.far n9 _,h.k3.far n10 _,?_,h.nd,h.lo⟩
 rw[<-kInts_set];exact h.k4.set i _
theorem of_blank {w:World}{e0:Ending}(h:RetBk g N n w e0 w'):∃gs b1 b2 b3 b4:Nat,e0=.returned (.pointer (some ⟨gs,0,none⟩))/\WhI w' w g N n gs b1 b2 b3 b4 (List.replicate N 0) (List.replicate N 0) (List.replicate n 0) (List.replicate n 0)/\Ext w w':=by
 obtain⟨gs,b1,b2,b3,b4,he,x,hs,h1,h2,h3,h4,hlo,hnd⟩:=h
 rw[<-kInts_zero] at h1 h2 h3 h4;exact⟨gs,b1,b2,b3,b4,he,⟨hs,h1,h2,h3,h4,hnd,hlo⟩,x⟩
theorem sum {m:Ma}{nc:Nat}{cl:List Nat}(ok:MaOk nc m)(hc:∀c∈cl,c<nc)(hcl:cl.length<=1000000)(h:WhI wr w0 g m.next.length cl.length gs b1 b2 b3 b4 (upF (tgF m cl) m.next.length) (upF (laF m cl) m.next.length) (upF (stF m cl) cl.length) (upF (enF m cl) cl.length)) :
 ∃s,SmAt wr gs s/\SumOf m g cl s:=by
 have hN:=ok.len;have hr:∀{f:Nat->Int} {n:Nat},(∀i,i<n->-1<=f i/\f i<=1000000)->∀x∈upF f n,I32 x:=fun hf x hx=>by
  obtain⟨i,hi,rfl⟩:=upF_mem hx;have:=hf i hi;unfold I32;omega
 have hk:∀{f:Nat->Int} {n b:Nat},Blk wr b 21 (kInts (upF f n))->(∀i,i<n->-1<=f i/\f i<=1000000)->n<=1000000->KL wr (some ⟨b,0,none⟩) n (upF f n):=fun{f n b} hb hf hn=>by
  have:=KL.of_blk hb (hr hf) (by rw[upF_len];unfold maxLen;omega);rw[upF_len] at this;exact this
 refine⟨⟨g,cl.length,some ⟨b1,0,none⟩,m.next.length,upF (tgF m cl) m.next.length,some ⟨b2,0,none⟩,m.next.length,upF (laF m cl) m.next.length,some ⟨b3,0,none⟩,cl.length,upF (stF m cl) cl.length,some ⟨b4,0,none⟩,cl.length,upF (enF m cl) cl.length⟩,⟨?_,?_,?_,?_,?_,fun A hA b e=>?_⟩,⟨rfl,rfl,rfl,rfl,rfl,rfl⟩⟩
 ·unfold smCells;simp only[upF_len];exact h.bs
 ·exact hk (f:=tgF m cl) (n:=m.next.length) h.k1 (fun i hi=>by have:=tgF_rng ok hc hi;omega) hN
 ·exact hk (f:=laF m cl) (n:=m.next.length) h.k2 (fun i hi=>by have:=laF_rng (m:=m) (cl:=cl) i;omega) hN
 ·exact hk (f:=stF m cl) (n:=cl.length) h.k3 (fun i hi=>by have:=stF_rng ok hc i;omega) hcl
 ·exact hk (f:=enF m cl) (n:=cl.length) h.k4 (fun i hi=>by have:=enF_rng (m:=m) (cl:=cl) (k:=i) om;omega) hcl
 ·simp only[List.mem_cons,List.not_mem_nil,or_false] at hA;rcases hA with rfl|rfl|rfl|rfl<;>cases e<;>first|exact⟨_,h.k1⟩|exact⟨_,h.k2⟩|exact⟨_,h.k3⟩|exact⟨_,h.k4⟩
end WhI
theorem upTo_len (f:Nat->Int)(i n:Nat):(upTo f i n).length=n:=by simp[upTo,upF]
theorem run_tg (m:Ma)(cl:List Nat)(i:Nat):runP (rowsOf m.next) m.done ((natsI cl).drop 0) 0 (i:Int) (-1)=(tgF m cl i,laF m cl i):=by
 rw[List.drop_zero,runP_runM];rfl
theorem run_st (m:Ma)(cl:List Nat)(k:Nat):runP (rowsOf m.next) m.done ((natsI cl).drop k) k m.first (iniL m.dn m.first k)=(stF m cl k,enF m cl k):=by
 have e:(natsI cl).drop k=natsI (cl.drop k):=by simp[natsI,List.map_drop]
 rw[e,runP_runM];rfl
def iInts (l:List Int):Array Value:=(l.map (Value.int .i64)).toArray
theorem iInts_set (l:List Int)(i:Nat)(x:Int):(iInts l).setIfInBounds i (.int .i64 x)=iInts (l.set i x):=by simp[iInts,List.map_set]
def clF (cf:Int->Nat)(ts:List Int)(k:Nat):Int:=(cf (ts.getD k 0):Nat)
theorem clF_all (cf:Int->Nat)(ts:List Int):upF (clF cf ts) ts.length=natsI (ts.map cf):=by
 apply List.ext_getElem
 ·simp[upF,natsI]
 ·intro j h1 h2;have hj:j<ts.length:=by simpa[upF] using h1
  simp[upF,natsI,clF,List.getD_eq_getElem?_getD,hj]
theorem Y9z3 {P:Prop} (h:P:=by
 clear c6 f6 c7 f7 W6 W7 W8
 go_wp2_with fail
 go_roundw
 case rel=>exact⟨i+1,by go_num,om,HW8,y8⟩
 case measure=>simp[intOf];omega):P:=h
theorem Y9z1 {P:Prop} (h:P:=by
 go_upto_region 17 with fail
 refine Xr.start [] kr ?_;refine Xtk 0 ?_
 iterate 5(refine Xtn ?_)
 iterate 10(first|refine Xtn ?_|refine Xsn ?_)
 refine Xtn ?_;refine Xdn fun w9 hE9 hK9=>?_;have HRN:=fun(w':World) (x:Ext w9 w')=>HRN w' (hE9.trans x);have HW:=lh (HW.out.ext hE9);have y1:=y1.trans hE9;have j4:=fun(w':World) (h:Kp [b3,b4] w9 w')=>h.cell (HW.out.bs.cell 4) (by simp[n3,n4]);have j5:=fun(w':World) (h:Kp [b3,b4] w9 w')=>h.cell (HW.out.bs.cell 5) (by simp[n3,n4]);have jf:=fun(w':World) (h:Kp [b3,b4] w9 w')=>h.cell (hE9.cell c2) (by simp[n5,n6])
 go_upto_region 19 with fail
 refine Xr.start [b3,b4] kr ?_;refine Xtk 0 ?_
 iterate 17(refine Xtn ?_)
 refine Xcl 18 fun w4 hE4 hK4 K hKK=>?_;go_simp;refine(HRN w4 hE4).out.mono ?_;rintro e w5 ⟨rfl,x5⟩;refine hKK _ _ x5 ?_;clear hKK;refine ptm ?_;refine Xtk 19 ?_
 iterate 3(refine Xtn ?_)
 have E45:=hE4.trans x5;refine Xsp 23 fun w6 hE6 hK6 K hKK=>?_;have W6:=HW.out.ext (E45.trans hE6);have c6:=W6.k3.cellK (i:=i) (by rw[upTo_len];exact hlt3);have f6:=W6.k3.frz i;go_simp;refine hKK _ _ (WI_setL (WI_refl _ _ _) List.mem_cons_self _ _) (hK6.setL List.mem_cons_self _ _) ?_;clear hKK;refine ptm ?_;refine Xtk 24 ?_;refine Xsp 25 fun w7 hE7 hK7 K hKK=>?_;have W7:=(W6.set3 i (stF m (ts.map cf) i)).ext hE7;have c7:=W7.k4.cellK (i:=i) (by rw[upTo_len];exact hlt3);have f7:=W7.k4.frz i;go_simp;refine hKK _ _ (WI_setL (WI_refl _ _ _) (List.mem_cons_of_mem _ List.mem_cons_self) _ _) (hK7.setL (List.mem_cons_of_mem _ List.mem_cons_self) _ _) ?_;clear hKK;refine ptm ?_;refine Xdn fun w8 hE8 hK8=>?_;have W8:=(W7.set4 i (enF m (ts.map cf) i)).ext hE8;rw[upTo_set,upTo_set] at W8;have HW8:=lh W8;have y8:Ext wa w8:=((((y1.trans (E45.trans hE6)).setNew (p:=⟨b3,i,none⟩) l3 _).trans hE7).setNew (p:=⟨b4,i,none⟩) l4 _).trans hE8;exact Y9z3):P:=h
theorem Y9z2 {P:Prop} (h:P:=by
 have HRN:=fun(w':World) (x:Ext wr w')=>lh (by have h9:=(HRN0 w' x).out;rw[HV.out] at h9;exact h9);clear HRN0;exact Y9z1):P:=h
theorem whole_any (w:World)(g:Nat)(m:Ma)(nc:Nat)(strt:List Sp)(hM:MachAt w g m nc strt)(cf:Int->Nat)(T:Option Addr)(tc:Nat)(ts:List Int)(hT:IL w T tc ts)(htl:ts.length<=1000000)(hcf:SymsOk strt nc cf ts) :
 Calls Tryz.prog 113 #[.pointer (some ⟨g,0,none⟩),.slice T ts.length tc] w (RetSum m g (ts.map cf) w):=by
 have hcap:=hT.len;have hN:=hM.ok.len;have hdl:=hM.ok.dl;obtain⟨hf0,hf1⟩:=hM.ok.first;obtain⟨fi,hfi⟩:∃fi,Hid (m.first=fi):=⟨_,lh rfl⟩;rw[hfi.out] at hf0 hf1;have HM:=lh hM;have HT:=lh hT;have HCF:=lh hcf;have HCN:Hid (∀c∈ts.map cf,c<nc):=lh (fun c hc=>by obtain⟨x,hx,rfl⟩:=List.mem_map.1 hc;exact(hcf x hx).2);have HCL:Hid ((ts.map cf).length=ts.length):=lh si;have HNL:Hid ((natsI (ts.map cf)).length=ts.length):=lh (by simp[natsI]);have HBK:=fun(w':World) (x:Ext w w')=>lh (blank_any w' g m nc (HM.out.at_.ext x) HM.out.ok ts.length htl);have hmk:=mkInts ts.length htl;have HDL:=lh hdl;clear hM hT hcf hdl;go_enter Tryz.func113,Tryz.ntmps113
 go_upto_region 2 with fail
 have BC0:=Blk.new w 3 (Array.replicate ts.length (.int .i64 0));have EC0:=Ext.alloc w (.cells (Array.replicate ts.length (.int .i64 0)) 3);generalize w.alloc (.cells (Array.replicate ts.length (.int .i64 0)) 3)=w0 at *;obtain⟨gC,hgC⟩:∃gC,gC=w.heap.size:=⟨_,rfl⟩
 rw[<-hgC] at BC0 ⊢;have HGC:=lh hgC;clear hgC hmk;have BC1:Blk w0 gC 3 (iInts (upTo (clF cf ts) 0 ts.length)):=by rw[upTo_zero];simpa[iInts] using BC0
 clear BC0
 go_upto_region 3 with fail
 go_loopw [17] (fun v wr=>∃k:Nat,v=.int .i64 k/\k<=ts.length/\Hid (Blk wr gC 3 (iInts (upTo (clF cf ts) k ts.length)))/\Ext w wr) (fun v _=>ts.length-(intOf v).toNat)
 case atStart=>exact⟨0,rfl,om,lh BC1,EC0⟩
 case round=>
  obtain⟨k,rfl,hk,HB,x1⟩:=hrel;by_cases hlt:k<ts.length
  ·have hkI:(k:Int)<ts.length:=om;obtain⟨tb,oo,rfl,ct⟩:=(HT.out.ext x1).get hlt;have HCA:=lh (class_any wr g m (HM.out.at_.ext x1) strt (HM.out.st.ext x1) HM.out.rn HM.out.sl HM.out.srt ts[k] (cf ts[k]) (HCF.out _ (List.getElem_mem hlt)).1);have HV:Hid (clF cf ts k=((cf ts[k]:Nat):Int)):=lh (by simp[clF,List.getD_eq_getElem?_getD,hlt]);generalize ts[k]=x at *;generalize cf x=q at *
   go_wp2_with (go_at_call 172;refine HCA.out.mono ?_;rintro e w5 ⟨rfl,x5⟩;have b5:=HB.out.ext x5;have c5:w5.cell? ⟨gC,k,none⟩=some (.int .i64 ((upTo (clF cf ts) k ts.length).getD k 0)):=(by rw[b5.cell];simp[iInts,upTo,upF,hlt,List.getD_eq_getElem?_getD]);have f5:=b5.frz k)
   have x6:=(x1.trans x5);have b6:=b5.set k (.int .i64 q);rw[iInts_set,<-HV.out,upTo_set] at b6;have HB6:=lh b6;have x7:Ext w (w5.setCell ⟨gC,k,none⟩ (.int .i64 q)):=x6.setNew (p:=⟨gC,k,none⟩) (by rw[HGC.out];exact Nat.le_refl _) _;rw[HV.out] at HB6;clear b5 b6 c5 f5 HB;go_roundw
   case rel=>exact⟨k+1,by go_num,om,HB6,x7⟩
   case measure=>simp[intOf];omega
  ·have hkI:¬(k:Int)<ts.length:=om;have HB2:=HB.out;rw[upTo_all _ _ _ om,clF_all] at HB2;have HC0:IL wr (some ⟨gC,0,none⟩) ts.length (natsI (ts.map cf)):=by
    have:=IL.of_blk HB2 (fun x hx=>by
     obtain⟨c,hc,rfl⟩:=List.mem_map.1 hx;have h1:=HCN.out c hc;have h2:=HM.out.ncl;unfold I64;omega) (by rw[HNL.out];unfold maxLen;omega)
    rw[HNL.out] at this;exact this
   have HI:=lh HC0;clear HB HB2 HC0 BC1 EC0
   go_upto_region 7 with fail
   go_upto_region 8 with fail
   refine(HBK wr x1).out.mono ?_;rintro e w3 hbk;obtain⟨gs,b1,b2,b3,b4,rfl,hW,x3⟩:=WhI.of_blank hbk;clear hbk HBK;have hr2:=hW.bs.cell 2;have x13:=x1.trans x3;obtain⟨wa,rfl⟩:∃wa,wa=wr:=⟨wr,rfl⟩;obtain⟨n1,n2,n3,n4,-,-,-,-,-,-⟩:=hW.ne;obtain⟨-,l1,l2,l3,l4⟩:=hW.low;have HW0:Hid (WhI w3 wa g m.next.length ts.length gs b1 b2 b3 b4 (upTo (tgF m (ts.map cf)) 0 m.next.length) (upTo (laF m (ts.map cf)) 0 m.next.length) (upTo (stF m (ts.map cf)) 0 ts.length) (upTo (enF m (ts.map cf)) 0 ts.length)):=lh (by rw[upTo_zero,upTo_zero,upTo_zero,upTo_zero];exact hW);clear hW
   go_upto_region 9 with fail
   clear hr2
   go_loopw [38] (fun v wr=>∃i:Nat,v=.int .i64 i/\i<=m.next.length/\Hid (WhI wr wa g m.next.length ts.length gs b1 b2 b3 b4 (upTo (tgF m (ts.map cf)) i m.next.length) (upTo (laF m (ts.map cf)) i m.next.length) (upTo (stF m (ts.map cf)) 0 ts.length) (upTo (enF m (ts.map cf)) 0 ts.length))/\Ext wa wr) (fun v _=>m.next.length-(intOf v).toNat)
   case atStart=>exact⟨0,rfl,om,HW0,x3⟩
   case round=>
    obtain⟨i,rfl,hi,HW,y1⟩:=hrel;have Y:=x1.trans y1;by_cases hlt2:i<m.next.length
    ·have hiI:(i:Int)<m.next.length:=om;have HRN:=fun(w':World) (x:Ext wr w')=>lh (show Calls Tryz.prog 173 #[.pointer (some ⟨g,0,none⟩),.int .i32 i,.slice (some ⟨gC,0,none⟩) ts.length ts.length,.int .i64 0,.int .i32 (-1)] w' (RetV (.tuple #[.int .i32 (tgF m (ts.map cf) i),.int .i32 (laF m (ts.map cf) i)]) w') by
      have h9:=run_any w' g m nc (HM.out.at_.ext (Y.trans x)) HM.out.ok (some ⟨gC,0,none⟩) ts.length (natsI (ts.map cf)) (HI.out.ext (y1.trans x)) (by rw[HNL.out];exact htl) (fun x hx=>by
       obtain⟨c,hc,rfl⟩:=List.mem_map.1 hx;have:=HCN.out c hc;omega) i om om 0 (Nat.zero_le _) (-1)
      rw[run_tg,HNL.out] at h9;exact h9)
     have hw2:IntKind.i32.wrap (i:Int)=i:=by rw[IntKind.wrap_i32];omega
     have j2:=fun(w':World) (h:Kp [b1,b2] wr w')=>h.cell (HW.out.bs.cell 2) (by simp[n1,n2]);have j3:=fun(w':World) (h:Kp [b1,b2] wr w')=>h.cell (HW.out.bs.cell 3) (by simp[n1,n2])
     go_upto_region 11 with fail
     refine Xr.start [b1,b2] kr ?_;refine Xtk 0 ?_
     iterate 13(refine Xtn ?_)
     refine Xcl 14 fun w4 hE4 hK4 K hKK=>?_;go_simp;refine(HRN w4 hE4).out.mono ?_;rintro e w5 ⟨rfl,x5⟩;refine hKK _ _ x5 ?_;clear hKK;refine ptm ?_;refine Xtk 15 ?_
     iterate 3(refine Xtn ?_)
     have E45:=hE4.trans x5;refine Xsp 19 fun w6 hE6 hK6 K hKK=>?_;have W6:=HW.out.ext (E45.trans hE6);have c6:=W6.k1.cellK (i:=i) (by rw[upTo_len];exact hlt2);have f6:=W6.k1.frz i;go_simp;refine hKK _ _ (WI_setL (WI_refl _ _ _) List.mem_cons_self _ _) (hK6.setL List.mem_cons_self _ _) ?_;clear hKK;refine ptm ?_;refine Xtk 20 ?_;refine Xsp 21 fun w7 hE7 hK7 K hKK=>?_;have W7:=(W6.set1 i (tgF m (ts.map cf) i)).ext hE7;have c7:=W7.k2.cellK (i:=i) (by rw[upTo_len];exact hlt2);have f7:=W7.k2.frz i;go_simp;refine hKK _ _ (WI_setL (WI_refl _ _ _) (List.mem_cons_of_mem _ List.mem_cons_self) _ _) (hK7.setL (List.mem_cons_of_mem _ List.mem_cons_self) _ _) ?_;clear hKK;refine ptm ?_;refine Xdn fun w8 hE8 hK8=>?_;have W8:=(W7.set2 i (laF m (ts.map cf) i)).ext hE8;rw[upTo_set,upTo_set] at W8;have HW8:=lh W8;have y8:Ext wa w8:=((((y1.trans (E45.trans hE6)).setNew (p:=⟨b1,i,none⟩) l1 _).trans hE7).setNew (p:=⟨b2,i,none⟩) l2 _).trans hE8;exact Y9z3
    ·have hiI:¬(i:Int)<m.next.length:=om;obtain rfl:i=m.next.length:=om;have hr4:=HW.out.bs.cell 4
     go_upto_region 14 with fail
     clear hr4
     go_loopw [67] (fun v wr=>∃i:Nat,v=.int .i64 i/\i<=ts.length/\Hid (WhI wr wa g m.next.length ts.length gs b1 b2 b3 b4 (upTo (tgF m (ts.map cf)) m.next.length m.next.length) (upTo (laF m (ts.map cf)) m.next.length m.next.length) (upTo (stF m (ts.map cf)) i ts.length) (upTo (enF m (ts.map cf)) i ts.length))/\Ext wa wr) (fun v _=>ts.length-(intOf v).toNat)
     case atStart=>exact⟨0,rfl,om,HW,y1⟩
     case round=>
      obtain⟨i,rfl,hi,HW,y1⟩:=hrel;have Y:=x1.trans y1;by_cases hlt3:i<ts.length
      ·have hiI:(i:Int)<ts.length:=om;have HRN0:=fun(w':World) (x:Ext wr w')=>lh (show Calls Tryz.prog 173 #[.pointer (some ⟨g,0,none⟩),.int .i32 fi,.slice (some ⟨gC,0,none⟩) ts.length ts.length,.int .i64 i,.int .i32 (iniL m.dn m.first i)] w' (RetV (.tuple #[.int .i32 (stF m (ts.map cf) i),.int .i32 (enF m (ts.map cf) i)]) w') by
        have h9:=run_any w' g m nc (HM.out.at_.ext (Y.trans x)) HM.out.ok (some ⟨gC,0,none⟩) ts.length (natsI (ts.map cf)) (HI.out.ext (y1.trans x)) (by rw[HNL.out];exact htl) (fun x hx=>by
         obtain⟨c,hc,rfl⟩:=List.mem_map.1 hx;have:=HCN.out c hc;omega) m.first HM.out.ok.first.1 HM.out.ok.first.2 i (by rw[HNL.out];omega) (iniL m.dn m.first i)
        rw[run_st,HNL.out,hfi.out] at h9;rw[hfi.out];exact h9)
       have hw2:IntKind.i32.wrap (i:Int)=i:=by rw[IntKind.wrap_i32];omega
       have j4:=fun(w':World) (h:Kp [b3,b4] wr w')=>h.cell (HW.out.bs.cell 4) (by simp[n3,n4]);have j5:=fun(w':World) (h:Kp [b3,b4] wr w')=>h.cell (HW.out.bs.cell 5) (by simp[n3,n4]);have c2:wr.cell? ⟨g,2,none⟩=some (.int .i32 fi):=by
        have:=(HM.out.at_.ext Y).blk.cell 2
        rw[<-hfi.out];exact this
       have hgl:g<wa.heap.size:=(HM.out.at_.ext x1).blk.lt;have n5:g≠b3:=om;have n6:g≠b4:=om;by_cases hd:fi = -1
       ·subst hd;have HV:Hid (iniL m.dn m.first i = -1):=lh (by rw[hfi.out];simp[iniL]);have HRN:=fun(w':World) (x:Ext wr w')=>lh (by have h9:=(HRN0 w' x).out;rw[HV.out] at h9;exact h9);clear HRN0;have jf:=kc0 c2;exact Y9z1
       ·obtain⟨fn,rfl⟩:∃fn:Nat,fi=fn:=⟨fi.toNat,om⟩;have hfn:fn<m.done.length:=by rw[HDL.out];omega
        obtain⟨db,dd,hdA,cd⟩:=(HM.out.at_.ext Y).dn.get hfn;have c4:wr.cell? ⟨g,4,none⟩=some (.slice m.dA m.done.length m.dc):=(HM.out.at_.ext Y).blk.cell 4;rw[hdA] at c4;have hfI:(fn:Int)<m.done.length:=om;have hcd:=(HM.out.at_.ext Y).dn.len;have HDV:Hid (m.dn fn=m.done[fn]):=lh (by
         have e:((fn:Int)).toNat=fn:=om;simp[Ma.dn,Go.Proofs.YtmpcoifnpflapaaGreat.dmF,e,List.getD_eq_getElem?_getD,hfn])
        generalize m.done[fn]=dv at *;generalize m.done.length=dn at *;clear hdA;have jf:=kc0 c2;have jd:=kc0 c4;have je:=kc0 cd;by_cases hdv:dv=true
        ·subst hdv;have HV:Hid (iniL m.dn m.first i=i):=lh (by rw[hfi.out];unfold iniL;rw[if_pos ⟨om,HDV.out⟩]);exact Y9z2
        ·have hdv2:dv=false:=by simpa using hdv
         subst hdv2;have HV:Hid (iniL m.dn m.first i = -1):=lh (by rw[hfi.out];unfold iniL;rw[if_neg (by rw[HDV.out];simp)]);exact Y9z2
      ·have hiI:¬(i:Int)<ts.length:=om;obtain rfl:i=ts.length:=om;have hW:=HW.out;rw[upTo_all _ _ _ (Nat.le_refl _),upTo_all _ _ _ (Nat.le_refl _),upTo_all _ _ _ (Nat.le_refl _),upTo_all _ _ _ (Nat.le_refl _)] at hW;have HSM:∃s,SmAt wr gs s/\SumOf m g (ts.map cf) s:=by
        refine WhI.sum HM.out.ok HCN.out (by rw[HCL.out];exact htl) (w0:=wa) (b1:=b1) (b2:=b2) (b3:=b3) (b4:=b4) ?_;rw[HCL.out];exact hW
       have HSH:=lh HSM;clear hW HSM
       go_wp2_with fail
       go_ret
       obtain⟨s,h1,h2⟩:=HSH.out;exact⟨gs,s,rfl,h1,h2,x1.trans y1⟩
end
section
open Go.RowKit
theorem canon_okL {l:List Sp}(h:Canon l)(hg:∀s∈l,goodS s):OkL l:=fun i hi _=>by
 refine⟨hg _ (List.getElem_mem hi),fun h0=>?_⟩;have h1:i-1<l.length:=om;rw[List.getD_eq_getElem?_getD,List.getElem?_eq_getElem h1];exact List.pairwise_iff_getElem.1 h.2 (i-1) i h1 hi om
theorem OwnP.sl {w:World}{base c:Nat}{A:Option Addr}{l:List Sp}(h:OwnP w base A c l)(hg:∀s∈l,goodS s):SL w A c l:=
 SL.of_own h (fun s hs=>by have:=hg s hs;unfold goodS at this;exact⟨by unfold I64;omega,by unfold I64;omega⟩)
theorem infoEn:(Tryz.prog.info? 245).map (fun i=>(i.zero,i.size,i.bytes))=some (some (.agg #[.int .i64 0,.int .i64 0]),2,16):=by kernel_rfl
def enOk (p:Sp):Prop:=0<=p.1/\p.1<=1114112
def OwnE (w:World)(base:Nat)(A:Option Addr)(c:Nat)(l:List Sp):Prop:=OwnS w base 245 2 A l.length c (flatS l)
abbrev GE:={ s:Sp // enOk s }
instance:Inhabited GE:=⟨⟨(0,0),by unfold enOk;simp⟩⟩
def encE (x:GE):List Value:=[.int .i64 x.1.1,.int .i64 x.1.2]
def cmpE (x y:GE):Int:=x.1.1-y.1.1
theorem ltE (x y:GE):Go.Proofs.ltOf cmpE x y=decide (x.1.1<y.1.1):=by
 unfold Go.Proofs.ltOf cmpE;rw[Bool.eq_iff_iff];simp only[decide_eq_true_eq];omega
theorem swoE:Go.Sort.SWO (Go.Proofs.ltOf cmpE) where
 irrefl x:=by rw[ltE];simp
 trans x y z h1 h2:=by rw[ltE] at *;simp at *;omega
 ntrans x y z h1 h2:=by rw[ltE] at *;simp at *;omega
def toE:(l:List Sp)->(∀s∈l,enOk s)->List GE
 | [],_=>[]
 | s::l,h=>⟨s,h s si⟩::toE l (fun t ht=>h t (by simp[ht]))
theorem toE_val:∀(l:List Sp) (h:∀s∈l,enOk s),(toE l h).map (·.1)=l
 | [],_=>rfl
 | s::l,h=>by rw[toE,List.map_cons,toE_val l]
theorem flatK_getE (d:List GE)(j:Nat)(hj:j<d.length*2):(Go.Sort.flatK encE 2 d.toArray)[j]! = (flatS (d.map (·.1)))[j]'(by rw[flatS_len,List.length_map];exact hj):=by
 rw[Go.Sort.get_flatK _ _ _ _ (by simpa using hj)];have hi:j / 2<d.length:=om;have hi':j / 2<(d.map (·.1)).length:=by simpa using hi
 obtain⟨g1,g2⟩:=flatS_get (d.map (·.1)) (j / 2) hi';obtain⟨l1,e1⟩:=List.getElem?_eq_some_iff.1 g1;obtain⟨l2,e2⟩:=List.getElem?_eq_some_iff.1 g2;have hd:d.toArray[j / 2]! = d[j / 2]:=by simp[hi]
 rw[hd];rcases Nat.mod_two_eq_zero_or_one j with h0|h1
 ·have e:j=j / 2*2:=om;rw[h0];have:(flatS (d.map (·.1)))[j]'(by rw[flatS_len,List.length_map];exact hj)=.int .i64 d[j / 2].1.1:=by
   have:=e1
   simp only[<-e] at this;rw[this];simp
  rw[this];rfl
 ·have e:j=j / 2*2+1:=om;rw[h1];have:(flatS (d.map (·.1)))[j]'(by rw[flatS_len,List.length_map];exact hj)=.int .i64 d[j / 2].1.2:=by
   have:=e2
   simp only[<-e] at this;rw[this];simp
  rw[this];rfl
theorem holdsE {w:World}{base c g:Nat}{d:List GE}(h:OwnE w base (some ⟨g,0,none⟩) c (d.map (·.1))):Go.Sort.HoldsK encE 2 w g 0 d.toArray:=by
 intro j hj;rw[Go.Sort.size_flatK] at hj;have hj2:j<d.length*2:=by simpa using hj
 have hfl:j<(flatS (d.map (·.1))).length:=by rw[flatS_len,List.length_map];exact hj2
 obtain⟨g',he,_,h1,h2,_,_⟩:=OwnS.store h hfl;injection he with he;injection he with e1 _ _
 subst e1;rw[Nat.zero_add,flatK_getE d j hj2];exact⟨h1,h2⟩
theorem sortedE {w:World}{base c g n:Nat}{d d':List GE}{os:Array Obj}(h:OwnE w base (some ⟨g,0,none⟩) c (d.map (·.1)))(hl:d'.length=d.length) :
 OwnE (Go.Proofs.sortWorldK encE 2 w g 0 n d'.toArray os) base (some ⟨g,0,none⟩) c (d'.map (·.1))/\KpP (·=g) w (Go.Proofs.sortWorldK encE 2 w g 0 n d'.toArray os):=by
 rcases h.form with⟨h0,_⟩|⟨g',cur,he,hg,hh,hnc,hcm,hcs,ht⟩
 ·cases h0
 ·injection he with he;injection he with e1 _ _
  subst e1;have hlt:g<w.heap.size:=(Array.getElem?_eq_some_iff.1 hh).1;have hk:KpP (·=g) w (Go.Proofs.sortWorldK encE 2 w g 0 n d'.toArray os):=by
   refine⟨rfl,rfl,rfl,?_,fun k hk hn=>?_⟩
   ·show w.heap.size<=(Array.size (_++os))
    simp[Go.Sort.putRowK,Go.Sort.putRow,Go.Sort.mapBlock,Go.Sort.ahead]
   ·show(_++os)[k]? = _
    have hne:¬g=k:=fun e=>hn e.symm;rw[Array.getElem?_append_left (by simp[Go.Sort.putRowK,Go.Sort.putRow,Go.Sort.mapBlock,Go.Sort.ahead];exact hk)];simp[Go.Sort.putRowK,Go.Sort.putRow,Go.Sort.mapBlock,Go.Sort.ahead,Array.getElem?_modify,hne]
  refine⟨?_,hk⟩;have hb:Blk (Go.Proofs.sortWorldK encE 2 w g 0 n d'.toArray os) g 245 (Go.Sort.putCells id 0 (Go.Sort.flatK encE 2 d'.toArray) cur):=by
   show(_++os)[g]? = _
   rw[Array.getElem?_append_left (by simp[Go.Sort.putRowK,Go.Sort.putRow,Go.Sort.mapBlock,Go.Sort.ahead];exact hlt)];simp[Go.Sort.putRowK,Go.Sort.putRow,Go.Sort.mapBlock,Go.Sort.ahead,Array.getElem?_modify,hh,Go.Sort.onCells]
  have:=OwnS.of_blk (n:=(d'.map (·.1)).length) (c:=c) (size:=2) hb hg (by simp[Go.Sort.putCells,hcs]) (by rw[List.length_map] at hnc ⊢;omega) hcm;have e:(Go.Sort.putCells id 0 (Go.Sort.flatK encE 2 d'.toArray) cur).toList.take ((d'.map (·.1)).length*2)=flatS (d'.map (·.1)):=by
   have hsz:d'.length*2<=cur.size:=by rw[hcs];rw[List.length_map] at hnc;omega
   refine List.ext_getElem ?_ (fun j h1 h2=>?_)
   ·rw[List.length_take,flatS_len];simp[Go.Sort.putCells];omega
   ·have hj:j<d'.length*2:=by rw[flatS_len,List.length_map] at h2;exact h2
    rw[List.getElem_take];have hjc:j<cur.size:=om;have:(Go.Sort.putCells id 0 (Go.Sort.flatK encE 2 d'.toArray) cur)[j]'(by simpa[Go.Sort.putCells] using hjc)=(Go.Sort.flatK encE 2 d'.toArray)[j]!:=by
     simp only[Go.Sort.putCells,Array.getElem_mapIdx,Go.Sort.size_flatK];rw[if_pos ⟨Nat.zero_le _,by simpa using hj⟩]
     rfl
    rw[Array.getElem_toList,this,flatK_getE d' j hj]
  rw[e] at this;exact this
theorem cmpE_any (x y:GE)(W:World):Calls Tryz.prog 184 #[.agg #[.int .i64 x.1.1,.int .i64 x.1.2],.agg #[.int .i64 y.1.1,.int .i64 y.1.2]] W (fun e w'=>e=.returned (.int .i64 (cmpE x y))/\∃q os',w'=Go.Sort.grow (W.drewN q) os'):=by
 obtain⟨⟨x1,x2⟩,hx⟩:=x;obtain⟨⟨y1,y2⟩,hy⟩:=y;have hx':0<=x1/\x1<=1114112:=hx;have hy':0<=y1/\y1<=1114112:=hy;have hw:IntKind.i64.wrap (x1-y1)=x1-y1:=wj;unfold cmpE
 simp only
 go_enter Tryz.func184,Tryz.ntmps184
 go_wp2
 go_ret
 exact⟨by rw[<-hw];rfl,0,_,by rw[Go.Sort.alloc_eq_grow,Go.Sort.alloc_eq_grow,Go.Sort.grow_grow];rfl⟩
theorem sortE_any (base g c:Nat)(l:List Sp)(hg:∀s∈l,enOk s)(w:World)(hl:OwnE w base (some ⟨g,0,none⟩) c l)(hlen:l.length<=1000000) :
 Calls Tryz.prog 183 #[.slice (some ⟨g,0,none⟩) l.length c,.func (.func 184) #[] #[]] w (fun e w'=>e=.returned (.tuple #[])/\∃m:List Sp,l.Perm m/\m.Pairwise (fun s t=>s.1<=t.1)/\m.length=l.length/\OwnE w' base (some ⟨g,0,none⟩) c m/\KpP (·=g) w w'):=by
 obtain⟨d,hd⟩:∃d:List GE,d.map (·.1)=l:=⟨toE l hg,toE_val l hg⟩;subst hd;have eg:∀args w,(callFunc 184 args).run Tryz.prog w=.ok (.enter 184 args) w:=enters_of Tryz.func184 kr rfl;have hcmp:Go.Proofs.CmpLays Tryz.prog 184 #[] encE 2 cmpE g 0 d.toArray.size w:=fun _ _ _ _ x y=>cmpE_any x y _;have hcon:=AnyQ.slices_SortFunc Tryz.sortEnd 2 Tryz.isAgg245 Tryz.sizeOf245 encE (fun _=>rfl) (fun x v hv=>by simp[encE] at hv;rcases hv with rfl|rfl<;>rfl) cmpE swoE 184 #[] g 0 c d.toArray w eg hcmp (holdsE hl) ((OwnS.blt hl rfl).1) (by rw[List.length_map] at hlen;simp;omega);change Calls Tryz.prog 183 _ _ _ at hcon;have hsz:d.toArray.size=(d.map (·.1)).length:=by simp
 rw[hsz] at hcon;refine hcon.mono ?_;rintro e w' ⟨rfl,d',n,os,hp,hs,rfl⟩;have hps:=hp.1;rw[List.size_toArray] at hps;obtain⟨d2,rfl⟩:∃d2:List GE,d'=d2.toArray:=⟨d'.toList,by simp⟩;replace hps:d2.length=d.length:=by simpa using hps
 have hperm:d2.Perm d:=by
  have:=hp.2.2;rw[List.length_map] at this;have h4:d2.Perm (d.take d2.length):=by simpa[<-hps] using this
  rw[List.take_of_length_le om] at h4;exact h4
 obtain⟨h1,h2⟩:=sortedE (d':=d2) (n:=n) (os:=os) hl hps;refine⟨rfl,d2.map (·.1),(hperm.symm).map _,?_,by simp[hps],h1,h2⟩;rw[List.pairwise_map,List.pairwise_iff_getElem];intro i j hi hj hij;have h3:=hs i j (Nat.zero_le _) hij (by simp;omega);rw[ltE] at h3;have e1:d2.toArray[j]! = d2[j]:=by simp[hj]
 have e2:d2.toArray[i]! = d2[i]:=by simp[hi]
 rw[e1,e2] at h3;simp at h3;exact h3
end
end Go.Proofs.YtmpcoifnpflapaaGreat
