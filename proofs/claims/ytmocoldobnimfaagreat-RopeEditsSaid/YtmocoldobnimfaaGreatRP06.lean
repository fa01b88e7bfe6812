/- Texts of this proof: Fs G0 Fk Fe. -/
import Derived.Test.YtmocoldobnimfaaGreatRP04
set_option linter.all false
namespace Go.Proofs.YtmocoldobnimfaaGreat
section
open Go.RowKit
def depsOf (ops:Array Oper)(k:Nat):List Nat:=match ops[k]? with
 | some o=>(o.after.toList.filter (fun e=>Region.binds .any e)).map (·.on)
 | none=>[]
def Down (ops:Array Oper)(listed:Array Bool):Prop:=∀k,listed.getD k false=true→∀d∈depsOf ops k,listed.getD d false=true
def ancs (ops:Array Oper):Nat→List Nat→List Nat
 | 0,S=>S
 | f+1,S=>ancs ops f ((List.range ops.size).filter fun d=>S.contains d || S.any fun k=>(depsOf ops k).contains d)
theorem ancs_all {ops:Array Oper}{listed:Array Bool}(hD:Down ops listed):∀(f:Nat) (S:List Nat),(∀d∈S,listed.getD d false=true)→∀d∈ancs ops f S,listed.getD d false=true
 | 0,_,h,d,hd=>h d hd
 | f+1,S,h,d,hd=>ancs_all hD f _ (fun x hx=>by
  obtain⟨_,hx⟩:=List.mem_filter.1 hx;rw[Bool.or_eq_true] at hx;rcases hx with hx|hx
  ·exact h x (by simpa using hx)
  ·obtain⟨k,hk,hkx⟩:=List.any_eq_true.1 hx;exact hD k (h k hk) x (by simpa using hkx)) d hd
theorem deps_ready {ops:Array Oper}{listed:Array Bool}{s:Nat}(h:s∈Region.ready .any ops listed):∀d∈depsOf ops s,listed.getD d false=true:=by
 obtain⟨_,o,ho,hall⟩:=mem_ready.1 h;intro d hd;unfold depsOf at hd;rw[ho] at hd;simp only[List.mem_map,List.mem_filter] at hd;obtain⟨e,⟨he,hb⟩,rfl⟩:=hd;exact hall e (by simpa using he) hb
theorem Down.set {ops:Array Oper}{listed:Array Bool}{i:Nat}(hD:Down ops listed)(hi:i∈Region.ready .any ops listed):Down ops (listed.setIfInBounds i true):=by
 intro k hk d hd;by_cases hki:k=i
 ·subst hki;exact getD_set_true (deps_ready hi d hd)
 ·rw[getD_set_ne false (Ne.symm hki)] at hk;exact getD_set_true (hD k hk d hd)
section
variable (P:Program) (ops:Array Oper) (Q:Exit→Act→World→Prop) (w0:World) (s:Nat) (Fin:Nat→Array Bool→Act→World→Prop)
def wpS:Nat→Array Bool→Act→World→Prop
 | 0,listed,_,_=>Down ops listed→False
 | n+1,listed,a,w=>Down ops listed→Region.ready .any ops listed≠[]∧
  (s∈Region.ready .any ops listed→Region.ready .any ops listed=[s]∧∀w',Ext w w'→Ext w0 w'→Fin (n+1) listed a w')∧
  ∀i∈Region.ready .any ops listed,i≠s→∀w',Ext w w'→Ext w0 w'→wpOp P ops Q i (fun a2 w2=>Ext w' w2∧wpS n (listed.setIfInBounds i true) a2 w2) a w'
end
section
variable {P:Program} {ops:Array Oper} {Q:Exit→Act→World→Prop} {w0:World} {s:Nat} {Fin:Nat→Array Bool→Act→World→Prop}
theorem wpS_ext:∀(n:Nat) {listed:Array Bool} {a:Act} {w w':World},wpS P ops Q w0 s Fin n listed a w→Ext w w'→wpS P ops Q w0 s Fin n listed a w'
 | 0,_,_,_,_,h,_=>h
 | _+1,_,_,_,_,h,k=>fun hD=>⟨(h hD).1,fun hs=>⟨((h hD).2.1 hs).1,fun w2 h2 h3=>((h hD).2.1 hs).2 w2 (k.trans h2) h3⟩,fun i hi his w2 h2 h3=>(h hD).2.2 i hi his w2 (k.trans h2) h3⟩
theorem takeS {i:Nat}{oi:Oper}{v:Value}(hi:ops[i]? = some oi)(hsel:∀(j:Nat) (o:Oper) cs b,ops[j]? = some o→o.op≠.select cs b)(hQ:∀c a w,¬Q (.panic c) a w)
 (f:Nat) (hanc:i∈ancs ops f (depsOf ops s)) :
 ∀(n:Nat) {listed:Array Bool} {a:Act} {w:World},
  (∀j oj,ops[j]? = some oj→j≠i→listed.getD j true=false→(∀e∈oj.after,Region.binds .any e=true→e.on≠i)→oi.apart ops oj=true)→
  i∈Region.ready .any ops listed→YieldsIf P ops (Ext w0) oi v a→wpS P ops Q w0 s Fin n (listed.setIfInBounds i true) (a.put oi.dst v) w→wpS P ops Q w0 s Fin (n+1) listed a w:=by
 intro n;induction n with
 | zero=>
  intro listed a w _ hr _ h hD;exact absurd (hD.set hr) h
 | succ n ih=>
  intro listed a w hfree hr hy h hD;have hns:¬s∈Region.ready .any ops listed:=fun hs=>by
   have h1:=ancs_all hD f _ (deps_ready hs) i hanc;have h2:=(mem_ready.1 hr).1;rcases Nat.lt_or_ge i listed.size with h'|h'
   ·simp[h'] at h1 h2;rw[h1] at h2;cases h2
   ·simp[Array.getElem?_eq_none h'] at h1
  refine⟨fun h0=>(by rw[h0] at hr;cases hr),fun hs=>absurd hs hns,fun j hj hjs w' h1 h2=>?_⟩;by_cases hji:j=i
  ·subst hji;exact hy.wpOp hi h2 ⟨Ext.rfl' _,wpS_ext (n+1) h h1⟩
  ·obtain⟨hjun,oj,hoj,hall⟩:=mem_ready.1 hj;have hnot:∀e∈oj.after,Region.binds .any e=true→e.on≠i:=fun e he hb heq=>by
    have h1:=hall e he hb;have h0:=(mem_ready.1 hr).1;rw[heq] at h1;rcases Nat.lt_or_ge i listed.size with h'|h'
    ·simp[h'] at h0 h1;rw[h0] at h1;cases h1
    ·simp[Array.getElem?_eq_none h'] at h1
   have hap:=hfree j oj hoj hji hjun hnot;have h3:=(h (hD.set hr)).2.2 j (ready_mono hj hji) hjs w' h1 h2;have hQ':∀c a w,Q (.panic c) (a.put oi.dst v) w→Q (.panic c) a w:=fun c a w h=>absurd h (hQ _ _ _);have hfree':∀k ok,ops[k]? = some ok→k≠i→(listed.setIfInBounds j true).getD k true=false→
    (∀e∈ok.after,Region.binds .any e=true→e.on≠i)→oi.apart ops ok=true:=fun k ok hk hki hun hno=>hfree k ok hk hki (unlisted_set hun).2 hno
   refine wpOp_mono (fun a2 w2 h4=>?_) (wpOp_putIf hoj hap (fun cs b=>hsel i oi cs b hi) (fun cs b=>hsel j oj cs b hoj) hQ' hy h3);obtain⟨h5,h6,h7⟩:=h4;refine⟨h6,ih hfree' (ready_mono hr (Ne.symm hji)) h5 ?_⟩;rw[Array.setIfInBounds_comm _ _ hji];exact h7
theorem wpAny_of_S (hFin:∀n listed a w,Fin n listed a w→wpAny P .any ops Q n listed a w):∀(n:Nat) {listed:Array Bool} {a:Act} {w:World},Down ops listed→Ext w0 w→wpS P ops Q w0 s Fin n listed a w→wpAny P .any ops Q n listed a w
 | 0,_,_,_,hD,_,h=>absurd hD h
 | n+1,listed,a,w,hD,hx,h=>by
  obtain⟨h0,h1,h2⟩:=h hD;by_cases hs:s∈Region.ready .any ops listed
  ·exact hFin _ _ _ _ ((h1 hs).2 w (Ext.rfl' _) hx)
  ·refine⟨fun hr=>absurd hr h0,fun i hi=>?_⟩;have his:i≠s:=fun e=>hs (e▸hi);exact wpOp_mono (fun a2 w2 h4=>wpAny_of_S hFin n (hD.set hi) (hx.trans h4.1) h4.2) (h2 i hi his w (Ext.rfl' _) hx)
def Xs (L:List Nat)(s:Nat)(w0:World)(P:Program)(ops:Array Oper)(Q:Exit→Act→World→Prop)(n:Nat)(ls:List Nat)(a:Act)(w:World):Prop:=
 wpS P ops (NoPanic Q) w0 s (fun n listed a w=>∃ls,listed=bits ops.size ls∧Xr L w P ops Q n [] [] [] ls a w) n (bits ops.size ls) a w
theorem Xs.start {id:Nat}{a:Act}{w:World}(L:List Nat)(s:Nat)(hm:P.follows .mixedOrders=true)(h:Xs L s w P ops Q ops.size [] a w):(Code.region id ops true).wp P Q a w:=by
 refine wp_region_noPanic (wp_region_any hm ?_);unfold Xs at h;rw[bits_nil] at h;refine wpAny_of_S ?_ _ ?_ (Ext.drew w) (wpS_ext _ h (Ext.drew w))
 ·rintro n listed a w ⟨ls,rfl,hX⟩;exact wpAny_of_X _ (Kp.refl _ _) (hX rfl)
 ·intro k hk
  exfalso
  by_cases hkn:k<ops.size
  ·simp[hkn] at hk
  ·simp[hkn] at hk
variable {n:Nat} {ls:List Nat} {a:Act} {w:World} {L:List Nat}
def okTakeS (ops:Array Oper)(s:Nat)(ls:List Nat)(i:Nat):Bool:=
 Region.noSelect ops&&Region.free .any ops (bits ops.size ls) i&&(Region.ready .any ops (bits ops.size ls)).contains i&&(ancs ops 8 (depsOf ops s)).contains i
theorem Xs.takeY (i:Nat)(d:Option Tmp){oi:Oper}{v:Value}(hi:ops[i]? = some oi)(hd:oi.dst=d)
 (hok:okTakeS ops s ls i=true) (hy:YieldsIf P ops (Ext w0) oi v a) (h:Xs L s w0 P ops Q n (i::ls) (a.put d v) w):Xs L s w0 P ops Q (n+1) ls a w:=by
 subst hd;simp only[okTakeS,Bool.and_eq_true] at hok;obtain⟨⟨⟨h1,h2⟩,h3⟩,h4⟩:=hok;refine takeS hi (Region.noSelect_spec h1) (NoPanic.never Q) 8 (by simpa using h4) n (Region.free_spec hi h2) (by simpa using h3) hy ?_;rw[bits_set];exact h
theorem Xs.take (i:Nat)(d:Option Tmp){oi:Oper}{v:Value}(hi:ops[i]? = some oi)(hd:oi.dst=d)
 (hok:okTakeS ops s ls i=true) (hw:Region.wanted oi (yielded ops a.tmps)=true)
 (hrun:∀w',Ext w0 w'→(execOp a.eval oi).run P w'=.ok (.value v) w') (h:Xs L s w0 P ops Q n (i::ls) (a.put d v) w):Xs L s w0 P ops Q (n+1) ls a w:=
 Xs.takeY i d hi hd hok (.inl ⟨hw,hrun⟩) h
theorem Xst (i:Nat){d:Option Tmp}{oi:Oper}{v:Value}{b:Act}(h:Xs L s w0 P ops Q n (i::ls) b w)(hi:ops[i]? = some oi:=by rfl)(hd:oi.dst=d:=by(conv=>lhs;whnf);try rfl)(hok:okTakeS ops s ls i=true:=by decide +kernel)(hw:Region.wanted oi (yielded ops a.tmps)=true:=by rfl)
 (hrun:∀w',Ext w0 w'→(execOp a.eval oi).run P w'=.ok (.value v) w':=by intro w' hk;go_simp;(try with_reducible rfl);done)
 (hb:a.put d v=b:=by(try simp only[Act.put,List.setIfInBounds_toArray,List.set_cons_zero,List.set_cons_succ]);(try with_reducible rfl);done):Xs L s w0 P ops Q (n+1) ls a w:=Xs.take i d hi hd hok hw hrun (hb▸h)
theorem Xs.call (i:Nat){o:Oper}(ho:ops[i]? = some o)(hr:(Region.ready .any ops (bits ops.size ls) == [i]&&i != s)=true)(hw:Region.wanted o (yielded ops a.tmps)=true)
 (h:∀w',Ext w w'→Ext w0 w'→∀K,(∀a2 w2,Ext w' w2→Xs L s w0 P ops Q n (i::ls) a2 w2→K a2 w2)→o.wp P a w' K (NoPanic Q)):Xs L s w0 P ops Q (n+1) ls a w:=by
 simp only[Bool.and_eq_true,beq_iff_eq,bne_iff_ne,ne_eq] at hr;obtain⟨hr,his⟩:=hr;intro hD;refine⟨by rw[hr];simp,fun hs=>?_,fun j hj hjs w' x1 x2=>?_⟩
 ·rw[hr] at hs;exact absurd (List.mem_singleton.1 hs).symm his
 ·rw[hr] at hj;obtain rfl:=List.mem_singleton.1 hj;refine step_of ho hw fun K' hK'=>h w' x1 x2 K' fun a2 w2 h3 h5=>hK' a2 w2 ⟨h3,?_⟩;rw[bits_set];exact h5
theorem Xscl (i:Nat){o:Oper}(h:∀w',Ext w w'→Ext w0 w'→∀K,(∀a2 w2,Ext w' w2→Xs L s w0 P ops Q n (i::ls) a2 w2→K a2 w2)→o.wp P a w' K (NoPanic Q))(ho:ops[i]? = some o:=by rfl)(hr:(Region.ready .any ops (bits ops.size ls) == [i]&&i != s)=true:=by decide +kernel)(hw:Region.wanted o (yielded ops a.tmps)=true:=by rfl):Xs L s w0 P ops Q (n+1) ls a w:=Xs.call i ho hr hw h
theorem Xs.stop (hr:Region.ready .any ops (bits ops.size ls)=[s])(h:∀w',Ext w w'→Ext w0 w'→Xr L w' P ops Q (n+1) [] [] [] ls a w'):Xs L s w0 P ops Q (n+1) ls a w:=by
 intro _;refine⟨by rw[hr];simp,fun _=>⟨hr,fun w' x1 x2=>⟨ls,rfl,h w' x1 x2⟩⟩,fun j hj hjs=>?_⟩;rw[hr] at hj;exact absurd (List.mem_singleton.1 hj) hjs
end
end
section
open Go.RowKit
def blkL (A:Option Addr):List Nat:=(A.map (·.block)).toList
theorem mem_blkL {A:Option Addr}{b:Nat}:b∈blkL A↔A.map (·.block)=some b:=by
 unfold blkL;cases A.map (·.block)<;>simp[eq_comm]
theorem KpP.of_grown {w w':World}{A:Option Addr}(h:w.grownBy w' (A.map (·.block))):KpP (fun b=>A.map (·.block)=some b) w w':=
 ⟨h.os,h.tape,h.output,h.size,fun k hk hn=>h.block k hk (fun e=>hn e.symm)⟩
theorem IL.kp {w w':World}{A:Option Addr}{c:Nat}{xs:List Int}{p:Nat→Prop}(h:IL w A c xs)(k:KpP p w w')(hn:xs≠[]→∀b,A.map (·.block)=some b→¬p b):IL w' A c xs:=by
 refine⟨h.le,h.cap,h.rng,fun hx=>?_⟩;obtain⟨b,o,rfl,hc⟩:=h.at_ hx;refine⟨b,o,rfl,fun i hi=>?_⟩;have h1:=hc i hi;rw[World.cell?_of_block (w:=w) (k.block b (World.block_lt_of_cell? _ _ h1) (hn hx b rfl))];exact h1
theorem IL.blt {w:World}{A:Option Addr}{c:Nat}{xs:List Int}(h:IL w A c xs)(hx:xs≠[]){b:Nat}(hb:A.map (·.block)=some b):b<w.heap.size:=by
 obtain⟨b',o,rfl,hc⟩:=h.at_ hx;have:b'=b:=by simpa using hb
 subst this;exact World.block_lt_of_cell? _ _ (hc 0 (List.length_pos_iff.2 hx))
theorem OwnS.blt {w:World}{base e size n c:Nat}{A:Option Addr}{xs:List Value}(h:OwnS w base e size A n c xs){b:Nat}(hb:A.map (·.block)=some b):b<w.heap.size∧∃cur,w.heap[b]? = some (.cells cur e (0,0)):=by
 rcases h.form with⟨rfl,_⟩|⟨g,cur,rfl,_,hh,_⟩
 ·simp at hb
 ·have:g=b:=by simpa using hb
  subst this;exact⟨(Array.getElem?_eq_some_iff.1 hh).1,cur,hh⟩
theorem OwnS.kp {w w':World}{base e size n c:Nat}{A:Option Addr}{xs:List Value}{p:Nat→Prop}(h:OwnS w base e size A n c xs)(k:KpP p w w')(hn:∀b,A.map (·.block)=some b→¬p b):OwnS w' base e size A n c xs:=by
 refine⟨h.1,?_⟩;rcases h.2 with h2|⟨g,cap,cur,hv,hg,hh,r⟩
 ·exact Or.inl h2
 ·refine Or.inr ⟨g,cap,cur,hv,hg,?_,r⟩;injection hv with e1 _ _
  subst e1;exact(k.block g (Array.getElem?_eq_some_iff.1 hh).1 (hn g rfl)).trans hh
theorem KpP.kp {p:Nat→Prop}{a b:World}{L:List Nat}(h:Kp L a b)(hp:∀i∈L,p i):KpP p a b:=⟨h.os,h.tape,h.output,h.size,fun k hk hn=>h.block k hk (fun hm=>hn (hp k hm))⟩
theorem WI_kp {L:List Nat}{I:List (Nat×Nat)}{a b:World}{p:Nat→Prop}(h:KpP p a b)(hp:∀i,p i→i∈L):WI L I a b:=KpP.mono h (fun k hk=>.inl (hp k hk))
theorem Kp.kpP {L:List Nat}{a b c:World}{p:Nat→Prop}(h:Kp L a b)(k:KpP p b c)(hp:∀i,p i→i∈L):Kp L a c:=
 ⟨k.os.trans h.os,k.tape.trans h.tape,k.output.trans h.output,Nat.le_trans h.size k.size,fun i hi hn=>(k.block i (Nat.lt_of_lt_of_le hi h.size) (fun hq=>hn (hp i hq))).trans (h.block i hi hn)⟩
theorem blk_cells {w:World}{g T:Nat}{cs:List Value}(h:Blk w g T cs.toArray):CellsAt w (some ⟨g,0,none⟩) cs:=fun _=>⟨g,0,rfl,fun i hi=>by rw[h.cell];simp[hi]⟩
theorem KpP.thenKp {p:Nat→Prop}{a b c:World}{L:List Nat}(h:KpP p a b)(k:Kp L b c)(hp:∀i∈L,p i∨a.heap.size≤i):KpP p a c:=
 ⟨k.os.trans h.os,k.tape.trans h.tape,k.output.trans h.output,Nat.le_trans h.size k.size,fun i hi hn=>(k.block i (Nat.lt_of_lt_of_le hi h.size) (fun hm=>(hp i hm).elim hn (fun e=>om))).trans (h.block i hi hn)⟩
theorem KpP.thenGrown {p:Nat→Prop}{a b c:World}{A:Option Addr}(h:KpP p a b)(k:b.grownBy c (A.map (·.block)))(hp:∀i,A.map (·.block)=some i→a.heap.size≤i):KpP p a c:=by
 have kk:=KpP.of_grown k;exact⟨kk.os.trans h.os,kk.tape.trans h.tape,kk.output.trans h.output,Nat.le_trans h.size kk.size,fun i hi hn=>(kk.block i (Nat.lt_of_lt_of_le hi h.size) (fun hm=>by have:=hp i hm;omega)).trans (h.block i hi hn)⟩
theorem Ext.kp {p:Nat→Prop}{a b c:World}(h:Ext a b)(k:KpP p b c)(hp:∀i,p i→a.heap.size≤i):Ext a c:=
 ⟨k.os.trans h.os,k.tape.trans h.tape,k.output.trans h.output,Nat.le_trans h.size k.size,fun i hi=>(k.block i (Nat.lt_of_lt_of_le hi h.size) (fun hq=>by have:=hp i hq;omega)).trans (h.block i hi)⟩
theorem own_ne {w:World}{b1 b2 e1 e2 s1 s2 n1 n2 c1 c2:Nat}{A B:Option Addr}{xs ys:List Value}(h:OwnS w b1 e1 s1 A n1 c1 xs)(k:OwnS w b2 e2 s2 B n2 c2 ys)(hne:e1≠e2){b:Nat}(hb:A.map (·.block)=some b):B.map (·.block)≠some b:=fun e=>by
 obtain⟨_,cur,hh⟩:=OwnS.blt h hb;obtain⟨_,cur2,hh2⟩:=OwnS.blt k e;rw[hh] at hh2;injection hh2 with hh2;injection hh2 with _ h2
 exact hne h2
theorem own_blk {w:World}{b1 e1 s1 n1 c1 g T:Nat}{A:Option Addr}{xs:List Value}{cs:Array Value}(h:OwnS w b1 e1 s1 A n1 c1 xs)(k:Blk w g T cs)(hne:e1≠T):A.map (·.block)≠some g:=fun e=>by
 obtain⟨_,cur,hh⟩:=OwnS.blt h e;unfold Blk at k;rw[k] at hh;injection hh with hh;injection hh with _ h2
 exact hne h2.symm
theorem blk_blk {w:World}{g h T U:Nat}{cs ds:Array Value}(k:Blk w g T cs)(l:Blk w h U ds)(hne:T≠U):g≠h:=by
 rintro rfl;unfold Blk at k l;rw[k] at l;injection l with l;injection l with _ h2
 exact hne h2
end
section
open Go.RowKit
theorem Kp.grownL {L:List Nat}{a b c:World}{A:Option Addr}(h:Kp L a b)(k:b.grownBy c (A.map (·.block)))(hp:∀i,A.map (·.block)=some i→i∈L∨a.heap.size≤i):Kp L a c:=
 ⟨k.os.trans h.os,k.tape.trans h.tape,k.output.trans h.output,Nat.le_trans h.size k.size,fun i hi hn=>(k.block i (Nat.lt_of_lt_of_le hi h.size) (fun e=>by
  rcases hp i e.symm with h1|h1
  ·exact hn h1
  ·omega)).trans (h.block i hi hn)⟩
theorem WI_grown {L:List Nat}{I:List (Nat×Nat)}{w w':World}{A:Option Addr}(k:w.grownBy w' (A.map (·.block)))(hp:∀i,A.map (·.block)=some i→i∈L∨InI I i):WI L I w w':=
 ⟨k.os,k.tape,k.output,k.size,fun i hi hn=>k.block i hi (fun e=>hn (hp i e.symm))⟩
section
variable {P:Program} {ops:Array Oper} {Q:Exit→Act→World→Prop} {L:List Nat} {w0:World}
variable {n:Nat} {KD:List (Nat×Nat)} {Z:List Lz} {I:List (Nat×Nat)} {ls:List Nat} {a:Act} {w:World}
theorem Xr.fork2 (i j:Nat){oi oj:Oper}(hoi:ops[i]? = some oi)(hoj:ops[j]? = some oj)
 (hr:(Region.ready .any ops (bits ops.size ls) == [i,j]&&KD.all fun x=>x.1 != i&&x.1 != j)=true) (hwi:Region.wanted oi (yielded ops a.tmps)=true) (hwj:Region.wanted oj (yielded ops a.tmps)=true)
 (h1:∀w',Ext w w'→Kp L w0 w'→∀K,(∀a2 w2,WI L I w' w2→Kp L w0 w2→Xr L w0 P ops Q n KD Z ((w'.heap.size,w2.heap.size)::I) (i::ls) a2 w2→K a2 w2)→oi.wp P a w' K (NoPanic Q))
 (h2:∀w',Ext w w'→Kp L w0 w'→∀K,(∀a2 w2,WI L I w' w2→Kp L w0 w2→Xr L w0 P ops Q n KD Z ((w'.heap.size,w2.heap.size)::I) (j::ls) a2 w2→K a2 w2)→oj.wp P a w' K (NoPanic Q)) :
 Xr L w0 P ops Q (n+1) KD Z I ls a w:=by
 intro hKD;simp only[Bool.and_eq_true,beq_iff_eq] at hr;obtain⟨hr,hZ⟩:=hr;have hZi:(KD.all fun x=>x.1 != i)=true:=by
  rw[List.all_eq_true] at hZ ⊢;intro x hx;have:=hZ x hx;simp only[Bool.and_eq_true] at this;exact this.1
 have hZj:(KD.all fun x=>x.1 != j)=true:=by
  rw[List.all_eq_true] at hZ ⊢;intro x hx;have:=hZ x hx;simp only[Bool.and_eq_true] at this;exact this.2
 refine⟨fun h0=>(by rw[hr] at h0;cases h0),fun k hk w' x1 x2=>?_⟩;rw[hr] at hk
 (try unfold stepX)
 have hk2:k=i∨k=j:=by simpa using hk
 rcases hk2 with rfl|rfl
 ·rw[find_no (kd_find (by rw[hKD];exact hZi))];refine step_of hoi hwi fun K' hK'=>h1 w' x1 x2 K' fun a2 w2 h3 h4 h5=>hK' a2 w2 ⟨h3,h4,?_⟩;rw[bits_set];exact h5 hKD
 ·rw[find_no (kd_find (by rw[hKD];exact hZj))];refine step_of hoj hwj fun K' hK'=>h2 w' x1 x2 K' fun a2 w2 h3 h4 h5=>hK' a2 w2 ⟨h3,h4,?_⟩;rw[bits_set];exact h5 hKD
end
end
section
open Go.RowKit
section
variable {P:Program} {ops:Array Oper} {Q:Exit→Act→World→Prop} {w0:World} {s:Nat}
def Xe (s:Nat)(w0:World)(P:Program)(ops:Array Oper)(Q:Exit→Act→World→Prop)(n:Nat)(ls:List Nat)(a:Act)(w:World):Prop:=
 wpS P ops (NoPanic Q) w0 s (fun n listed a w=>wpAny P .any ops (NoPanic Q) n listed a w) n (bits ops.size ls) a w
theorem Xe.start {id:Nat}{a:Act}{w:World}(s:Nat)(hm:P.follows .mixedOrders=true)(h:Xe s w P ops Q ops.size [] a w):(Code.region id ops true).wp P Q a w:=by
 refine wp_region_noPanic (wp_region_any hm ?_);unfold Xe at h;rw[bits_nil] at h;refine wpAny_of_S ?_ _ ?_ (Ext.drew w) (wpS_ext _ h (Ext.drew w))
 ·exact fun n listed a w h=>h
 ·intro k hk
  exfalso
  by_cases hkn:k<ops.size
  ·simp[hkn] at hk
  ·simp[hkn] at hk
variable {n:Nat} {ls:List Nat} {a:Act} {w:World}
theorem Xe.take (i:Nat)(d:Option Tmp){oi:Oper}{v:Value}(hi:ops[i]? = some oi)(hd:oi.dst=d)
 (hok:okTakeS ops s ls i=true) (hw:Region.wanted oi (yielded ops a.tmps)=true)
 (hrun:∀w',Ext w0 w'→(execOp a.eval oi).run P w'=.ok (.value v) w') (h:Xe s w0 P ops Q n (i::ls) (a.put d v) w):Xe s w0 P ops Q (n+1) ls a w:=by
 subst hd;simp only[okTakeS,Bool.and_eq_true] at hok;obtain⟨⟨⟨h1,h2⟩,h3⟩,h4⟩:=hok;refine takeS hi (Region.noSelect_spec h1) (NoPanic.never Q) 8 (by simpa using h4) n (Region.free_spec hi h2) (by simpa using h3) (.inl ⟨hw,hrun⟩) ?_;rw[bits_set];exact h
theorem Xet (i:Nat){d:Option Tmp}{oi:Oper}{v:Value}{b:Act}(h:Xe s w0 P ops Q n (i::ls) b w)(hi:ops[i]? = some oi:=by rfl)(hd:oi.dst=d:=by(conv=>lhs;whnf);try rfl)(hok:okTakeS ops s ls i=true:=by decide +kernel)(hw:Region.wanted oi (yielded ops a.tmps)=true:=by rfl)
 (hrun:∀w',Ext w0 w'→(execOp a.eval oi).run P w'=.ok (.value v) w':=by intro w' hk;go_simp;(try with_reducible rfl);done)
 (hb:a.put d v=b:=by(try simp only[Act.put,List.setIfInBounds_toArray,List.set_cons_zero,List.set_cons_succ]);(try with_reducible rfl);done):Xe s w0 P ops Q (n+1) ls a w:=Xe.take i d hi hd hok hw hrun (hb▸h)
theorem Xe.last {o:Oper}(ho:ops[s]? = some o)(hr:(Region.ready .any ops (bits ops.size ls) == [s]&&Region.ready .any ops (bits ops.size (s::ls)) == [])=true)(hw:Region.wanted o (yielded ops a.tmps)=true)
 (h:∀w',Ext w w'→Ext w0 w'→∀K,(∀a2 w2,Q .normal a2 w2→K a2 w2)→o.wp P a w' K (NoPanic Q)):Xe s w0 P ops Q (n+1) ls a w:=by
 simp only[Bool.and_eq_true,beq_iff_eq] at hr;obtain⟨hr,hr2⟩:=hr;intro _;refine⟨by rw[hr];simp,fun _=>⟨hr,fun w' x1 x2=>?_⟩,fun j hj hjs=>?_⟩
 ·refine⟨fun h0=>(by rw[hr] at h0;cases h0),fun j hj=>?_⟩;rw[hr] at hj;obtain rfl:=List.mem_singleton.1 hj;refine step_of ho hw fun K' hK'=>h w' x1 x2 K' fun a2 w2 hq=>hK' a2 w2 ?_;rw[bits_set]
  cases n with
  | zero=>exact⟨hr2,hq⟩
  | succ n=>exact⟨fun _=>hq,fun i hi=>(by rw[hr2] at hi;cases hi)⟩
 ·rw[hr] at hj;exact absurd (List.mem_singleton.1 hj) hjs
end
end
end Go.Proofs.YtmocoldobnimfaaGreat
