/- Texts of this proof: Fs G0 P1 P5. -/
import Derived.Test.YtmocoldobnimfaaGreatU04
import Derived.Test.YtmocoldobnimfaaGreatU05
set_option linter.all false
namespace Go.Proofs.YtmocoldobnimfaaGreat
section
open Go.RowKit
def depsOf (ops:Array Oper)(k:Nat):List Nat:=match ops[k]? with
 | some o=>(o.after.toList.filter (fun e=>Region.binds .any e)).map (·.on)
 | none=>[]
def Down (ops:Array Oper)(listed:Array Bool):Prop:=∀k,listed.getD k false=true→∀d∈depsOf ops k,listed.getD d false=true
def ancs (ops:Array Oper):Nat→List Nat→List Nat
 | 0,S=>S
 | f+1,S=>ancs ops f ((List.range ops.size).filter fun d=>S.contains d || S.any fun k=>(depsOf ops k).contains d)
theorem ancs_all {ops:Array Oper}{listed:Array Bool}(hD:Down ops listed):∀(f:Nat) (S:List Nat),(∀d∈S,listed.getD d false=true)→∀d∈ancs ops f S,listed.getD d false=true
 | 0,_,h,d,hd=>h d hd
 | f+1,S,h,d,hd=>ancs_all hD f _ (fun x hx=>by
  obtain⟨_,hx⟩:=List.mem_filter.1 hx;rw[Bool.or_eq_true] at hx;rcases hx with hx|hx
  ·exact h x (by simpa using hx)
  ·obtain⟨k,hk,hkx⟩:=List.any_eq_true.1 hx;exact hD k (h k hk) x (by simpa using hkx)) d hd
theorem deps_ready {ops:Array Oper}{listed:Array Bool}{s:Nat}(h:s∈Region.ready .any ops listed):∀d∈depsOf ops s,listed.getD d false=true:=by
 obtain⟨_,o,ho,hall⟩:=mem_ready.1 h;intro d hd;unfold depsOf at hd;rw[ho] at hd;simp only[List.mem_map,List.mem_filter] at hd;obtain⟨e,⟨he,hb⟩,rfl⟩:=hd;exact hall e (by simpa using he) hb
theorem Down.set {ops:Array Oper}{listed:Array Bool}{i:Nat}(hD:Down ops listed)(hi:i∈Region.ready .any ops listed):Down ops (listed.setIfInBounds i true):=by
 intro k hk d hd;by_cases hki:k=i
 ·subst hki;exact getD_set_true (deps_ready hi d hd)
 ·rw[getD_set_ne false (Ne.symm hki)] at hk;exact getD_set_true (hD k hk d hd)
section
variable (P:Program) (ops:Array Oper) (Q:Exit→Act→World→Prop) (w0:World) (s:Nat) (Fin:Nat→Array Bool→Act→World→Prop)
def wpS:Nat→Array Bool→Act→World→Prop
 | 0,listed,_,_=>Down ops listed→False
 | n+1,listed,a,w=>Down ops listed→Region.ready .any ops listed≠[]∧
  (s∈Region.ready .any ops listed→Region.ready .any ops listed=[s]∧∀w',Ext w w'→Ext w0 w'→Fin (n+1) listed a w')∧
  ∀i∈Region.ready .any ops listed,i≠s→∀w',Ext w w'→Ext w0 w'→wpOp P ops Q i (fun a2 w2=>Ext w' w2∧wpS n (listed.setIfInBounds i true) a2 w2) a w'
end
section
variable {P:Program} {ops:Array Oper} {Q:Exit→Act→World→Prop} {w0:World} {s:Nat} {Fin:Nat→Array Bool→Act→World→Prop}
theorem wpS_ext:∀(n:Nat) {listed:Array Bool} {a:Act} {w w':World},wpS P ops Q w0 s Fin n listed a w→Ext w w'→wpS P ops Q w0 s Fin n listed a w'
 | 0,_,_,_,_,h,_=>h
 | _+1,_,_,_,_,h,k=>fun hD=>⟨(h hD).1,fun hs=>⟨((h hD).2.1 hs).1,fun w2 h2 h3=>((h hD).2.1 hs).2 w2 (k.trans h2) h3⟩,fun i hi his w2 h2 h3=>(h hD).2.2 i hi his w2 (k.trans h2) h3⟩
theorem takeS {i:Nat}{oi:Oper}{v:Value}(hi:ops[i]? = some oi)(hsel:∀(j:Nat) (o:Oper) cs b,ops[j]? = some o→o.op≠.select cs b)(hQ:∀c a w,¬Q (.panic c) a w)
 (f:Nat) (hanc:i∈ancs ops f (depsOf ops s)) :
 ∀(n:Nat) {listed:Array Bool} {a:Act} {w:World},
  (∀j oj,ops[j]? = some oj→j≠i→listed.getD j true=false→(∀e∈oj.after,Region.binds .any e=true→e.on≠i)→oi.apart ops oj=true)→
  i∈Region.ready .any ops listed→YieldsIf P ops (Ext w0) oi v a→wpS P ops Q w0 s Fin n (listed.setIfInBounds i true) (a.put oi.dst v) w→wpS P ops Q w0 s Fin (n+1) listed a w:=by
 intro n;induction n with
 | zero=>
  intro listed a w _ hr _ h hD;exact absurd (hD.set hr) h
 | succ n ih=>
  intro listed a w hfree hr hy h hD;have hns:¬s∈Region.ready .any ops listed:=fun hs=>by
   have h1:=ancs_all hD f _ (deps_ready hs) i hanc;have h2:=(mem_ready.1 hr).1;rcases Nat.lt_or_ge i listed.size with h'|h'
   ·simp[h'] at h1 h2;rw[h1] at h2;cases h2
   ·simp[Array.getElem?_eq_none h'] at h1
  refine⟨fun h0=>(by rw[h0] at hr;cases hr),fun hs=>absurd hs hns,fun j hj hjs w' h1 h2=>?_⟩;by_cases hji:j=i
  ·subst hji;exact hy.wpOp hi h2 ⟨Ext.rfl' _,wpS_ext (n+1) h h1⟩
  ·obtain⟨hjun,oj,hoj,hall⟩:=mem_ready.1 hj;have hnot:∀e∈oj.after,Region.binds .any e=true→e.on≠i:=fun e he hb heq=>by
    have h1:=hall e he hb;have h0:=(mem_ready.1 hr).1;rw[heq] at h1;rcases Nat.lt_or_ge i listed.size with h'|h'
    ·simp[h'] at h0 h1;rw[h0] at h1;cases h1
    ·simp[Array.getElem?_eq_none h'] at h1
   have hap:=hfree j oj hoj hji hjun hnot;have h3:=(h (hD.set hr)).2.2 j (ready_mono hj hji) hjs w' h1 h2;have hQ':∀c a w,Q (.panic c) (a.put oi.dst v) w→Q (.panic c) a w:=fun c a w h=>absurd h (hQ _ _ _);have hfree':∀k ok,ops[k]? = some ok→k≠i→(listed.setIfInBounds j true).getD k true=false→
    (∀e∈ok.after,Region.binds .any e=true→e.on≠i)→oi.apart ops ok=true:=fun k ok hk hki hun hno=>hfree k ok hk hki (unlisted_set hun).2 hno
   refine wpOp_mono (fun a2 w2 h4=>?_) (wpOp_putIf hoj hap (fun cs b=>hsel i oi cs b hi) (fun cs b=>hsel j oj cs b hoj) hQ' hy h3);obtain⟨h5,h6,h7⟩:=h4;refine⟨h6,ih hfree' (ready_mono hr (Ne.symm hji)) h5 ?_⟩;rw[Array.setIfInBounds_comm _ _ hji];exact h7
theorem wpAny_of_S (hFin:∀n listed a w,Fin n listed a w→wpAny P .any ops Q n listed a w):∀(n:Nat) {listed:Array Bool} {a:Act} {w:World},Down ops listed→Ext w0 w→wpS P ops Q w0 s Fin n listed a w→wpAny P .any ops Q n listed a w
 | 0,_,_,_,hD,_,h=>absurd hD h
 | n+1,listed,a,w,hD,hx,h=>by
  obtain⟨h0,h1,h2⟩:=h hD;by_cases hs:s∈Region.ready .any ops listed
  ·exact hFin _ _ _ _ ((h1 hs).2 w (Ext.rfl' _) hx)
  ·refine⟨fun hr=>absurd hr h0,fun i hi=>?_⟩;have his:i≠s:=fun e=>hs (e▸hi);exact wpOp_mono (fun a2 w2 h4=>wpAny_of_S hFin n (hD.set hi) (hx.trans h4.1) h4.2) (h2 i hi his w (Ext.rfl' _) hx)
def Xs (L:List Nat)(s:Nat)(w0:World)(P:Program)(ops:Array Oper)(Q:Exit→Act→World→Prop)(n:Nat)(ls:List Nat)(a:Act)(w:World):Prop:=
 wpS P ops (NoPanic Q) w0 s (fun n listed a w=>∃ls,listed=bits ops.size ls∧Xr L w P ops Q n [] [] [] ls a w) n (bits ops.size ls) a w
theorem Xs.start {id:Nat}{a:Act}{w:World}(L:List Nat)(s:Nat)(hm:P.follows .mixedOrders=true)(h:Xs L s w P ops Q ops.size [] a w):(Code.region id ops true).wp P Q a w:=by
 refine wp_region_noPanic (wp_region_any hm ?_);unfold Xs at h;rw[bits_nil] at h;refine wpAny_of_S ?_ _ ?_ (Ext.drew w) (wpS_ext _ h (Ext.drew w))
 ·rintro n listed a w ⟨ls,rfl,hX⟩;exact wpAny_of_X _ (Kp.refl _ _) (hX rfl)
 ·intro k hk
  exfalso
  by_cases hkn:k<ops.size
  ·simp[hkn] at hk
  ·simp[hkn] at hk
variable {n:Nat} {ls:List Nat} {a:Act} {w:World} {L:List Nat}
def okTakeS (ops:Array Oper)(s:Nat)(ls:List Nat)(i:Nat):Bool:=
 Region.noSelect ops&&Region.free .any ops (bits ops.size ls) i&&(Region.ready .any ops (bits ops.size ls)).contains i&&(ancs ops 8 (depsOf ops s)).contains i
theorem Xs.takeY (i:Nat)(d:Option Tmp){oi:Oper}{v:Value}(hi:ops[i]? = some oi)(hd:oi.dst=d)
 (hok:okTakeS ops s ls i=true) (hy:YieldsIf P ops (Ext w0) oi v a) (h:Xs L s w0 P ops Q n (i::ls) (a.put d v) w):Xs L s w0 P ops Q (n+1) ls a w:=by
 subst hd;simp only[okTakeS,Bool.and_eq_true] at hok;obtain⟨⟨⟨h1,h2⟩,h3⟩,h4⟩:=hok;refine takeS hi (Region.noSelect_spec h1) (NoPanic.never Q) 8 (by simpa using h4) n (Region.free_spec hi h2) (by simpa using h3) hy ?_;rw[bits_set];exact h
theorem Xs.take (i:Nat)(d:Option Tmp){oi:Oper}{v:Value}(hi:ops[i]? = some oi)(hd:oi.dst=d)
 (hok:okTakeS ops s ls i=true) (hw:Region.wanted oi (yielded ops a.tmps)=true)
 (hrun:∀w',Ext w0 w'→(execOp a.eval oi).run P w'=.ok (.value v) w') (h:Xs L s w0 P ops Q n (i::ls) (a.put d v) w):Xs L s w0 P ops Q (n+1) ls a w:=
 Xs.takeY i d hi hd hok (.inl ⟨hw,hrun⟩) h
theorem Xst (i:Nat){d:Option Tmp}{oi:Oper}{v:Value}{b:Act}(h:Xs L s w0 P ops Q n (i::ls) b w)(hi:ops[i]? = some oi:=by rfl)(hd:oi.dst=d:=by(conv=>lhs;whnf);try rfl)(hok:okTakeS ops s ls i=true:=by decide +kernel)(hw:Region.wanted oi (yielded ops a.tmps)=true:=by rfl)
 (hrun:∀w',Ext w0 w'→(execOp a.eval oi).run P w'=.ok (.value v) w':=by intro w' hk;go_simp;(try with_reducible rfl);done)
 (hb:a.put d v=b:=by(try simp only[Act.put,List.setIfInBounds_toArray,List.set_cons_zero,List.set_cons_succ]);(try with_reducible rfl);done):Xs L s w0 P ops Q (n+1) ls a w:=Xs.take i d hi hd hok hw hrun (hb▸h)
theorem Xs.call (i:Nat){o:Oper}(ho:ops[i]? = some o)(hr:(Region.ready .any ops (bits ops.size ls) == [i]&&i != s)=true)(hw:Region.wanted o (yielded ops a.tmps)=true)
 (h:∀w',Ext w w'→Ext w0 w'→∀K,(∀a2 w2,Ext w' w2→Xs L s w0 P ops Q n (i::ls) a2 w2→K a2 w2)→o.wp P a w' K (NoPanic Q)):Xs L s w0 P ops Q (n+1) ls a w:=by
 simp only[Bool.and_eq_true,beq_iff_eq,bne_iff_ne,ne_eq] at hr;obtain⟨hr,his⟩:=hr;intro hD;refine⟨by rw[hr];simp,fun hs=>?_,fun j hj hjs w' x1 x2=>?_⟩
 ·rw[hr] at hs;exact absurd (List.mem_singleton.1 hs).symm his
 ·rw[hr] at hj;obtain rfl:=List.mem_singleton.1 hj;refine step_of ho hw fun K' hK'=>h w' x1 x2 K' fun a2 w2 h3 h5=>hK' a2 w2 ⟨h3,?_⟩;rw[bits_set];exact h5
theorem Xscl (i:Nat){o:Oper}(h:∀w',Ext w w'→Ext w0 w'→∀K,(∀a2 w2,Ext w' w2→Xs L s w0 P ops Q n (i::ls) a2 w2→K a2 w2)→o.wp P a w' K (NoPanic Q))(ho:ops[i]? = some o:=by rfl)(hr:(Region.ready .any ops (bits ops.size ls) == [i]&&i != s)=true:=by decide +kernel)(hw:Region.wanted o (yielded ops a.tmps)=true:=by rfl):Xs L s w0 P ops Q (n+1) ls a w:=Xs.call i ho hr hw h
theorem Xs.stop (hr:Region.ready .any ops (bits ops.size ls)=[s])(h:∀w',Ext w w'→Ext w0 w'→Xr L w' P ops Q (n+1) [] [] [] ls a w'):Xs L s w0 P ops Q (n+1) ls a w:=by
 intro _;refine⟨by rw[hr];simp,fun _=>⟨hr,fun w' x1 x2=>⟨ls,rfl,h w' x1 x2⟩⟩,fun j hj hjs=>?_⟩;rw[hr] at hj;exact absurd (List.mem_singleton.1 hj) hjs
end
end
section
open Go.RowKit
def blkL (A:Option Addr):List Nat:=(A.map (·.block)).toList
theorem mem_blkL {A:Option Addr}{b:Nat}:b∈blkL A↔A.map (·.block)=some b:=by
 unfold blkL;cases A.map (·.block)<;>simp[eq_comm]
theorem KpP.of_grown {w w':World}{A:Option Addr}(h:w.grownBy w' (A.map (·.block))):KpP (fun b=>A.map (·.block)=some b) w w':=
 ⟨h.os,h.tape,h.output,h.size,fun k hk hn=>h.block k hk (fun e=>hn e.symm)⟩
theorem IL.kp {w w':World}{A:Option Addr}{c:Nat}{xs:List Int}{p:Nat→Prop}(h:IL w A c xs)(k:KpP p w w')(hn:xs≠[]→∀b,A.map (·.block)=some b→¬p b):IL w' A c xs:=by
 refine⟨h.le,h.cap,h.rng,fun hx=>?_⟩;obtain⟨b,o,rfl,hc⟩:=h.at_ hx;refine⟨b,o,rfl,fun i hi=>?_⟩;have h1:=hc i hi;rw[World.cell?_of_block (w:=w) (k.block b (World.block_lt_of_cell? _ _ h1) (hn hx b rfl))];exact h1
theorem IL.blt {w:World}{A:Option Addr}{c:Nat}{xs:List Int}(h:IL w A c xs)(hx:xs≠[]){b:Nat}(hb:A.map (·.block)=some b):b<w.heap.size:=by
 obtain⟨b',o,rfl,hc⟩:=h.at_ hx;have:b'=b:=by simpa using hb
 subst this;exact World.block_lt_of_cell? _ _ (hc 0 (List.length_pos_iff.2 hx))
theorem OwnS.blt {w:World}{base e size n c:Nat}{A:Option Addr}{xs:List Value}(h:OwnS w base e size A n c xs){b:Nat}(hb:A.map (·.block)=some b):b<w.heap.size∧∃cur,w.heap[b]? = some (.cells cur e (0,0)):=by
 rcases h.form with⟨rfl,_⟩|⟨g,cur,rfl,_,hh,_⟩
 ·simp at hb
 ·have:g=b:=by simpa using hb
  subst this;exact⟨(Array.getElem?_eq_some_iff.1 hh).1,cur,hh⟩
theorem OwnS.kp {w w':World}{base e size n c:Nat}{A:Option Addr}{xs:List Value}{p:Nat→Prop}(h:OwnS w base e size A n c xs)(k:KpP p w w')(hn:∀b,A.map (·.block)=some b→¬p b):OwnS w' base e size A n c xs:=by
 refine⟨h.1,?_⟩;rcases h.2 with h2|⟨g,cap,cur,hv,hg,hh,r⟩
 ·exact Or.inl h2
 ·refine Or.inr ⟨g,cap,cur,hv,hg,?_,r⟩;injection hv with e1 _ _
  subst e1;exact(k.block g (Array.getElem?_eq_some_iff.1 hh).1 (hn g rfl)).trans hh
theorem KpP.kp {p:Nat→Prop}{a b:World}{L:List Nat}(h:Kp L a b)(hp:∀i∈L,p i):KpP p a b:=⟨h.os,h.tape,h.output,h.size,fun k hk hn=>h.block k hk (fun hm=>hn (hp k hm))⟩
theorem WI_kp {L:List Nat}{I:List (Nat×Nat)}{a b:World}{p:Nat→Prop}(h:KpP p a b)(hp:∀i,p i→i∈L):WI L I a b:=KpP.mono h (fun k hk=>.inl (hp k hk))
theorem Kp.kpP {L:List Nat}{a b c:World}{p:Nat→Prop}(h:Kp L a b)(k:KpP p b c)(hp:∀i,p i→i∈L):Kp L a c:=
 ⟨k.os.trans h.os,k.tape.trans h.tape,k.output.trans h.output,Nat.le_trans h.size k.size,fun i hi hn=>(k.block i (Nat.lt_of_lt_of_le hi h.size) (fun hq=>hn (hp i hq))).trans (h.block i hi hn)⟩
theorem blk_cells {w:World}{g T:Nat}{cs:List Value}(h:Blk w g T cs.toArray):CellsAt w (some ⟨g,0,none⟩) cs:=fun _=>⟨g,0,rfl,fun i hi=>by rw[h.cell];simp[hi]⟩
theorem KpP.thenKp {p:Nat→Prop}{a b c:World}{L:List Nat}(h:KpP p a b)(k:Kp L b c)(hp:∀i∈L,p i∨a.heap.size≤i):KpP p a c:=
 ⟨k.os.trans h.os,k.tape.trans h.tape,k.output.trans h.output,Nat.le_trans h.size k.size,fun i hi hn=>(k.block i (Nat.lt_of_lt_of_le hi h.size) (fun hm=>(hp i hm).elim hn (fun e=>om))).trans (h.block i hi hn)⟩
theorem KpP.thenGrown {p:Nat→Prop}{a b c:World}{A:Option Addr}(h:KpP p a b)(k:b.grownBy c (A.map (·.block)))(hp:∀i,A.map (·.block)=some i→a.heap.size≤i):KpP p a c:=by
 have kk:=KpP.of_grown k;exact⟨kk.os.trans h.os,kk.tape.trans h.tape,kk.output.trans h.output,Nat.le_trans h.size kk.size,fun i hi hn=>(kk.block i (Nat.lt_of_lt_of_le hi h.size) (fun hm=>by have:=hp i hm;omega)).trans (h.block i hi hn)⟩
theorem Ext.kp {p:Nat→Prop}{a b c:World}(h:Ext a b)(k:KpP p b c)(hp:∀i,p i→a.heap.size≤i):Ext a c:=
 ⟨k.os.trans h.os,k.tape.trans h.tape,k.output.trans h.output,Nat.le_trans h.size k.size,fun i hi=>(k.block i (Nat.lt_of_lt_of_le hi h.size) (fun hq=>by have:=hp i hq;omega)).trans (h.block i hi)⟩
theorem own_ne {w:World}{b1 b2 e1 e2 s1 s2 n1 n2 c1 c2:Nat}{A B:Option Addr}{xs ys:List Value}(h:OwnS w b1 e1 s1 A n1 c1 xs)(k:OwnS w b2 e2 s2 B n2 c2 ys)(hne:e1≠e2){b:Nat}(hb:A.map (·.block)=some b):B.map (·.block)≠some b:=fun e=>by
 obtain⟨_,cur,hh⟩:=OwnS.blt h hb;obtain⟨_,cur2,hh2⟩:=OwnS.blt k e;rw[hh] at hh2;injection hh2 with hh2;injection hh2 with _ h2
 exact hne h2
theorem own_blk {w:World}{b1 e1 s1 n1 c1 g T:Nat}{A:Option Addr}{xs:List Value}{cs:Array Value}(h:OwnS w b1 e1 s1 A n1 c1 xs)(k:Blk w g T cs)(hne:e1≠T):A.map (·.block)≠some g:=fun e=>by
 obtain⟨_,cur,hh⟩:=OwnS.blt h e;unfold Blk at k;rw[k] at hh;injection hh with hh;injection hh with _ h2
 exact hne h2.symm
theorem blk_blk {w:World}{g h T U:Nat}{cs ds:Array Value}(k:Blk w g T cs)(l:Blk w h U ds)(hne:T≠U):g≠h:=by
 rintro rfl;unfold Blk at k l;rw[k] at l;injection l with l;injection l with _ h2
 exact hne h2
end
section
abbrev St:=List Nat
structure Ins where
 op:Int
 x:Int
 y:Int
 n:Int
 set:List Sp
def addR (G:List Ins):Nat→List Nat×List Nat→Nat→List Nat×List Nat
 | 0,s,_=>s
 | f+1,s,pc=>if pc∈s.2 then s else
  match G[pc]? with
  | none=>s
  | some i=>
   if i.op=2 then addR G f (addR G f (s.1,s.2++[pc]) i.x.toNat) i.y.toNat
   else if i.op=3 then addR G f (s.1,s.2++[pc]) i.x.toNat
   else if i.op=4 then addR G f (s.1,s.2++[pc]) (pc+1)
   else(s.1++[pc],s.2++[pc])
def addP (G:List Ins):Nat→List Nat×List Nat→Nat→(List Nat×List Nat)×Bool
 | 0,s,_=>(s,true)
 | f+1,s,pc=>if pc∈s.2 then(s,true) else
  match G[pc]? with
  | none=>(s,true)
  | some i=>
   if i.op=2 then
    if(addP G f (s.1,s.2++[pc]) i.x.toNat).2=true then addP G f (addP G f (s.1,s.2++[pc]) i.x.toNat).1 i.y.toNat
    else addP G f (s.1,s.2++[pc]) i.x.toNat
   else if i.op=3 then addP G f (s.1,s.2++[pc]) i.x.toNat
   else if i.op=4 then addP G f (s.1,s.2++[pc]) (pc+1)
   else((s.1++[pc],s.2++[pc]),decide (i.op≠0))
def isD (G:List Ins)(pc:Nat):Bool:=match G[pc]? with|some i=>decide (i.op=0)|none=>false
theorem addR_pre (G:List Ins):∀f s pc,∃t,(addR G f s pc).1=s.1++t
 | 0,s,pc=>⟨[],by simp[addR]⟩
 | f+1,s,pc=>by
  unfold addR
  split
  ·exact⟨[],by simp⟩
  ·split
   ·exact⟨[],by simp⟩
   ·rename_i i _
    split
    ·obtain⟨t1,h1⟩:=addR_pre G f (s.1,s.2++[pc]) i.x.toNat;obtain⟨t2,h2⟩:=addR_pre G f (addR G f (s.1,s.2++[pc]) i.x.toNat) i.y.toNat;exact⟨t1++t2,by rw[h2,h1,List.append_assoc]⟩
    ·split
     ·exact addR_pre G f (s.1,s.2++[pc]) i.x.toNat
     ·split
      ·exact addR_pre G f (s.1,s.2++[pc]) (pc+1)
      ·exact⟨[pc],rfl⟩
theorem addP_addR (G:List Ins):∀f s pc,(∀p∈s.1,isD G p=false)→
 ((addP G f s pc).2=true∧addR G f s pc=(addP G f s pc).1∧∀p∈(addP G f s pc).1.1,isD G p=false)∨
 ((addP G f s pc).2=false∧∃u d t,(addP G f s pc).1.1=u++[d]∧(∀p∈u,isD G p=false)∧isD G d=true∧(addR G f s pc).1=u++[d]++t)
 | 0,s,pc,h=>.inl ⟨rfl,rfl,h⟩
 | f+1,s,pc,h=>by
  unfold addP addR;by_cases hm:pc∈s.2
  ·simp only[hm,if_true];exact .inl ⟨trivial,trivial,h⟩
  ·simp only[hm,if_false]
   cases hg:G[pc]? with
   | none=>exact .inl ⟨rfl,rfl,h⟩
   | some i=>
    simp only
    by_cases h2:i.op=2
    ·simp only[h2,if_true];rcases addP_addR G f (s.1,s.2++[pc]) i.x.toNat h with⟨e1,e2,e3⟩|⟨e1,u,d,t,e2,e3,e4,e5⟩
     ·simp only[e1,if_true];rw[e2];exact addP_addR G f _ i.y.toNat e3
     ·simp only[e1];obtain⟨t2,h3⟩:=addR_pre G f (addR G f (s.1,s.2++[pc]) i.x.toNat) i.y.toNat;exact .inr ⟨e1,u,d,t++t2,e2,e3,e4,by rw[h3,e5];simp only[List.append_assoc]⟩
    ·simp only[h2,if_false];by_cases h3:i.op=3
     ·simp only[h3,if_true];exact addP_addR G f (s.1,s.2++[pc]) i.x.toNat h
     ·simp only[h3,if_false];by_cases h4:i.op=4
      ·simp only[h4,if_true];exact addP_addR G f (s.1,s.2++[pc]) (pc+1) h
      ·simp only[h4,if_false];by_cases h0:i.op=0
       ·right
        refine⟨by simp[h0],s.1,pc,[],rfl,h,by simp[isD,hg,h0],by simp⟩
       ·left
        refine⟨by simp[h0],trivial,fun p hp=>?_⟩;rcases List.mem_append.1 hp with hp|hp
        ·exact h p hp
        ·have:p=pc:=by simpa using hp
         subst this;simp[isD,hg,h0]
def listR (G:List Ins)(N:Nat)(from_:List Nat):List Nat×List Nat:=from_.foldl (addR G N) ([],[])
def listP (G:List Ins)(N:Nat):List Nat→List Nat×List Nat→List Nat×List Nat
 | [],s=>s
 | p::r,s=>if(addP G N s p).2=true then listP G N r (addP G N s p).1 else(addP G N s p).1
def cutD (G:List Ins):List Nat→List Nat
 | []=>[]
 | p::r=>if isD G p=true then[p] else p::cutD G r
theorem cutD_none {G:List Ins}:∀{l:List Nat},(∀p∈l,isD G p=false)→cutD G l=l
 | [],_=>rfl
 | p::r,h=>by
  unfold cutD;rw[h p si];simp only[Bool.false_eq_true,if_false];rw[cutD_none (fun q hq=>h q (by simp[hq]))]
theorem cutD_at {G:List Ins}{d:Nat}{t:List Nat}(hd:isD G d=true):∀{u:List Nat},(∀p∈u,isD G p=false)→cutD G (u++[d]++t)=u++[d]
 | [],_=>by simp[cutD,hd]
 | p::r,h=>by
  simp only[List.cons_append];unfold cutD;rw[h p si];simp only[Bool.false_eq_true,if_false];have:=cutD_at (t:=t) hd (u:=r) (fun q hq=>h q (by simp[hq]));simp only[List.append_assoc,List.singleton_append] at this ⊢;rw[this]
theorem foldR_pre (G:List Ins)(N:Nat):∀(r:List Nat) (s:List Nat×List Nat),∃t,(r.foldl (addR G N) s).1=s.1++t
 | [],s=>⟨[],by simp⟩
 | p::r,s=>by
  obtain⟨t1,h1⟩:=addR_pre G N s p;obtain⟨t2,h2⟩:=foldR_pre G N r (addR G N s p);exact⟨t1++t2,by rw[List.foldl_cons,h2,h1,List.append_assoc]⟩
theorem listP_listR (G:List Ins)(N:Nat):∀(r:List Nat) (s:List Nat×List Nat),(∀p∈s.1,isD G p=false)→(listP G N r s).1=cutD G (r.foldl (addR G N) s).1
 | [],s,h=>by simp[listP,cutD_none h]
 | p::r,s,h=>by
  unfold listP;rw[List.foldl_cons];rcases addP_addR G N s p h with⟨e1,e2,e3⟩|⟨e1,u,d,t,e2,e3,e4,e5⟩
  ·simp only[e1,if_true];rw[e2];exact listP_listR G N r _ e3
  ·simp only[e1];obtain⟨t2,h2⟩:=foldR_pre G N r (addR G N s p);rw[h2,e5,List.append_assoc];simp only[Bool.false_eq_true,if_false];rw[e2,cutD_at e4 e3]
def stateG (G:List Ins)(from_:List Nat):List Nat:=cutD G (listR G (G.length+1) from_).1
theorem state_prog (G:List Ins)(from_:List Nat):(listP G (G.length+1) from_ ([],[])).1=stateG G from_:=listP_listR G _ from_ _ si
def grow (L:List St)(s:St):List St:=if s=[]∨s∈L then L else L++[s]
def growAll (ts:List St)(L:List St):List St:=ts.foldl grow L
theorem grow_pre (L:List St)(s:St):∃t,grow L s=L++t:=by
 unfold grow;split
 ·exact⟨[],by simp⟩
 ·exact⟨[s],rfl⟩
theorem growAll_pre:∀(ts:List St) (L:List St),∃t,growAll ts L=L++t
 | [],L=>⟨[],by simp[growAll]⟩
 | s::ts,L=>by
  obtain⟨t1,h1⟩:=grow_pre L s;obtain⟨t2,h2⟩:=growAll_pre ts (grow L s);exact⟨t1++t2,by show growAll ts (grow L s)=_;rw[h2,h1,List.append_assoc]⟩
theorem grow_mem (L:List St)(s:St):s=[]∨s∈grow L s:=by
 unfold grow;split
 ·assumption
 ·exact .inr si
theorem growAll_mem:∀(ts:List St) (L:List St),∀s∈ts,s=[]∨s∈growAll ts L
 | [],_,s,h=>by cases h
 | t::ts,L,s,h=>by
  show s=[]∨s∈growAll ts (grow L t)
  rcases List.mem_cons.1 h with rfl|h
  ·rcases grow_mem L s with h1|h1
   ·exact .inl h1
   ·obtain⟨u,hu⟩:=growAll_pre ts (grow L s);exact .inr (by rw[hu];simp[h1])
  ·exact growAll_mem ts _ s h
def GoodL (L:List St):Prop:=L.Nodup∧[]∉L
theorem grow_good {L:List St}(h:GoodL L)(s:St):GoodL (grow L s):=by
 unfold grow;split
 ·exact h
 ·rename_i hn
  simp only[not_or] at hn;refine⟨?_,?_⟩
  ·rw[List.nodup_append];exact⟨h.1,by simp,fun a ha b hb=>by
    have:b=s:=by simpa using hb
    subst this;rintro rfl;exact hn.2 ha⟩
  ·simp only[List.mem_append,List.mem_singleton,not_or];exact⟨h.2,fun e=>hn.1 e.symm⟩
theorem growAll_good:∀(ts:List St) {L:List St},GoodL L→GoodL (growAll ts L)
 | [],_,h=>h
 | s::ts,_,h=>growAll_good ts (grow_good h s)
def expl (nx:St→List St):Nat→Nat→List St→Option (List St)
 | 0,_,_=>none
 | f+1,i,L=>if 1024<L.length then none else match L[i]? with
  | none=>some L
  | some l=>expl nx f (i+1) (growAll (nx l) L)
theorem expl_over {nx:St→List St}{f i:Nat}{L:List St}(h:1024<L.length):expl nx f i L=none:=by
 cases f with
 | zero=>rfl
 | succ f=>unfold expl;rw[if_pos h]
theorem expl_step {nx:St→List St}{f i:Nat}{L:List St}(h:¬1024<L.length)(hi:i<L.length):expl nx (f+1) i L=expl nx f (i+1) (growAll (nx L[i]) L):=by
 rw[expl,if_neg h,List.getElem?_eq_getElem hi]
theorem expl_end {nx:St→List St}{f i:Nat}{L:List St}(h:¬1024<L.length)(hi:L.length≤i):expl nx (f+1) i L=some L:=by
 rw[expl,if_neg h,List.getElem?_eq_none hi]
theorem expl_congr {nx nx':St→List St}(h:∀l,nx l=nx' l)(f i:Nat)(L:List St):expl nx f i L=expl nx' f i L:=by
 have:nx=nx':=funext h;rw[this]
def idx (L:List St)(s:St):Int:=if s=[] then -1 else(L.idxOf s:Nat)
theorem idx_pre {L t:List St}{s:St}(h:s=[]∨s∈L):idx (L++t) s=idx L s:=by
 unfold idx
 split
 ·rfl
 ·rename_i hn
  have hm:s∈L:=h.resolve_left hn;rw[List.idxOf_append,if_pos hm]
theorem idx_get {L:List St}(hg:GoodL L){j:Nat}(hj:j<L.length):idx L L[j]=j:=by
 unfold idx;have hne:L[j]≠[]:=fun e=>hg.2 (by rw[←e];exact List.getElem_mem hj);rw[if_neg hne,hg.1.idxOf_getElem]
theorem idx_bd {L:List St}{s:St}(h:s∈L)(hn:s≠[]):0≤idx L s∧idx L s<L.length∧L[(idx L s).toNat]? = some s:=by
 unfold idx;rw[if_neg hn];have h1:=List.idxOf_lt_length_of_mem h;refine⟨om,om,?_⟩;simp[h1]
inductive Rch {α:Type} (E:α→α→Prop):α→α→Prop
 | one {a b:α}:E a b→Rch E a b
 | cons {a b c:α}:E a b→Rch E b c→Rch E a c
theorem Rch.trans {α:Type}{E:α→α→Prop}{a b c:α}(h:Rch E a b)(k:Rch E b c):Rch E a c:=by
 induction h with
 | one h=>exact .cons h k
 | cons h _ ih=>exact .cons h (ih k)
structure Lead (E:Nat→Nat→Prop)(M M':Nat→Prop)(t:Nat):Prop where
 sub:∀x,M x→M' x
 all:∀p,E p t→M' p
 new:∀x,M' x→¬M x→Rch E x t∧∀p,E p x→M' p
structure LeadI (E:Nat→Nat→Prop)(M M':Nat→Prop)(t:Nat)(P:Nat→Prop):Prop where
 sub:∀x,M x→M' x
 all:∀p,P p→M' p
 new:∀x,M' x→¬M x→Rch E x t∧∀p,E p x→M' p
theorem LeadI.start (E:Nat→Nat→Prop)(M:Nat→Prop)(t:Nat):LeadI E M M t (fun _=>False):=⟨fun _ h=>h,fun _ h=>h.elim,fun x h k=>absurd h k⟩
theorem LeadI.old {E:Nat→Nat→Prop}{M M':Nat→Prop}{t:Nat}{P:Nat→Prop}(h:LeadI E M M' t P){s:Nat}(hs:M' s):LeadI E M M' t (fun p=>P p∨p=s):=
 ⟨h.sub,fun p hp=>hp.elim (h.all p) (fun e=>e▸hs),h.new⟩
theorem LeadI.step {E:Nat→Nat→Prop}{M M' M'':Nat→Prop}{t:Nat}{P:Nat→Prop}(h:LeadI E M M' t P){s:Nat}(hE:E s t)(k:Lead E (fun x=>M' x∨x=s) M'' s):LeadI E M M'' t (fun p=>P p∨p=s):=by
 refine⟨fun x hx=>k.sub x (.inl (h.sub x hx)),fun p hp=>k.sub p (hp.imp (h.all p) id),fun x hx hM=>?_⟩;by_cases h1:M' x
 ·obtain⟨h2,h3⟩:=h.new x h1 hM;exact⟨h2,fun p hp=>k.sub p (.inl (h3 p hp))⟩
 ·by_cases h4:x=s
  ·subst h4;exact⟨.one hE,k.all⟩
  ·obtain⟨h5,h6⟩:=k.new x hx (by rintro(h7|h7);exact h1 h7;exact h4 h7);exact⟨h5.trans (.one hE),h6⟩
theorem LeadI.done {E:Nat→Nat→Prop}{M M':Nat→Prop}{t:Nat}{P:Nat→Prop}(h:LeadI E M M' t P)(hP:∀p,E p t→P p):Lead E M M' t:=⟨h.sub,fun p hp=>h.all p (hP p hp),h.new⟩
structure FindI (E:Nat→Nat→Prop)(M:Nat→Prop)(T:Nat→Prop):Prop where
 why:∀x,M x→∃t,T t∧Rch E x t
 clo:∀x,M x→∀p,E p x→M p
 all:∀t,T t→∀p,E p t→M p
theorem FindI.step {E:Nat→Nat→Prop}{M M':Nat→Prop}{T:Nat→Prop}(h:FindI E M T){t:Nat}(k:Lead E M M' t):FindI E M' (fun x=>T x∨x=t):=by
 refine⟨fun x hx=>?_,fun x hx p hp=>?_,fun u hu p hp=>?_⟩
 ·by_cases h1:M x
  ·obtain⟨u,h2,h3⟩:=h.why x h1;exact⟨u,.inl h2,h3⟩
  ·exact⟨t,.inr rfl,(k.new x hx h1).1⟩
 ·by_cases h1:M x
  ·exact k.sub p (h.clo x h1 p hp)
  ·exact(k.new x hx h1).2 p hp
 ·rcases hu with hu|rfl
  ·exact k.sub p (h.all u hu p hp)
  ·exact k.all p hp
theorem FindI.law {E:Nat→Nat→Prop}{M:Nat→Prop}{T:Nat→Prop}(h:FindI E M T)(x:Nat):M x↔∃t,T t∧Rch E x t:=by
 refine⟨h.why x,?_⟩;rintro⟨t,ht,hr⟩;induction hr with
 | one he=>exact h.all _ ht _ he
 | cons he _ ih=>exact h.clo _ (ih ht) _ he
def Stp (f:St→Int→St)(cs:List Int)(a b:St):Prop:=b≠[]∧∃c∈cs,f a c=b
def Opn (f:St→Int→St)(cs:List Int)(dn:St→Bool)(s:St):Prop:=∃t,Rch (Stp f cs) s t∧dn t=true
section
variable {f:St→Int→St} {cs:List Int} {dn:St→Bool}
theorem opn_word (hf:∀c,f [] c=[])(hd:dn []=false):∀(w:List Int) (s:St),w≠[]→(∀c∈w,c∈cs)→dn (w.foldl f s)=true→Opn f cs dn s
 | [],_,h,_,_=>absurd rfl h
 | [c],s,_,hc,h=>⟨f s c,.one ⟨fun e=>(by rw[List.foldl_cons,List.foldl_nil,e,hd] at h;cases h),c,hc c si,rfl⟩,h⟩
 | c::c2::r,s,_,hc,h=>by
  obtain⟨t,h1,h2⟩:=opn_word hf hd (c2::r) (f s c) si (fun x hx=>hc x (by simp[hx])) h;refine⟨t,.cons ⟨fun e=>?_,c,hc c si,rfl⟩ h1,h2⟩;have hnil:∀(l:List Int),l.foldl f []=[]:=fun l=>by
   induction l with
   | nil=>rfl
   | cons x l ih=>rw[List.foldl_cons,hf];exact ih
  have h3:(c::c2::r).foldl f s=(c2::r).foldl f (f s c):=rfl;rw[h3,e,hnil,hd] at h;cases h
theorem opn_none {S:List St}(hS:∀x∈S,∀c∈cs,dn (f x c)=false∧(f x c=[]∨f x c∈S)){s:St}(hs:s∈S):¬Opn f cs dn s:=by
 rintro⟨t,hr,hd⟩;have:∀{a b:St},Rch (Stp f cs) a b→a∈S→b∈S∧dn b=false:=by
  intro a b h;induction h with
  | one h=>
   intro ha;obtain⟨hn,c,hc,rfl⟩:=h;obtain⟨h1,h2⟩:=hS _ ha c hc;exact⟨h2.resolve_left hn,h1⟩
  | cons h _ ih=>
   intro ha;obtain⟨hn,c,hc,rfl⟩:=h;obtain⟨h1,h2⟩:=hS _ ha c hc;exact ih (h2.resolve_left hn)
 have:=(this hr hs).2;rw[hd] at this;cases this
end
def StpI (nx:Nat→Nat→Int)(m:Nat)(p t:Nat):Prop:=∃k,k<m∧nx p k=(t:Int)
theorem opn_idx {f:St→Int→St}{cs:List Int}{dn:St→Bool}{R:List St}(hg:GoodL R)(hc:∀l∈R,∀c∈cs,f l c=[]∨f l c∈R)
 {nx:Nat→Nat→Int} (hnx:∀(p:Nat) (hp:p<R.length) (k:Nat) (hk:k<cs.length),nx p k=idx R (f R[p] cs[k])) {E:Nat→Nat→Prop} (hE:∀p t,E p t↔p<R.length∧StpI nx cs.length p t)
 {j:Nat} (hj:j<R.length):(∃t,(∃ht:t<R.length,dn R[t]=true)∧Rch E j t)↔Opn f cs dn R[j]:=by
 have h1:∀p t,E p t→∃(hp:p<R.length) (ht:t<R.length),Stp f cs R[p] R[t]:=by
  intro p t h;obtain⟨hp,k,hk,h⟩:=(hE p t).1 h;rw[hnx p hp k hk] at h;have hm:=hc R[p] (List.getElem_mem hp) cs[k] (List.getElem_mem hk);by_cases hn:f R[p] cs[k]=[]
  ·rw[hn] at h;unfold idx at h;rw[if_pos rfl] at h;omega
  ·obtain⟨h2,h3,h4⟩:=idx_bd (hm.resolve_left hn) hn;rw[h] at h3 h4;have ht:t<R.length:=om;have e:((t:Int)).toNat=t:=om;rw[e] at h4;obtain⟨_,h5⟩:=List.getElem?_eq_some_iff.1 h4;exact⟨hp,ht,by rw[h5];exact hn,cs[k],List.getElem_mem hk,h5.symm⟩
 constructor
 ·rintro⟨t,⟨ht,hd⟩,hr⟩;have:∀{a b:Nat},Rch E a b→∃(ha:a<R.length) (hb:b<R.length),Rch (Stp f cs) R[a] R[b]:=by
   intro a b h;induction h with
   | one h=>obtain⟨hp,ht,h⟩:=h1 _ _ h;exact⟨hp,ht,.one h⟩
   | cons h _ ih=>
    obtain⟨hp,ht,h⟩:=h1 _ _ h;obtain⟨_,hb,k⟩:=ih;exact⟨hp,hb,.cons h k⟩
  obtain⟨_,_,h⟩:=this hr;exact⟨R[t],h,hd⟩
 ·rintro⟨b,hr,hd⟩;have:∀{a b:St},Rch (Stp f cs) a b→∀(p:Nat) (hp:p<R.length),R[p]=a→∃(t:Nat) (ht:t<R.length),R[t]=b∧Rch E p t:=by
   have step:∀{a b:St},Stp f cs a b→∀(p:Nat) (hp:p<R.length),R[p]=a→∃(t:Nat) (ht:t<R.length),R[t]=b∧E p t:=by
    rintro a b ⟨hn,c,hcm,rfl⟩ p hp rfl;obtain⟨k,hk,rfl⟩:=List.mem_iff_getElem.1 hcm;obtain⟨t,ht,he⟩:=List.mem_iff_getElem.1 ((hc R[p] (List.getElem_mem hp) cs[k] (List.getElem_mem hk)).resolve_left hn);exact⟨t,ht,he,(hE p t).2 ⟨hp,k,hk,by rw[hnx p hp k hk,←he,idx_get hg]⟩⟩
   intro a b h;induction h with
   | one h=>intro p hp e;obtain⟨t,ht,h1,h2⟩:=step h p hp e;exact⟨t,ht,h1,.one h2⟩
   | cons h _ ih=>
    intro p hp e;obtain⟨t,ht,h1,h2⟩:=step h p hp e;obtain⟨u,hu,h3,h4⟩:=ih t ht h1;exact⟨u,hu,h3,.cons h2 h4⟩
  obtain⟨t,ht,h1,h2⟩:=this hr j hj rfl;subst h1;exact⟨t,⟨ht,hd⟩,h2⟩
def runM (nx:Int→Nat→Int)(dn:Int→Bool):List Nat→Nat→Int→Int→Int×Int
 | [],_,s,last=>(s,last)
 | c::r,k,s,last=>if s = -1 then(s,last) else runM nx dn r (k+1) (nx s c) (if nx s c≠-1∧dn (nx s c)=true then((k+1:Nat):Int) else last)
section
variable (nx:Int→Nat→Int) (dn:Int→Bool)
theorem runM_dead (l:List Nat)(k:Nat)(last:Int):runM nx dn l k (-1) last=(-1,last):=by
 cases l with
 | nil=>rfl
 | cons c r=>unfold runM;rw[if_pos rfl]
theorem runM_append:∀(a b:List Nat) (k:Nat) (s last:Int),
 runM nx dn (a++b) k s last=runM nx dn b (k+a.length) (runM nx dn a k s last).1 (runM nx dn a k s last).2
 | [],b,k,s,last=>by simp[runM]
 | c::r,b,k,s,last=>by
  rw[List.cons_append];by_cases h:s = -1
  ·subst h;rw[runM_dead,runM_dead,runM_dead]
  ·rw[runM,if_neg h,runM_append r b,runM,if_neg h,List.length_cons];have e:k+1+r.length=k+(r.length+1):=om;rw[e]
theorem runM_shift:∀(l:List Nat) (k j:Nat) (s a b L:Int),b=(if a = -1 then L else k+a)→
 runM nx dn l (k+j) s b=((runM nx dn l j s a).1,if(runM nx dn l j s a).2 = -1 then L else k+(runM nx dn l j s a).2)
 | [],k,j,s,a,b,L,h=>by
  subst h
  rfl
 | c::r,k,j,s,a,b,L,h=>by
  by_cases hs:s = -1
  ·subst hs;rw[runM_dead,runM_dead,h]
  ·rw[runM,if_neg hs,runM,if_neg hs];have e:k+j+1=k+(j+1):=om;rw[e];refine runM_shift r k (j+1) (nx s c) _ _ L ?_;by_cases h2:nx s c≠-1∧dn (nx s c)=true
   ·rw[if_pos h2,if_pos h2,if_neg om];omega
   ·rw[if_neg h2,if_neg h2,h]
theorem runM_last:∀(l:List Nat) (k:Nat) (s a:Int),(runM nx dn l k s a).2=a∨((k:Int)<(runM nx dn l k s a).2∧(runM nx dn l k s a).2≤(k+l.length:Nat))
 | [],_,_,_=>.inl rfl
 | c::r,k,s,a=>by
  by_cases hs:s = -1
  ·subst hs;rw[runM_dead];exact .inl rfl
  ·rw[runM,if_neg hs];rcases runM_last r (k+1) (nx s c) (if nx s c≠-1∧dn (nx s c)=true then((k+1:Nat):Int) else a) with h|h
   ·rw[h];by_cases h2:nx s c≠-1∧dn (nx s c)=true
    ·rw[if_pos h2,List.length_cons];right;omega
    ·rw[if_neg h2];exact .inl rfl
   ·right;rw[List.length_cons];omega
def toS (cl:List Nat)(i:Int):Int×Int:=runM nx dn cl 0 i (-1)
def iniL (first:Int)(k:Nat):Int:=if first≠-1∧dn first=true then(k:Int) else -1
def enS (first:Int)(cl:List Nat)(k:Nat):Int×Int:=runM nx dn (cl.drop k) k first (iniL dn first k)
def aftS (la:Nat)(to_:Int→Int×Int)(p:Int×Int):Int×Int:=
 if p.1 = -1 then(-1,p.2) else((to_ p.1).1,if(to_ p.1).2 = -1 then p.2 else la+(to_ p.1).2)
theorem aft_run (b:List Nat)(la:Nat)(p:Int×Int):aftS la (toS nx dn b) p=runM nx dn b la p.1 p.2:=by
 unfold aftS toS;by_cases h:p.1 = -1
 ·rw[if_pos h,h,runM_dead]
 ·rw[if_neg h];have:=runM_shift nx dn b la 0 p.1 (-1) p.2 p.2 si;rw[Nat.add_zero] at this;rw[this]
theorem toS_join (a b:List Nat)(i:Int):toS nx dn (a++b) i=aftS a.length (toS nx dn b) (toS nx dn a i):=by
 rw[aft_run];unfold toS;rw[runM_append,Nat.zero_add]
theorem enS_join_left (first:Int)(a b:List Nat){k:Nat}(h:k≤a.length):enS nx dn first (a++b) k=aftS a.length (toS nx dn b) (enS nx dn first a k):=by
 rw[aft_run];unfold enS;rw[List.drop_append_of_le_length h,runM_append];have e:k+(a.drop k).length=a.length:=by rw[List.length_drop];omega
 rw[e]
theorem enS_join_right (first:Int)(a b:List Nat){j:Nat}:enS nx dn first (a++b) (a.length+j) =
 ((enS nx dn first b j).1,if(enS nx dn first b j).2 = -1 then -1 else a.length+(enS nx dn first b j).2):=by
 unfold enS;have e:(a++b).drop (a.length+j)=b.drop j:=by simp
 rw[e];refine runM_shift nx dn (b.drop j) a.length j first (iniL dn first j) _ (-1) ?_;unfold iniL;by_cases h:first≠-1∧dn first=true
 ·rw[if_pos h,if_pos h,if_neg om];omega
 ·rw[if_neg h,if_neg h,if_pos rfl]
end
def runR (f:St→Int→St)(dn:St→Bool):List Int→Nat→St→Int→St×Int
 | [],_,s,last=>(s,last)
 | c::r,k,s,last=>runR f dn r (k+1) (f s c) (if dn (f s c)=true then((k+1:Nat):Int) else last)
theorem runR_nil {f:St→Int→St}{dn:St→Bool}(hf:∀c,f [] c=[])(hd:dn []=false):∀(l:List Int) (k:Nat) (last:Int),runR f dn l k [] last=([],last)
 | [],_,_=>rfl
 | c::r,k,last=>by
  rw[runR,hf,hd];simp only[Bool.false_eq_true,if_false];exact runR_nil hf hd r (k+1) last
theorem run_eq {f:St→Int→St}{dn:St→Bool}{nx:Int→Nat→Int}{dm:Int→Bool}{g:St→Int}{R:St→Prop}{A:Int→Prop}{cl:Int→Nat}
 (hf:∀c,f [] c=[]) (hd:dn []=false) (hg0:g [] = -1) (hgR:∀s,R s→g s≠-1)
 (hR:∀s c,R s→A c→f s c=[]∨R (f s c)) (hnx:∀s c,R s→A c→nx (g s) (cl c)=g (f s c)) (hdm:∀s,R s→dm (g s)=dn s) :
 ∀(l:List Int) (k:Nat) (s:St) (last:Int),(∀c∈l,A c)→s=[]∨R s→
  runM nx dm (l.map cl) k (g s) last=(g (runR f dn l k s last).1,(runR f dn l k s last).2)∧((runR f dn l k s last).1=[]∨R (runR f dn l k s last).1)
 | [],_,s,last,_,hs=>⟨rfl,hs⟩
 | c::r,k,s,last,hl,hs=>by
  rcases hs with rfl|hs
  ·rw[runR_nil hf hd,hg0,runM_dead];exact⟨rfl,.inl rfl⟩
  ·have hc:=hl c si;have ih:=run_eq hf hd hg0 hgR hR hnx hdm r (k+1) (f s c) (if dn (f s c)=true then((k+1:Nat):Int) else last) (fun x hx=>hl x (by simp[hx])) (hR s c hs hc);rw[List.map_cons,runM,if_neg (hgR s hs),runR,hnx s c hs hc];have e:(if g (f s c)≠-1∧dm (g (f s c))=true then((k+1:Nat):Int) else last)=(if dn (f s c)=true then((k+1:Nat):Int) else last):=by
    rcases hR s c hs hc with h|h
    ·rw[h,hg0,hd];simp
    ·rw[hdm _ h];simp[hgR _ h]
   rw[e];exact ih
end
def symAt (G:List Ins)(c:Int)(p:Nat):Bool:=match G[p]? with|some i=>decide (i.op=1)&&has i.set c|none=>false
def nextG (G:List Ins)(l:St)(c:Int):St:=stateG G ((l.filter (symAt G c)).map (·+1))
def doneG (G:List Ins)(l:St):Bool:=match l.getLast? with|some p=>isD G p|none=>false
theorem nextG_nil (G:List Ins)(c:Int):nextG G [] c=[]:=rfl
theorem doneG_nil (G:List Ins):doneG G []=false:=rfl
theorem doneG_last {G:List Ins}{l:St}(h:l≠[]):doneG G l=isD G (l.getLast h):=by
 unfold doneG;rw[List.getLast?_eq_some_getLast h]
theorem nextG_alike {G:List Ins}{a b:Int}(h:∀i∈G,i.op=1→has i.set a=has i.set b)(l:St):nextG G l a=nextG G l b:=by
 have e:∀p,symAt G a p=symAt G b p:=fun p=>by
  unfold symAt
  cases hg:G[p]? with
  | none=>rfl
  | some i=>
   simp only
   by_cases h1:i.op=1
   ·rw[h i (List.mem_of_getElem? hg) h1]
   ·simp[h1]
 unfold nextG;rw[List.filter_congr (fun p _=>e p)]
def InsAt (G:List Ins)(p:Nat):Prop:=∃h:p<G.length,G[p].op≠2∧G[p].op≠3∧G[p].op≠4
theorem addR_in (G:List Ins):∀f s pc,(∀p∈s.1,InsAt G p)→∀p∈(addR G f s pc).1,InsAt G p
 | 0,s,pc,h=>by unfold addR;exact h
 | f+1,s,pc,h=>by
  unfold addR
  split
  ·exact h
  ·split
   ·exact h
   ·rename_i i hi
    obtain⟨hlt,he⟩:=List.getElem?_eq_some_iff.1 hi
    split
    ·exact addR_in G f _ _ (addR_in G f _ _ h)
    ·split
     ·exact addR_in G f _ _ h
     ·split
      ·exact addR_in G f _ _ h
      ·rename_i h2 h3 h4
       intro p hp;rcases List.mem_append.1 hp with hp|hp
       ·exact h p hp
       ·have:p=pc:=by simpa using hp
        subst this;exact⟨hlt,by rw[he];exact⟨h2,h3,h4⟩⟩
theorem foldR_in (G:List Ins)(N:Nat):∀(r:List Nat) (s:List Nat×List Nat),(∀p∈s.1,InsAt G p)→∀p∈(r.foldl (addR G N) s).1,InsAt G p
 | [],s,h=>h
 | q::r,s,h=>foldR_in G N r _ (addR_in G N s q h)
theorem cutD_sub {G:List Ins}:∀{l:List Nat} {p:Nat},p∈cutD G l→p∈l
 | q::r,p,h=>by
  unfold cutD at h
  split at h
  ·have:p=q:=by simpa using h
   subst this;simp
  ·rcases List.mem_cons.1 h with rfl|h
   ·simp
   ·exact List.mem_cons_of_mem _ (cutD_sub h)
theorem stateG_in (G:List Ins)(r:List Nat):∀p∈stateG G r,InsAt G p:=fun p hp=>foldR_in G _ r ([],[]) si p (cutD_sub hp)
theorem addR_seen (G:List Ins):∀f s pc,s.2.length≤(addR G f s pc).2.length
 | 0,s,pc=>Nat.le_refl _
 | f+1,s,pc=>by
  unfold addR
  split
  ·exact Nat.le_refl _
  ·split
   ·exact Nat.le_refl _
   ·rename_i i _
    have h1:s.2.length≤(s.2++[pc]).length:=by simp
    split
    ·exact Nat.le_trans h1 (Nat.le_trans (addR_seen G f (s.1,s.2++[pc]) i.x.toNat) (addR_seen G f _ i.y.toNat))
    ·split
     ·exact Nat.le_trans h1 (addR_seen G f (s.1,s.2++[pc]) i.x.toNat)
     ·split
      ·exact Nat.le_trans h1 (addR_seen G f (s.1,s.2++[pc]) (pc+1))
      ·exact h1
def SeenOk (n:Nat)(seen:List Nat):Prop:=seen.Nodup∧∀p∈seen,p<n
theorem SeenOk.nil (n:Nat):SeenOk n []:=⟨by simp,by simp⟩
theorem SeenOk.len {n:Nat}{seen:List Nat}(h:SeenOk n seen):seen.length≤n:=by
 have h1:=List.Nodup.length_le_of_subset (l₁:=seen) (l₂:=List.range n) h.1 (fun p hp=>List.mem_range.2 (h.2 p hp))
 rwa [List.length_range] at h1
theorem SeenOk.snoc {n:Nat}{seen:List Nat}(h:SeenOk n seen){pc:Nat}(hp:pc<n)(hn:pc∉seen):SeenOk n (seen++[pc]):=by
 refine⟨?_,fun p hp2=>?_⟩
 ·rw[List.nodup_append];exact⟨h.1,by simp,fun a ha b hb=>by
   have:b=pc:=by simpa using hb
   subst this;rintro rfl;exact hn ha⟩
 ·rcases List.mem_append.1 hp2 with h1|h1
  ·exact h.2 p h1
  ·have:p=pc:=by simpa using h1
   omega
theorem addR_ok {G:List Ins}:∀f s pc,SeenOk G.length s.2→SeenOk G.length (addR G f s pc).2
 | 0,s,pc,h=>h
 | f+1,s,pc,h=>by
  unfold addR
  split
  ·exact h
  ·rename_i hn
   split
   ·exact h
   ·rename_i i hi
    obtain⟨hlt,_⟩:=List.getElem?_eq_some_iff.1 hi;have h1:=h.snoc hlt hn
    split
    ·exact addR_ok f _ _ (addR_ok f (s.1,s.2++[pc]) _ h1)
    ·split
     ·exact addR_ok f (s.1,s.2++[pc]) _ h1
     ·split
      ·exact addR_ok f (s.1,s.2++[pc]) _ h1
      ·exact h1
theorem addR_len (G:List Ins):∀f s pc,(addR G f s pc).1.length+s.2.length≤s.1.length+(addR G f s pc).2.length
 | 0,s,pc=>by unfold addR;omega
 | f+1,s,pc=>by
  unfold addR
  split
  ·omega
  ·split
   ·omega
   ·rename_i i _
    have h1:(s.2++[pc]).length=s.2.length+1:=by simp
    split
    ·have h2:=addR_len G f (s.1,s.2++[pc]) i.x.toNat;have h3:=addR_len G f (addR G f (s.1,s.2++[pc]) i.x.toNat) i.y.toNat
     simp only at h2;omega
    ·split
     ·have h2:=addR_len G f (s.1,s.2++[pc]) i.x.toNat
      simp only at h2;omega
     ·split
      ·have h2:=addR_len G f (s.1,s.2++[pc]) (pc+1)
       simp only at h2;omega
      ·simp only[List.length_append,List.length_cons,List.length_nil];omega
end Go.Proofs.YtmocoldobnimfaaGreat
