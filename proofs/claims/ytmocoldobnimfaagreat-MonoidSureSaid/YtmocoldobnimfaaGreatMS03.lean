/- Texts of this proof: Fs G0 J1 P3 E1 P5 Fk Mp II E2 E3 E4 E5 P6 P9 Row. -/
import Derived.Test.YtmocoldobnimfaaGreatMS00
import Derived.Test.YtmocoldobnimfaaGreatRows
import Derived.WalkLawsBesides
import Derived.Deep.QuietTactic
import Derived.BigQuiet
import Derived.Maps.RangeRun
import Derived.ChangeMaps5
import Derived.WideLaws
import Derived.Carry
import Derived.WalkKit
import Derived.Laws.BytesArg
import Derived.Laws.StructEq
import Derived.DataReads
import Derived.OpenShut
set_option linter.all false
set_option maxHeartbeats 400000
namespace Go.Proofs.YtmocoldobnimfaaGreat
section
open Go.RowKit
def zU (ops:Array Oper)(k:Nat):List Nat:=match ops[k]? with
 | some o=>(o.after.toList.filter (fun e=>Region.binds .any e)).map (·.on)
 | none=>[]
def xI (ops:Array Oper)(listed:Array Bool):Prop:=∀k,listed.getD k false=true->∀d∈zU ops k,listed.getD d false=true
def ancs (ops:Array Oper):Nat->List Nat->List Nat
 | 0,S=>S
 | f+1,S=>ancs ops f ((List.range ops.size).filter fun d=>S.contains d || S.any fun k=>(zU ops k).contains d)
theorem FR {ops:Array Oper}{listed:Array Bool}(hD:xI ops listed):∀(f:Nat) (S:List Nat),(∀d∈S,listed.getD d false=true)->∀d∈ancs ops f S,listed.getD d false=true
 | 0,_,h,d,hd=>h d hd
 | f+1,S,h,d,hd=>FR hD f _ (fun x hx=>by
  obtain⟨_,hx⟩:=List.mem_filter.1 hx;rw[Bool.or_eq_true] at hx;rcases hx with hx|hx
  ·exact h x (by simpa using hx)
  ·obtain⟨k,hk,hkx⟩:=List.any_eq_true.1 hx;exact hD k (h k hk) x (by simpa using hkx)) d hd
theorem yP {ops:Array Oper}{listed:Array Bool}{s:Nat}(h:s∈Region.ready .any ops listed):∀d∈zU ops s,listed.getD d false=true:=by
 obtain⟨_,o,ho,hall⟩:=mem_ready.1 h;intro d hd;unfold zU at hd;rw[ho] at hd;simp only[List.mem_map,List.mem_filter] at hd;obtain⟨e,⟨he,hb⟩,rfl⟩:=hd;exact hall e (by simpa using he) hb
theorem xI.set {ops:Array Oper}{listed:Array Bool}{i:Nat}(hD:xI ops listed)(hi:i∈Region.ready .any ops listed):xI ops (listed.setIfInBounds i true):=by
 intro k hk d hd;by_cases hki:k=i
 ·subst hki;exact getD_set_true (yP hi d hd)
 ·rw[getD_set_ne false (Ne.symm hki)] at hk;exact getD_set_true (hD k hk d hd)
section
variable (P:Program) (ops:Array Oper) (Q:Exit->Act->World->Prop) (w0:World) (s:Nat) (Fin:Nat->Array Bool->Act->World->Prop)
def wpS:Nat->Array Bool->Act->World->Prop
 | 0,listed,_,_=>xI ops listed->False
 | n+1,listed,a,w=>xI ops listed->Region.ready .any ops listed≠[]/\
  (s∈Region.ready .any ops listed->Region.ready .any ops listed=[s]/\∀w',Ext w w'->Ext w0 w'->Fin (n+1) listed a w')/\
  ∀i∈Region.ready .any ops listed,i≠s->∀w',Ext w w'->Ext w0 w'->wpOp P ops Q i (fun a2 w2=>Ext w' w2/\wpS n (listed.setIfInBounds i true) a2 w2) a w'
end
section
variable {P:Program} {ops:Array Oper} {Q:Exit->Act->World->Prop} {w0:World} {s:Nat} {Fin:Nat->Array Bool->Act->World->Prop}
theorem LV:∀(n:Nat) {listed:Array Bool} {a:Act} {w w':World},wpS P ops Q w0 s Fin n listed a w->Ext w w'->wpS P ops Q w0 s Fin n listed a w'
 | 0,_,_,_,_,h,_=>h
 | _+1,_,_,_,_,h,k=>fun hD=>⟨(h hD).1,fun hs=>⟨((h hD).2.1 hs).1,fun w2 h2 h3=>((h hD).2.1 hs).2 w2 (k.trans h2) h3⟩,fun i hi his w2 h2 h3=>(h hD).2.2 i hi his w2 (k.trans h2) h3⟩
theorem iH {i:Nat}{oi:Oper}{v:Value}(hi:ops[i]? = some oi)(hsel:∀(j:Nat) (o:Oper) cs b,ops[j]? = some o->o.op≠.select cs b)(hQ:∀c a w,¬Q (.panic c) a w)
 (f:Nat) (hanc:i∈ancs ops f (zU ops s)) :
 ∀(n:Nat) {listed:Array Bool} {a:Act} {w:World},
  (∀j oj,ops[j]? = some oj->j≠i->listed.getD j true=false->(∀e∈oj.after,Region.binds .any e=true->e.on≠i)->oi.apart ops oj=true)->
  i∈Region.ready .any ops listed->YieldsIf P ops (Ext w0) oi v a->wpS P ops Q w0 s Fin n (listed.setIfInBounds i true) (a.put oi.dst v) w->wpS P ops Q w0 s Fin (n+1) listed a w:=by
 intro n;induction n with
 | zero=>
  intro listed a w _ hr _ h hD;exact absurd (hD.set hr) h
 | succ n ih=>
  intro listed a w hfree hr hy h hD;have hns:¬s∈Region.ready .any ops listed:=fun hs=>by
   have h1:=FR hD f _ (yP hs) i hanc;have h2:=(mem_ready.1 hr).1;rcases Nat.lt_or_ge i listed.size with h'|h'
   ·simp[h'] at h1 h2;rw[h1] at h2;cases h2
   ·simp[Array.getElem?_eq_none h'] at h1
  refine⟨fun h0=>(by rw[h0] at hr;cases hr),fun hs=>absurd hs hns,fun j hj hjs w' h1 h2=>?_⟩;by_cases hji:j=i
  ·subst hji;exact hy.wpOp hi h2 ⟨Ext.rfl' _,LV (n+1) h h1⟩
  ·obtain⟨hjun,oj,hoj,hall⟩:=mem_ready.1 hj;have hnot:∀e∈oj.after,Region.binds .any e=true->e.on≠i:=fun e he hb heq=>by
    have h1:=hall e he hb;have h0:=(mem_ready.1 hr).1;rw[heq] at h1;rcases Nat.lt_or_ge i listed.size with h'|h'
    ·simp[h'] at h0 h1;rw[h0] at h1;cases h1
    ·simp[Array.getElem?_eq_none h'] at h1
   have hap:=hfree j oj hoj hji hjun hnot;have h3:=(h (hD.set hr)).2.2 j (ready_mono hj hji) hjs w' h1 h2;have hQ':∀c a w,Q (.panic c) (a.put oi.dst v) w->Q (.panic c) a w:=fun c a w h=>absurd h (hQ _ _ _);have hfree':∀k ok,ops[k]? = some ok->k≠i->(listed.setIfInBounds j true).getD k true=false->
    (∀e∈ok.after,Region.binds .any e=true->e.on≠i)->oi.apart ops ok=true:=fun k ok hk hki hun hno=>hfree k ok hk hki (Jw hun).2 hno
   refine wpOp_mono (fun a2 w2 h4=>?_) (wpOp_putIf hoj hap (fun cs b=>hsel i oi cs b hi) (fun cs b=>hsel j oj cs b hoj) hQ' hy h3);obtain⟨h5,h6,h7⟩:=h4;refine⟨h6,ih hfree' (ready_mono hr (Ne.symm hji)) h5 ?_⟩;rw[Array.setIfInBounds_comm _ _ hji];exact h7
theorem yR (hFin:∀n listed a w,Fin n listed a w->wpAny P .any ops Q n listed a w):∀(n:Nat) {listed:Array Bool} {a:Act} {w:World},xI ops listed->Ext w0 w->wpS P ops Q w0 s Fin n listed a w->wpAny P .any ops Q n listed a w
 | 0,_,_,_,hD,_,h=>absurd hD h
 | n+1,listed,a,w,hD,hx,h=>by
  obtain⟨h0,h1,h2⟩:=h hD;by_cases hs:s∈Region.ready .any ops listed
  ·exact hFin _ _ _ _ ((h1 hs).2 w (Ext.rfl' _) hx)
  ·refine⟨fun hr=>absurd hr h0,fun i hi=>?_⟩;have his:i≠s:=fun e=>hs (e▸hi);exact wpOp_mono (fun a2 w2 h4=>yR hFin n (hD.set hi) (hx.trans h4.1) h4.2) (h2 i hi his w (Ext.rfl' _) hx)
def Xs (L:List Nat)(s:Nat)(w0:World)(P:Program)(ops:Array Oper)(Q:Exit->Act->World->Prop)(n:Nat)(ls:List Nat)(a:Act)(w:World):Prop:=
 wpS P ops (NoPanic Q) w0 s (fun n listed a w=>∃ls,listed=bits ops.size ls/\Xr L w P ops Q n [] [] [] ls a w) n (bits ops.size ls) a w
theorem Xs.start {id:Nat}{a:Act}{w:World}(L:List Nat)(s:Nat)(hm:P.follows .mixedOrders=true)(h:Xs L s w P ops Q ops.size [] a w):(Code.region id ops true).wp P Q a w:=by
 refine wp_region_noPanic (wp_region_any hm ?_);unfold Xs at h;rw[FD] at h;refine yR ?_ _ ?_ (Ext.drew w) (LV _ h (Ext.drew w))
 ·rintro n listed a w ⟨ls,rfl,hX⟩;exact jj _ (Kp.refl _ _) (hX rfl)
 ·intro k hk
  exfalso
  by_cases hkn:k<ops.size
  ·simp[hkn] at hk
  ·simp[hkn] at hk
variable {n:Nat} {ls:List Nat} {a:Act} {w:World} {L:List Nat}
def jQ (ops:Array Oper)(s:Nat)(ls:List Nat)(i:Nat):Bool:=
 Region.noSelect ops&&Region.free .any ops (bits ops.size ls) i&&(Region.ready .any ops (bits ops.size ls)).contains i&&(ancs ops 8 (zU ops s)).contains i
theorem Xs.takeY (i:Nat)(d:Option Tmp){oi:Oper}{v:Value}(hi:ops[i]? = some oi)(hd:oi.dst=d)
 (hok:jQ ops s ls i=true) (hy:YieldsIf P ops (Ext w0) oi v a) (h:Xs L s w0 P ops Q n (i::ls) (a.put d v) w):Xs L s w0 P ops Q (n+1) ls a w:=by
 subst hd;simp only[jQ,Bool.and_eq_true] at hok;obtain⟨⟨⟨h1,h2⟩,h3⟩,h4⟩:=hok;refine iH hi (Region.noSelect_spec h1) (NoPanic.never Q) 8 (by simpa using h4) n (Region.free_spec hi h2) (by simpa using h3) hy ?_;rw[Zw];exact h
theorem Xs.take (i:Nat)(d:Option Tmp){oi:Oper}{v:Value}(hi:ops[i]? = some oi)(hd:oi.dst=d)
 (hok:jQ ops s ls i=true) (hw:Region.wanted oi (yielded ops a.tmps)=true)
 (hrun:∀w',Ext w0 w'->(execOp a.eval oi).run P w'=.ok (.value v) w') (h:Xs L s w0 P ops Q n (i::ls) (a.put d v) w):Xs L s w0 P ops Q (n+1) ls a w:=
 Xs.takeY i d hi hd hok (.inl ⟨hw,hrun⟩) h
theorem Xst (i:Nat){d:Option Tmp}{oi:Oper}{v:Value}{b:Act}(h:Xs L s w0 P ops Q n (i::ls) b w)(hi:ops[i]? = some oi:=by rfl)(hd:oi.dst=d:=by(conv=>lhs;whnf);try rfl)(hok:jQ ops s ls i=true:=by decide +kernel)(hw:Region.wanted oi (yielded ops a.tmps)=true:=by rfl)
 (hrun:∀w',Ext w0 w'->(execOp a.eval oi).run P w'=.ok (.value v) w':=by intro w' hk;go_simp;(try with_reducible rfl);done)
 (hb:a.put d v=b:=by(try simp only[Act.put,List.setIfInBounds_toArray,List.set_cons_zero,List.set_cons_succ]);(try with_reducible rfl);done):Xs L s w0 P ops Q (n+1) ls a w:=Xs.take i d hi hd hok hw hrun (hb▸h)
theorem Xs.call (i:Nat){o:Oper}(ho:ops[i]? = some o)(hr:(Region.ready .any ops (bits ops.size ls) == [i]&&i != s)=true)(hw:Region.wanted o (yielded ops a.tmps)=true)
 (h:∀w',Ext w w'->Ext w0 w'->∀K,(∀a2 w2,Ext w' w2->Xs L s w0 P ops Q n (i::ls) a2 w2->K a2 w2)->o.wp P a w' K (NoPanic Q)):Xs L s w0 P ops Q (n+1) ls a w:=by
 simp only[Bool.and_eq_true,beq_iff_eq,bne_iff_ne,ne_eq] at hr;obtain⟨hr,his⟩:=hr;intro hD;refine⟨by rw[hr];simp,fun hs=>?_,fun j hj hjs w' x1 x2=>?_⟩
 ·rw[hr] at hs;exact absurd (List.mem_singleton.1 hs).symm his
 ·rw[hr] at hj;obtain rfl:=List.mem_singleton.1 hj;refine Jy ho hw fun K' hK'=>h w' x1 x2 K' fun a2 w2 h3 h5=>hK' a2 w2 ⟨h3,?_⟩;rw[Zw];exact h5
theorem jD (i:Nat){o:Oper}(h:∀w',Ext w w'->Ext w0 w'->∀K,(∀a2 w2,Ext w' w2->Xs L s w0 P ops Q n (i::ls) a2 w2->K a2 w2)->o.wp P a w' K (NoPanic Q))(ho:ops[i]? = some o:=by rfl)(hr:(Region.ready .any ops (bits ops.size ls) == [i]&&i != s)=true:=by decide +kernel)(hw:Region.wanted o (yielded ops a.tmps)=true:=by rfl):Xs L s w0 P ops Q (n+1) ls a w:=Xs.call i ho hr hw h
theorem Xs.stop (hr:Region.ready .any ops (bits ops.size ls)=[s])(h:∀w',Ext w w'->Ext w0 w'->Xr L w' P ops Q (n+1) [] [] [] ls a w'):Xs L s w0 P ops Q (n+1) ls a w:=by
 intro _;refine⟨by rw[hr];simp,fun _=>⟨hr,fun w' x1 x2=>⟨ls,rfl,h w' x1 x2⟩⟩,fun j hj hjs=>?_⟩;rw[hr] at hj;exact absurd (List.mem_singleton.1 hj) hjs
end
def jE (A:Option Addr):List Nat:=(A.map (·.block)).toList
theorem Jq {A:Option Addr}{b:Nat}:b∈jE A<->A.map (·.block)=some b:=by
 unfold jE;cases A.map (·.block)<;>simp[eq_comm]
theorem KpP.of_grown {w w':World}{A:Option Addr}(h:w.grownBy w' (A.map (·.block))):KpP (fun b=>A.map (·.block)=some b) w w':=
 ⟨h.os,h.tape,h.output,h.size,fun k hk hn=>h.block k hk (fun e=>hn e.symm)⟩
theorem IL.kp {w w':World}{A:Option Addr}{c:Nat}{xs:List Int}{p:Nat->Prop}(h:IL w A c xs)(k:KpP p w w')(hn:xs≠[]->∀b,A.map (·.block)=some b->¬p b):IL w' A c xs:=by
 refine⟨h.le,h.cap,h.rng,fun hx=>?_⟩;obtain⟨b,o,rfl,hc⟩:=h.at_ hx;refine⟨b,o,rfl,fun i hi=>?_⟩;have h1:=hc i hi;rw[World.cell?_of_block (w:=w) (k.block b (World.block_lt_of_cell? _ _ h1) (hn hx b rfl))];exact h1
theorem IL.blt {w:World}{A:Option Addr}{c:Nat}{xs:List Int}(h:IL w A c xs)(hx:xs≠[]){b:Nat}(hb:A.map (·.block)=some b):b<w.heap.size:=by
 obtain⟨b',o,rfl,hc⟩:=h.at_ hx;have:b'=b:=by simpa using hb
 subst this;exact World.block_lt_of_cell? _ _ (hc 0 (List.length_pos_iff.2 hx))
theorem QQ.blt {w:World}{base e size n c:Nat}{A:Option Addr}{xs:List Value}(h:QQ w base e size A n c xs){b:Nat}(hb:A.map (·.block)=some b):b<w.heap.size/\∃cur,w.heap[b]? = some (.cells cur e (0,0)):=by
 rcases h.form with⟨rfl,_⟩|⟨g,cur,rfl,_,hh,_⟩
 ·simp at hb
 ·have:g=b:=by simpa using hb
  subst this;exact⟨(Array.getElem?_eq_some_iff.1 hh).1,cur,hh⟩
theorem QQ.kp {w w':World}{base e size n c:Nat}{A:Option Addr}{xs:List Value}{p:Nat->Prop}(h:QQ w base e size A n c xs)(k:KpP p w w')(hn:∀b,A.map (·.block)=some b->¬p b):QQ w' base e size A n c xs:=by
 refine⟨h.1,?_⟩;rcases h.2 with h2|⟨g,cap,cur,hv,hg,hh,r⟩
 ·exact Or.inl h2
 ·refine Or.inr ⟨g,cap,cur,hv,hg,?_,r⟩;injection hv with e1 _ _
  subst e1;exact(k.block g (Array.getElem?_eq_some_iff.1 hh).1 (hn g rfl)).trans hh
theorem KpP.kp {p:Nat->Prop}{a b:World}{L:List Nat}(h:Kp L a b)(hp:∀i∈L,p i):KpP p a b:=⟨h.os,h.tape,h.output,h.size,fun k hk hn=>h.block k hk (fun hm=>hn (hp k hm))⟩
theorem FV {L:List Nat}{I:List (Nat×Nat)}{a b:World}{p:Nat->Prop}(h:KpP p a b)(hp:∀i,p i->i∈L):WI L I a b:=KpP.mono h (fun k hk=>.inl (hp k hk))
theorem Kp.kpP {L:List Nat}{a b c:World}{p:Nat->Prop}(h:Kp L a b)(k:KpP p b c)(hp:∀i,p i->i∈L):Kp L a c:=
 ⟨k.os.trans h.os,k.tape.trans h.tape,k.output.trans h.output,Nat.le_trans h.size k.size,fun i hi hn=>(k.block i (Nat.lt_of_lt_of_le hi h.size) (fun hq=>hn (hp i hq))).trans (h.block i hi hn)⟩
theorem QC {w:World}{g T:Nat}{cs:List Value}(h:Blk w g T cs.toArray):QP w (some ⟨g,0,none⟩) cs:=fun _=>⟨g,0,rfl,fun i hi=>by rw[h.cell];simp[hi]⟩
theorem KpP.thenKp {p:Nat->Prop}{a b c:World}{L:List Nat}(h:KpP p a b)(k:Kp L b c)(hp:∀i∈L,p i\/a.heap.size<=i):KpP p a c:=
 ⟨k.os.trans h.os,k.tape.trans h.tape,k.output.trans h.output,Nat.le_trans h.size k.size,fun i hi hn=>(k.block i (Nat.lt_of_lt_of_le hi h.size) (fun hm=>(hp i hm).elim hn (fun e=>om))).trans (h.block i hi hn)⟩
theorem KpP.thenGrown {p:Nat->Prop}{a b c:World}{A:Option Addr}(h:KpP p a b)(k:b.grownBy c (A.map (·.block)))(hp:∀i,A.map (·.block)=some i->a.heap.size<=i):KpP p a c:=by
 have kk:=KpP.of_grown k;exact⟨kk.os.trans h.os,kk.tape.trans h.tape,kk.output.trans h.output,Nat.le_trans h.size kk.size,fun i hi hn=>(kk.block i (Nat.lt_of_lt_of_le hi h.size) (fun hm=>by have:=hp i hm;omega)).trans (h.block i hi hn)⟩
theorem Ext.kp {p:Nat->Prop}{a b c:World}(h:Ext a b)(k:KpP p b c)(hp:∀i,p i->a.heap.size<=i):Ext a c:=
 ⟨k.os.trans h.os,k.tape.trans h.tape,k.output.trans h.output,Nat.le_trans h.size k.size,fun i hi=>(k.block i (Nat.lt_of_lt_of_le hi h.size) (fun hq=>by have:=hp i hq;omega)).trans (h.block i hi)⟩
theorem qx {w:World}{b1 b2 e1 e2 s1 s2 n1 n2 c1 c2:Nat}{A B:Option Addr}{xs ys:List Value}(h:QQ w b1 e1 s1 A n1 c1 xs)(k:QQ w b2 e2 s2 B n2 c2 ys)(hne:e1≠e2){b:Nat}(hb:A.map (·.block)=some b):B.map (·.block)≠some b:=fun e=>by
 obtain⟨_,cur,hh⟩:=QQ.blt h hb;obtain⟨_,cur2,hh2⟩:=QQ.blt k e;rw[hh] at hh2;injection hh2 with hh2;injection hh2 with _ h2
 exact hne h2
theorem QK {w:World}{b1 e1 s1 n1 c1 g T:Nat}{A:Option Addr}{xs:List Value}{cs:Array Value}(h:QQ w b1 e1 s1 A n1 c1 xs)(k:Blk w g T cs)(hne:e1≠T):A.map (·.block)≠some g:=fun e=>by
 obtain⟨_,cur,hh⟩:=QQ.blt h e;unfold Blk at k;rw[k] at hh;injection hh with hh;injection hh with _ h2
 exact hne h2.symm
theorem Qq {w:World}{g h T U:Nat}{cs ds:Array Value}(k:Blk w g T cs)(l:Blk w h U ds)(hne:T≠U):g≠h:=by
 rintro rfl;unfold Blk at k l;rw[k] at l;injection l with l;injection l with _ h2
 exact hne h2
structure Nd where
 op:Int
 A:Option Addr
 c:Nat
 l:List Sp
 K:Option Addr
 kc:Nat
 ks:List Value
 mn:Int
 mx:Int
 md:Int
 n:Int
 neg:Bool
def Nd.val (h:Nd):Value:=.agg #[.int .i64 h.op,.slice h.A h.l.length h.c,.slice h.K h.ks.length h.kc,.int .i64 h.mn,.int .i64 h.mx,.int .i64 h.md,.int .i64 h.n,.bool h.neg]
def Nd.cs (h:Nd):List Value:=[.int .i64 h.op,.slice h.A h.l.length h.c,.slice h.K h.ks.length h.kc,.int .i64 h.mn,.int .i64 h.mx,.int .i64 h.md,.int .i64 h.n,.bool h.neg]
def Q8:Value->List Value
 | .agg cs=>cs.toList
 | v=>[v]
theorem Nd.cells (h:Nd):Q8 h.val=h.cs:=rfl
def Vv (l:List Sp):Prop:=l.length<=2/\∀s∈l,(s.1∈[0,10,97,98,99,100,(256:Int)]/\s.2+1∈[11,97,98,99,100,(256:Int)])/\0<=s.1/\s.1<=s.2
structure MK (b:Nat)(h:Nd):Prop where
 op:h.op=0\/h.op=1\/h.op=2\/h.op=3\/h.op=4\/h.op=5\/h.op=11
 alt:h.op=3->2<=h.ks.length
 one:h.op=4\/h.op=5->1<=h.ks.length
 few:h.ks.length<=3
 mn:0<=h.mn/\h.mn<=b
 mx : -1<=h.mx/\h.mx<=b
 mm:h.mx = -1->h.mn+1<=b
 md:0<=h.md/\h.md<=1
 n:0<=h.n/\h.n<=9
 set:Vv h.l
inductive Qx (b:Nat) (S:Nat->Prop) (w:World):Nat->Value->Prop
 | mk {d:Nat} (h:Nd):MK b h->SL w h.A h.c h.l->h.ks.length<=h.kc->h.kc<=maxLen->QP w h.K (h.ks.flatMap Q8)->(∀u∈h.ks,Qx b S w d u)->(h.l≠[]->∀k,h.A.map (·.block)=some k->S k)->(h.ks≠[]->∀k,h.K.map (·.block)=some k->S k)->Qx b S w (d+1) h.val
theorem Nd.val_inj {h k:Nd}(e:h.val=k.val):h.op=k.op/\h.A=k.A/\h.l.length=k.l.length/\h.c=k.c/\h.K=k.K/\h.ks.length=k.ks.length/\h.kc=k.kc/\h.mn=k.mn/\h.mx=k.mx/\h.md=k.md/\h.n=k.n/\h.neg=k.neg:=by
 unfold Nd.val at e;simp only[Value.agg.injEq,Array.mk.injEq,List.cons.injEq,Value.int.injEq,Value.slice.injEq,Value.bool.injEq,true_and,and_true] at e;obtain⟨e1,⟨e2,e3,e4⟩,⟨e5,e6,e7⟩,e8,e9,e10,e11,e12⟩:=e;exact⟨e1,e2,e3,e4,e5,e6,e7,e8,e9,e10,e11,e12⟩
theorem QP.kpZ {w w':World}{A:Option Addr}{xs:List Value}{p:Nat->Prop}(h:QP w A xs)(k:KpP p w w')(hn:∀b,A.map (·.block)=some b->¬p b):QP w' A xs:=fun hx=>by
 obtain⟨b,o,rfl,hc⟩:=h hx;refine⟨b,o,rfl,fun i hi=>?_⟩;have h1:=hc i hi;rw[World.cell?_of_block (w:=w) (k.block b (World.block_lt_of_cell? _ _ h1) (hn b rfl))];exact h1
theorem SL.kpZ {w w':World}{A:Option Addr}{c:Nat}{l:List Sp}{p:Nat->Prop}(h:SL w A c l)(k:KpP p w w')(hn:l≠[]->∀b,A.map (·.block)=some b->¬p b):SL w' A c l:=by
 refine⟨h.le,h.cap,h.rng,fun hx=>?_⟩;obtain⟨b,o,rfl,hc⟩:=h.at_ hx;refine⟨b,o,rfl,fun i hi=>?_⟩;have h1:=hc i hi;have hb:=k.block b (World.block_lt_of_cell? _ _ h1.1) (hn hx b rfl);exact⟨by rw[World.cell?_of_block (w:=w) hb];exact h1.1,by rw[World.cell?_of_block (w:=w) hb];exact h1.2⟩
namespace Qx
variable {b:Nat} {S S':Nat->Prop} {w w':World} {d:Nat} {v:Value}
theorem ext (h:Qx b S w d v)(x:Ext w w'):Qx b S w' d v:=by
 induction h with
 | mk h h1 h2 h3 h4 h5 _ h7 h8 ih=>exact .mk h h1 (h2.ext x) h3 h4 (h5.ext x) ih h7 h8
theorem kp {q:Nat->Prop}(h:Qx b S w d v)(k:KpP q w w')(hq:∀i,q i->¬S i):Qx b S w' d v:=by
 induction h with
 | mk h h1 h2 h3 h4 h5 _ h7 h8 ih=>
  refine .mk h h1 (h2.kpZ k (fun hn i hi hqi=>hq i hqi (h7 hn i hi))) h3 h4 ?_ ih h7 h8;intro hx;have hn:h.ks≠[]:=by intro e;rw[e] at hx;exact hx rfl
  exact(h5.kpZ k (fun i hi hqi=>hq i hqi (h8 hn i hi))) hx
theorem mono (h:Qx b S w d v):∀{e:Nat},d<=e->Qx b S w e v:=by
 induction h with
 | mk h h1 h2 h3 h4 h5 _ h7 h8 ih=>
  intro e he;obtain⟨e,rfl⟩:∃k,e=k+1:=⟨e-1,om⟩;exact .mk h h1 h2 h3 h4 h5 (fun u hu=>ih u hu om) h7 h8
theorem node (h:Qx b S w (d+1) v):∃n:Nd,v=n.val/\MK b n/\SL w n.A n.c n.l/\n.ks.length<=n.kc/\n.kc<=maxLen/\QP w n.K (n.ks.flatMap Q8)/\∀u∈n.ks,Qx b S w d u:=by
 cases h with
 | mk n h1 h2 h3 h4 h5 h6=>exact⟨n,rfl,h1,h2,h3,h4,h5,h6⟩
theorem pos (h:Qx b S w d v):∃e,d=e+1:=by cases h with|mk=>exact⟨_,rfl⟩
theorem len8 (h:Qx b S w d v):(Q8 v).length=8:=by cases h with|mk=>rfl
theorem imp (h:Qx b S w d v)(hS:∀k,S k->k<w.heap.size->S' k):Qx b S' w d v:=by
 induction h with
 | mk h h1 h2 h3 h4 h5 h6 h7 h8 ih=>
  refine .mk h h1 h2 h3 h4 h5 ih (fun hn k hk=>hS k (h7 hn k hk) (h2.blt hn hk)) (fun hn k hk=>hS k (h8 hn k hk) ?_);have hne:h.ks.flatMap Q8≠[]:=by
   intro e;obtain⟨u,hu⟩:=List.exists_mem_of_ne_nil _ hn;have h9:=(h6 u hu).len8;have h10:Q8 u=[]:=by
    rw[List.flatMap_eq_nil_iff] at e;exact e u hu
   rw[h10] at h9;simp at h9
  obtain⟨bb,o,hA,hc⟩:=h5 hne;rw[hA] at hk;have:bb=k:=by simpa using hk
  subst this;exact World.block_lt_of_cell? _ _ (hc 0 (List.length_pos_iff.2 hne))
end Qx
theorem OQ {bd:Nat}{S:Nat->Prop}{w:World}{d:Nat}{K:Option Addr}{ks:List Value}(hc:QP w K (ks.flatMap Q8))(ht:∀u∈ks,Qx bd S w d u){i:Nat}(hi:i<ks.length) :
 ∃b o,K=some ⟨b,o,none⟩/\∃n:Nd,ks[i]=n.val/\∀j (hj:j<8),w.cell? ⟨b,o+i*8+j,none⟩=n.cs[j]?:=by
 have len8:∀u∈ks,(Q8 u).length=8:=fun u hu=>by
  obtain⟨e,rfl⟩:=(ht u hu).pos;obtain⟨n,rfl,_⟩:=(ht u hu).node
  rfl
 have hlen:∀l:List Value,(∀u∈l,(Q8 u).length=8)->(l.flatMap Q8).length=l.length*8:=by
  intro l h;induction l with
  | nil=>rfl
  | cons y l ih=>rw[List.flatMap_cons,List.length_append,h y si,ih (fun u hu=>h u (by simp[hu])),List.length_cons];omega
 have hne:ks.flatMap Q8≠[]:=by
  intro e;have:=hlen ks len8;rw[e] at this;simp at this;omega
 obtain⟨b,o,rfl,hcell⟩:=hc hne;obtain⟨e,rfl⟩:=(ht _ (List.getElem_mem hi)).pos;obtain⟨n,hn,_⟩:=(ht _ (List.getElem_mem hi)).node;refine⟨b,o,rfl,n,hn,fun j hj=>?_⟩;have get:∀(l:List Value) (i:Nat) (hi:i<l.length),(∀u∈l,(Q8 u).length=8)->(l.flatMap Q8)[i*8+j]? = (Q8 l[i])[j]?:=by
  intro l;induction l with
  | nil=>intro i hi;simp at hi
  | cons y l ih=>
   intro i hi h;rw[List.flatMap_cons]
   cases i with
   | zero=>rw[List.getElem?_append_left (by rw[h y si];omega)];simp
   | succ i=>
    rw[List.getElem?_append_right (by rw[h y si];omega),h y si];have e1:(i+1)*8+j-8=i*8+j:=om;rw[e1,ih i (by simpa using hi) (fun u hu=>h u (by simp[hu]))]
    simp
 have hlt:i*8+j<(ks.flatMap Q8).length:=by rw[hlen ks len8];omega
 have h1:=hcell (i*8+j) hlt;rw[Nat.add_assoc,h1,<-List.getElem?_eq_getElem hlt,get ks i hi len8,hn,Nd.cells]
def WW (w:World)(g:Nat)(n:Nd):World:=
 ((((((((w.setCell ⟨g,0,none⟩ (.int .i64 n.op)).setCell ⟨g,1,none⟩ (.slice n.A n.l.length n.c)).setCell ⟨g,2,none⟩ (.slice n.K n.ks.length n.kc)).setCell ⟨g,3,none⟩ (.int .i64 n.mn)).setCell ⟨g,4,none⟩ (.int .i64 n.mx)).setCell ⟨g,5,none⟩ (.int .i64 n.md)).setCell ⟨g,6,none⟩ (.int .i64 n.n)).setCell ⟨g,7,none⟩ (.bool n.neg))
theorem ZI {w:World}{g T:Nat}{a0 a1 a2 a3 a4 a5 a6 a7:Value}(h:Blk w g T #[a0,a1,a2,a3,a4,a5,a6,a7])(n:Nd):Blk (WW w g n) g T n.cs.toArray:=by
 have b:=(((((((h.set 0 (.int .i64 n.op)).set 1 (.slice n.A n.l.length n.c)).set 2 (.slice n.K n.ks.length n.kc)).set 3 (.int .i64 n.mn)).set 4 (.int .i64 n.mx)).set 5 (.int .i64 n.md)).set 6 (.int .i64 n.n)).set 7 (.bool n.neg)
 simpa[Nd.cs,WW] using b
theorem WV {p:Nat->Prop}{a w:World}{g:Nat}(h:KpP p a w)(hg:p g\/a.heap.size<=g)(n:Nd):KpP p a (WW w g n):=
 ((((((((h.set (x:=⟨g,0,none⟩) hg _).set (x:=⟨g,1,none⟩) hg _).set (x:=⟨g,2,none⟩) hg _).set (x:=⟨g,3,none⟩) hg _).set (x:=⟨g,4,none⟩) hg _).set (x:=⟨g,5,none⟩) hg _).set (x:=⟨g,6,none⟩) hg _).set (x:=⟨g,7,none⟩) hg _)
theorem CE {a w:World}{g:Nat}(h:Ext a w)(hg:a.heap.size<=g)(n:Nd):Ext a (WW w g n):=
 ((((((((h.setNew (p:=⟨g,0,none⟩) hg _).setNew (p:=⟨g,1,none⟩) hg _).setNew (p:=⟨g,2,none⟩) hg _).setNew (p:=⟨g,3,none⟩) hg _).setNew (p:=⟨g,4,none⟩) hg _).setNew (p:=⟨g,5,none⟩) hg _).setNew (p:=⟨g,6,none⟩) hg _).setNew (p:=⟨g,7,none⟩) hg _)
theorem Wk {w:World}{g T:Nat}{n:Nd}(h:Blk w g T n.cs.toArray):w.cell? ⟨g,0,none⟩=some (.int .i64 n.op)/\w.cell? ⟨g,1,none⟩=some (.slice n.A n.l.length n.c)/\w.cell? ⟨g,2,none⟩=some (.slice n.K n.ks.length n.kc)/\w.cell? ⟨g,3,none⟩=some (.int .i64 n.mn)/\
 w.cell? ⟨g,4,none⟩=some (.int .i64 n.mx)/\w.cell? ⟨g,5,none⟩=some (.int .i64 n.md)/\w.cell? ⟨g,6,none⟩=some (.int .i64 n.n)/\w.cell? ⟨g,7,none⟩=some (.bool n.neg):=
 ⟨h.cell 0,h.cell 1,h.cell 2,h.cell 3,h.cell 4,h.cell 5,h.cell 6,h.cell 7⟩
theorem Kj {w:World}{g T:Nat}{cs:Array Value}(h:Blk w g T cs):w.frozen? ⟨g,0,none⟩=false/\w.frozen? ⟨g,1,none⟩=false/\w.frozen? ⟨g,2,none⟩=false/\w.frozen? ⟨g,3,none⟩=false/\w.frozen? ⟨g,4,none⟩=false/\w.frozen? ⟨g,5,none⟩=false/\w.frozen? ⟨g,6,none⟩=false/\w.frozen? ⟨g,7,none⟩=false:=
 ⟨h.frz 0,h.frz 1,h.frz 2,h.frz 3,h.frz 4,h.frz 5,h.frz 6,h.frz 7⟩
structure Hin where
 op:Int
 x:Int
 y:Int
 n:Int
 A:Option Addr
 c:Nat
 l:List Sp
def Hin.ins (h:Hin):Ins:=⟨h.op,h.x,h.y,h.n,h.l⟩
def Hin.wf (h:Hin):Prop:=I64 h.op/\I64 h.x/\I64 h.y/\I64 h.n
def QT (hs:List Hin):List Value:=hs.flatMap fun h=>[.int .i64 h.op,.int .i64 h.x,.int .i64 h.y,.int .i64 h.n,.slice h.A h.l.length h.c]
theorem qE (l m:List Hin):QT (l++m)=QT l++QT m:=by simp[QT]
theorem JG (l:List Hin):(QT l).length=l.length*5:=by
 induction l with
 | nil=>rfl
 | cons y l ih=>simp only[QT,List.flatMap_cons,List.length_append] at *;simp only[List.length_cons,List.length_nil];omega
theorem vJ (l:List Hin):∀u∈QT l,u.oneCell'=true:=by
 intro u hu;obtain⟨o,_,hu⟩:=List.mem_flatMap.1 hu;simp only[List.mem_cons,List.not_mem_nil,or_false] at hu;rcases hu with rfl|rfl|rfl|rfl|rfl<;>rfl
theorem CF (l:List Hin)(i:Nat)(h:i<l.length):(QT l)[i*5]? = some (.int .i64 l[i].op)/\(QT l)[i*5+1]? = some (.int .i64 l[i].x)/\(QT l)[i*5+2]? = some (.int .i64 l[i].y)/\
 (QT l)[i*5+3]? = some (.int .i64 l[i].n)/\(QT l)[i*5+4]? = some (.slice l[i].A l[i].l.length l[i].c):=by
 induction l generalizing i with
 | nil=>simp at h
 | cons y l ih=>
  cases i with
  | zero=>simp[QT]
  | succ i=>
   have hi:i<l.length:=by simpa using h
   have e:QT (y::l)=.int .i64 y.op::.int .i64 y.x::.int .i64 y.y::.int .i64 y.n::.slice y.A y.l.length y.c::QT l:=by simp[QT]
   have e1:(i+1)*5=i*5+5:=om;rw[e,e1];exact ih i hi
structure PL (w:World)(A:Option Addr)(c:Nat)(hs:List Hin):Prop where
 le:hs.length<=c
 cap:c<=maxLen
 rng:∀h∈hs,h.wf
 sl:∀h∈hs,SL w h.A h.c h.l
 at_:hs≠[]->∃b o,A=some ⟨b,o,none⟩/\∀i (h:i<hs.length),w.cell? ⟨b,o+i*5,none⟩=some (.int .i64 hs[i].op)/\w.cell? ⟨b,o+i*5+1,none⟩=some (.int .i64 hs[i].x)/\
  w.cell? ⟨b,o+i*5+2,none⟩=some (.int .i64 hs[i].y)/\w.cell? ⟨b,o+i*5+3,none⟩=some (.int .i64 hs[i].n)/\w.cell? ⟨b,o+i*5+4,none⟩=some (.slice hs[i].A hs[i].l.length hs[i].c)
namespace PL
variable {w w':World} {A:Option Addr} {c:Nat} {hs:List Hin}
theorem ext (h:PL w A c hs)(k:Ext w w'):PL w' A c hs:=by
 refine⟨h.le,h.cap,h.rng,fun z hz=>(h.sl z hz).ext k,fun hn=>?_⟩;obtain⟨b,o,rfl,hc⟩:=h.at_ hn;exact⟨b,o,rfl,fun i hi=>⟨k.cell (hc i hi).1,k.cell (hc i hi).2.1,k.cell (hc i hi).2.2.1,k.cell (hc i hi).2.2.2.1,k.cell (hc i hi).2.2.2.2⟩⟩
theorem nil (w:World):PL w none 0 []:=⟨Nat.le_refl _,Nat.zero_le _,by simp,by simp,fun h=>absurd rfl h⟩
theorem len (h:PL w A c hs):hs.length<=c/\c<=9223372036854775807:=⟨h.le,by have:=h.cap;unfold maxLen at this;omega⟩
theorem get {k:Nat}(h:PL w A c hs)(hk:k<hs.length):∃b o,A=some ⟨b,o,none⟩/\w.cell? ⟨b,o+k*5,none⟩=some (.int .i64 hs[k].op)/\w.cell? ⟨b,o+k*5+1,none⟩=some (.int .i64 hs[k].x)/\
 w.cell? ⟨b,o+k*5+2,none⟩=some (.int .i64 hs[k].y)/\w.cell? ⟨b,o+k*5+3,none⟩=some (.int .i64 hs[k].n)/\w.cell? ⟨b,o+k*5+4,none⟩=some (.slice hs[k].A hs[k].l.length hs[k].c):=by
 obtain⟨b,o,rfl,hc⟩:=h.at_ (by intro h0;subst h0;simp at hk);exact⟨b,o,rfl,hc k hk⟩
theorem of_own {base T:Nat}(h:QQ w base T 5 A hs.length c (QT hs))(hr:∀z∈hs,z.wf)(hsl:∀z∈hs,SL w z.A z.c z.l):PL w A c hs:=by
 have hc:=QQ.caps h;refine⟨hc.1,by unfold maxLen;omega,hr,hsl,fun hn=>?_⟩;obtain⟨b,o,hA,hcell⟩:=QQ.cells h (by intro e;have:=JG hs;rw[e] at this;simp at this;exact hn (List.length_eq_zero_iff.1 om));have one:∀(i:Nat) (v:Value),(QT hs)[i]? = some v->w.cell? ⟨b,o+i,none⟩=some v:=fun i v hv=>by
  obtain⟨l1,e1⟩:=List.getElem?_eq_some_iff.1 hv;rw[hcell i l1,e1]
 refine⟨b,o,hA,fun i hi=>?_⟩;obtain⟨g0,g1,g2,g3,g4⟩:=CF hs i hi;refine⟨one _ _ g0,?_,?_,?_,?_⟩
 ·rw[Nat.add_assoc];exact one _ _ g1
 ·rw[Nat.add_assoc];exact one _ _ g2
 ·rw[Nat.add_assoc];exact one _ _ g3
 ·rw[Nat.add_assoc];exact one _ _ g4
end PL
def around (n m:Int):Int:=(if n<0 then -(n+1) else n) % m
theorem vK (n m:Int)(h:1<=m):0<=around n m/\around n m<m:=
 ⟨Int.emod_nonneg _ om,Int.emod_lt_of_pos _ om⟩
theorem MV (n m:Int)(w:World)(hn:I64 n)(h0:1<=m)(h1:m<=4294967296) :
 Calls Tryz.prog 17 #[.int .i64 n,.int .i64 m] w (XP (.int .i64 (around n m)) w):=by
 obtain⟨h2,h3⟩:=hn;by_cases h:n<0
 ·have e:around n m = -(n+1) % m:=by simp[around,h]
  have E:=lh e;clear e;have h4 : -(n+1)>=0:=om;go_enter Tryz.func17,Tryz.ntmps17
  go_wp2
  go_ret
  refine⟨?_,0,rfl⟩;rw[E.out]
  show Ending.returned (Value.int IntKind.i64 _)=_
  rw[<-Int.neg_tmod,Int.tmod_eq_emod_of_nonneg h4]
 ·have e:around n m=n % m:=by simp[around,h]
  have E:=lh e;clear e;go_enter Tryz.func17,Tryz.ntmps17
  go_wp2
  go_ret
  exact⟨by rw[E.out];rfl,0,rfl⟩
def pick (l:List Int)(i:Nat)(m:Int):Int:=if h:i<l.length then around l[i] m else 0
theorem xL (A:Option Addr)(c:Nat)(l:List Int)(i:Nat)(m:Int)(w:World)(hl:IL w A c l)(h0:1<=m)(h1:m<=4294967296)(hi:i<=9223372036854775807) :
 Calls Tryz.prog 37 #[.slice A l.length c,.int .i64 i,.int .i64 m] w (XP (.int .i64 (pick l i m)) w):=by
 obtain⟨hlen,hcap⟩:=hl.len;by_cases h:i<l.length
 ·obtain⟨b,o,rfl,hc⟩:=hl.get h;have hw:=hl.wf h;have e:pick l i m=around l[i] m:=by simp[pick,h]
  have E:=lh e;clear e;have hlt:(i:Int)<l.length:=om;go_enter Tryz.func37,Tryz.ntmps37
  go_wp2_with (go_at_call 17;refine(MV _ _ _ hw h0 h1).mono ?_;rintro e w1 ⟨rfl,n,rfl⟩)
  go_ret
  exact⟨by rw[E.out];rfl,n,rfl⟩
 ·have e:pick l i m=0:=by simp[pick,h]
  have E:=lh e;clear e;go_enter Tryz.func37,Tryz.ntmps37
  go_wp2
  go_ret
  exact⟨by rw[E.out];rfl,0,rfl⟩
theorem Ey (xs ys:List Int)(k:Nat)(h1:k<xs.length)(h2:k<ys.length)(h:xs.take k=ys.take k)(he:xs[k]=ys[k]):xs.take (k+1)=ys.take (k+1):=by
 rw[List.take_succ_eq_append_getElem h1,List.take_succ_eq_append_getElem h2,h,he]
theorem vV (A B:Option Addr)(c d:Nat)(xs ys:List Int)(w:World)(ha:IL w A c xs)(hb:IL w B d ys) :
 Calls Tryz.prog 54 #[.slice A xs.length c,.slice B ys.length d] w (XP (.bool (xs == ys)) w):=by
 obtain⟨a1,a2⟩:=ha.len;obtain⟨b1,b2⟩:=hb.len;by_cases hl:xs.length=ys.length
 ·have hl2:((xs.length:Int) != (ys.length:Int))=false:=by simp[hl]
  have hl':xs.length<=ys.length:=om;have hl'':ys.length<=xs.length:=om;have HL:=lh hl;clear hl;go_enter Tryz.func54,Tryz.ntmps54
  go_wp2
  go_loopw [5] (fun i wr=>∃k:Nat,k<=xs.length/\i=.int .i64 k/\Hid (xs.take k=ys.take k)/\∃n,wr=w.drewN n) (fun i _=>xs.length-(intOf i).toNat)
  case atStart=>exact⟨0,Nat.zero_le _,rfl,rfl,0,rfl⟩
  case round=>
   obtain⟨k,hk,rfl,ht,n,rfl⟩:=hrel;by_cases hlt:k<xs.length
   ·obtain⟨p1,o1,rfl,g1⟩:=ha.get hlt;obtain⟨p2,o2,rfl,g2⟩:=hb.get (show k<ys.length by omega);have hlt2:(k:Int)<xs.length:=om;have hlt3:(k:Int)<ys.length:=om;have hlt4:k<ys.length:=om;by_cases he:xs[k]=ys[k]
    ·have he':(xs[k] != ys[k])=false:=by simp[he]
     have HT:=lh (Ey xs ys k hlt om ht.out he);clear he
     go_wp2_with (go_quiet (fail))
     go_roundw
     case rel=>exact⟨k+1,om,by go_num,HT.out,_,rfl⟩
     case measure=>simp[intOf];omega
    ·have he':(xs[k] != ys[k])=true:=by simp[he]
     have hne:(xs == ys)=false:=by
      rw[beq_eq_false_iff_ne];rintro rfl;exact he rfl
     have HN:=lh hne;clear he hne
     go_wp2_with (go_quiet (fail))
     go_ret
     exact⟨by rw[HN.out];rfl,_,by rw[World.drewN_drewN]⟩
   ·have hne:(xs == ys)=true:=by
     have h1:=ht.out;rw[List.take_of_length_le om,List.take_of_length_le om] at h1;simp[h1]
    have HN:=lh hne;clear hne
    go_wp2
    go_ret
    exact⟨by rw[HN.out];rfl,_,rfl⟩
 ·have hl2:((xs.length:Int) != (ys.length:Int))=true:=by simp;omega
  have hne:(xs == ys)=false:=by
   rw[beq_eq_false_iff_ne];rintro rfl;exact hl rfl
  have HN:=lh hne;clear hne hl;go_enter Tryz.func54,Tryz.ntmps54
  go_wp2
  go_ret
  exact⟨by rw[HN.out];rfl,0,rfl⟩
end
def Jv (G:List Ins)(c:Int)(p:Nat):Bool:=match G[p]? with|some i=>decide (i.op=1)&&has i.set c|none=>false
def QZ (G:List Ins)(l:St)(c:Int):St:=QX G ((l.filter (Jv G c)).map (·+1))
def Qk (G:List Ins)(l:St):Bool:=match l.getLast? with|some p=>isD G p|none=>false
theorem JH (G:List Ins)(c:Int):QZ G [] c=[]:=rfl
theorem Vx (G:List Ins):Qk G []=false:=rfl
theorem yS {G:List Ins}{l:St}(h:l≠[]):Qk G l=isD G (l.getLast h):=by
 unfold Qk;rw[List.getLast?_eq_some_getLast h]
theorem IA {G:List Ins}{a b:Int}(h:∀i∈G,i.op=1->has i.set a=has i.set b)(l:St):QZ G l a=QZ G l b:=by
 have e:∀p,Jv G a p=Jv G b p:=fun p=>by
  unfold Jv
  cases hg:G[p]? with
  | none=>rfl
  | some i=>
   simp only
   by_cases h1:i.op=1
   ·rw[h i (List.mem_of_getElem? hg) h1]
   ·simp[h1]
 unfold QZ;rw[List.filter_congr (fun p _=>e p)]
def yT (G:List Ins)(p:Nat):Prop:=∃h:p<G.length,G[p].op≠2/\G[p].op≠3/\G[p].op≠4
theorem jW (G:List Ins):∀f s pc,(∀p∈s.1,yT G p)->∀p∈(WZ G f s pc).1,yT G p
 | 0,s,pc,h=>by unfold WZ;exact h
 | f+1,s,pc,h=>by
  unfold WZ
  split
  ·exact h
  ·split
   ·exact h
   ·rename_i i hi
    obtain⟨hlt,he⟩:=List.getElem?_eq_some_iff.1 hi
    split
    ·exact jW G f _ _ (jW G f _ _ h)
    ·split
     ·exact jW G f _ _ h
     ·split
      ·exact jW G f _ _ h
      ·rename_i h2 h3 h4
       intro p hp;rcases List.mem_append.1 hp with hp|hp
       ·exact h p hp
       ·have:p=pc:=by simpa using hp
        subst this;exact⟨hlt,by rw[he];exact⟨h2,h3,h4⟩⟩
theorem xM (G:List Ins)(N:Nat):∀(r:List Nat) (s:List Nat×List Nat),(∀p∈s.1,yT G p)->∀p∈(r.foldl (WZ G N) s).1,yT G p
 | [],s,h=>h
 | q::r,s,h=>xM G N r _ (jW G N s q h)
theorem FS {G:List Ins}:∀{l:List Nat} {p:Nat},p∈VY G l->p∈l
 | q::r,p,h=>by
  unfold VY at h
  split at h
  ·have:p=q:=by simpa using h
   subst this;simp
  ·rcases List.mem_cons.1 h with rfl|h
   ·simp
   ·exact List.mem_cons_of_mem _ (FS h)
theorem CG (G:List Ins)(r:List Nat):∀p∈QX G r,yT G p:=fun p hp=>xM G _ r ([],[]) si p (FS hp)
theorem YE (G:List Ins):∀f s pc,s.2.length<=(WZ G f s pc).2.length
 | 0,s,pc=>Nat.le_refl _
 | f+1,s,pc=>by
  unfold WZ
  split
  ·exact Nat.le_refl _
  ·split
   ·exact Nat.le_refl _
   ·rename_i i _
    have h1:s.2.length<=(s.2++[pc]).length:=by simp
    split
    ·exact Nat.le_trans h1 (Nat.le_trans (YE G f (s.1,s.2++[pc]) i.x.toNat) (YE G f _ i.y.toNat))
    ·split
     ·exact Nat.le_trans h1 (YE G f (s.1,s.2++[pc]) i.x.toNat)
     ·split
      ·exact Nat.le_trans h1 (YE G f (s.1,s.2++[pc]) (pc+1))
      ·exact h1
def Zy (n:Nat)(seen:List Nat):Prop:=seen.Nodup/\∀p∈seen,p<n
theorem Zy.nil (n:Nat):Zy n []:=⟨by simp,by simp⟩
theorem Zy.len {n:Nat}{seen:List Nat}(h:Zy n seen):seen.length<=n:=by
 have h1:=List.Nodup.length_le_of_subset (l₁:=seen) (l₂:=List.range n) h.1 (fun p hp=>List.mem_range.2 (h.2 p hp))
 rwa [List.length_range] at h1
theorem Zy.snoc {n:Nat}{seen:List Nat}(h:Zy n seen){pc:Nat}(hp:pc<n)(hn:pc∉seen):Zy n (seen++[pc]):=by
 refine⟨?_,fun p hp2=>?_⟩
 ·rw[List.nodup_append];exact⟨h.1,by simp,fun a ha b hb=>by
   have:b=pc:=by simpa using hb
   subst this;rintro rfl;exact hn ha⟩
 ·rcases List.mem_append.1 hp2 with h1|h1
  ·exact h.2 p h1
  ·have:p=pc:=by simpa using h1
   omega
theorem XU {G:List Ins}:∀f s pc,Zy G.length s.2->Zy G.length (WZ G f s pc).2
 | 0,s,pc,h=>h
 | f+1,s,pc,h=>by
  unfold WZ
  split
  ·exact h
  ·rename_i hn
   split
   ·exact h
   ·rename_i i hi
    obtain⟨hlt,_⟩:=List.getElem?_eq_some_iff.1 hi;have h1:=h.snoc hlt hn
    split
    ·exact XU f _ _ (XU f (s.1,s.2++[pc]) _ h1)
    ·split
     ·exact XU f (s.1,s.2++[pc]) _ h1
     ·split
      ·exact XU f (s.1,s.2++[pc]) _ h1
      ·exact h1
theorem V8 (G:List Ins):∀f s pc,(WZ G f s pc).1.length+s.2.length<=s.1.length+(WZ G f s pc).2.length
 | 0,s,pc=>by unfold WZ;omega
 | f+1,s,pc=>by
  unfold WZ
  split
  ·omega
  ·split
   ·omega
   ·rename_i i _
    have h1:(s.2++[pc]).length=s.2.length+1:=by simp
    split
    ·have h2:=V8 G f (s.1,s.2++[pc]) i.x.toNat;have h3:=V8 G f (WZ G f (s.1,s.2++[pc]) i.x.toNat) i.y.toNat
     simp only at h2;omega
    ·split
     ·have h2:=V8 G f (s.1,s.2++[pc]) i.x.toNat
      simp only at h2;omega
     ·split
      ·have h2:=V8 G f (s.1,s.2++[pc]) (pc+1)
       simp only at h2;omega
      ·simp only[List.length_append,List.length_cons,List.length_nil];omega
section
open Go.RowKit
theorem Kp.grownL {L:List Nat}{a b c:World}{A:Option Addr}(h:Kp L a b)(k:b.grownBy c (A.map (·.block)))(hp:∀i,A.map (·.block)=some i->i∈L\/a.heap.size<=i):Kp L a c:=
 ⟨k.os.trans h.os,k.tape.trans h.tape,k.output.trans h.output,Nat.le_trans h.size k.size,fun i hi hn=>(k.block i (Nat.lt_of_lt_of_le hi h.size) (fun e=>by
  rcases hp i e.symm with h1|h1
  ·exact hn h1
  ·omega)).trans (h.block i hi hn)⟩
theorem YQ {L:List Nat}{I:List (Nat×Nat)}{w w':World}{A:Option Addr}(k:w.grownBy w' (A.map (·.block)))(hp:∀i,A.map (·.block)=some i->i∈L\/InI I i):WI L I w w':=
 ⟨k.os,k.tape,k.output,k.size,fun i hi hn=>k.block i hi (fun e=>hn (hp i e.symm))⟩
section
variable {P:Program} {ops:Array Oper} {Q:Exit->Act->World->Prop} {L:List Nat} {w0:World}
variable {n:Nat} {KD:List (Nat×Nat)} {Z:List Lz} {I:List (Nat×Nat)} {ls:List Nat} {a:Act} {w:World}
theorem Xr.fork2 (i j:Nat){oi oj:Oper}(hoi:ops[i]? = some oi)(hoj:ops[j]? = some oj)
 (hr:(Region.ready .any ops (bits ops.size ls) == [i,j]&&KD.all fun x=>x.1 != i&&x.1 != j)=true) (hwi:Region.wanted oi (yielded ops a.tmps)=true) (hwj:Region.wanted oj (yielded ops a.tmps)=true)
 (h1:∀w',Ext w w'->Kp L w0 w'->∀K,(∀a2 w2,WI L I w' w2->Kp L w0 w2->Xr L w0 P ops Q n KD Z ((w'.heap.size,w2.heap.size)::I) (i::ls) a2 w2->K a2 w2)->oi.wp P a w' K (NoPanic Q))
 (h2:∀w',Ext w w'->Kp L w0 w'->∀K,(∀a2 w2,WI L I w' w2->Kp L w0 w2->Xr L w0 P ops Q n KD Z ((w'.heap.size,w2.heap.size)::I) (j::ls) a2 w2->K a2 w2)->oj.wp P a w' K (NoPanic Q)) :
 Xr L w0 P ops Q (n+1) KD Z I ls a w:=by
 intro hKD;simp only[Bool.and_eq_true,beq_iff_eq] at hr;obtain⟨hr,hZ⟩:=hr;have hZi:(KD.all fun x=>x.1 != i)=true:=by
  rw[List.all_eq_true] at hZ ⊢;intro x hx;have:=hZ x hx;simp only[Bool.and_eq_true] at this;exact this.1
 have hZj:(KD.all fun x=>x.1 != j)=true:=by
  rw[List.all_eq_true] at hZ ⊢;intro x hx;have:=hZ x hx;simp only[Bool.and_eq_true] at this;exact this.2
 refine⟨fun h0=>(by rw[hr] at h0;cases h0),fun k hk w' x1 x2=>?_⟩;rw[hr] at hk
 (try unfold KJ)
 have hk2:k=i\/k=j:=by simpa using hk
 rcases hk2 with rfl|rfl
 ·rw[KM (VJ (by rw[hKD];exact hZi))];refine Jy hoi hwi fun K' hK'=>h1 w' x1 x2 K' fun a2 w2 h3 h4 h5=>hK' a2 w2 ⟨h3,h4,?_⟩;rw[Zw];exact h5 hKD
 ·rw[KM (VJ (by rw[hKD];exact hZj))];refine Jy hoj hwj fun K' hK'=>h2 w' x1 x2 K' fun a2 w2 h3 h4 h5=>hK' a2 w2 ⟨h3,h4,?_⟩;rw[Zw];exact h5 hKD
end
end
section
open Go.RowKit
open Go.ChangeMaps (setBlock)
structure BV {α:Type}[DecidableEq α](P:Program)(k:TypeId)(kv:α->Value):Prop where
 check:∀(e:Bool) (x:α) (w:World),(Instr.checkKey e 10000 k (kv x)).run P w=.ok () w
 find:∀(x:α) (es:List MapEntry) (ks:List α),es.map (·.key)=ks.map kv->∀w:World,(Instr.findKey k (kv x) es).run P w=.ok ((ks.findIdx? (· == x)).map fun i=>(i,((es[i]?).map (·.val)).getD undef)) w
 same:∀x:α,Instr.sameBits 10000 (kv x) (kv x)=true
theorem IC {kd:IntKind}{k:IntKind}(x:Int):∀(es:List MapEntry) (ks:List Int) (j:Nat),es.map (·.key)=ks.map (Value.int kd)->
 Instr.findNow (.int k) (.int kd x) es j=some ((ks.findIdx? (· == x)).map fun i=>(j+i,((es[i]?).map (·.val)).getD undef))
 | [],[],_,_=>by simp[Instr.findNow]
 | [],_::_,_,h=>by simp at h
 | _::_,[],_,h=>by simp at h
 | e::es,y::ks,j,h=>by
  simp only[List.map_cons,List.cons.injEq] at h;simp only[Instr.findNow,h.1,Instr.sameNow,if_true];have ih:=IC (k:=k) x es ks (j+1) h.2;by_cases hxy:x=y
  ·subst hxy;simp[List.findIdx?_cons]
  ·have e1:(x == y)=false:=by simp[hxy]
   have e2:(y == x)=false:=by simp;exact fun e=>hxy e.symm
   rw[e1];simp only[ih,List.findIdx?_cons,e2,Bool.false_eq_true,if_false,Option.map_map]
   congr 2
   funext i
   simp only[Function.comp,List.getElem?_cons_succ]
   congr 1;omega
theorem kH {P:Program}{k:TypeId}{α:Type}[DecidableEq α]{kv:α->Value}(heq:∀x y (w:World),(Op.equal k (kv x) (kv y)).run P w=.ok (decide (x=y)) w)(x:α)(w:World) :
 ∀(es:List MapEntry) (ks:List α) (j:Nat),es.map (·.key)=ks.map kv->
 (Instr.findAsking k (kv x) es j).run P w=.ok ((ks.findIdx? (· == x)).map fun i=>(j+i,((es[i]?).map (·.val)).getD undef)) w
 | [],[],_,_=>by simp[Instr.findAsking]
 | [],_::_,_,h=>by simp at h
 | _::_,[],_,h=>by simp at h
 | e::es,y::ks,j,h=>by
  simp only[List.map_cons,List.cons.injEq] at h;have ih:=kH heq x w es ks (j+1) h.2;unfold Instr.findAsking;simp only[Sem.run_bind,h.1,heq,Result.andThen_ok];by_cases hxy:x=y
  ·subst hxy;simp[List.findIdx?_cons]
  ·have e2:(y == x)=false:=by simp;exact fun e=>hxy e.symm
   simp only[hxy,decide_false,Bool.false_eq_true,if_false,ih,List.findIdx?_cons,e2,Option.map_map]
   congr 2
   funext i
   simp only[Function.comp,List.getElem?_cons_succ]
   congr 1;omega
theorem ID {P:Program}{k:TypeId}{α:Type}[DecidableEq α]{kv:α->Value}{d:TypeDesc}(hk:P.underlying k=some d)(hno:∀x y:α,Instr.sameNow d (kv x) (kv y)=none)
 (heq:∀x y (w:World),(Op.equal k (kv x) (kv y)).run P w=.ok (decide (x=y)) w) (hck:∀(e:Bool) (x:α) (w:World),(Instr.checkKey e 10000 k (kv x)).run P w=.ok () w)
 (hsame:∀x:α,Instr.sameBits 10000 (kv x) (kv x)=true):BV P k kv where
 check:=hck
 same:=hsame
 find:=fun x es ks h w=>by
  unfold Instr.findKey;simp only[Sem.run_bind,run_underlying hk,Result.andThen_ok]
  match es,ks,h with
  | [],[],_=>simp[Instr.findNow]
  | e::es,y::ks,h=>
   have h':=h;simp only[List.map_cons,List.cons.injEq] at h';have e1:Instr.findNow d (kv x) (e::es) 0=none:=by simp[Instr.findNow,h'.1,hno]
   rw[e1];have:=kH heq x w (e::es) (y::ks) 0 h
   simpa using this
section
variable {α β:Type}
def WX (w:World)(b:Nat)(kv:α->Value)(vv:β->Value)(l:List (α×β)):Prop:=
 ∃(es:Array MapEntry) (clock:Nat),w.heap[b]? = some (.map es clock)/\es.toList.map (fun e=>(e.key,e.val))=l.map (fun p=>(kv p.1,vv p.2))/\(l.map (·.1)).Nodup/\
  (es.toList.map (·.born)).Nodup/\∀e∈es.toList,e.born<clock
variable {P:Program} {w w':World} {b k e t:Nat} {kv:α->Value} {vv:β->Value} {l:List (α×β)}
theorem WX.made (w:World)(kv:α->Value)(vv:β->Value):WX (w.alloc (.map #[] 0)) w.heap.size kv vv []:=
 ⟨#[],0,by show(w.heap.push _)[w.heap.size]? = _;simp,by simp,by simp,by simp,by simp⟩
theorem WX.lt (h:WX w b kv vv l):b<w.heap.size:=by
 obtain⟨es,clock,h,_⟩:=h;exact(Array.getElem?_eq_some_iff.1 h).1
theorem WX.ext (h:WX w b kv vv l)(x:Ext w w'):WX w' b kv vv l:=by
 have hl:=h.lt;obtain⟨es,clock,h,r⟩:=h;exact⟨es,clock,(x.block b hl).trans h,r⟩
theorem WX.kp {p:Nat->Prop}(h:WX w b kv vv l)(x:KpP p w w')(hn:¬p b):WX w' b kv vv l:=by
 have hl:=h.lt;obtain⟨es,clock,h,r⟩:=h;exact⟨es,clock,(x.block b hl hn).trans h,r⟩
theorem WX.ne (h:WX w b kv vv l){g T:Nat}{cs:Array Value}(hb:Blk w g T cs):b≠g:=by
 rintro rfl;obtain⟨es,clock,h,_⟩:=h;unfold Blk at hb;rw[hb] at h;cases h
def at? [DecidableEq α](l:List (α×β))(x:α):Option β:=(l.find? (fun p=>p.1 == x)).map (·.2)
def zN [DecidableEq α](l:List (α×β))(x:α)(v:β):List (α×β):=if l.any (fun p=>p.1 == x) then l.map (fun p=>if p.1=x then(x,v) else p) else l++[(x,v)]
theorem BY {es:List MapEntry}(h:es.map (fun e=>(e.key,e.val))=l.map (fun p=>(kv p.1,vv p.2))):es.map (·.key)=(l.map (·.1)).map kv:=by
 have:=congrArg (List.map Prod.fst) h
 simpa[List.map_map,Function.comp_def] using this
theorem xN [DecidableEq α](x:α):∀l:List (α×β),(l.map (·.1)).findIdx? (· == x)=l.findIdx? (fun p=>p.1 == x)
 | []=>rfl
 | p::l=>by simp only[List.map_cons,List.findIdx?_cons,xN x l]
theorem dI {es:List MapEntry}(h:es.map (fun e=>(e.key,e.val))=l.map (fun p=>(kv p.1,vv p.2)))(i:Nat):((es[i]?).map (·.val))=(l[i]?).map (fun p=>vv p.2):=by
 have:=congrArg (fun z=>(z[i]?).map Prod.snd) h
 simpa[List.getElem?_map,Option.map_map,Function.comp_def] using this
theorem FT [DecidableEq α](x:α):∀l:List (α×β),(l.findIdx? (fun p=>p.1 == x)).bind (fun i=>l[i]?)=l.find? (fun p=>p.1 == x)
 | []=>rfl
 | p::l=>by
  have ih:=FT x l;simp only[List.findIdx?_cons,List.find?_cons]
  cases hb:p.1 == x with
  | true=>simp
  | false=>
   simp only[Bool.false_eq_true,if_false]
   rw[<-ih]
   cases List.findIdx? (fun p=>p.1 == x) l<;>simp
theorem WX.look [DecidableEq α](h:WX w b kv vv l)(K:BV P k kv)(ht:P.underlying t=some (.map k e)){z:Value}(hz:(zeroValue e).run P w=.ok z w)(x:α) :
 (Instr.lookup t (.map (some b)) (kv x) false).run P w=.ok (((at? l x).map vv).getD z) w/\
 (Instr.lookup t (.map (some b)) (kv x) true).run P w=.ok (.tuple #[((at? l x).map vv).getD z,.bool (at? l x).isSome]) w:=by
 obtain⟨es,clock,hb,hes,_⟩:=h;have hf:=K.find x es.toList (l.map (·.1)) (BY hes) w;rw[xN] at hf;have hat:at? l x=((l.findIdx? (fun p=>p.1 == x)).bind (fun i=>l[i]?)).map (·.2):=by rw[FT];rfl
 constructor
 all_goals
  simp only[Instr.lookup,Sem.run_bind,run_underlying ht,Result.andThen_ok,MapKept.run_getObj_map hb,Sem.run_pure,K.check,hf]
  cases hi:l.findIdx? (fun p=>p.1 == x) with
  | none=>rw[hi] at hat;simp[hat,hz]
  | some i=>
   rw[hi] at hat;have hi2:=List.findIdx?_eq_some_iff_getElem.1 hi;obtain⟨hlt,_⟩:=hi2;have hv:=dI hes i;simp only[Option.bind_some,List.getElem?_eq_getElem hlt,Option.map_some] at hat hv;simp only[Option.map_some];rw[hv];simp[hat]
theorem kI (w:World)(b:Nat)(o:Obj)(hb:b<w.heap.size):(setBlock w b o).heap[b]? = some o:=by
 simp[setBlock,hb]
theorem xQ (w:World)(b:Nat)(o:Obj):KpP (·=b) w (setBlock w b o):=
 ⟨rfl,rfl,rfl,by simp[setBlock],fun k _ hn=>by simp only[setBlock];rw[Array.getElem?_setIfInBounds_ne (fun e=>hn e.symm)]⟩
theorem MX {es:Array MapEntry}{l:List (α×β)}(h:es.toList.map (fun e=>(e.key,e.val))=l.map (fun p=>(kv p.1,vv p.2))):es.size=l.length:=by
 have:=congrArg List.length h
 simpa using this
theorem FU [DecidableEq α](x:α)(l:List (α×β)):l.any (fun p=>p.1 == x)=(l.findIdx? (fun p=>p.1 == x)).isSome:=by
 induction l with
 | nil=>rfl
 | cons p l ih=>simp only[List.any_cons,List.findIdx?_cons,ih];cases p.1 == x<;>simp
theorem yU [DecidableEq α](x:α)(v:β):∀(l:List (α×β)),(l.map (·.1)).Nodup->∀i,l.findIdx? (fun p=>p.1 == x)=some i->l.modify i (fun _=>(x,v))=l.map (fun p=>if p.1=x then(x,v) else p)
 | [],_,i,h=>by simp at h
 | p::l,hn,i,h=>by
  simp only[List.map_cons,List.nodup_cons] at hn;rw[List.findIdx?_cons] at h;by_cases hp:p.1=x
  ·have hb:(p.1 == x)=true:=by simpa using hp
   rw[hb] at h;simp only[if_true,Option.some.injEq] at h;subst h;simp only[List.modify_zero_cons,List.map_cons,hp,if_true,List.cons.injEq,true_and]
   symm
   rw[List.map_congr_left (g:=id),List.map_id];intro q hq;have:q.1≠x:=fun e=>hn.1 (by rw[hp,<-e];exact List.mem_map.2 ⟨q,hq,rfl⟩);simp[this]
  ·have hb:(p.1 == x)=false:=by simpa using hp
   rw[hb] at h;simp only[Bool.false_eq_true,if_false] at h
   cases hj:l.findIdx? (fun p=>p.1 == x) with
   | none=>rw[hj] at h;simp at h
   | some j=>
    rw[hj] at h;simp only[Option.map_some,Option.some.injEq] at h;subst h;simp only[List.modify_succ_cons,List.map_cons,hp,if_false,yU x v l hn.2 j hj]
theorem xO (es:List MapEntry)(f:MapEntry->MapEntry)(g:Value×Value->Value×Value)(hfg:∀e,((f e).key,(f e).val)=g (e.key,e.val))(i:Nat) :
 (es.modify i f).map (fun e=>(e.key,e.val))=(es.map (fun e=>(e.key,e.val))).modify i g:=by
 induction es generalizing i with
 | nil=>cases i<;>rfl
 | cons e es ih=>
  cases i with
  | zero=>simp[hfg]
  | succ i=>simp[ih]
theorem WX.put [DecidableEq α](h:WX w b kv vv l)(K:BV P k kv)(ht:P.underlying t=some (.map k e))(x:α)(v:β) :
 ∃o,(Instr.mapUpdate t (.map (some b)) (kv x) (vv v)).run P w=.ok () (setBlock w b o)/\WX (setBlock w b o) b kv vv (zN l x v):=by
 have hlt:=h.lt;obtain⟨es,clock,hb,hes,hnd,hbn,hbl⟩:=h;have hf:=K.find x es.toList (l.map (·.1)) (BY hes) w;rw[xN] at hf
 cases hi:l.findIdx? (fun p=>p.1 == x) with
 | none=>
  rw[hi] at hf;refine⟨.map (es.push { key:=kv x,val:=vv v,born:=clock }) (clock+1),?_,?_⟩
  ·simp only[Instr.mapUpdate,Sem.run_bind,run_underlying ht,Result.andThen_ok,MapKept.run_getObj_map hb,K.check,hf,Option.map_none];exact MapKept.run_setObj_map _ hb
  ·have hput:zN l x v=l++[(x,v)]:=by unfold zN;rw[FU,hi];rfl
   rw[hput];refine⟨_,_,kI w b _ hlt,?_,?_,?_,?_⟩
   ·simp[hes]
   ·rw[List.map_append,List.nodup_append];refine⟨hnd,by simp,?_⟩;intro y hy z hz hyz;have hz2:z=x:=by simpa using hz
    subst hz2;obtain⟨p,hp,rfl⟩:=List.mem_map.1 hy;have:=List.findIdx?_eq_none_iff.1 hi p hp;simp[hyz] at this
   ·simp only[Array.toList_push,List.map_append,List.nodup_append];refine⟨hbn,by simp,?_⟩;intro y hy z hz hyz;obtain⟨p,hp,rfl⟩:=List.mem_map.1 hy;have:=hbl p hp;have hz2:z=clock:=by simpa using hz
    omega
   ·intro e he;simp only[Array.toList_push,List.mem_append,List.mem_singleton] at he;rcases he with he|rfl
    ·have:=hbl e he;omega
    ·simp
 | some i=>
  rw[hi] at hf;obtain⟨hil,hix,_⟩:=List.findIdx?_eq_some_iff_getElem.1 hi;have hie:i<es.size:=by rw[MX hes];exact hil
  have hkey:es[i].key=kv x:=by
   have h1:=BY hes;have h2:=congrArg (fun z=>z[i]?) h1;simp only[List.getElem?_map,List.getElem?_eq_getElem hil,Option.map_some] at h2;have h3:l[i].1=x:=by simpa using hix
   rw[h3] at h2;have h4:es.toList[i]? = some es[i]:=by simp[hie]
   rw[h4] at h2
   simpa using h2
  refine⟨.map (es.modify i fun e=>{ e with key:=kv x,val:=vv v }) clock,?_,?_⟩
  ·have h4:es[i]? = some es[i]:=by simp[hie]
   simp only[Instr.mapUpdate,Sem.run_bind,run_underlying ht,Result.andThen_ok,MapKept.run_getObj_map hb,K.check,hf,Option.map_some,h4,Option.getD_some,Instr.keyThatStays,hkey,K.same,if_true,Sem.run_pure];exact MapKept.run_setObj_map _ hb
  ·have hput:zN l x v=l.modify i (fun _=>(x,v)):=by unfold zN;rw[FU,hi,yU x v l hnd i hi];rfl
   have hkeys:(l.modify i (fun _=>(x,v))).map (·.1)=l.map (·.1):=by
    apply List.ext_getElem?;intro j;rw[List.getElem?_map,List.getElem?_map,List.getElem?_modify];by_cases hij:i=j
    ·subst hij;rw[List.getElem?_eq_getElem hil];have h3:l[i].1=x:=by simpa using hix
     simp[h3]
    ·simp[hij]
   have hborn:(es.modify i fun e=>{ e with key:=kv x,val:=vv v }).toList.map (·.born)=es.toList.map (·.born):=by
    rw[Array.toList_modify];apply List.ext_getElem?;intro j;rw[List.getElem?_map,List.getElem?_map,List.getElem?_modify];by_cases hij:i=j
    ·subst hij;cases es.toList[i]?<;>simp
    ·simp[hij]
   rw[hput];refine⟨_,_,kI w b _ hlt,?_,by rw[hkeys];exact hnd,by rw[hborn];exact hbn,?_⟩
   ·rw[Array.toList_modify,xO _ _ (fun _=>(kv x,vv v)) (fun _=>rfl),hes];apply List.ext_getElem?;intro j;rw[List.getElem?_modify,List.getElem?_map,List.getElem?_map,List.getElem?_modify];by_cases hij:i=j
    ·subst hij;cases l[i]?<;>simp
    ·simp[hij]
   ·intro e he;have:e.born∈es.toList.map (·.born):=by rw[<-hborn];exact List.mem_map.2 ⟨e,he,rfl⟩
    obtain⟨e',he',h5⟩:=List.mem_map.1 this
    rw[<-h5];exact hbl e' he'
end
end
section
open Go.RowKit
theorem VV:(Tryz.prog.info? 3).map (fun i=>(i.zero,i.size,i.bytes))=some (some (.int .i64 0),1,8):=by kernel_rfl
def iO (x:Int):Bool:=decide (0<=x)&&decide (x<=1114111)
def aP (at_ del:Int)(n:Nat):Bool:=decide (0<=at_)&&decide (at_<=65536)&&decide (0<=del)&&decide (del<=65536)&&decide (n<=65536)
def formed (at_ del:Int)(ins:List Int):Bool:=aP at_ del ins.length&&ins.all iO
structure XL (w:World)(A:Option Addr)(c:Nat)(xs:List (Int×Int×Int)):Prop where
 le:xs.length<=c
 cap:c<=maxLen
 at_:xs≠[]->∃b o,A=some ⟨b,o,none⟩/\∀i (h:i<xs.length),w.cell? ⟨b,o+i*3,none⟩=some (.int .i64 xs[i].1)/\
  w.cell? ⟨b,o+i*3+1,none⟩=some (.int .i64 xs[i].2.1)/\w.cell? ⟨b,o+i*3+2,none⟩=some (.int .i64 xs[i].2.2)
def iT (xs:List Int)(w:World)(e:Ending)(w':World):Prop:=∃(A:Option Addr) (c:Nat),e=.returned (.slice A xs.length c)/\WO w' w.heap.size 3 A c xs/\(∀x∈xs,I64 x)/\Ext w w'
def Yj:List Int:=[97,97,97,98,98,99,97,98,10,32,65,200]
def wB (x:Int):Int:=Yj.getD (around x 12).toNat 0
def rtext (l:List Int)(m:Nat):List Int:=(l.take m).map wB
theorem F0:∀p,p<12->0<=Yj.getD p 0/\Yj.getD p 0<=200:=by decide
theorem R0 (x:Int):0<=wB x/\wB x<=200:=by
 have h:=vK x 12 om;exact F0 _ om
theorem jF (l:List Int)(m:Nat):∀x∈rtext l m,0<=x/\x<=200:=by
 intro x hx;obtain⟨y,_,rfl⟩:=List.mem_map.1 hx;exact R0 y
theorem vX (l:List Int)(m:Nat):(rtext l m).length<=m:=by simp[rtext];omega
theorem MY (l:List Int)(k:Nat)(h:k<l.length):rtext l (k+1)=rtext l k++[wB l[k]]:=by
 unfold rtext;rw[List.take_succ_eq_append_getElem h,List.map_append];rfl
theorem OW {x:Int}(h : -1000000000000<=x/\x<=1000000000000):I64 x:=by unfold I64;omega
theorem CH (a b:ByteArray):(a == b)=decide (a=b):=by
 rw[beq_toListBytes,ByteArray.toList_eq,ByteArray.toList_eq];obtain⟨⟨x⟩⟩:=a;obtain⟨⟨y⟩⟩:=b;rw[Bool.eq_iff_iff]
 simp
theorem xW (x:ByteArray):∀(es:List MapEntry) (ks:List ByteArray) (j:Nat),es.map (·.key)=ks.map Value.string->
 Instr.findNow .string (.string x) es j=some ((ks.findIdx? (fun y=>decide (y=x))).map fun i=>(j+i,((es[i]?).map (·.val)).getD undef))
 | [],[],_,_=>by simp[Instr.findNow]
 | [],_::_,_,h=>by simp at h
 | _::_,[],_,h=>by simp at h
 | e::es,y::ks,j,h=>by
  simp only[List.map_cons,List.cons.injEq] at h;simp only[Instr.findNow,h.1,Instr.sameNow,CH];have ih:=xW x es ks (j+1) h.2;by_cases hxy:x=y
  ·subst hxy;simp[List.findIdx?_cons]
  ·have e2:¬y=x:=fun e=>hxy e.symm;simp only[hxy,decide_false,ih,List.findIdx?_cons,e2,Bool.false_eq_true,if_false,Option.map_map]
   congr 2
   funext i
   simp only[Function.comp,List.getElem?_cons_succ]
   congr 1;omega
theorem F4 {P:Program}{k:TypeId}(hk:P.underlying k=some .string):BV P k Value.string where
 check:=fun e x w=>by
  unfold Instr.checkKey;simp[Sem.run_bind,run_underlying hk]
 find:=fun x es ks h w=>by
  have e:(ks.findIdx? (fun y=>decide (y=x)))=ks.findIdx? (@BEq.beq ByteArray instBEqOfDecidableEq · x):=rfl;unfold Instr.findKey;simp only[Sem.run_bind,run_underlying hk,Result.andThen_ok,xW x es ks 0 h,e]
  simp
 same:=fun x=>by simp[Instr.sameBits,CH]
def KZ (l:List Nat):List Int:=l.flatMap (fun i=>[((i / 256 % 256:Nat):Int),((i % 256:Nat):Int)])
theorem xP (l:List Nat):(KZ l).length=2*l.length:=by
 induction l with
 | nil=>rfl
 | cons x l ih=>simp only[KZ,List.flatMap_cons,List.length_append] at *;simp only[List.length_cons,List.length_nil];omega
theorem LX (l:List Nat):∀b∈KZ l,0<=b/\b<256:=by
 intro b hb;obtain⟨i,_,hb⟩:=List.mem_flatMap.1 hb;simp only[List.mem_cons,List.not_mem_nil,or_false] at hb;omega
theorem F5:∀{l m:List Nat},(∀i∈l,i<65536)->(∀i∈m,i<65536)->KZ l=KZ m->l=m
 | [],[],_,_,_=>rfl
 | [],y::m,_,_,h=>by simp[KZ] at h
 | x::l,[],_,_,h=>by simp[KZ] at h
 | x::l,y::m,hl,hm,h=>by
  have e1:KZ (x::l)=((x / 256 % 256:Nat):Int)::((x % 256:Nat):Int)::KZ l:=by simp[KZ]
  have e2:KZ (y::m)=((y / 256 % 256:Nat):Int)::((y % 256:Nat):Int)::KZ m:=by simp[KZ]
  rw[e1,e2,List.cons.injEq,List.cons.injEq] at h;obtain⟨h1,h2,h3⟩:=h;have hx:=hl x si;have hy:=hm y si;have:x=y:=om;rw[this,F5 (fun i hi=>hl i (by simp[hi])) (fun i hi=>hm i (by simp[hi])) h3]
theorem OZ {xs ys:List Int}(hx:∀b∈xs,0<=b/\b<256)(hy:∀b∈ys,0<=b/\b<256)(h:strOfNums xs=strOfNums ys):xs=ys:=by
 have h1:=congrArg (fun b=>b.data.toList) h;simp only[strOfNums_data] at h1;induction xs generalizing ys with
 | nil=>
  cases ys with
  | nil=>rfl
  | cons y ys=>simp at h1
 | cons x xs ih=>
  cases ys with
  | nil=>simp at h1
  | cons y ys=>
   simp only[List.map_cons,List.cons.injEq] at h1;have hx1:=hx x si;have hy1:=hy y si;have e:=congrArg UInt8.toNat h1.1;simp only[UInt8.toNat_ofNat'] at e;have e2:x=y:=om;rw[e2,ih (fun b hb=>hx b (by simp[hb])) (fun b hb=>hy b (by simp[hb])) (by simp[strOfNums,h1.2]) h1.2]
def KT (l:List Nat):ByteArray:=strOfNums (KZ l)
theorem R3 {l m:List Nat}(hl:∀i∈l,i<65536)(hm:∀i∈m,i<65536)(h:KT l=KT m):l=m:=
 F5 hl hm (OZ (LX l) (LX m) h)
theorem OJ {L:List (List Nat)}(hL:∀l∈L,∀i∈l,i<65536){l:List Nat}(hl:∀i∈l,i<65536) :
 (L.zipIdx.map (fun p=>(KT p.1,(p.2:Int)))).find? (fun p=>decide (p.1=KT l))=if l∈L then some (KT l,(L.idxOf l:Int)) else none:=by
 have gen:∀(L:List (List Nat)) (j:Nat),(∀l∈L,∀i∈l,i<65536)->((L.zipIdx j).map (fun p=>(KT p.1,(p.2:Int)))).find? (fun p=>decide (p.1=KT l))=if l∈L then some (KT l,((j+L.idxOf l:Nat):Int)) else none:=by
  intro L;induction L with
  | nil=>intro j _;rfl
  | cons m L ih=>
   intro j hL;rw[List.zipIdx_cons,List.map_cons,List.find?_cons];by_cases hml:m=l
   ·subst hml;simp[List.idxOf_cons]
   ·have h1:¬KT m=KT l:=fun e=>hml (R3 (hL m si) hl e);simp only[h1,decide_false];rw[ih (j+1) (fun l hl=>hL l (by simp[hl]))];have h2:(m == l)=false:=by rw[beq_eq_false_iff_ne];exact hml
    have h3:¬l=m:=fun e=>hml e.symm;simp only[List.mem_cons,h3,false_or,List.idxOf_cons,h2,cond_false]
    split
    ·congr 2;omega
    ·rfl
 have:=gen L 0 hL
 simpa using this
end
section
def YW (nx:Nat->Nat->Int)(s k t:Nat):List Nat:=((List.range k).filter (fun j=>decide (nx s j=(t:Int)))).map (fun _=>s)
def bef (nx:Nat->Nat->Int)(m i t:Nat):List Nat:=(List.range i).flatMap (fun s=>YW nx s m t)
def VA (nx:Nat->Nat->Int)(m i k t:Nat):List Nat:=bef nx m i t++YW nx i k t
section
variable {nx:Nat->Nat->Int} {m i k t:Nat}
theorem CI:VA nx m i 0 t=bef nx m i t:=by simp[VA,YW]
theorem R4:VA nx m i m t=bef nx m (i+1) t:=by simp[VA,bef,List.range_succ]
theorem R8 (h:nx i k=(t:Int)):VA nx m i (k+1) t=VA nx m i k t++[i]:=by
 simp[VA,YW,List.range_succ,List.filter_append,h]
theorem LY (h:nx i k≠(t:Int)):VA nx m i (k+1) t=VA nx m i k t:=by
 simp[VA,YW,List.range_succ,List.filter_append,h]
theorem R9 {p s:Nat}:p∈YW nx s k t<->p=s/\FM nx k s t:=by
 unfold YW FM;simp only[List.mem_map,List.mem_filter,List.mem_range,decide_eq_true_eq];constructor
 ·rintro⟨j,⟨h1,h2⟩,rfl⟩;exact⟨rfl,j,h1,h2⟩
 ·rintro⟨rfl,j,h1,h2⟩;exact⟨j,⟨h1,h2⟩,rfl⟩
theorem Lq {n p:Nat}:p∈bef nx m n t<->p<n/\FM nx m p t:=by
 unfold bef;simp only[List.mem_flatMap,List.mem_range,R9];constructor
 ·rintro⟨s,h1,rfl,h2⟩;exact⟨h1,h2⟩
 ·rintro⟨h1,h2⟩;exact⟨p,h1,rfl,h2⟩
theorem F6:∀k,(YW nx i k t).length<=k:=fun k=>by
 unfold YW;rw[List.length_map];exact Nat.le_trans (List.length_filter_le _ _) si
theorem Bq:∀i,(bef nx m i t).length<=i*m
 | 0=>by simp[bef]
 | i+1=>by
  have h:=Bq i;have h2:(bef nx m (i+1) t).length=(bef nx m i t).length+(YW nx i m t).length:=by simp[bef,List.range_succ]
  have h3:(YW nx i m t).length<=m:=F6 m;rw[h2,Nat.succ_mul];omega
theorem SW:(VA nx m i k t).length<=i*m+k:=by
 unfold VA;have h:=Bq (nx:=nx) (m:=m) (t:=t) i;have h3:(YW nx i k t).length<=k:=F6 k;rw[List.length_append];omega
def JS (nx:Nat->Nat->Int)(m i k n:Nat):List (List Nat):=(List.range n).map (VA nx m i k)
theorem F7 {n:Nat}:(JS nx m i k n).length=n:=by simp[JS]
theorem jG {n:Nat}(h:t<(JS nx m i k n).length):(JS nx m i k n)[t]=VA nx m i k t:=by simp[JS]
theorem Mq {n:Nat}:JS nx m 0 0 n=List.replicate n []:=by
 refine List.ext_getElem (by simp[JS]) (fun j h1 h2=>?_);simp[JS,VA,bef,YW]
theorem SJ {n:Nat}:JS nx m i m n=JS nx m (i+1) 0 n:=by
 unfold JS;refine List.map_congr_left (fun t _=>?_);rw[R4,CI]
theorem aR {n:Nat}(h:nx i k<0):JS nx m i (k+1) n=JS nx m i k n:=by
 unfold JS;refine List.map_congr_left (fun t _=>?_);exact LY om
theorem SK {n:Nat}(h:nx i k=(t:Int)):(JS nx m i k n).set t (VA nx m i k t++[i])=JS nx m i (k+1) n:=by
 refine List.ext_getElem (by simp[JS]) (fun j h1 h2=>?_);rw[List.getElem_set];by_cases e:t=j
 ·subst e;rw[if_pos rfl,jG,R8 h]
 ·rw[if_neg e,jG,jG,LY om]
end
def Mk1 (op:List Bool)(x:Nat):Prop:=op.getD x false=true
theorem Mk1.set {op:List Bool}{s:Nat}(hs:s<op.length)(x:Nat):Mk1 (op.set s true) x<->Mk1 op x\/x=s:=by
 unfold Mk1;simp only[List.getD_eq_getElem?_getD,List.getElem?_set];by_cases e:s=x
 ·subst e;simp[hs]
 ·have e2:¬x=s:=fun h=>e h.symm;simp[e,e2]
def Xw (op:List Bool):Nat:=(op.filter (fun b=>!b)).length
theorem F8:∀{op:List Bool} {s:Nat} (hs:s<op.length),op[s]=false->Xw (op.set s true)+1=Xw op
 | b::r,0,_,h=>by
  have h':b=false:=h;subst h';simp[Xw]
 | b::r,s+1,hs,h=>by
  have h1:=F8 (op:=r) (s:=s) (by simpa using hs) (by simpa using h);unfold Xw at h1 ⊢
  cases b<;>simp at h1 ⊢<;>omega
theorem CL:∀{op op':List Bool},op.length=op'.length->(∀x,Mk1 op x->Mk1 op' x)->Xw op'<=Xw op
 | [],[],_,_=>Nat.le_refl _
 | [],_::_,h,_=>by simp at h
 | _::_,[],h,_=>by simp at h
 | b::r,b'::r',hl,h=>by
  have h1:=CL (op:=r) (op':=r') (by simpa using hl) (fun x hx=>by
   have:=h (x+1) (by simpa[Mk1] using hx)
   simpa[Mk1] using this)
  have h0:=h 0;simp[Mk1] at h0;unfold Xw at h1 ⊢
  cases b<;>cases b'<;>simp at h0 h1 ⊢<;>omega
end
section
open Go.RowKit Go.ChangeShapes
theorem I64.of_wf {n:Int}(h:(Lit.int .i64 n).wf=true):I64 n:=bounds_i64 h
theorem IL.of_row {w:World}{a:Option Addr}{len cap:Nat}{zs:List Int}
 (h:(a=none/\len=0/\cap=0/\zs=[])\/∃x,a=some x/\len<=cap/\cap<=maxLen/\zs.length=cap/\(∀i,i<zs.length->w.cell? (x.add i)=some (.int .i64 (zs.getD i 0)))/\∀n∈zs,(Lit.int .i64 n).wf=true) :
 ∃l:List Int,l.length=len/\IL w a cap l:=by
 rcases h with⟨rfl,rfl,rfl,rfl⟩|⟨x,rfl,hl,hm,hz,hc,hw⟩
 ·exact⟨[],rfl,IL.nil w⟩
 ·have hlen:(zs.take len).length=len:=by rw[List.length_take];omega
  refine⟨zs.take len,hlen,om,hm,fun n hn=>I64.of_wf (hw n (List.mem_of_mem_take hn)),fun hn=>?_⟩;have h0:0<len:=by
   rw[<-hlen];exact List.length_pos_iff.2 hn
  obtain⟨b,off,spot⟩:=x;have hs:=hc 0 om;have hspot:spot=none:=by simpa[Addr.add] using World.cell?_spot hs
  subst hspot;refine⟨b,off,rfl,fun i hi=>?_⟩;rw[hlen] at hi;have h1:=hc i om;have e1:(zs.take len)[i]'(by rw[hlen];exact hi)=zs.getD i 0:=by
   rw[List.getElem_take,List.getD_eq_getElem?_getD,List.getElem?_eq_getElem om];rfl
  rw[e1,<-h1]
  congr 1
  unfold Addr.add
  split
  ·subst_vars;rfl
  ·rfl
end
