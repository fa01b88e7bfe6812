/- Texts of this proof: C9. -/
import Derived.Test.YtmgpefenkilffaaGreatSW36
set_option linter.all false
namespace Go.Proofs.YtmgpefenkilffaaGreat
section
open Go.RowKit
attribute [local go_sem ↓] Go.wp_at_zero Go.wp_at_succ
structure GpO (base w:World)(A:Option Addr)(c:Nat)(hs:List Hin):Prop where
 own:OwnS w base.heap.size 128 5 A hs.length c (flatN hs)
 ok:∀h∈hs,HinOk w h
 typ:∀h∈hs,∀b,h.A.map (·.block)=some b->∃cur,w.heap[b]? = some (.cells cur 81 (0,0))
theorem GpO.nil (base w:World):GpO base w none 0 []:=⟨OwnS.nil _ _ _ _,by simp,by simp⟩
theorem GpO.ext {base w w':World}{A:Option Addr}{c:Nat}{hs:List Hin}(h:GpO base w A c hs)(x:Ext w w'):GpO base w' A c hs:=
 ⟨OwnS.ext h.own x,fun z hz=>⟨(h.ok z hz).1,(h.ok z hz).2.1.ext x,(h.ok z hz).2.2⟩,fun z hz b hb=>by
  obtain⟨cur,e⟩:=h.typ z hz b hb;exact⟨cur,(x.block b (Array.getElem?_eq_some_iff.1 e).1).trans e⟩⟩
theorem GpO.low {base base' w:World}{A:Option Addr}{c:Nat}{hs:List Hin}(h:GpO base' w A c hs)(hb:base.heap.size<=base'.heap.size):GpO base w A c hs:=⟨OwnS.lowerN h.own hb,h.ok,h.typ⟩
theorem GpO.kp {base w w':World}{A:Option Addr}{c:Nat}{hs:List Hin}{p:Nat->Prop}(h:GpO base w A c hs)(k:KpP p w w')(h1:∀b,A.map (·.block)=some b->¬p b)(h2:∀b cur,w.heap[b]? = some (.cells cur 81 (0,0))->¬p b):GpO base w' A c hs:=
 ⟨OwnS.kp h.own k (fun b e hp=>h1 b e hp),fun z hz=>⟨(h.ok z hz).1,(h.ok z hz).2.1.kpZ k (fun _ b hb=>by
  obtain⟨cur,e⟩:=h.typ z hz b hb;exact h2 b cur e),(h.ok z hz).2.2⟩,fun z hz b hb=>by
  obtain⟨cur,e⟩:=h.typ z hz b hb;exact⟨cur,(k.block b (Array.getElem?_eq_some_iff.1 e).1 (h2 b cur e)).trans e⟩⟩
theorem blk_ne {w:World}{g T T' b:Nat}{cs cur:Array Value}(h:Blk w g T cs)(hT:T≠T')(e:w.heap[b]? = some (.cells cur T' (0,0))):b≠g:=fun hb=>by
 subst hb;have h2:=h.symm.trans e;injection h2 with h2;injection h2 with _ h2 _
 exact hT h2
theorem GpO.push {base w w9:World}{A A9:Option Addr}{c c9:Nat}{hs ys:List Hin}{x:Hin}(h:GpO base w A c hs)(hx:HinOk w x)(ht:∀b,x.A.map (·.block)=some b->∃cur,w.heap[b]? = some (.cells cur 81 (0,0))){o:Obj}
 (hg:(w.alloc o).grownBy w9 (A.map (·.block))) (ho:OwnS w9 base.heap.size 128 5 A9 ys.length c9 (flatN ys)) (hy:ys=hs++[x]):GpO base w9 A9 c9 ys:=by
 have X:=Ext.alloc w o;have k:=KpP.of_grown hg;have hne:∀(b:Nat) (cur:Array Value),w.heap[b]? = some (.cells cur 81 (0,0))->¬(A.map (·.block)=some b):=fun b cur e hA=>by
  obtain⟨_,cur2,e2⟩:=OwnS.blt h.own hA;have e3:=e.symm.trans e2;injection e3 with e3;injection e3 with _ e3 _
  exact absurd e3 de
 have hall:∀z∈ys,HinOk w z/\∀b,z.A.map (·.block)=some b->∃cur,w.heap[b]? = some (.cells cur 81 (0,0)):=fun z hz=>by
  rw[hy] at hz;rcases List.mem_append.1 hz with hz|hz
  ·exact⟨h.ok z hz,h.typ z hz⟩
  ·rw[List.mem_singleton.1 hz];exact⟨hx,ht⟩
 have lift:∀(b:Nat) (cur:Array Value),w.heap[b]? = some (Obj.cells cur 81 (0,0))->w9.heap[b]? = some (Obj.cells cur 81 (0,0)):=fun b cur e=>by
  have e2:=(X.block b (Array.getElem?_eq_some_iff.1 e).1).trans e;exact(k.block b (Array.getElem?_eq_some_iff.1 e2).1 (hne b cur e)).trans e2
 refine⟨ho,fun z hz=>⟨(hall z hz).1.1,((hall z hz).1.2.1.ext X).kpZ k (fun _ b hb=>?_),(hall z hz).1.2.2⟩,fun z hz b hb=>?_⟩
 ·obtain⟨cur,e⟩:=(hall z hz).2 b hb;exact hne b cur e
 ·obtain⟨cur,e⟩:=(hall z hz).2 b hb;exact⟨cur,lift b cur e⟩
theorem setIn_cs {w:World}{g T:Nat}{x:Hin}(h:Blk w g T x.cs)(n:Hin):Blk (setIn w g n) g T n.cs:=setIn_blk (a0:=.int .i64 x.op) (a1:=.int .i64 x.x) (a2:=.int .i64 x.y) (a3:=.int .i64 x.n) (a4:=.slice x.A x.l.length x.c) h n
theorem setIn_kpp {p:Nat->Prop}{a w:World}{g:Nat}(h:KpP p a w)(hg:p g)(n:Hin):KpP p a (setIn w g n):=
 (((((h.set (x:=⟨g,0,none⟩) (.inl hg) _).set (x:=⟨g,1,none⟩) (.inl hg) _).set (x:=⟨g,2,none⟩) (.inl hg) _).set (x:=⟨g,3,none⟩) (.inl hg) _).set (x:=⟨g,4,none⟩) (.inl hg) _)
theorem setIn_kp {L:List Nat}{a w:World}{g:Nat}(h:Kp L a w)(hg:g∈L)(n:Hin):Kp L a (setIn w g n):=
 (((((h.set (p:=⟨g,0,none⟩) (.inl hg) _).set (p:=⟨g,1,none⟩) (.inl hg) _).set (p:=⟨g,2,none⟩) (.inl hg) _).set (p:=⟨g,3,none⟩) (.inl hg) _).set (p:=⟨g,4,none⟩) (.inl hg) _)
theorem wpList_app1 {P:Program}{w0 base w:World}{T:Nat}{ops:Array Oper}{rest:List Oper}{o:Oper}{a:Act}{Q:Exit->Act->World->Prop}(hgd:o.guard=none)(s x:Operand)(t:Nat)
 (ho:o.op=.call { callee:=.builtin .append,args:=#[s,x],argTypes:=#[t,t] })
 (i:TypeInfo) (ht:P.underlying t=some (.slice T)) (hi:P.info? T=some i) (hz:i.zero=some (.agg #[.int .i64 0,.int .i64 0,.int .i64 0,.int .i64 0,.slice none 0 0]))
 (hsize:i.size=5) (hby:i.bytes=56)
 (A:Option Addr) (c:Nat) (hs:List Hin) (hA:a.eval s=.slice A hs.length c) (hown:CdI w0 base w T A c hs)
 (B:Option Addr) (d:Nat) (V:Hin) (hV:HinOk w0 V) (hx:a.eval x=.slice B 1 d) (hr:CellsAt w B (flatN [V]))
 (hb:hs.length+1<=1000000) (ys:List Hin) (hys:ys=hs++[V])
 (h:∀A' c' w',CdI w0 base w' T A' c' ys->Ext base w'->(∀b,A.map (·.block)=some b->base.heap.size<=b)->w.grownBy w' (A.map (·.block))->wpList P ops Q rest (a.put o.dst (.slice A' ys.length c')) w'):wpList P ops Q (o::rest) a w:=
 wpList_appN hgd s x t ho i ht hi hz hsize hby A c hs hA hown B d [V] hx hr (fun h hh=>by rw[List.mem_singleton.1 hh];exact hV) hb ys hys h
end
end Go.Proofs.YtmgpefenkilffaaGreat
