/- Texts of this proof: K1 K2. -/
import Derived.Test.YtmpcoifnpflapaaGreatER11
import Derived.Deep.DrawnRows
set_option linter.all false
namespace Go.Proofs.YtmpcoifnpflapaaGreat
section
open Go.RowKit
attribute [local go_sem ↓] Go.wp_at_zero Go.wp_at_succ
def castL (l:List Nat):List Int:=l.map (fun(n:Nat)=>(n:Int))
theorem castL_len (l:List Nat):(castL l).length=l.length:=by simp[castL]
theorem castL_snoc (l:List Nat)(n:Nat):castL (l++[n])=castL l++[(n:Int)]:=by simp[castL]
def insL (hs:List Hin):List Ins:=hs.map Hin.ins
theorem insL_len (hs:List Hin):(insL hs).length=hs.length:=by simp[insL]
theorem insL_get {hs:List Hin}{k:Nat}(hk:k<hs.length):(insL hs)[k]? = some hs[k].ins:=by simp[insL,hk]
theorem insL_getElem {hs:List Hin}{k:Nat}(hk:k<(insL hs).length):(insL hs)[k]=(hs[k]'(by rw[insL_len] at hk;exact hk)).ins:=by simp[insL]
theorem KpP.chain {p q:Nat->Prop}{a b c:World}(h:KpP p a b)(k:KpP q b c)(hq:∀i,q i->p i\/a.heap.size<=i):KpP p a c:=
 ⟨k.os.trans h.os,k.tape.trans h.tape,k.output.trans h.output,Nat.le_trans h.size k.size,fun i hi hn=>(k.block i (Nat.lt_of_lt_of_le hi h.size) (fun hm=>by
  rcases hq i hm with h1|h1
  ·exact hn h1
  ·omega)).trans (h.block i hi hn)⟩
theorem Ext.thenP {p:Nat->Prop}{a b c:World}(h:Ext a b)(k:KpP p b c)(hp:∀i,p i->a.heap.size<=i):Ext a c:=
 ⟨k.os.trans h.os,k.tape.trans h.tape,k.output.trans h.output,Nat.le_trans h.size k.size,fun i hi=>(k.block i (Nat.lt_of_lt_of_le hi h.size) (fun hm=>by have:=hp i hm;omega)).trans (h.block i hi)⟩
def two (A B:Option Addr)(b:Nat):Prop:=A.map (·.block)=some b\/B.map (·.block)=some b
structure AddR (a0 w:World)(A0 B0:Option Addr)(L1 L2:List Int)(A:Option Addr)(c:Nat)(B:Option Addr)(d:Nat)(w':World):Prop where
 l:OwnI w' a0.heap.size 3 A c L1
 s:OwnI w' a0.heap.size 3 B d L2
 ap:∀b,A.map (·.block)=some b->B.map (·.block)≠some b
 kp:KpP (two A0 B0) w w'
 na:∀b,A.map (·.block)=some b->A0.map (·.block)=some b\/w.heap.size<=b
 nb:∀b,B.map (·.block)=some b->B0.map (·.block)=some b\/w.heap.size<=b
def progV (gA:Option Addr)(n gc:Nat)(caps:Int)(runes:Bool):Value:=.agg #[.slice gA n gc,.int .i64 caps,.bool runes]
theorem infoNk:(Tryz.prog.info? 3).map (fun i=>(i.zero,i.size,i.bytes))=some (some (.int .i64 0),1,8):=by kernel_rfl
theorem isD_get {hs:List Hin}{p:Nat}(h:p<hs.length):isD (insL hs) p=decide (hs[p].op=0):=by
 unfold isD;rw[insL_get h];rfl
theorem castL_get {l:List Nat}{k:Nat}(h:k<l.length):(castL l)[k]'(by rw[castL_len];exact h)=(l[k]:Int):=by simp[castL]
def blkO (A:Option Addr):List Nat:=(A.map (·.block)).toList
theorem blkO_mem {A:Option Addr}{b:Nat}:b∈blkO A<->A.map (·.block)=some b:=by unfold blkO;simp
structure StI (a0:World)(G:List Ins)(r:List Nat×List Nat)(A:Option Addr)(c:Nat)(B:Option Addr)(d:Nat)(w:World):Prop where
 l:OwnI w a0.heap.size 3 A c (castL r.1)
 s:OwnI w a0.heap.size 3 B d (castL r.2)
 ap:∀b,A.map (·.block)=some b->B.map (·.block)≠some b
 ok:SeenOk G.length r.2
 len:r.1.length<=r.2.length
end
end Go.Proofs.YtmpcoifnpflapaaGreat
