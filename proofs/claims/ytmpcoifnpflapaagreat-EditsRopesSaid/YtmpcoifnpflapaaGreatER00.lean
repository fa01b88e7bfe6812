/- Texts of this proof: Sh Base S1. -/
import Derived.KernelRfl
import Derived.Lib.Hide
import Derived.RowKit
import Derived.WalkKit
import Derived.WalkSpells
import Derived.Deep.Draws
import Derived.Laws.OwnMore
import Derived.Maps.AppendAt
import Derived.Deep.AppendLies
import Derived.Deep.CutBlock
import Derived.Deep.CutRange
import Derived.Deep.DeepCutAuto
import Derived.Deep.LoopGhost
import Derived.WalkLawsBesides
import Derived.Deep.QuietTactic
import Derived.BigQuiet
set_option linter.all false
namespace Go.Proofs.YtmpcoifnpflapaaGreat
theorem om {p : Prop} (h : p := by omega) : p := h
theorem si {p : Prop} (h : p := by simp) : p := h
theorem dK {p : Prop} (h : p := by decide +kernel) : p := h
theorem kr {p : Prop} (h : p := by kernel_rfl) : p := h
theorem de {p : Prop} (h : p := by decide) : p := h
theorem um {p : Prop} (h : p := by unfold Go.maxLen; omega) : p := h
theorem wj {p : Prop} (h : p := by rw [Go.IntKind.wrap_i64]; omega) : p := h
theorem lh {p : Prop} (h : p) : Go.RowKit.Hid p := Lib.hid h
theorem ptm {P Q : Prop} (k : Q) (h : Q -> P := by intro k; (try simp only [Act.put, List.setIfInBounds_toArray, List.set_cons_zero, List.set_cons_succ]); exact k) : P := h k
section
open Go.RowKit
def I64 (n:Int):Prop:=-9223372036854775808<=n/\n<=9223372036854775807
def Ext (w w':World):Prop:=Below w.heap.size w w'
namespace Ext
theorem rfl' (w:World):Ext w w:=Below.refl _ _
theorem trans {a b c:World}(h:Ext a b)(k:Ext b c):Ext a c:=Below.trans h (Below.mono k h.size)
theorem drewN (w:World)(n:Nat):Ext w (w.drewN n):=⟨rfl,rfl,rfl,Nat.le_refl _,fun _ _=>rfl⟩
theorem drew (w:World):Ext w w.drew:=⟨rfl,rfl,rfl,Nat.le_refl _,fun _ _=>rfl⟩
theorem alloc (w:World)(o:Obj):Ext w (w.alloc o):=(Below.refl _ _).alloc (Nat.le_refl _) o
theorem setNew {a w:World}(h:Ext a w){p:Addr}(hp:a.heap.size<=p.block)(u:Value):Ext a (w.setCell p u):=Below.setCell h hp u
theorem grown {a w w':World}(h:Ext a w){row:Option Nat}(hg:w.grownBy w' row)(hr:∀k,row=some k->a.heap.size<=k):Ext a w':=Below.grown h hg h.size hr
theorem cell {a b:World}(h:Ext a b){p:Addr}{v:Value}(hc:a.cell? p=some v):b.cell? p=some v:=by
 rw[Below.cell h (World.block_lt_of_cell? _ _ hc)];exact hc
end Ext
def CellsAt (w:World)(A:Option Addr)(xs:List Value):Prop:=
 xs≠[]->∃b o,A=some ⟨b,o,none⟩/\∀i (h:i<xs.length),w.cell? ⟨b,o+i,none⟩=some xs[i]
structure IL (w:World)(A:Option Addr)(c:Nat)(xs:List Int):Prop where
 le:xs.length<=c
 cap:c<=maxLen
 rng:∀x∈xs,I64 x
 at_:xs≠[]->∃b o,A=some ⟨b,o,none⟩/\∀i (h:i<xs.length),w.cell? ⟨b,o+i,none⟩=some (.int .i64 xs[i])
namespace IL
variable {w w':World} {A:Option Addr} {c:Nat} {xs:List Int}
theorem ext (h:IL w A c xs)(k:Ext w w'):IL w' A c xs:=by
 refine⟨h.le,h.cap,h.rng,fun hn=>?_⟩;obtain⟨b,o,rfl,hc⟩:=h.at_ hn;exact⟨b,o,rfl,fun i hi=>k.cell (hc i hi)⟩
theorem nil (w:World):IL w none 0 []:=⟨Nat.le_refl _,Nat.zero_le _,by simp,fun h=>absurd rfl h⟩
theorem len (h:IL w A c xs):xs.length<=c/\c<=9223372036854775807:=⟨h.le,by have:=h.cap;unfold maxLen at this;omega⟩
theorem get {k:Nat}(h:IL w A c xs)(hk:k<xs.length):∃b o,A=some ⟨b,o,none⟩/\w.cell? ⟨b,o+k,none⟩=some (.int .i64 xs[k]):=by
 obtain⟨b,o,rfl,hc⟩:=h.at_ (by intro h0;subst h0;simp at hk);exact⟨b,o,rfl,hc k hk⟩
theorem wf {k:Nat}(h:IL w A c xs)(hk:k<xs.length):I64 xs[k]:=h.rng _ (List.getElem_mem hk)
end IL
def Blk (w:World)(g:Nat)(T:TypeId)(cs:Array Value):Prop:=w.heap[g]? = some (.cells cs T (0,0))
namespace Blk
variable {w w':World} {g:Nat} {T:TypeId} {cs:Array Value}
theorem lt (h:Blk w g T cs):g<w.heap.size:=by
 unfold Blk at h;exact(Array.getElem?_eq_some_iff.1 h).1
theorem cell (h:Blk w g T cs)(i:Nat):w.cell? ⟨g,i,none⟩=cs[i]?:=by
 unfold Blk at h;simp[World.cell?,h]
theorem frz (h:Blk w g T cs)(i:Nat):w.frozen? ⟨g,i,none⟩=false:=by
 unfold Blk at h;simp[World.frozen?,h]
theorem new (w:World)(T:TypeId)(cs:Array Value):Blk (w.alloc (.cells cs T)) w.heap.size T cs:=by
 show(w.heap.push _)[w.heap.size]? = _
 simp
theorem ext (h:Blk w g T cs)(k:Ext w w'):Blk w' g T cs:=(k.block g h.lt).trans h
theorem alloc (h:Blk w g T cs)(o:Obj):Blk (w.alloc o) g T cs:=h.ext (Ext.alloc _ _)
theorem set (h:Blk w g T cs)(i:Nat)(u:Value):Blk (w.setCell ⟨g,i,none⟩ u) g T (cs.setIfInBounds i u):=by
 unfold Blk at h ⊢;simp[World.setCell,Array.getElem?_modify,h]
theorem c3 {x y z:Value}(h:Blk w g T #[x,y,z]):w.cell? ⟨g,0,none⟩=some x/\w.cell? ⟨g,1,none⟩=some y/\w.cell? ⟨g,2,none⟩=some z/\
 w.frozen? ⟨g,0,none⟩=false/\w.frozen? ⟨g,1,none⟩=false/\w.frozen? ⟨g,2,none⟩=false/\g<w.heap.size:=
 ⟨h.cell 0,h.cell 1,h.cell 2,h.frz 0,h.frz 1,h.frz 2,h.lt⟩
theorem c2 {x y:Value}(h:Blk w g T #[x,y]):w.cell? ⟨g,0,none⟩=some x/\w.cell? ⟨g,1,none⟩=some y/\
 w.frozen? ⟨g,0,none⟩=false/\w.frozen? ⟨g,1,none⟩=false/\g<w.heap.size:=
 ⟨h.cell 0,h.cell 1,h.frz 0,h.frz 1,h.lt⟩
theorem c1 {x:Value}(h:Blk w g T #[x]):w.cell? ⟨g,0,none⟩=some x/\w.frozen? ⟨g,0,none⟩=false/\g<w.heap.size:=
 ⟨h.cell 0,h.frz 0,h.lt⟩
theorem far (h:Blk w g T cs){p:Addr}(hp:g≠p.block)(u:Value):Blk (w.setCell p u) g T cs:=(Below.heap_setCell w p u g hp).trans h
end Blk
structure Kp (L:List Nat)(w w':World):Prop where
 os:w'.os=w.os
 tape:w'.tape=w.tape
 output:w'.output=w.output
 size:w.heap.size<=w'.heap.size
 block:∀k,k<w.heap.size->k∉L->w'.heap[k]? = w.heap[k]?
namespace Kp
variable {L:List Nat} {a b c w w':World}
theorem refl (L:List Nat)(w:World):Kp L w w:=⟨rfl,rfl,rfl,Nat.le_refl _,fun _ _ _=>rfl⟩
theorem of_ext (h:Ext w w'):Kp L w w':=⟨h.os,h.tape,h.output,h.size,fun k hk _=>h.block k hk⟩
theorem trans (h:Kp L a b)(k:Kp L b c):Kp L a c:=
 ⟨k.os.trans h.os,k.tape.trans h.tape,k.output.trans h.output,Nat.le_trans h.size k.size,fun i hi hn=>(k.block i (Nat.lt_of_lt_of_le hi h.size) hn).trans (h.block i hi hn)⟩
theorem ext (h:Kp L a b)(k:Ext b c):Kp L a c:=h.trans (of_ext k)
theorem drew (w:World):Kp L w w.drew:=of_ext (Ext.drew w)
theorem set (h:Kp L a w){p:Addr}(hp:p.block∈L\/a.heap.size<=p.block)(u:Value):Kp L a (w.setCell p u):=
 ⟨h.os,h.tape,h.output,by simpa[World.setCell] using h.size,fun k hk hn=>(Below.heap_setCell w p u k (by
  rintro rfl;rcases hp with hp|hp
  ·exact hn hp
  ·omega)).trans (h.block k hk hn)⟩
theorem cell (h:Kp L a b){p:Addr}{v:Value}(hc:a.cell? p=some v)(hn:p.block∉L):b.cell? p=some v:=by
 rw[World.cell?_of_block (w:=a) (h.block p.block (World.block_lt_of_cell? _ _ hc) hn)];exact hc
theorem blk {g T:Nat}{cs:Array Value}(hb:Blk a g T cs)(h:Kp L a b)(hn:g∉L):Blk b g T cs:=(h.block g hb.lt hn).trans hb
theorem to_ext {e:World}(h:Kp L a b)(k:Ext e a)(hL:∀g∈L,e.heap.size<=g):Ext e b:=
 ⟨h.os.trans k.os,h.tape.trans k.tape,h.output.trans k.output,Nat.le_trans k.size h.size,fun i hi=>(h.block i (Nat.lt_of_lt_of_le hi k.size) (fun hm=>by have:=hL i hm;omega)).trans (k.block i hi)⟩
theorem nil (h:Kp [] a b):Ext a b:=⟨h.os,h.tape,h.output,h.size,fun i hi=>h.block i hi si⟩
end Kp
def RetV (v:Value)(w:World)(e:Ending)(w':World):Prop:=e=.returned v/\Ext w w'
def RetQ (v:Value)(w:World)(e:Ending)(w':World):Prop:=e=.returned v/\∃n,w'=w.drewN n
theorem alloc1 (w:World)(T:TypeId)(cs:Array Value):Blk (w.alloc (.cells cs T)) w.heap.size T cs/\Ext w (w.alloc (.cells cs T)):=⟨Blk.new _ _ _,Ext.alloc _ _⟩
theorem alloc2 (w:World)(T:TypeId)(cs:Array Value)(T':TypeId)(cs':Array Value) :
 Blk ((w.alloc (.cells cs T)).alloc (.cells cs' T')) w.heap.size T cs/\Blk ((w.alloc (.cells cs T)).alloc (.cells cs' T')) (w.heap.size+1) T' cs'/\Ext w ((w.alloc (.cells cs T)).alloc (.cells cs' T')):=
 ⟨(Blk.new _ _ _).alloc _,by simpa using Blk.new (w.alloc _) T' cs',(Ext.alloc _ _).trans (Ext.alloc _ _)⟩
theorem alloc3 (w:World)(T:TypeId)(cs:Array Value)(T':TypeId)(cs':Array Value)(T2:TypeId)(cs2:Array Value) :
 Blk (((w.alloc (.cells cs T)).alloc (.cells cs' T')).alloc (.cells cs2 T2)) w.heap.size T cs/\Blk (((w.alloc (.cells cs T)).alloc (.cells cs' T')).alloc (.cells cs2 T2)) (w.heap.size+1) T' cs'/\
 Blk (((w.alloc (.cells cs T)).alloc (.cells cs' T')).alloc (.cells cs2 T2)) (w.heap.size+1+1) T2 cs2/\Ext w (((w.alloc (.cells cs T)).alloc (.cells cs' T')).alloc (.cells cs2 T2)):=
 ⟨((Blk.new _ _ _).alloc _).alloc _,(by simpa using Blk.new (w.alloc _) T' cs':Blk _ _ _ _).alloc _,by simpa using Blk.new ((w.alloc _).alloc _) T2 cs2,((Ext.alloc _ _).trans (Ext.alloc _ _)).trans (Ext.alloc _ _)⟩
def Fr (w:World)(A:Option Addr):Prop:=∀k,A.map (·.block)=some k->w.heap.size<=k
theorem Fr.nil (w:World):Fr w none:=by intro k hk;cases hk
theorem Fr.mono {w w0:World}{A:Option Addr}(h:Fr w A)(k:Ext w0 w):Fr w0 A:=fun b hb=>Nat.le_trans k.size (h b hb)
theorem IL.set {w:World}{A:Option Addr}{c:Nat}{xs:List Int}(h:IL w A c xs){p:Addr}(hp:A.map (·.block)≠some p.block)(u:Value):IL (w.setCell p u) A c xs:=by
 refine⟨h.le,h.cap,h.rng,fun hn=>?_⟩;obtain⟨b,o,rfl,hc⟩:=h.at_ hn;refine⟨b,o,rfl,fun i hi=>?_⟩;rw[World.cell?_setCell_other w p ⟨b,o+i,none⟩ u (by rintro rfl;simp at hp)];exact hc i hi
theorem IL.setOld {w w0:World}{A:Option Addr}{c:Nat}{xs:List Int}(h:IL w A c xs)(hf:Fr w0 A){p:Addr}(hp:p.block<w0.heap.size)(u:Value):IL (w.setCell p u) A c xs:=
 h.set (fun e=>by have:=hf _ e;omega) u
def RetIL (xs:List Int)(w:World)(e:Ending)(w':World):Prop:=∃A c,e=.returned (.slice A xs.length c)/\IL w' A c xs/\Ext w w'/\Fr w A
theorem RetQ.v {v:Value}{w w':World}{e:Ending}(h:RetQ v w e w'):RetV v w e w':=by
 obtain⟨rfl,n,rfl⟩:=h;exact⟨rfl,Ext.drewN w n⟩
theorem kc0 {w:World}{p:Addr}{v:Value}(h:w.cell? p=some v):∀w',Kp [] w w'->w'.cell? p=some v:=fun _ k=>k.cell h si
theorem kx0 {w:World}{p:Addr}{v:Value}(h:w.cell? p=some v):∀w',Ext w w'->w'.cell? p=some v:=fun _ k=>k.cell h
abbrev Sp:=Int×Int
def has (l:List Sp)(x:Int):Bool:=l.any fun s=>decide (s.1<=x)&&decide (x<=s.2)
theorem has_iff {l:List Sp}{x:Int}:has l x=true<->∃s∈l,s.1<=x/\x<=s.2:=by
 unfold has;simp[List.any_eq_true]
theorem has_nil (x:Int):has [] x=false:=rfl
theorem has_cons (s:Sp)(l:List Sp)(x:Int):has (s::l) x=(decide (s.1<=x/\x<=s.2) || has l x):=by
 simp[has]
theorem has_append (l m:List Sp)(x:Int):has (l++m) x=(has l x || has m x):=by simp[has]
def Canon (l:List Sp):Prop:=(∀s∈l,s.1<=s.2)/\l.Pairwise (fun s t=>s.2+2<=t.1)
theorem Canon.nil:Canon []:=⟨by simp,List.Pairwise.nil⟩
theorem Canon.tail {s:Sp}{l:List Sp}(h:Canon (s::l)):Canon l:=⟨fun t ht=>h.1 t (by simp[ht]),(List.pairwise_cons.1 h.2).2⟩
theorem Canon.far {s:Sp}{l:List Sp}(h:Canon (s::l)){x:Int}(hx:has l x=true):s.2+2<=x:=by
 obtain⟨t,ht,h1,_⟩:=has_iff.1 hx;have:=(List.pairwise_cons.1 h.2).1 t ht;omega
def addS (l:List Sp)(s:Sp):List Sp:=match l.getLast? with
 | some t=>if s.1<=t.2+1 then l.dropLast++[(t.1,max t.2 s.2)] else l++[s]
 | none=>[s]
theorem addS_nil (s:Sp):addS [] s=[s]:=rfl
theorem addS_snoc (l:List Sp)(t s:Sp):addS (l++[t]) s=if s.1<=t.2+1 then l++[(t.1,max t.2 s.2)] else l++[t]++[s]:=by
 unfold addS;simp
theorem addS_len (l:List Sp)(s:Sp):l.length<=(addS l s).length/\(addS l s).length<=l.length+1:=by
 rcases List.eq_nil_or_concat l with rfl|⟨l,t,rfl⟩
 ·simp[addS_nil]
 ·rw[List.concat_eq_append,addS_snoc];split<;>simp
theorem addS_law {l:List Sp}{s:Sp}(h:Canon l)(hs:s.1<=s.2)(hl:∀t∈l,t.1<=s.1) :
 Canon (addS l s)/\(∀x,has (addS l s) x=(has l x || decide (s.1<=x/\x<=s.2)))/\(∀t∈addS l s,t.1<=s.1):=by
 rcases List.eq_nil_or_concat l with rfl|⟨l,t,rfl⟩
 ·rw[addS_nil];refine⟨⟨by simpa using hs,by simp⟩,fun x=>by simp[has],by simp⟩
 ·rw[List.concat_eq_append] at *;rw[addS_snoc];have hts:=hl t si;have ht:=h.1 t si;have hp:=List.pairwise_append.1 h.2
  split
  ·rename_i hle
   refine⟨⟨fun u hu=>?_,List.pairwise_append.2 ⟨hp.1,by simp,fun u hu v hv=>?_⟩⟩,fun x=>?_,fun u hu=>?_⟩
   ·rcases List.mem_append.1 hu with hu|hu
    ·exact h.1 u (by simp[hu])
    ·obtain rfl:=List.mem_singleton.1 hu
     simp only;omega
   ·obtain rfl:=List.mem_singleton.1 hv;exact hp.2.2 u hu t si
   ·rw[has_append,has_append];simp only[has,List.any_cons,List.any_nil,Bool.or_false,Bool.or_assoc]
    congr 1
    rw[Bool.eq_iff_iff];simp only[Bool.and_eq_true,decide_eq_true_eq,Bool.or_eq_true];omega
   ·rcases List.mem_append.1 hu with hu|hu
    ·exact hl u (by simp[hu])
    ·obtain rfl:=List.mem_singleton.1 hu;exact hts
  ·rename_i hgt
   refine⟨⟨fun u hu=>?_,List.pairwise_append.2 ⟨h.2,by simp,fun u hu v hv=>?_⟩⟩,fun x=>?_,fun u hu=>?_⟩
   ·rcases List.mem_append.1 hu with hu|hu
    ·exact h.1 u hu
    ·obtain rfl:=List.mem_singleton.1 hu;exact hs
   ·obtain rfl:=List.mem_singleton.1 hv;rcases List.mem_append.1 hu with hu|hu
    ·have:=hp.2.2 u hu t si;omega
    ·obtain rfl:=List.mem_singleton.1 hu;omega
   ·rw[has_append]
    congr 1
    simp[has]
   ·rcases List.mem_append.1 hu with hu|hu
    ·exact hl u hu
    ·obtain rfl:=List.mem_singleton.1 hu;exact Int.le_refl _
theorem addAll_law:∀(l acc:List Sp),Canon acc->(∀s∈l,s.1<=s.2)->l.Pairwise (fun s t=>s.1<=t.1)->(∀t∈acc,∀s∈l,t.1<=s.1)->
 Canon (l.foldl addS acc)/\∀x,has (l.foldl addS acc) x=(has acc x || has l x)
 | [],acc,h,_,_,_=>⟨h,fun x=>by simp[has]⟩
 | s::l,acc,h,hs,hp,hl=>by
  obtain⟨h1,h2,h3⟩:=addS_law h (hs s si) (fun t ht=>hl t ht s si);have hp':=List.pairwise_cons.1 hp;obtain⟨h4,h5⟩:=addAll_law l (addS acc s) h1 (fun t ht=>hs t (by simp[ht])) hp'.2 (fun t ht u hu=>Int.le_trans (h3 t ht) (hp'.1 u hu));refine⟨h4,fun x=>?_⟩;rw[List.foldl_cons,h5,h2,has_cons,Bool.or_assoc]
end
end Go.Proofs.YtmpcoifnpflapaaGreat
