/- Texts of this proof: Sh Base E1 App Fw S1 S2 S3 S4 S5 G1 Fs G0 P1 G2 P2 P5 Fk G3 Mp G4 II G5 G6 G7 E2 R0 Row. -/
import Derived.KernelRfl
import Derived.Lib.Hide
import Derived.RowKit
import Derived.WalkKit
import Derived.WalkSpells
import Derived.Deep.Draws
import Derived.Laws.OwnMore
import Derived.Maps.AppendAt
import Derived.Deep.AppendLies
import Derived.Deep.CutBlock
import Derived.Deep.CutRange
import Derived.Deep.DeepCutAuto
import Derived.Deep.LoopGhost
import Derived.WalkLawsBesides
import Derived.Deep.QuietTactic
import Derived.BigQuiet
import Derived.Test.YtmgpefenkilffaaGreatRows
import Derived.OrdersHeld
import Derived.Deep.RegionHeld3
import Derived.Maps.RangeRun
import Derived.ChangeMaps5
import Derived.WideLaws
import Derived.Carry
import Derived.DataReads
import Derived.OpenShut
set_option linter.all false
set_option maxRecDepth 100000
set_option maxHeartbeats 4000000
namespace Go.Proofs.YtmgpefenkilffaaGreat
theorem om {p : Prop} (h : p := by omega) : p := h
theorem si {p : Prop} (h : p := by simp) : p := h
theorem dK {p : Prop} (h : p := by decide +kernel) : p := h
theorem kr {p : Prop} (h : p := by kernel_rfl) : p := h
theorem de {p : Prop} (h : p := by decide) : p := h
theorem um {p : Prop} (h : p := by unfold Go.maxLen; omega) : p := h
theorem wj {p : Prop} (h : p := by rw [Go.IntKind.wrap_i64]; omega) : p := h
theorem lh {p : Prop} (h : p) : Go.RowKit.Hid p := Lib.hid h
theorem ptm {P Q : Prop} (k : Q) (h : Q -> P := by intro k; (try simp only [Act.put, List.setIfInBounds_toArray, List.set_cons_zero, List.set_cons_succ]); exact k) : P := h k
section
open Go.RowKit
def I64 (n:Int):Prop:=-9223372036854775808<=n/\n<=9223372036854775807
def Ext (w w':World):Prop:=Below w.heap.size w w'
namespace Ext
theorem rfl' (w:World):Ext w w:=Below.refl _ _
theorem trans {a b c:World}(h:Ext a b)(k:Ext b c):Ext a c:=Below.trans h (Below.mono k h.size)
theorem drewN (w:World)(n:Nat):Ext w (w.drewN n):=⟨rfl,rfl,rfl,Nat.le_refl _,fun _ _=>rfl⟩
theorem drew (w:World):Ext w w.drew:=⟨rfl,rfl,rfl,Nat.le_refl _,fun _ _=>rfl⟩
theorem alloc (w:World)(o:Obj):Ext w (w.alloc o):=(Below.refl _ _).alloc (Nat.le_refl _) o
theorem setNew {a w:World}(h:Ext a w){p:Addr}(hp:a.heap.size<=p.block)(u:Value):Ext a (w.setCell p u):=Below.setCell h hp u
theorem grown {a w w':World}(h:Ext a w){row:Option Nat}(hg:w.grownBy w' row)(hr:∀k,row=some k->a.heap.size<=k):Ext a w':=Below.grown h hg h.size hr
theorem cells {a b:World}(h:Ext a b):(∀k o,k<a.heap.size->b.cell? ⟨k,o,none⟩=a.cell? ⟨k,o,none⟩)/\(∀k o,k<a.heap.size->b.frozen? ⟨k,o,none⟩=a.frozen? ⟨k,o,none⟩):=
 ⟨fun k o hk=>Below.cell h (p:=⟨k,o,none⟩) hk,fun k o hk=>Below.frozen h (p:=⟨k,o,none⟩) hk⟩
theorem cell {a b:World}(h:Ext a b){p:Addr}{v:Value}(hc:a.cell? p=some v):b.cell? p=some v:=by
 rw[Below.cell h (World.block_lt_of_cell? _ _ hc)];exact hc
end Ext
def CellsAt (w:World)(A:Option Addr)(xs:List Value):Prop:=
 xs≠[]->∃b o,A=some ⟨b,o,none⟩/\∀i (h:i<xs.length),w.cell? ⟨b,o+i,none⟩=some xs[i]
theorem CellsAt.ext {w w':World}{A:Option Addr}{xs:List Value}(h:CellsAt w A xs)(k:Ext w w'):CellsAt w' A xs:=by
 intro hn;obtain⟨b,o,rfl,hc⟩:=h hn;exact⟨b,o,rfl,fun i hi=>k.cell (hc i hi)⟩
structure IL (w:World)(A:Option Addr)(c:Nat)(xs:List Int):Prop where
 le:xs.length<=c
 cap:c<=maxLen
 rng:∀x∈xs,I64 x
 at_:xs≠[]->∃b o,A=some ⟨b,o,none⟩/\∀i (h:i<xs.length),w.cell? ⟨b,o+i,none⟩=some (.int .i64 xs[i])
namespace IL
variable {w w':World} {A:Option Addr} {c:Nat} {xs:List Int}
theorem ext (h:IL w A c xs)(k:Ext w w'):IL w' A c xs:=by
 refine⟨h.le,h.cap,h.rng,fun hn=>?_⟩;obtain⟨b,o,rfl,hc⟩:=h.at_ hn;exact⟨b,o,rfl,fun i hi=>k.cell (hc i hi)⟩
theorem nil (w:World):IL w none 0 []:=⟨Nat.le_refl _,Nat.zero_le _,by simp,fun h=>absurd rfl h⟩
theorem len (h:IL w A c xs):xs.length<=c/\c<=9223372036854775807:=⟨h.le,by have:=h.cap;unfold maxLen at this;omega⟩
theorem get {k:Nat}(h:IL w A c xs)(hk:k<xs.length):∃b o,A=some ⟨b,o,none⟩/\w.cell? ⟨b,o+k,none⟩=some (.int .i64 xs[k]):=by
 obtain⟨b,o,rfl,hc⟩:=h.at_ (by intro h0;subst h0;simp at hk);exact⟨b,o,rfl,hc k hk⟩
theorem wf {k:Nat}(h:IL w A c xs)(hk:k<xs.length):I64 xs[k]:=h.rng _ (List.getElem_mem hk)
end IL
def Blk (w:World)(g:Nat)(T:TypeId)(cs:Array Value):Prop:=w.heap[g]? = some (.cells cs T (0,0))
namespace Blk
variable {w w':World} {g:Nat} {T:TypeId} {cs:Array Value}
theorem lt (h:Blk w g T cs):g<w.heap.size:=by
 unfold Blk at h;exact(Array.getElem?_eq_some_iff.1 h).1
theorem cell (h:Blk w g T cs)(i:Nat):w.cell? ⟨g,i,none⟩=cs[i]?:=by
 unfold Blk at h;simp[World.cell?,h]
theorem frz (h:Blk w g T cs)(i:Nat):w.frozen? ⟨g,i,none⟩=false:=by
 unfold Blk at h;simp[World.frozen?,h]
theorem new (w:World)(T:TypeId)(cs:Array Value):Blk (w.alloc (.cells cs T)) w.heap.size T cs:=by
 show(w.heap.push _)[w.heap.size]? = _
 simp
theorem ext (h:Blk w g T cs)(k:Ext w w'):Blk w' g T cs:=(k.block g h.lt).trans h
theorem alloc (h:Blk w g T cs)(o:Obj):Blk (w.alloc o) g T cs:=h.ext (Ext.alloc _ _)
theorem set (h:Blk w g T cs)(i:Nat)(u:Value):Blk (w.setCell ⟨g,i,none⟩ u) g T (cs.setIfInBounds i u):=by
 unfold Blk at h ⊢;simp[World.setCell,Array.getElem?_modify,h]
theorem c3 {x y z:Value}(h:Blk w g T #[x,y,z]):w.cell? ⟨g,0,none⟩=some x/\w.cell? ⟨g,1,none⟩=some y/\w.cell? ⟨g,2,none⟩=some z/\
 w.frozen? ⟨g,0,none⟩=false/\w.frozen? ⟨g,1,none⟩=false/\w.frozen? ⟨g,2,none⟩=false/\g<w.heap.size:=
 ⟨h.cell 0,h.cell 1,h.cell 2,h.frz 0,h.frz 1,h.frz 2,h.lt⟩
theorem c2 {x y:Value}(h:Blk w g T #[x,y]):w.cell? ⟨g,0,none⟩=some x/\w.cell? ⟨g,1,none⟩=some y/\
 w.frozen? ⟨g,0,none⟩=false/\w.frozen? ⟨g,1,none⟩=false/\g<w.heap.size:=
 ⟨h.cell 0,h.cell 1,h.frz 0,h.frz 1,h.lt⟩
theorem far (h:Blk w g T cs){p:Addr}(hp:g≠p.block)(u:Value):Blk (w.setCell p u) g T cs:=(Below.heap_setCell w p u g hp).trans h
end Blk
structure Kp (L:List Nat)(w w':World):Prop where
 os:w'.os=w.os
 tape:w'.tape=w.tape
 output:w'.output=w.output
 size:w.heap.size<=w'.heap.size
 block:∀k,k<w.heap.size->k∉L->w'.heap[k]? = w.heap[k]?
namespace Kp
variable {L:List Nat} {a b c w w':World}
theorem refl (L:List Nat)(w:World):Kp L w w:=⟨rfl,rfl,rfl,Nat.le_refl _,fun _ _ _=>rfl⟩
theorem of_ext (h:Ext w w'):Kp L w w':=⟨h.os,h.tape,h.output,h.size,fun k hk _=>h.block k hk⟩
theorem trans (h:Kp L a b)(k:Kp L b c):Kp L a c:=
 ⟨k.os.trans h.os,k.tape.trans h.tape,k.output.trans h.output,Nat.le_trans h.size k.size,fun i hi hn=>(k.block i (Nat.lt_of_lt_of_le hi h.size) hn).trans (h.block i hi hn)⟩
theorem ext (h:Kp L a b)(k:Ext b c):Kp L a c:=h.trans (of_ext k)
theorem drew (w:World):Kp L w w.drew:=of_ext (Ext.drew w)
theorem set (h:Kp L a w){p:Addr}(hp:p.block∈L\/a.heap.size<=p.block)(u:Value):Kp L a (w.setCell p u):=
 ⟨h.os,h.tape,h.output,by simpa[World.setCell] using h.size,fun k hk hn=>(Below.heap_setCell w p u k (by
  rintro rfl;rcases hp with hp|hp
  ·exact hn hp
  ·omega)).trans (h.block k hk hn)⟩
theorem cell (h:Kp L a b){p:Addr}{v:Value}(hc:a.cell? p=some v)(hn:p.block∉L):b.cell? p=some v:=by
 rw[World.cell?_of_block (w:=a) (h.block p.block (World.block_lt_of_cell? _ _ hc) hn)];exact hc
theorem blk {g T:Nat}{cs:Array Value}(hb:Blk a g T cs)(h:Kp L a b)(hn:g∉L):Blk b g T cs:=(h.block g hb.lt hn).trans hb
theorem to_ext {e:World}(h:Kp L a b)(k:Ext e a)(hL:∀g∈L,e.heap.size<=g):Ext e b:=
 ⟨h.os.trans k.os,h.tape.trans k.tape,h.output.trans k.output,Nat.le_trans k.size h.size,fun i hi=>(h.block i (Nat.lt_of_lt_of_le hi k.size) (fun hm=>by have:=hL i hm;omega)).trans (k.block i hi)⟩
theorem nil (h:Kp [] a b):Ext a b:=⟨h.os,h.tape,h.output,h.size,fun i hi=>h.block i hi si⟩
end Kp
def RetV (v:Value)(w:World)(e:Ending)(w':World):Prop:=e=.returned v/\Ext w w'
def RetQ (v:Value)(w:World)(e:Ending)(w':World):Prop:=e=.returned v/\∃n,w'=w.drewN n
theorem alloc1 (w:World)(T:TypeId)(cs:Array Value):Blk (w.alloc (.cells cs T)) w.heap.size T cs/\Ext w (w.alloc (.cells cs T)):=⟨Blk.new _ _ _,Ext.alloc _ _⟩
theorem alloc2 (w:World)(T:TypeId)(cs:Array Value)(T':TypeId)(cs':Array Value) :
 Blk ((w.alloc (.cells cs T)).alloc (.cells cs' T')) w.heap.size T cs/\Blk ((w.alloc (.cells cs T)).alloc (.cells cs' T')) (w.heap.size+1) T' cs'/\Ext w ((w.alloc (.cells cs T)).alloc (.cells cs' T')):=
 ⟨(Blk.new _ _ _).alloc _,by simpa using Blk.new (w.alloc _) T' cs',(Ext.alloc _ _).trans (Ext.alloc _ _)⟩
theorem alloc3 (w:World)(T:TypeId)(cs:Array Value)(T':TypeId)(cs':Array Value)(T2:TypeId)(cs2:Array Value) :
 Blk (((w.alloc (.cells cs T)).alloc (.cells cs' T')).alloc (.cells cs2 T2)) w.heap.size T cs/\Blk (((w.alloc (.cells cs T)).alloc (.cells cs' T')).alloc (.cells cs2 T2)) (w.heap.size+1) T' cs'/\
 Blk (((w.alloc (.cells cs T)).alloc (.cells cs' T')).alloc (.cells cs2 T2)) (w.heap.size+1+1) T2 cs2/\Ext w (((w.alloc (.cells cs T)).alloc (.cells cs' T')).alloc (.cells cs2 T2)):=
 ⟨((Blk.new _ _ _).alloc _).alloc _,(by simpa using Blk.new (w.alloc _) T' cs':Blk _ _ _ _).alloc _,by simpa using Blk.new ((w.alloc _).alloc _) T2 cs2,((Ext.alloc _ _).trans (Ext.alloc _ _)).trans (Ext.alloc _ _)⟩
def Fr (w:World)(A:Option Addr):Prop:=∀k,A.map (·.block)=some k->w.heap.size<=k
theorem Fr.nil (w:World):Fr w none:=by intro k hk;cases hk
theorem Fr.mono {w w0:World}{A:Option Addr}(h:Fr w A)(k:Ext w0 w):Fr w0 A:=fun b hb=>Nat.le_trans k.size (h b hb)
def RetIL (xs:List Int)(w:World)(e:Ending)(w':World):Prop:=∃A c,e=.returned (.slice A xs.length c)/\IL w' A c xs/\Ext w w'/\Fr w A
theorem RetQ.v {v:Value}{w w':World}{e:Ending}(h:RetQ v w e w'):RetV v w e w':=by
 obtain⟨rfl,n,rfl⟩:=h;exact⟨rfl,Ext.drewN w n⟩
theorem kc0 {w:World}{p:Addr}{v:Value}(h:w.cell? p=some v):∀w',Kp [] w w'->w'.cell? p=some v:=fun _ k=>k.cell h si
theorem kx0 {w:World}{p:Addr}{v:Value}(h:w.cell? p=some v):∀w',Ext w w'->w'.cell? p=some v:=fun _ k=>k.cell h
def around (n m:Int):Int:=(if n<0 then -(n+1) else n) % m
theorem around_bd (n m:Int)(h:1<=m):0<=around n m/\around n m<m:=
 ⟨Int.emod_nonneg _ om,Int.emod_lt_of_pos _ om⟩
theorem around_any (n m:Int)(w:World)(hn:I64 n)(h0:1<=m)(h1:m<=4294967296) :
 Calls Tryz.prog 13 #[.int .i64 n,.int .i64 m] w (RetQ (.int .i64 (around n m)) w):=by
 obtain⟨h2,h3⟩:=hn;by_cases h:n<0
 ·have e:around n m = -(n+1) % m:=by simp[around,h]
  have E:=lh e;clear e;have h4 : -(n+1)>=0:=om;go_enter Tryz.func13,Tryz.ntmps13
  go_wp2
  go_ret
  refine⟨?_,0,rfl⟩;rw[E.out]
  show Ending.returned (Value.int IntKind.i64 _)=_
  rw[<-Int.neg_tmod,Int.tmod_eq_emod_of_nonneg h4]
 ·have e:around n m=n % m:=by simp[around,h]
  have E:=lh e;clear e;go_enter Tryz.func13,Tryz.ntmps13
  go_wp2
  go_ret
  exact⟨by rw[E.out];rfl,0,rfl⟩
def pick (l:List Int)(i:Nat)(m:Int):Int:=if h:i<l.length then around l[i] m else 0
theorem pick_any (A:Option Addr)(c:Nat)(l:List Int)(i:Nat)(m:Int)(w:World)(hl:IL w A c l)(h0:1<=m)(h1:m<=4294967296)(hi:i<=9223372036854775807) :
 Calls Tryz.prog 102 #[.slice A l.length c,.int .i64 i,.int .i64 m] w (RetQ (.int .i64 (pick l i m)) w):=by
 obtain⟨hlen,hcap⟩:=hl.len;by_cases h:i<l.length
 ·obtain⟨b,o,rfl,hc⟩:=hl.get h;have hw:=hl.wf h;have e:pick l i m=around l[i] m:=by simp[pick,h]
  have E:=lh e;clear e;have hlt:(i:Int)<l.length:=om;go_enter Tryz.func102,Tryz.ntmps102
  go_wp2_with (go_at_call 13;refine(around_any _ _ _ hw h0 h1).mono ?_;rintro e w1 ⟨rfl,n,rfl⟩)
  go_ret
  exact⟨by rw[E.out];rfl,n,rfl⟩
 ·have e:pick l i m=0:=by simp[pick,h]
  have E:=lh e;clear e;go_enter Tryz.func102,Tryz.ntmps102
  go_wp2
  go_ret
  exact⟨by rw[E.out];rfl,0,rfl⟩
theorem pick_bd (l:List Int)(i:Nat)(m:Int)(h:1<=m):0<=pick l i m/\pick l i m<m:=by
 unfold pick;split
 ·exact around_bd _ _ h
 ·omega
def OwnS (w:World)(base e size:Nat)(A:Option Addr)(n c:Nat)(xs:List Value):Prop:=w.ownsRow base e size (.slice A n c) n xs
namespace OwnS
variable {w w':World} {base e size n c:Nat} {A:Option Addr} {xs:List Value}
theorem nil (w:World)(base e size:Nat):OwnS w base e size none 0 0 []:=World.ownsRow_nil _ _ _ _
theorem len (h:OwnS w base e size A n c xs):xs.length=n*size:=h.1
theorem form (h:OwnS w base e size A n c xs):(A=none/\n=0/\c=0/\xs=[])\/
 ∃g cur,A=some ⟨g,0,none⟩/\base<=g/\w.heap[g]? = some (.cells cur e (0,0))/\n<=c/\c<=maxLen/\cur.size=c*size/\cur.toList.take (n*size)=xs:=by
 rcases h.2 with⟨hv,h0⟩|⟨g,cap,cur,hv,r⟩
 ·left
  injection hv with e1 e2 e3
  subst e1 e2 e3;refine⟨rfl,rfl,rfl,?_⟩;have:=h.1
  simpa using this
 ·right
  injection hv with e1 e2 e3
  subst e1 e3;exact⟨g,cur,rfl,r⟩
theorem ext (h:OwnS w base e size A n c xs)(k:Ext w w'):OwnS w' base e size A n c xs:=by
 refine⟨h.1,?_⟩;rcases h.2 with h2|⟨g,cap,cur,hv,hg,hh,r⟩
 ·exact Or.inl h2
 ·exact Or.inr ⟨g,cap,cur,hv,hg,(k.block g (Array.getElem?_eq_some_iff.1 hh).1).trans hh,r⟩
theorem row (h:OwnS w base e size A n c xs):∀k,A.map (·.block)=some k->base<=k:=by
 intro k hk;rcases h.form with⟨rfl,_⟩|⟨g,cur,rfl,hg,_⟩
 ·simp at hk
 ·simp at hk;omega
theorem far (h:OwnS w base e size A n c xs){p:Addr}(hp:A.map (·.block)≠some p.block)(u:Value):OwnS (w.setCell p u) base e size A n c xs:=by
 refine⟨h.1,?_⟩;rcases h.2 with h2|⟨g,cap,cur,hv,hg,hh,r⟩
 ·exact Or.inl h2
 ·refine Or.inr ⟨g,cap,cur,hv,hg,?_,r⟩;injection hv with e1 _ _
  subst e1;rw[Below.heap_setCell _ _ _ _ (by intro hk;exact hp (by simp[hk]))];exact hh
theorem caps (h:OwnS w base e size A n c xs):n<=c/\c<=9223372036854775807:=by
 rcases h.form with⟨_,rfl,rfl,_⟩|⟨g,cur,_,_,_,h1,h2,_⟩
 ·omega
 ·unfold maxLen at h2;omega
theorem cells (h:OwnS w base e size A n c xs):CellsAt w A xs:=by
 intro hn;rcases h.form with⟨_,_,_,rfl⟩|⟨g,cur,rfl,_,hh,h1,_,hs,ht⟩
 ·exact absurd rfl hn
 ·refine⟨g,0,rfl,fun i hi=>?_⟩;subst ht;have hi':i<cur.size:=by
   have:=List.length_take_le (n*size) cur.toList;have h2:=List.length_take_le' (n*size) cur.toList;simp at hi;omega
  rw[Nat.zero_add,List.getElem_take];simp[World.cell?,hh,hi']
theorem of_blk {g:Nat}{cs:Array Value}(h:Blk w g e cs)(hb:base<=g)(hs:cs.size=c*size)(hn:n<=c)(hm:c<=maxLen) :
 OwnS w base e size (some ⟨g,0,none⟩) n c (cs.toList.take (n*size)):=
 ⟨by rw[List.length_take,Array.length_toList,hs,Nat.min_eq_left (Nat.mul_le_mul_right _ hn)],Or.inr ⟨g,c,cs,rfl,hb,h,hn,hm,hs,rfl⟩⟩
end OwnS
section
variable {P:Program} (w:World)
theorem run_app (base t ty e:Nat)(i:TypeInfo)(z:Value)(size bytes:Nat)(ht:P.underlying t=some (.slice e))(hi:P.info? e=some i)(hz:i.zero=some z)
 (hsize:i.size=size) (hby:i.bytes=bytes) (hzs:z.cells.size=size) (hsz:0<size)
 (A:Option Addr) (n c:Nat) (xs:List Value) (hown:OwnS w base e size A n c xs)
 (B:Option Addr) (m d:Nat) (news:List Value) (hl:news.length=m*size) (hr:CellsAt w B news) (h1:∀u∈news,u.oneCell'=true)
 (h63:n+m<=maxLen) (hbytes:(n+m)*bytes<=140737488355328) (hbase:base<=w.heap.size) :
 ∃A' c' w',(Builtin.append_ #[t,t] ty #[.slice A n c,.slice B m d]).run P w=.ok (.slice A' (n+m) c') w'/\OwnS w' base e size A' (n+m) c' (xs++news)/\
  w.grownBy w' (A.map (·.block))/\(A'.map (·.block)=A.map (·.block)\/A'.map (·.block)=some w.heap.size):=by
 have hob:(Value.slice A n c).ownBlock=A.map (·.block):=by cases A<;>rfl
 by_cases hm:news=[]
 ·subst hm;have hm0:m=0:=by
   have h2:m*size=0:=by simpa using hl.symm
   rcases Nat.mul_eq_zero.1 h2 with h3|h3
   ·exact h3
   ·omega
  subst hm0;rcases B with _|ad
  ·refine⟨A,c,w,?_,by simpa using hown,World.grownBy.refl w _,.inl rfl⟩;rcases hown.form with⟨rfl,rfl,rfl,rfl⟩|⟨g,cur,rfl,_,hh,hnc,_⟩
   ·simp[Builtin.append_,run_underlying ht,sizeOf,typeInfo,hi,Builtin.lenOf,Builtin.firstCells]
   ·simp[Builtin.append_,run_underlying ht,sizeOf,typeInfo,hi,Builtin.lenOf,Builtin.firstCells,hnc,storeCells]
  ·obtain⟨v',w',hrun,h2,h3,_,h5⟩:=run_append_own_at (P:=P) w base t ty e i z size bytes ht hi hz hsize hby hzs hsz _ n xs hown ad 0 d [] si si si h63 hbytes hbase;rw[hob] at h3 h5;have hv:∃A' c',v'=.slice A' (n+0) c':=by
    rcases h2.2 with⟨rfl,h0⟩|⟨g,cap,cur,rfl,_⟩
    ·exact⟨none,0,by rw[h0]⟩
    ·exact⟨_,_,rfl⟩
   obtain⟨A',c',rfl⟩:=hv;refine⟨A',c',w',hrun,h2,h3,?_⟩;have hob':(Value.slice A' (n+0) c').ownBlock=A'.map (·.block):=by cases A'<;>rfl
   rw[<-hob'];exact h5
 ·obtain⟨b,o,rfl,hc⟩:=hr hm;obtain⟨v',w',hrun,h2,h3,_,h5⟩:=run_append_own_at (P:=P) w base t ty e i z size bytes ht hi hz hsize hby hzs hsz _ n xs hown ⟨b,o,none⟩ m d news hl
   (fun j u hu=>by
    obtain⟨hj,rfl⟩:=List.getElem?_eq_some_iff.1 hu;rw[Addr.add_lit];exact hc j hj) h1 h63 hbytes hbase
  rw[hob] at h3 h5;have hv:∃A' c',v'=.slice A' (n+m) c':=by
   rcases h2.2 with⟨rfl,h0⟩|⟨g,cap,cur,rfl,_⟩
   ·exact⟨none,0,by rw[h0]⟩
   ·exact⟨_,_,rfl⟩
  obtain⟨A',c',rfl⟩:=hv;refine⟨A',c',w',hrun,h2,h3,?_⟩;have hob':(Value.slice A' (n+m) c').ownBlock=A'.map (·.block):=by cases A'<;>rfl
  rw[<-hob'];exact h5
theorem wp_app {o:Oper}{a:Act}{K:Act->World->Prop}{Q:Exit->Act->World->Prop}(s x:Operand)(t:Nat)
 (ho:o.op=.call { callee:=.builtin .append,args:=#[s,x],argTypes:=#[t,t] })
 (base e:Nat) (i:TypeInfo) (z:Value) (size bytes:Nat) (ht:P.underlying t=some (.slice e)) (hi:P.info? e=some i) (hz:i.zero=some z)
 (hsize:i.size=size) (hby:i.bytes=bytes) (hzs:z.cells.size=size) (hsz:0<size)
 (A:Option Addr) (n c:Nat) (xs:List Value) (hs:a.eval s=.slice A n c) (hown:OwnS w base e size A n c xs)
 (B:Option Addr) (m d:Nat) (news:List Value) (hx:a.eval x=.slice B m d) (hl:news.length=m*size) (hr:CellsAt w B news) (h1:∀u∈news,u.oneCell'=true)
 (h63:n+m<=maxLen) (hbytes:(n+m)*bytes<=140737488355328) (hbase:base<=w.heap.size)
 (h:∀A' c' w',OwnS w' base e size A' (n+m) c' (xs++news)->w.grownBy w' (A.map (·.block))->(A'.map (·.block)=A.map (·.block)\/A'.map (·.block)=some w.heap.size)->
  K (a.put o.dst (.slice A' (n+m) c')) w'):o.wp P a w K Q:=by
 obtain⟨A',c',w',hrun,h2,h3,h4⟩:=run_app (P:=P) w base t o.type e i z size bytes ht hi hz hsize hby hzs hsz A n c xs hown B m d news hl hr h1 h63 hbytes hbase;unfold Oper.wp execOp;simp only[ho,resolve,invoke,builtin,Sem.run_bind,Sem.run_pure,Result.andThen_ok,List.map_toArray,List.map_cons,List.map_nil,hs,hx,hrun];exact h A' c' w' h2 h3 h4
theorem wpList_app {ops:Array Oper}{rest:List Oper}{o:Oper}{a:Act}{Q:Exit->Act->World->Prop}(hgd:o.guard=none)(s x:Operand)(t:Nat)
 (ho:o.op=.call { callee:=.builtin .append,args:=#[s,x],argTypes:=#[t,t] })
 (base e:Nat) (i:TypeInfo) (z:Value) (size bytes:Nat) (ht:P.underlying t=some (.slice e)) (hi:P.info? e=some i) (hz:i.zero=some z)
 (hsize:i.size=size) (hby:i.bytes=bytes) (hzs:z.cells.size=size) (hsz:0<size)
 (A:Option Addr) (n c:Nat) (xs:List Value) (hs:a.eval s=.slice A n c) (hown:OwnS w base e size A n c xs)
 (B:Option Addr) (m d:Nat) (news:List Value) (hx:a.eval x=.slice B m d) (hl:news.length=m*size) (hr:CellsAt w B news) (h1:∀u∈news,u.oneCell'=true)
 (h63:n+m<=maxLen) (hbytes:(n+m)*bytes<=140737488355328) (hbase:base<=w.heap.size)
 (h:∀A' c' w',OwnS w' base e size A' (n+m) c' (xs++news)->w.grownBy w' (A.map (·.block))->(A'.map (·.block)=A.map (·.block)\/A'.map (·.block)=some w.heap.size)->
  wpList P ops Q rest (a.put o.dst (.slice A' (n+m) c')) w'):wpList P ops Q (o::rest) a w:=
 wpList_plain hgd fun _ hK=>wp_app w s x t ho base e i z size bytes ht hi hz hsize hby hzs hsz A n c xs hs hown B m d news hx hl hr h1 h63 hbytes hbase fun A' c' w' h2 h3 h4=>hK _ _ (h A' c' w' h2 h3 h4)
end
def OwnI (w:World)(base e:Nat)(A:Option Addr)(c:Nat)(xs:List Int):Prop:=OwnS w base e 1 A xs.length c (xs.map (Value.int .i64))
theorem ints_one (xs:List Int):∀u∈xs.map (Value.int .i64),u.oneCell'=true:=by
 intro u hu;obtain⟨_,_,rfl⟩:=List.mem_map.1 hu
 rfl
theorem IL.cells {w:World}{A:Option Addr}{c:Nat}{xs:List Int}(h:IL w A c xs):CellsAt w A (xs.map (Value.int .i64)):=by
 intro hn;obtain⟨b,o,rfl,hc⟩:=h.at_ (by intro h0;subst h0;simp at hn);exact⟨b,o,rfl,fun i hi=>by simp only[List.getElem_map];exact hc i (by simpa using hi)⟩
theorem IL.of_own {w:World}{base e:Nat}{A:Option Addr}{c:Nat}{xs:List Int}(h:OwnI w base e A c xs)(hr:∀x∈xs,I64 x):IL w A c xs:=by
 refine⟨(OwnS.caps h).1,?_,hr,fun hn=>?_⟩
 ·have:=(OwnS.caps h).2;unfold maxLen;omega
 ·obtain⟨b,o,rfl,hc⟩:=OwnS.cells h (by simpa using hn);exact⟨b,o,rfl,fun i hi=>by have:=hc i (by simpa using hi);simpa using this⟩
theorem IL.of_blk {w:World}{g T:Nat}{xs:List Int}(h:Blk w g T (xs.map (Value.int .i64)).toArray)(hr:∀x∈xs,I64 x)(hm:xs.length<=maxLen):IL w (some ⟨g,0,none⟩) xs.length xs:=
 ⟨Nat.le_refl _,hm,hr,fun _=>⟨g,0,rfl,fun i hi=>by
  rw[h.cell];simp[hi]⟩⟩
theorem wpList_app1I {P:Program}{w1 w:World}{ops:Array Oper}{rest:List Oper}{o:Oper}{a:Act}{Q:Exit->Act->World->Prop}(hgd:o.guard=none)(s x:Operand)(t:Nat)
 (ho:o.op=.call { callee:=.builtin .append,args:=#[s,x],argTypes:=#[t,t] })
 (e:Nat) (hinf:(P.info? e).map (fun i=>(i.zero,i.size,i.bytes))=some (some (.int .i64 0),1,8)) (ht:P.underlying t=some (.slice e))
 (a0:World) (hext:Ext a0 w1) (v:Int) (hw:w=w1.alloc (.cells #[.int .i64 v] e))
 (A:Option Addr) (c:Nat) (xs:List Int) (hs:a.eval s=.slice A xs.length c) (hown:OwnI w1 a0.heap.size e A c xs)
 (hx:a.eval x=.slice (some ⟨w1.heap.size,0,none⟩) 1 1) (hb:xs.length<=1099511627776) (ys:List Int) (hys:ys=xs++[v])
 (h:∀A' c' w',OwnI w' a0.heap.size e A' c' ys->Ext a0 w'->w1.grownBy w' (A.map (·.block))->(A'.map (·.block)=A.map (·.block)\/(A'.map (·.block)=some (w1.heap.size+1)))->wpList P ops Q rest (a.put o.dst (.slice A' ys.length c')) w'):wpList P ops Q (o::rest) a w:=by
 obtain⟨i0,hi0,hz0,hz1,hz2⟩:=info_parts hinf;subst hw;have e1:=Ext.alloc w1 (.cells #[.int .i64 v] e);have hc:CellsAt (w1.alloc (.cells #[.int .i64 v] e)) (some ⟨w1.heap.size,0,none⟩) [.int .i64 v]:=fun _=>⟨_,0,rfl,fun i hi=>by
  have:i=0:=by simpa using hi
  subst this;simp⟩
 refine wpList_app _ hgd s x t ho a0.heap.size e i0 (.int .i64 0) 1 8 ht hi0 hz0 hz1 hz2 rfl om A xs.length c (xs.map (Value.int .i64)) hs (OwnS.ext hown e1) _ 1 1 [.int .i64 v] hx rfl hc
  (by simp[Value.oneCell']) um om (by simp;have:=hext.size;omega) ?_
 intro A' c' w' ho' hg hat;have hl:ys.length=xs.length+1:=by rw[hys];simp
 have hg':w1.grownBy w' (A.map (·.block)):=⟨hg.os,hg.tape,hg.output,Nat.le_trans e1.size hg.size,fun k hk hne=>(hg.block k (Nat.lt_of_lt_of_le hk e1.size) hne).trans (e1.block k hk)⟩
 rw[<-hl];refine h A' c' w' ?_ (hext.grown hg' (OwnS.row hown)) hg' (by simpa using hat);subst hys;unfold OwnI;rw[hl]
 simpa using ho'
theorem Ext.app {a w w':World}{e size n c:Nat}{A:Option Addr}{xs:List Value}(h:Ext a w)(ho:OwnS w a.heap.size e size A n c xs)(hg:w.grownBy w' (A.map (·.block))):Ext a w':=
 h.grown hg ho.row
structure KpP (p:Nat->Prop)(w w':World):Prop where
 os:w'.os=w.os
 tape:w'.tape=w.tape
 output:w'.output=w.output
 size:w.heap.size<=w'.heap.size
 block:∀k,k<w.heap.size->¬p k->w'.heap[k]? = w.heap[k]?
namespace KpP
variable {p q:Nat->Prop} {a b c w w':World}
theorem refl (p:Nat->Prop)(w:World):KpP p w w:=⟨rfl,rfl,rfl,Nat.le_refl _,fun _ _ _=>rfl⟩
theorem of_ext (h:Ext w w'):KpP p w w':=⟨h.os,h.tape,h.output,h.size,fun k hk _=>h.block k hk⟩
theorem mono (h:KpP p a b)(hpq:∀k,p k->q k):KpP q a b:=⟨h.os,h.tape,h.output,h.size,fun k hk hn=>h.block k hk (fun hp=>hn (hpq k hp))⟩
theorem trans (h:KpP p a b)(k:KpP p b c):KpP p a c:=
 ⟨k.os.trans h.os,k.tape.trans h.tape,k.output.trans h.output,Nat.le_trans h.size k.size,fun i hi hn=>(k.block i (Nat.lt_of_lt_of_le hi h.size) hn).trans (h.block i hi hn)⟩
theorem set (h:KpP p a w){x:Addr}(hp:p x.block\/a.heap.size<=x.block)(u:Value):KpP p a (w.setCell x u):=
 ⟨h.os,h.tape,h.output,by simpa[World.setCell] using h.size,fun k hk hn=>(Below.heap_setCell w x u k (by
  rintro rfl;rcases hp with hp|hp
  ·exact hn hp
  ·omega)).trans (h.block k hk hn)⟩
theorem blk {g T:Nat}{cs:Array Value}(h:KpP p a b)(hb:Blk a g T cs)(hn:¬p g):Blk b g T cs:=(h.block g hb.lt hn).trans hb
end KpP
structure Lz where
 z:Nat
 d:Nat
 k:Nat
 v:Nat->Value
 T:Nat
 cs:Array Value
def InI (I:List (Nat×Nat))(b:Nat):Prop:=∃p∈I,p.1<=b/\b<p.2
section
variable {P:Program} {ops:Array Oper} {Q:Exit->Act->World->Prop} (L:List Nat) (w0:World)
def WI (I:List (Nat×Nat))(w w':World):Prop:=KpP (fun b=>b∈L\/InI I b) w w'
def LzFact (I:List (Nat×Nat))(q:Lz)(g:Nat)(w:World):Prop:=w0.heap.size<=g/\Blk w g q.T q.cs/\¬InI I g
def stepX (P:Program)(ops:Array Oper)(Q:Exit->Act->World->Prop)(R:List Lz->List (Nat×Nat)->Array Bool->Act->World->Prop)
 (Z:List Lz) (I:List (Nat×Nat)) (listed:Array Bool) (a:Act) (w:World) (i:Nat):Prop:=
 ∀w',Ext w w'->Kp L w0 w'->
  match Z.find? (fun q=>q.k == i) with
  | none=>wpOp P ops Q i (fun a2 w2=>WI L I w' w2/\Kp L w0 w2/\R Z ((w'.heap.size,w2.heap.size)::I) (listed.setIfInBounds i true) a2 w2) a w'
  | some q=>∀g,LzFact w0 I q g w'->wpOp P ops Q i (fun a2 w2=>WI L ((g,g+1)::I) w' w2/\Kp L w0 w2/\
   R (Z.filter (fun q=>q.k != i)) ((w'.heap.size,w2.heap.size)::(g,g+1)::I) (listed.setIfInBounds i true) a2 w2) (a.put (some q.d) (q.v g)) w'
def wpX (P:Program)(ops:Array Oper)(Q:Exit->Act->World->Prop):Nat->List Lz->List (Nat×Nat)->Array Bool->Act->World->Prop
 | 0,Z,_,listed,a,w=>Region.ready .any ops listed=[]/\Z=[]/\∀w',Ext w w'->Kp L w0 w'->Q .normal a w'
 | n+1,Z,I,listed,a,w=>
  (Region.ready .any ops listed=[]->Z=[]/\∀w',Ext w w'->Kp L w0 w'->Q .normal a w')/\
  ∀i∈Region.ready .any ops listed,stepX L w0 P ops Q (wpX P ops Q n) Z I listed a w i
variable {L w0}
theorem wpX_ext:∀(n:Nat) {Z:List Lz} {I:List (Nat×Nat)} {listed:Array Bool} {a:Act} {w w':World},wpX L w0 P ops Q n Z I listed a w->Ext w w'->wpX L w0 P ops Q n Z I listed a w'
 | 0,_,_,_,_,_,_,h,k=>⟨h.1,h.2.1,fun w2 h2=>h.2.2 w2 (k.trans h2)⟩
 | _+1,_,_,_,_,_,_,h,k=>⟨fun hr=>⟨(h.1 hr).1,fun w2 h2=>(h.1 hr).2 w2 (k.trans h2)⟩,fun i hi w2 h2=>h.2 i hi w2 (k.trans h2)⟩
theorem InI_mono {I J:List (Nat×Nat)}(h:∀p∈I,p∈J){b:Nat}(hb:InI I b):InI J b:=let⟨p,hp,r⟩:=hb;⟨p,h p hp,r⟩
theorem WI_mono {I J:List (Nat×Nat)}(h:∀p∈I,p∈J){w w':World}(hw:WI L I w w'):WI L J w w':=KpP.mono hw (fun _ hk=>hk.imp id (InI_mono h))
theorem LzFact_mono {I J:List (Nat×Nat)}(h:∀p∈I,p∈J){q:Lz}{g:Nat}{w:World}(hw:LzFact w0 J q g w):LzFact w0 I q g w:=⟨hw.1,hw.2.1,fun hi=>hw.2.2 (InI_mono h hi)⟩
theorem wpX_mono:∀(n:Nat) {Z:List Lz} {I J:List (Nat×Nat)} {listed:Array Bool} {a:Act} {w:World},(∀p∈I,p∈J)->wpX L w0 P ops Q n Z I listed a w->wpX L w0 P ops Q n Z J listed a w
 | 0,_,_,_,_,_,_,_,h=>h
 | n+1,Z,I,J,listed,a,w,hIJ,h=>by
  refine⟨h.1,fun i hi w' h1 h2=>?_⟩;have h3:=h.2 i hi w' h1 h2;have c2:∀(x:Nat×Nat),∀p∈x::I,p∈x::J:=fun x p hp=>by
   rcases List.mem_cons.1 hp with rfl|hp
   ·simp
   ·exact List.mem_cons_of_mem _ (hIJ p hp)
  unfold stepX at *;generalize hf:Z.find? (fun q=>q.k == i)=f at h3 ⊢
  cases f with
  | none=>
   exact wpOp_mono (fun a2 w2 h4=>⟨WI_mono hIJ h4.1,h4.2.1,wpX_mono n (c2 _) h4.2.2⟩) h3
  | some q=>
   intro g hg;refine wpOp_mono (fun a2 w2 h4=>⟨WI_mono (c2 _) h4.1,h4.2.1,wpX_mono n ?_ h4.2.2⟩) (h3 g (LzFact_mono hIJ hg));intro p hp;rcases List.mem_cons.1 hp with rfl|hp
   ·simp
   ·exact List.mem_cons_of_mem _ (c2 _ p hp)
theorem wpAny_of_X:∀(n:Nat) {I:List (Nat×Nat)} {listed:Array Bool} {a:Act} {w:World},Kp L w0 w->wpX L w0 P ops Q n [] I listed a w->wpAny P .any ops Q n listed a w
 | 0,_,_,_,w,hk,h=>⟨h.1,h.2.2 w (Ext.rfl' w) hk⟩
 | n+1,_,_,_,w,hk,h=>⟨fun hr=>(h.1 hr).2 w (Ext.rfl' w) hk,fun i hi=>
  wpOp_mono (fun _ _ h4=>wpAny_of_X n h4.2.1 h4.2.2) (h.2 i hi w (Ext.rfl' w) hk)⟩
theorem wpOp_far {i d:Nat}{o:Oper}{v:Value}(ho:ops[i]? = some o)(hs:∀cs b,o.op≠.select cs b)(hl:d∉o.looksAt ops)(hd:o.dst≠some d)
 (hQ:∀c a w,¬Q (.panic c) a w) {K K':Act->World->Prop} {a:Act} {w:World} (hK:∀a2 w2,K a2 w2->K' (a2.put (some d) v) w2)
 (h:wpOp P ops Q i K a w):wpOp P ops Q i K' (a.put (some d) v) w:=by
 have hl':∀x,some d=some x->x∉o.looksAt ops:=fun x hx=>by injection hx with hx;subst hx;exact hl
 have hc:∀u,(a.put (some d) v).put o.dst u=(a.put o.dst u).put (some d) v:=fun u=>Act.put_comm a v u (fun x hx=>by injection hx with hx;subst hx;exact hd);unfold wpOp at *;simp only[ho] at *;rw[wanted_put o a (some d) v hl']
 split
 ·rename_i hw
  simp only[hw,if_true] at h;rcases h with h|⟨hasks,hlets⟩
  case inr=>exact .inr ⟨by unfold Oper.asks at *;rw[execOp_put o hs a (some d) v hl'];exact hasks,hlets⟩
  refine .inl ?_;unfold Oper.wp at *;rw[execOp_put o hs a (some d) v hl'];generalize (execOp a.eval o).run P w=r at *
  cases r with
  | ok n w'=>
   cases n<;>simp only[Oper.upon] at h ⊢
   case value u=>rw[hc];exact hK _ _ h
   case skip=>rw[hc];exact hK _ _ h
   case defer e=>
    have:=hK _ _ h
    rw[<-Act.put_comm _ v undef (fun x hx=>by injection hx with hx;subst hx;exact hd),<-Act.put_defers] at this;exact this
   case enter f args=>
    refine Calls.mono h fun e w'' he=>?_
    cases e with
    | returned u=>show K' _ _;rw[hc];exact hK _ _ he
    | panicked c=>exact absurd he (hQ _ _ _)
    | outgrown=>exact he
   case row row args=>exact Rows.mono h fun u w'' he=>by rw[hc];exact hK _ _ he
  | halt x w'=>
   cases x<;>simp only[Oper.upon] at h ⊢
   case panic u=>exact absurd h (hQ _ _ _)
 ·rename_i hw
  simp only[hw] at h;rw[hc];exact hK _ _ h
theorem wpOp_shape {i:Nat}{o:Oper}(ho:ops[i]? = some o){K:Act->World->Prop}{a:Act}{w:World}(h:wpOp P ops Q i K a w) :
 wpOp P ops Q i (fun a2 w2=>K a2 w2/\∃u,a2.tmps=(a.put o.dst u).tmps) a w:=by
 unfold wpOp at *;simp only[ho] at *
 split
 ·rename_i hw
  simp only[hw,if_true] at h;rcases h with h|h
  case inr=>exact .inr h
  refine .inl ?_;unfold Oper.wp at *;generalize (execOp a.eval o).run P w=r at *
  cases r with
  | ok n w'=>
   cases n<;>simp only[Oper.upon] at h ⊢
   case value u=>exact⟨h,u,rfl⟩
   case skip=>exact⟨h,_,rfl⟩
   case defer e=>exact⟨h,undef,by rw[<-Act.put_defers]⟩
   case enter f args=>
    refine Calls.mono h fun e w'' he=>?_
    cases e with
    | returned u=>exact⟨he,u,rfl⟩
    | panicked c=>exact he
    | outgrown=>exact he
   case row row args=>exact Rows.mono h fun u w'' he=>⟨he,u,rfl⟩
  | halt x w'=>cases x<;>simp only[Oper.upon] at h ⊢<;>exact h
 ·rename_i hw
  simp only[hw] at h;exact⟨h,undef,rfl⟩
theorem find_head {Z:List Lz}{q:Lz}:(q::Z).find? (fun x=>x.k == q.k)=some q:=by simp
theorem find_tail {Z:List Lz}{q:Lz}{i:Nat}(h:q.k≠i):(q::Z).find? (fun x=>x.k == i)=Z.find? (fun x=>x.k == i):=by
 have e:(q.k == i)=false:=by simp[h]
 rw[List.find?_cons,e]
theorem find_no {Z:List Lz}{i:Nat}(h:∀q∈Z,q.k≠i):Z.find? (fun x=>x.k == i)=none:=by
 rw[List.find?_eq_none];intro x hx;simpa using h x hx
theorem filter_head {Z:List Lz}{q:Lz}(h:∀x∈Z,x.k≠q.k):(q::Z).filter (fun x=>x.k != q.k)=Z:=by
 have h1:Z.filter (fun x=>x.k != q.k)=Z:=by rw[List.filter_eq_self];intro x hx;simpa using h x hx
 rw[List.filter_cons];simp[h1]
theorem filter_tail {Z:List Lz}{q:Lz}{i:Nat}(h:q.k≠i):(q::Z).filter (fun x=>x.k != i)=q::Z.filter (fun x=>x.k != i):=by
 rw[List.filter_cons];simp[h]
theorem unlisted_set {listed:Array Bool}{i j:Nat}(h:(listed.setIfInBounds i true).getD j true=false):j≠i/\listed.getD j true=false:=by
 by_cases hij:i=j
 ·subst hij
  exfalso
  rcases Nat.lt_or_ge i listed.size with h'|h'
  ·simp[h'] at h
  ·have h2:(listed.setIfInBounds i true).size<=i:=by simpa using h'
   simp[Array.getElem?_eq_none h2] at h
 ·rw[getD_set_ne true hij] at h;exact⟨fun e=>hij e.symm,h⟩
theorem swap2 {α:Type}{x y p:α}{I:List α}(h:p∈x::y::I):p∈y::x::I:=by
 simp only[List.mem_cons] at h ⊢;rcases h with h|h|h
 ·exact Or.inr (Or.inl h)
 ·exact Or.inl h
 ·exact Or.inr (Or.inr h)
theorem rot3 {α:Type}{x y z p:α}{I:List α}(h:p∈x::y::z::I):p∈y::z::x::I:=by
 simp only[List.mem_cons] at h ⊢;rcases h with h|h|h|h
 ·exact Or.inr (Or.inr (Or.inl h))
 ·exact Or.inl h
 ·exact Or.inr (Or.inl h)
 ·exact Or.inr (Or.inr (Or.inr h))
theorem lz_done {q:Lz}(hL:∀b∈L,b<w0.heap.size)(hsel:∀(j:Nat) (o:Oper) cs b,ops[j]? = some o->o.op≠.select cs b)(hQ:∀c a w,¬Q (.panic c) a w) :
 ∀(n:Nat) {Z:List Lz} {I:List (Nat×Nat)} {listed:Array Bool} {a:Act} {w:World} {g:Nat},(∀x∈Z,x.k≠q.k/\x.d≠q.d)->
  (∀j oj,ops[j]? = some oj->j≠q.k->listed.getD j true=false->q.d∉oj.looksAt ops/\oj.dst≠some q.d)->
  LzFact w0 I q g w->wpX L w0 P ops Q n (q::Z) I listed a w->wpX L w0 P ops Q n Z ((g,g+1)::I) listed (a.put (some q.d) (q.v g)) w
 | 0,_,_,_,_,_,_,_,_,_,h=>(by have:=h.2.1;cases this)
 | n+1,Z,I,listed,a,w,g,hk,hfar,hg,h=>by
  refine⟨fun hr=>(by have:=(h.1 hr).1;cases this),fun i hi w' h1 h2=>?_⟩;have h3:=h.2 i hi w' h1 h2;obtain⟨hun,oi,hoi,hall⟩:=mem_ready.1 hi;have hgB:Blk w' g q.T q.cs:=hg.2.1.ext h1;have hglt:=hgB.lt;have hgL:∀J,¬InI J g->¬(g∈L\/InI J g):=fun J hJ hor=>hor.elim (fun hm=>by have:=hL g hm;have:=hg.1;omega) hJ;have hfar':∀j oj,ops[j]? = some oj->j≠q.k->(listed.setIfInBounds i true).getD j true=false->q.d∉oj.looksAt ops/\oj.dst≠some q.d:=
   fun j oj hj hjk hl=>hfar j oj hj hjk (unlisted_set hl).2
  by_cases hik:q.k=i
  ·subst hik
   (try unfold stepX at h3)
   rw[find_head] at h3;rw[find_no (fun x hx=>(hk x hx).1)];have h4:=h3 g ⟨hg.1,hgB,hg.2.2⟩;rw[filter_head (fun x hx=>(hk x hx).1)] at h4;exact h4
  ·have hf:=hfar i oi hoi (fun e=>hik e.symm) hun
   (try unfold stepX at h3)
   rw[find_tail hik] at h3;generalize hf2:Z.find? (fun x=>x.k == i)=f at h3 ⊢
   cases f with
   | none=>
    refine wpOp_far hoi (fun cs b=>hsel i oi cs b hoi) hf.1 hf.2 hQ (fun a2 w2 h4=>?_) h3;refine⟨WI_mono (fun p hp=>List.mem_cons_of_mem _ hp) h4.1,h4.2.1,wpX_mono n ?_ (lz_done hL hsel hQ n hk hfar' ⟨hg.1,?_,?_⟩ h4.2.2)⟩
    ·exact fun p hp=>swap2 hp
    ·exact KpP.blk h4.1 hgB (hgL I hg.2.2)
    ·rintro⟨p,hp,hp1,hp2⟩;rcases List.mem_cons.1 hp with rfl|hp
     ·simp only at hp1;omega
     ·exact hg.2.2 ⟨p,hp,hp1,hp2⟩
   | some q'=>
    intro g' hg';have hm:=List.mem_of_find?_eq_some hf2;have h4:=h3 g' (LzFact_mono (fun p hp=>List.mem_cons_of_mem _ hp) hg');rw[filter_tail hik] at h4;have hne:g'≠g:=fun e=>hg'.2.2 ⟨(g,g+1),by simp,by simp;omega⟩;rw[Act.put_comm a (x:=some q.d) (y:=some q'.d) _ _ (fun x hx=>by injection hx with hx;subst hx;intro e;injection e with e;exact(hk q' hm).2 e)];refine wpOp_far hoi (fun cs b=>hsel i oi cs b hoi) hf.1 hf.2 hQ (fun a2 w2 h5=>?_) h4;have hgI:¬InI ((g',g'+1)::I) g:=by
     rintro⟨p,hp,hp1,hp2⟩;rcases List.mem_cons.1 hp with rfl|hp
     ·simp only at hp1 hp2;omega
     ·exact hg.2.2 ⟨p,hp,hp1,hp2⟩
    have hg2lt:=hg'.2.1.lt;refine⟨WI_mono ?_ h5.1,h5.2.1,wpX_mono n ?_ (lz_done hL hsel hQ n (fun x hx=>hk x (List.mem_filter.1 hx).1) hfar' ⟨hg.1,?_,?_⟩ h5.2.2)⟩
    ·intro p hp;rcases List.mem_cons.1 hp with rfl|hp
     ·simp
     ·exact List.mem_cons_of_mem _ (List.mem_cons_of_mem _ hp)
    ·exact fun p hp=>rot3 hp
    ·exact KpP.blk h5.1 hgB (hgL _ hgI)
    ·rintro⟨p,hp,hp1,hp2⟩;rcases List.mem_cons.1 hp with rfl|hp
     ·simp only at hp1;omega
     ·exact hgI ⟨p,hp,hp1,hp2⟩
theorem eval_of_tmps {a b:Act}(h:a.tmps=b.tmps):a.eval=b.eval:=by
 funext x;cases x<;>simp[Act.eval,h]
theorem declare {q:Lz}{oz:Oper}(hL:∀b∈L,b<w0.heap.size)(hsel:∀(j:Nat) (o:Oper) cs b,ops[j]? = some o->o.op≠.select cs b)(hQ:∀c a w,¬Q (.panic c) a w)
 (hz:ops[q.z]? = some oz) (hzg:oz.guard=none) (hzd:oz.dst=some q.d) (hkw:∀o,ops[q.k]? = some o->∃e∈o.after,Region.binds .any e=true/\e.on=q.z) :
 ∀(n:Nat) {Z:List Lz} {I:List (Nat×Nat)} {listed:Array Bool} {a:Act} {w:World},
  (∀w',(execOp a.eval oz).run P w'=.ok (.value (q.v w'.heap.size)) (w'.alloc (.cells q.cs q.T)))->
  q.z∈Region.ready .any ops listed->
  (∀j oj,ops[j]? = some oj->j≠q.z->listed.getD j true=false->(∀e∈oj.after,Region.binds .any e=true->e.on≠q.z)->oz.apart ops oj=true)->
  (∀j oj,ops[j]? = some oj->j≠q.k->j≠q.z->listed.getD j true=false->q.d∉oj.looksAt ops/\oj.dst≠some q.d)->
  (∀x∈Z,x.k≠q.k/\x.d≠q.d/\x.k≠q.z/\x.d∉oz.looksAt ops)->(∀p∈I,p.2<=w.heap.size)->
  wpX L w0 P ops Q n (q::Z) I (listed.setIfInBounds q.z true) a w->wpX L w0 P ops Q (n+1) Z I listed a w
 | 0,_,_,_,_,_,_,_,_,_,_,_,h=>(by have:=h.2.1;cases this)
 | n+1,Z,I,listed,a,w,hrun,hrd,hfree,hfar,hk,hI,h=>by
  refine⟨fun hr=>(by rw[hr] at hrd;cases hrd),fun i hi w' h1 h2=>?_⟩;obtain⟨hzun,_,_,_⟩:=mem_ready.1 hrd;by_cases hiz:i=q.z
  ·subst hiz
   (try unfold stepX)
   rw[find_no (fun x hx=>(hk x hx).2.2.1)]
   simp only
   unfold wpOp;rw[hz];simp only[Region.wanted,hzg,if_true];refine .inl ?_;unfold Oper.wp;rw[hrun w'];simp only[Oper.upon];have hE:Ext w' (w'.alloc (.cells q.cs q.T)):=Ext.alloc _ _;refine⟨KpP.of_ext hE,h2.ext hE,?_⟩;rw[hzd,World.size_alloc];refine lz_done hL hsel hQ (n+1) (fun x hx=>⟨(hk x hx).1,(hk x hx).2.1⟩) (fun j oj hj hjk hl=>?_) ⟨h2.size,Blk.new _ _ _,?_⟩ (wpX_ext _ h (h1.trans hE))
   ·have hl':=unlisted_set hl;exact hfar j oj hj hjk hl'.1 hl'.2
   ·rintro⟨p,hp,hp1,hp2⟩;have:=hI p hp;have:=h1.size;omega
  ·obtain⟨hun,oi,hoi,hall⟩:=mem_ready.1 hi;have hnw:∀e∈oi.after,Region.binds .any e=true->e.on≠q.z:=fun e he hb heq=>by
    have h3:=hall e he hb;rw[heq] at h3;rcases Nat.lt_or_ge q.z listed.size with h'|h'
    ·simp[h'] at h3 hzun;rw[h3] at hzun;cases hzun
    ·simp[Array.getElem?_eq_none h'] at h3
   have hik:q.k≠i:=fun e=>by
    obtain⟨ed,he,hb,hon⟩:=hkw oi (e▸hoi);exact hnw ed he hb hon
   have hap:=Oper.apart_spec (hfree i oi hoi hiz hun hnw);have h3:=h.2 i (ready_mono hi hiz) w' h1 h2;have hfree':∀j oj,ops[j]? = some oj->j≠q.z->(listed.setIfInBounds i true).getD j true=false->(∀e∈oj.after,Region.binds .any e=true->e.on≠q.z)->oz.apart ops oj=true:=
    fun j oj hj hjz hl hno=>hfree j oj hj hjz (unlisted_set hl).2 hno
   have hfar':∀j oj,ops[j]? = some oj->j≠q.k->j≠q.z->(listed.setIfInBounds i true).getD j true=false->q.d∉oj.looksAt ops/\oj.dst≠some q.d:=
    fun j oj hj hjk hjz hl=>hfar j oj hj hjk hjz (unlisted_set hl).2
   have hrd':=ready_mono hrd (Ne.symm hiz)
   (try unfold stepX at h3)
   (try unfold stepX)
   rw[find_tail hik] at h3;generalize hf2:Z.find? (fun x=>x.k == i)=f at h3 ⊢
   cases f with
   | none=>
    refine wpOp_mono (fun a2 w2 h4=>?_) (wpOp_shape hoi h3);obtain⟨⟨h5,h6,h7⟩,u,hu⟩:=h4;refine⟨h5,h6,declare hL hsel hQ hz hzg hzd hkw n ?_ hrd' hfree' hfar' hk ?_ ?_⟩
    ·intro w3;rw[eval_of_tmps hu,execOp_put oz (fun cs b=>hsel q.z oz cs b hz) a oi.dst u hap.2.2];exact hrun w3
    ·intro p hp;rcases List.mem_cons.1 hp with rfl|hp
     ·exact Nat.le_refl _
     ·have:=hI p hp;have:=h1.size;have:=h5.size;omega
    ·rw[Array.setIfInBounds_comm _ _ hiz];exact h7
   | some q'=>
    intro g' hg';have hm:=List.mem_of_find?_eq_some hf2;have h4:=h3 g' hg';rw[filter_tail hik] at h4;refine wpOp_mono (fun a2 w2 h4=>?_) (wpOp_shape hoi h4);obtain⟨⟨h5,h6,h7⟩,u,hu⟩:=h4;refine⟨h5,h6,declare hL hsel hQ hz hzg hzd hkw n ?_ hrd' hfree' hfar' (fun x hx=>hk x (List.mem_filter.1 hx).1) ?_ ?_⟩
    ·intro w3;rw[eval_of_tmps hu,execOp_put oz (fun cs b=>hsel q.z oz cs b hz) _ oi.dst u hap.2.2,
      execOp_put oz (fun cs b=>hsel q.z oz cs b hz) a (some q'.d) _ (fun x hx=>by injection hx with hx;subst hx;exact(hk q' hm).2.2.2)]
     exact hrun w3
    ·intro p hp;have hlt:=hg'.2.1.lt;rcases List.mem_cons.1 hp with rfl|hp
     ·exact Nat.le_refl _
     ·rcases List.mem_cons.1 hp with rfl|hp
      ·have:=h5.size;simp only;omega
      ·have:=hI p hp;have:=h1.size;have:=h5.size;omega
    ·rw[Array.setIfInBounds_comm _ _ hiz];exact h7
theorem takeX {i:Nat}{oi:Oper}{v:Value}(hi:ops[i]? = some oi)(hsel:∀(j:Nat) (o:Oper) cs b,ops[j]? = some o->o.op≠.select cs b)(hQ:∀c a w,¬Q (.panic c) a w) :
 ∀(n:Nat) {Z:List Lz} {I:List (Nat×Nat)} {listed:Array Bool} {a:Act} {w:World},
  (∀j oj,ops[j]? = some oj->j≠i->listed.getD j true=false->(∀e∈oj.after,Region.binds .any e=true->e.on≠i)->oi.apart ops oj=true)->
  i∈Region.ready .any ops listed->YieldsIf P ops (Kp L w0) oi v a->(∀x∈Z,x.k≠i/\x.d∉oi.looksAt ops/\oi.dst≠some x.d)->
  wpX L w0 P ops Q n Z I (listed.setIfInBounds i true) (a.put oi.dst v) w->wpX L w0 P ops Q (n+1) Z I listed a w:=by
 intro n;induction n with
 | zero=>
  intro Z I listed a w _ hr hy hZ h;refine⟨fun h0=>(by rw[h0] at hr;cases hr),fun j hj w' h1 h2=>?_⟩;by_cases hji:j=i
  ·subst hji
   (try unfold stepX)
   rw[find_no (fun x hx=>(hZ x hx).1)];exact hy.wpOp hi h2 ⟨KpP.refl _ _,h2,wpX_mono 0 (fun p hp=>List.mem_cons_of_mem _ hp) (wpX_ext 0 h h1)⟩
  ·have:=ready_mono hj hji;rw[h.1] at this;cases this
 | succ n ih=>
  intro Z I listed a w hfree hr hy hZ h;refine⟨fun h0=>(by rw[h0] at hr;cases hr),fun j hj w' h1 h2=>?_⟩;by_cases hji:j=i
  ·subst hji
   (try unfold stepX)
   rw[find_no (fun x hx=>(hZ x hx).1)];exact hy.wpOp hi h2 ⟨KpP.refl _ _,h2,wpX_mono (n+1) (fun p hp=>List.mem_cons_of_mem _ hp) (wpX_ext (n+1) h h1)⟩
  ·obtain⟨hjun,oj,hoj,hall⟩:=mem_ready.1 hj;have hnot:∀e∈oj.after,Region.binds .any e=true->e.on≠i:=fun e he hb heq=>by
    have h1:=hall e he hb;have h0:=(mem_ready.1 hr).1;rw[heq] at h1;rcases Nat.lt_or_ge i listed.size with h'|h'
    ·simp[h'] at h0 h1;rw[h0] at h1;cases h1
    ·simp[Array.getElem?_eq_none h'] at h1
   have hap:=hfree j oj hoj hji hjun hnot;have h3:=h.2 j (ready_mono hj hji) w' h1 h2;have hQ':∀c a w,Q (.panic c) (a.put oi.dst v) w->Q (.panic c) a w:=fun c a w h=>absurd h (hQ _ _ _);have hfree':∀k ok,ops[k]? = some ok->k≠i->(listed.setIfInBounds j true).getD k true=false->
    (∀e∈ok.after,Region.binds .any e=true->e.on≠i)->oi.apart ops ok=true:=fun k ok hk hki hun hno=>hfree k ok hk hki (unlisted_set hun).2 hno
   (try unfold stepX at h3)
   (try unfold stepX)
   generalize hf2:Z.find? (fun x=>x.k == j)=f at h3 ⊢
   cases f with
   | none=>
    refine wpOp_mono (fun a2 w2 h4=>?_) (wpOp_putIf hoj hap (fun cs b=>hsel i oi cs b hi) (fun cs b=>hsel j oj cs b hoj) hQ' hy h3);obtain⟨h5,h6,h7,h8⟩:=h4;refine⟨h6,h7,ih hfree' (ready_mono hr (Ne.symm hji)) h5 hZ ?_⟩;rw[Array.setIfInBounds_comm _ _ hji];exact h8
   | some q'=>
    intro g' hg';have hm:=List.mem_of_find?_eq_some hf2;have hz:=hZ q' hm;have hz':∀x,some q'.d=some x->x∉oi.looksAt ops:=fun x hx=>by injection hx with hx;subst hx;exact hz.2.1
    have h4:=h3 g' hg';have hcomm:(a.put oi.dst v).put (some q'.d) (q'.v g')=(a.put (some q'.d) (q'.v g')).put oi.dst v:=Act.put_comm a v _ (fun d hd e=>hz.2.2 (by rw[hd,e]));rw[hcomm] at h4;have hy':YieldsIf P ops (Kp L w0) oi v (a.put (some q'.d) (q'.v g')):=hy.of_same (execOp_put oi (fun cs b=>hsel i oi cs b hi) a (some q'.d) _ hz') (wanted_put oi a (some q'.d) _ hz');refine wpOp_mono (fun a2 w2 h4=>?_) (wpOp_putIf hoj hap (fun cs b=>hsel i oi cs b hi) (fun cs b=>hsel j oj cs b hoj) hQ' hy' h4);obtain⟨h5,h6,h7,h8⟩:=h4;refine⟨h6,h7,ih hfree' (ready_mono hr (Ne.symm hji)) h5 (fun x hx=>hZ x (List.mem_filter.1 hx).1) ?_⟩;rw[Array.setIfInBounds_comm _ _ hji];exact h8
end
theorem InI_head (g:Nat)(I:List (Nat×Nat)):InI ((g,g+1)::I) g:=⟨(g,g+1),by simp,by simp⟩
theorem WI_set {L:List Nat}{I:List (Nat×Nat)}{g:Nat}{a w:World}(h:WI L ((g,g+1)::I) a w)(o:Nat)(u:Value):WI L ((g,g+1)::I) a (w.setCell ⟨g,o,none⟩ u):=
 KpP.set h (Or.inl (Or.inr (InI_head g I))) u
theorem WI_setL {L:List Nat}{I:List (Nat×Nat)}{g:Nat}{a w:World}(h:WI L I a w)(hg:g∈L)(o:Nat)(u:Value):WI L I a (w.setCell ⟨g,o,none⟩ u):=
 KpP.set h (Or.inl (Or.inl hg)) u
theorem WI_refl (L:List Nat)(I:List (Nat×Nat))(w:World):WI L I w w:=KpP.refl _ _
theorem Kp.setN {L:List Nat}{g:Nat}{a w:World}(h:Kp L a w)(hg:a.heap.size<=g)(o:Nat)(u:Value):Kp L a (w.setCell ⟨g,o,none⟩ u):=h.set (Or.inr hg) u
theorem Kp.setL {L:List Nat}{g:Nat}{a w:World}(h:Kp L a w)(hg:g∈L)(o:Nat)(u:Value):Kp L a (w.setCell ⟨g,o,none⟩ u):=h.set (Or.inl hg) u
def bits (n:Nat)(ls:List Nat):Array Bool:=((List.range n).map fun j=>ls.contains j).toArray
theorem bits_set (n i:Nat)(ls:List Nat):(bits n ls).setIfInBounds i true=bits n (i::ls):=by
 apply Array.ext
 ·simp[bits]
 ·intro j h1 h2;simp only[bits,List.setIfInBounds_toArray,List.getElem_toArray,List.getElem_set,List.getElem_map,List.getElem_range,List.contains_cons];by_cases h:i=j
  ·subst h;simp
  ·have:(j == i)=false:=by simp;exact fun e=>h e.symm
   simp[h,this]
theorem bits_nil (n:Nat):bits n []=Array.replicate n false:=by
 apply Array.ext
 ·simp[bits]
 ·intro j h1 h2;simp[bits]
section
variable {P:Program} {ops:Array Oper} {Q:Exit->Act->World->Prop} {L:List Nat} {w0:World}
def Xr (L:List Nat)(w0:World)(P:Program)(ops:Array Oper)(Q:Exit->Act->World->Prop)(n:Nat)(KD:List (Nat×Nat))(Z:List Lz)(I:List (Nat×Nat))(ls:List Nat)(a:Act)(w:World):Prop:=
 Z.map (fun q=>(q.k,q.d))=KD->wpX L w0 P ops (NoPanic Q) n Z I (bits ops.size ls) a w
theorem Xr.start {id:Nat}{a:Act}{w:World}(L:List Nat)(hm:P.follows .mixedOrders=true)(h:Xr L w P ops Q ops.size [] [] [] [] a w):(Code.region id ops true).wp P Q a w:=by
 refine wp_region_noPanic (wp_region_any hm ?_);have h:=h rfl;rw[bits_nil] at h;exact wpAny_of_X _ (Kp.drew w) (wpX_ext _ h (Ext.drew w))
def okTake (ops:Array Oper)(ls:List Nat)(Z:List (Nat×Nat))(i:Nat):Bool:=
 Region.noSelect ops&&Region.free .any ops (bits ops.size ls) i&&(Region.ready .any ops (bits ops.size ls)).contains i &&
  match ops[i]? with
  | some oi=>Z.all fun x=>x.1 != i&&!(oi.looksAt ops).contains x.2&&oi.dst != some x.2
  | none=>false
theorem NoPanic.never (Q:Exit->Act->World->Prop):∀c a w,¬NoPanic Q (.panic c) a w:=fun _ _ _ h=>h
variable {n:Nat} {KD:List (Nat×Nat)} {Z:List Lz} {I:List (Nat×Nat)} {ls:List Nat} {a:Act} {w:World}
theorem Xr.takeY (i:Nat)(d:Option Tmp){oi:Oper}{v:Value}(hi:ops[i]? = some oi)(hd:oi.dst=d)
 (hok:okTake ops ls KD i=true) (hy:YieldsIf P ops (Kp L w0) oi v a) (h:Xr L w0 P ops Q n KD Z I (i::ls) (a.put d v) w):Xr L w0 P ops Q (n+1) KD Z I ls a w:=by
 subst hd;intro hKD;have h':wpX L w0 P ops (NoPanic Q) n Z I (bits ops.size (i::ls)) (a.put oi.dst v) w:=h hKD;clear h;subst hKD;simp only[okTake,hi,Bool.and_eq_true] at hok;obtain⟨⟨⟨h1,h2⟩,h3⟩,h4⟩:=hok;refine takeX hi (Region.noSelect_spec h1) (NoPanic.never Q) n (Region.free_spec hi h2) (by simpa using h3) hy ?_ ?_
 ·intro x hx;have h5:=List.all_eq_true.1 h4 (x.k,x.d) (List.mem_map.2 ⟨x,hx,rfl⟩);simp only[Bool.and_eq_true,bne_iff_ne,ne_eq,Bool.not_eq_true'] at h5;refine⟨h5.1.1,?_,h5.2⟩;have h6:=h5.1.2;intro hm;rw[List.contains_iff_mem.2 hm] at h6;cases h6
 ·rw[bits_set];exact h'
theorem Xr.take (i:Nat)(d:Option Tmp){oi:Oper}{v:Value}(hi:ops[i]? = some oi)(hd:oi.dst=d)
 (hok:okTake ops ls KD i=true) (hw:Region.wanted oi (yielded ops a.tmps)=true)
 (hrun:∀w',Kp L w0 w'->(execOp a.eval oi).run P w'=.ok (.value v) w') (h:Xr L w0 P ops Q n KD Z I (i::ls) (a.put d v) w):Xr L w0 P ops Q (n+1) KD Z I ls a w:=
 Xr.takeY i d hi hd hok (.inl ⟨hw,hrun⟩) h
theorem Xr.skip (i:Nat)(d:Option Tmp){oi:Oper}(hi:ops[i]? = some oi)(hd:oi.dst=d)
 (hok:okTake ops ls KD i=true) (hw:Region.wanted oi (yielded ops a.tmps)=false)
 (h:Xr L w0 P ops Q n KD Z I (i::ls) (a.put d undef) w):Xr L w0 P ops Q (n+1) KD Z I ls a w:=
 Xr.takeY i d hi hd hok (.inr ⟨hw,rfl⟩) h
def okLazy (ops:Array Oper)(ls:List Nat)(Z:List (Nat×Nat))(z d k:Nat):Bool:=
 Region.noSelect ops&&Region.free .any ops (bits ops.size ls) z&&(Region.ready .any ops (bits ops.size ls)).contains z &&
 (match ops[z]? with
  | some oz=>oz.guard.isNone&&oz.dst == some d&&Z.all fun x=>x.1 != k&&x.2 != d&&x.1 != z&&!(oz.looksAt ops).contains x.2
  | none=>false) &&
 (match ops[k]? with
  | some ok=>ok.after.any fun e=>Region.binds .any e&&e.on == z
  | none=>false) &&
 (List.range ops.size).all fun j=>j == k || j == z || ls.contains j || match ops[j]? with
  | some oj=>!(oj.looksAt ops).contains d&&oj.dst != some d
  | none=>true
theorem bits_getD {n j:Nat}{ls:List Nat}(h:(bits n ls).getD j true=false):ls.contains j=false:=by
 unfold bits at h;rcases Nat.lt_or_ge j n with hj|hj
 ·simpa[hj] using h
 ·simp[hj] at h
theorem Xr.lazy (z d k:Nat)(v:Nat->Value)(T:Nat)(cs:Array Value){oz:Oper}(hz:ops[z]? = some oz)(hL:∀b∈L,b<w0.heap.size)
 (hok:okLazy ops ls KD z d k=true) (hI:∀p∈I,p.2<=w.heap.size)
 (hrun:∀w',(execOp a.eval oz).run P w'=.ok (.value (v w'.heap.size)) (w'.alloc (.cells cs T)))
 (h:Xr L w0 P ops Q n ((k,d)::KD) (⟨z,d,k,v,T,cs⟩::Z) I (z::ls) a w):Xr L w0 P ops Q (n+1) KD Z I ls a w:=by
 intro hKD;have h':wpX L w0 P ops (NoPanic Q) n (⟨z,d,k,v,T,cs⟩::Z) I (bits ops.size (z::ls)) a w:=h (by simp[hKD]);clear h;subst hKD;simp only[okLazy,hz,Bool.and_eq_true] at hok;obtain⟨⟨⟨⟨⟨h1,h2⟩,h3⟩,⟨h4,h4d⟩,h4z⟩,h5⟩,h6⟩:=hok;refine declare (q:=⟨z,d,k,v,T,cs⟩) hL (Region.noSelect_spec h1) (NoPanic.never Q) hz (by simpa using h4) (by simpa using h4d) ?_ n hrun (by simpa using h3) (Region.free_spec hz h2) ?_ ?_ hI ?_
 ·intro o ho
  simp only at ho
  rw[ho] at h5;obtain⟨e,he,hb⟩:=Array.any_eq_true'.1 h5;simp only[Bool.and_eq_true,beq_iff_eq] at hb;exact⟨e,he,hb⟩
 ·intro j oj hj hjk hjz hl;have h7:=List.all_eq_true.1 h6 j (List.mem_range.2 (Array.getElem?_eq_some_iff.1 hj).1);have h8:=bits_getD hl
  simp only at hjk hjz
  simp only[hj,Bool.or_eq_true,beq_iff_eq,hjk,hjz,h8,Bool.false_eq_true,false_or,Bool.and_eq_true,bne_iff_ne,ne_eq,Bool.not_eq_true'] at h7;refine⟨fun hm=>?_,h7.2⟩;have:=h7.1;rw[List.contains_iff_mem.2 hm] at this;cases this
 ·intro x hx;have h7:=List.all_eq_true.1 h4z (x.k,x.d) (List.mem_map.2 ⟨x,hx,rfl⟩);simp only[Bool.and_eq_true,bne_iff_ne,ne_eq,Bool.not_eq_true'] at h7;refine⟨h7.1.1.1,h7.1.1.2,h7.1.2,fun hm=>?_⟩;have:=h7.2;rw[List.contains_iff_mem.2 hm] at this;cases this
 ·rw[bits_set];exact h'
theorem step_of {i:Nat}{o:Oper}{K:Act->World->Prop}{a:Act}{w:World}(ho:ops[i]? = some o)(hw:Region.wanted o (yielded ops a.tmps)=true)
 (h:∀K',(∀a w,K a w->K' a w)->o.wp P a w K' (NoPanic Q)):wpOp P ops (NoPanic Q) i K a w:=by
 unfold wpOp;simp only[ho,hw,if_true];exact .inl (h K fun _ _ h=>h)
theorem kd_find {Z:List Lz}{i:Nat}(h:((Z.map fun q=>(q.k,q.d)).all fun x=>x.1 != i)=true):∀q∈Z,q.k≠i:=fun q hq e=>by
 have:=List.all_eq_true.1 h (q.k,q.d) (List.mem_map.2 ⟨q,hq,rfl⟩);simp[e] at this
theorem Xr.step (i:Nat){o:Oper}(ho:ops[i]? = some o)
 (hr:(Region.ready .any ops (bits ops.size ls) == [i]&&KD.all fun x=>x.1 != i)=true) (hw:Region.wanted o (yielded ops a.tmps)=true)
 (h:∀w',Ext w w'->Kp L w0 w'->∀K,(∀a2 w2,WI L I w' w2->Kp L w0 w2->Xr L w0 P ops Q n KD Z ((w'.heap.size,w2.heap.size)::I) (i::ls) a2 w2->K a2 w2)->o.wp P a w' K (NoPanic Q)) :
 Xr L w0 P ops Q (n+1) KD Z I ls a w:=by
 intro hKD;simp only[Bool.and_eq_true,beq_iff_eq] at hr;obtain⟨hr,hZ⟩:=hr;refine⟨fun h0=>(by rw[hr] at h0;cases h0),fun j hj w' h1 h2=>?_⟩;rw[hr] at hj;obtain rfl:j=i:=by simpa using hj
 have hf:Z.find? (fun q=>q.k == j)=none:=find_no (kd_find (by rw[hKD];exact hZ))
 (try unfold stepX)
 rw[hf];refine step_of ho hw fun K' hK'=>h w' h1 h2 K' fun a2 w2 h3 h4 h5=>hK' a2 w2 ⟨h3,h4,?_⟩;rw[bits_set];exact h5 hKD
theorem Xr.call (i:Nat){o:Oper}(ho:ops[i]? = some o)
 (hr:(Region.ready .any ops (bits ops.size ls) == [i]&&KD.all fun x=>x.1 != i)=true) (hw:Region.wanted o (yielded ops a.tmps)=true)
 (h:∀w',Ext w w'->Kp L w0 w'->∀K,(∀a2 w2,Ext w' w2->Xr L w0 P ops Q n KD Z ((w'.heap.size,w2.heap.size)::I) (i::ls) a2 w2->K a2 w2)->o.wp P a w' K (NoPanic Q)) :
 Xr L w0 P ops Q (n+1) KD Z I ls a w:=by
 intro hKD;simp only[Bool.and_eq_true,beq_iff_eq] at hr;obtain⟨hr,hZ⟩:=hr;refine⟨fun h0=>(by rw[hr] at h0;cases h0),fun j hj w' h1 h2=>?_⟩;rw[hr] at hj;obtain rfl:j=i:=by simpa using hj
 have hf:Z.find? (fun q=>q.k == j)=none:=find_no (kd_find (by rw[hKD];exact hZ))
 (try unfold stepX)
 rw[hf];refine step_of ho hw fun K' hK'=>h w' h1 h2 K' fun a2 w2 h3 h5=>hK' a2 w2 ⟨KpP.of_ext h3,h2.ext h3,?_⟩;rw[bits_set];exact h5 hKD
theorem Xr.stepZ {z d k:Nat}{v:Nat->Value}{T:Nat}{cs:Array Value}{o:Oper}(ho:ops[k]? = some o)
 (hr:(Region.ready .any ops (bits ops.size ls) == [k]&&KD.all fun x=>x.1 != k)=true)
 (hw:∀g,Region.wanted o (yielded ops (a.put (some d) (v g)).tmps)=true)
 (h:∀w' g,Ext w w'->Kp L w0 w'->w0.heap.size<=g->Blk w' g T cs->¬InI I g->∀K,(∀a2 w2,WI L ((g,g+1)::I) w' w2->Kp L w0 w2->
  Xr L w0 P ops Q n KD Z ((w'.heap.size,w2.heap.size)::(g,g+1)::I) (k::ls) a2 w2->K a2 w2)->o.wp P (a.put (some d) (v g)) w' K (NoPanic Q)) :
 Xr L w0 P ops Q (n+1) ((k,d)::KD) (⟨z,d,k,v,T,cs⟩::Z) I ls a w:=by
 intro hKD0;have hKD:Z.map (fun q=>(q.k,q.d))=KD:=by simpa using hKD0
 clear hKD0;simp only[Bool.and_eq_true,beq_iff_eq] at hr;obtain⟨hr,hZ⟩:=hr;refine⟨fun h0=>(by rw[hr] at h0;cases h0),fun j hj w' h1 h2=>?_⟩;rw[hr] at hj;obtain rfl:j=k:=by simpa using hj
 have hf:=kd_find (Z:=Z) (i:=j) (by rw[hKD];exact hZ)
 (try unfold stepX)
 rw[find_head (q:=⟨z,d,j,v,T,cs⟩)];intro g hg;rw[filter_head (q:=⟨z,d,j,v,T,cs⟩) hf];refine step_of ho (hw g) fun K' hK'=>h w' g h1 h2 hg.1 hg.2.1 hg.2.2 K' fun a2 w2 h3 h4 h5=>hK' a2 w2 ⟨h3,h4,?_⟩;rw[bits_set];exact h5 hKD
theorem Xr.done (hr:Region.ready .any ops (bits ops.size ls)=[])
 (h:∀w',Ext w w'->Kp L w0 w'->Q .normal a w'):Xr L w0 P ops Q n [] [] I ls a w:=by
 intro _
 cases n with
 | zero=>exact⟨hr,rfl,fun w' h1 h2=>h w' h1 h2⟩
 | succ n=>exact⟨fun _=>⟨rfl,fun w' h1 h2=>h w' h1 h2⟩,fun i hi=>by rw[hr] at hi;cases hi⟩
end
section
variable {P:Program} {ops:Array Oper} {Q:Exit->Act->World->Prop} {L:List Nat} {w0:World}
variable {n:Nat} {KD:List (Nat×Nat)} {Z:List Lz} {I:List (Nat×Nat)} {ls:List Nat} {a:Act} {w:World}
theorem Xtk (i:Nat){d:Option Tmp}{oi:Oper}{v:Value}{b:Act}(h:Xr L w0 P ops Q n KD Z I (i::ls) b w)(hi:ops[i]? = some oi:=by rfl)(hd:oi.dst=d:=by(conv=>lhs;whnf);try rfl)(hok:okTake ops ls KD i=true:=by decide +kernel)(hw:Region.wanted oi (yielded ops a.tmps)=true:=by rfl)
 (hrun:∀w',Kp L w0 w'->(execOp a.eval oi).run P w'=.ok (.value v) w':=by intro w' hk;go_simp;(try with_reducible rfl);done)
 (hb:a.put d v=b:=by(try simp only[Act.put,List.setIfInBounds_toArray,List.set_cons_zero,List.set_cons_succ]);(try with_reducible rfl);done):Xr L w0 P ops Q (n+1) KD Z I ls a w:=Xr.take i d hi hd hok hw hrun (hb▸h)
theorem Xtn {i j:Nat}{d:Option Tmp}{oi:Oper}{v:Value}{b:Act}(h:Xr L w0 P ops Q n KD Z I (j::i::ls) b w)(hj:i+1=j:=by simp only[Nat.reduceAdd];rfl)(hi:ops[j]? = some oi:=by rfl)(hd:oi.dst=d:=by(conv=>lhs;whnf);try rfl)(hok:okTake ops (i::ls) KD j=true:=by decide +kernel)(hw:Region.wanted oi (yielded ops a.tmps)=true:=by rfl)
 (hrun:∀w',Kp L w0 w'->(execOp a.eval oi).run P w'=.ok (.value v) w':=by intro w' hk;go_simp;(try with_reducible rfl);done)
 (hb:a.put d v=b:=by(try simp only[Act.put,List.setIfInBounds_toArray,List.set_cons_zero,List.set_cons_succ]);(try with_reducible rfl);done):Xr L w0 P ops Q (n+1) KD Z I (i::ls) a w:=Xr.take j d hi hd hok hw hrun (hb▸h)
theorem Xsn {i j:Nat}{d:Option Tmp}{oi:Oper}{b:Act}(h:Xr L w0 P ops Q n KD Z I (j::i::ls) b w)(hj:i+1=j:=by simp only[Nat.reduceAdd];rfl)(hi:ops[j]? = some oi:=by rfl)(hd:oi.dst=d:=by(conv=>lhs;whnf);try rfl)(hok:okTake ops (i::ls) KD j=true:=by decide +kernel)(hw:Region.wanted oi (yielded ops a.tmps)=false:=by rfl)
 (hb:a.put d undef=b:=by(try simp only[Act.put,List.setIfInBounds_toArray,List.set_cons_zero,List.set_cons_succ]);(try with_reducible rfl);done):Xr L w0 P ops Q (n+1) KD Z I (i::ls) a w:=Xr.skip j d hi hd hok hw (hb▸h)
theorem Xdn (h:∀w',Ext w w'->Kp L w0 w'->Q .normal a w')(hr:Region.ready .any ops (bits ops.size ls)=[]:=by decide +kernel):Xr L w0 P ops Q n [] [] I ls a w:=Xr.done hr h
theorem Xsp (i:Nat){o:Oper}(h:∀w',Ext w w'->Kp L w0 w'->∀K,(∀a2 w2,WI L I w' w2->Kp L w0 w2->Xr L w0 P ops Q n KD Z ((w'.heap.size,w2.heap.size)::I) (i::ls) a2 w2->K a2 w2)->o.wp P a w' K (NoPanic Q))(ho:ops[i]? = some o:=by rfl)
 (hr:(Region.ready .any ops (bits ops.size ls) == [i]&&KD.all fun x=>x.1 != i)=true:=by decide +kernel) (hw:Region.wanted o (yielded ops a.tmps)=true:=by rfl):Xr L w0 P ops Q (n+1) KD Z I ls a w:=Xr.step i ho hr hw h
theorem Xcl (i:Nat){o:Oper}(h:∀w',Ext w w'->Kp L w0 w'->∀K,(∀a2 w2,Ext w' w2->Xr L w0 P ops Q n KD Z ((w'.heap.size,w2.heap.size)::I) (i::ls) a2 w2->K a2 w2)->o.wp P a w' K (NoPanic Q))(ho:ops[i]? = some o:=by rfl)
 (hr:(Region.ready .any ops (bits ops.size ls) == [i]&&KD.all fun x=>x.1 != i)=true:=by decide +kernel) (hw:Region.wanted o (yielded ops a.tmps)=true:=by rfl):Xr L w0 P ops Q (n+1) KD Z I ls a w:=Xr.call i ho hr hw h
end
abbrev Sp:=Int×Int
def has (l:List Sp)(x:Int):Bool:=l.any fun s=>decide (s.1<=x)&&decide (x<=s.2)
theorem has_iff {l:List Sp}{x:Int}:has l x=true<->∃s∈l,s.1<=x/\x<=s.2:=by
 unfold has;simp[List.any_eq_true]
def Canon (l:List Sp):Prop:=(∀s∈l,s.1<=s.2)/\l.Pairwise (fun s t=>s.2+2<=t.1)
def goodS (s:Sp):Prop:=0<=s.1/\s.1<=s.2/\s.2<=1114111
theorem infoS:(Tryz.prog.info? 81).map (fun i=>(i.zero,i.size,i.bytes))=some (some (.agg #[.int .i64 0,.int .i64 0]),2,16):=by kernel_rfl
def flatS (l:List Sp):List Value:=l.flatMap fun s=>[.int .i64 s.1,.int .i64 s.2]
theorem flatS_append (l m:List Sp):flatS (l++m)=flatS l++flatS m:=by simp[flatS]
theorem flatS_cons (s:Sp)(l:List Sp):flatS (s::l)=.int .i64 s.1::.int .i64 s.2::flatS l:=by simp[flatS]
theorem flatS_len (l:List Sp):(flatS l).length=l.length*2:=by
 induction l with
 | nil=>rfl
 | cons y l ih=>rw[flatS_cons];simp only[List.length_cons];omega
theorem flatS_one (l:List Sp):∀u∈flatS l,u.oneCell'=true:=by
 intro u hu;obtain⟨s,_,hs⟩:=List.mem_flatMap.1 hu;simp only[List.mem_cons,List.not_mem_nil,or_false] at hs;rcases hs with rfl|rfl<;>rfl
theorem flatS_get (l:List Sp)(i:Nat)(h:i<l.length):(flatS l)[i*2]? = some (.int .i64 l[i].1)/\(flatS l)[i*2+1]? = some (.int .i64 l[i].2):=by
 induction l generalizing i with
 | nil=>simp at h
 | cons y l ih=>
  cases i with
  | zero=>simp[flatS_cons]
  | succ i=>
   have hi:i<l.length:=by simpa using h
   have e1:(i+1)*2=i*2+2:=om;rw[flatS_cons,e1];exact ih i hi
def S64 (s:Sp):Prop:=I64 s.1/\I64 s.2
structure SL (w:World)(A:Option Addr)(c:Nat)(l:List Sp):Prop where
 le:l.length<=c
 cap:c<=maxLen
 rng:∀s∈l,S64 s
 at_:l≠[]->∃b o,A=some ⟨b,o,none⟩/\∀i (h:i<l.length),w.cell? ⟨b,o+i*2,none⟩=some (.int .i64 l[i].1)/\w.cell? ⟨b,o+i*2+1,none⟩=some (.int .i64 l[i].2)
namespace SL
variable {w w':World} {A:Option Addr} {c:Nat} {l:List Sp}
theorem ext (h:SL w A c l)(k:Ext w w'):SL w' A c l:=by
 refine⟨h.le,h.cap,h.rng,fun hn=>?_⟩;obtain⟨b,o,rfl,hc⟩:=h.at_ hn;exact⟨b,o,rfl,fun i hi=>⟨k.cell (hc i hi).1,k.cell (hc i hi).2⟩⟩
theorem nil (w:World):SL w none 0 []:=⟨Nat.le_refl _,Nat.zero_le _,by simp,fun h=>absurd rfl h⟩
theorem len (h:SL w A c l):l.length<=c/\c<=9223372036854775807:=⟨h.le,by have:=h.cap;unfold maxLen at this;omega⟩
theorem get {k:Nat}(h:SL w A c l)(hk:k<l.length):∃b o,A=some ⟨b,o,none⟩/\w.cell? ⟨b,o+k*2,none⟩=some (.int .i64 l[k].1)/\w.cell? ⟨b,o+k*2+1,none⟩=some (.int .i64 l[k].2):=by
 obtain⟨b,o,rfl,hc⟩:=h.at_ (by intro h0;subst h0;simp at hk);exact⟨b,o,rfl,hc k hk⟩
theorem wf {k:Nat}(h:SL w A c l)(hk:k<l.length):S64 l[k]:=h.rng _ (List.getElem_mem hk)
theorem blt (h:SL w A c l)(hn:l≠[]){b:Nat}(hb:A.map (·.block)=some b):b<w.heap.size:=by
 obtain⟨b',o,rfl,hc⟩:=h.at_ hn;have hbb:b'=b:=by simpa using hb
 subst hbb;have h0:=(hc 0 (List.length_pos_iff.2 hn)).1;exact World.block_lt_of_cell? _ _ h0
theorem of_own {base:Nat}(h:OwnS w base 81 2 A l.length c (flatS l))(hr:∀s∈l,S64 s):SL w A c l:=by
 have hc:=OwnS.caps h;refine⟨hc.1,by unfold maxLen;omega,hr,fun hn=>?_⟩;obtain⟨b,o,hA,hcell⟩:=OwnS.cells h (by intro e;have:=flatS_len l;rw[e] at this;simp at this;exact hn (List.length_eq_zero_iff.1 om));have one:∀(i:Nat) (v:Value),(flatS l)[i]? = some v->w.cell? ⟨b,o+i,none⟩=some v:=fun i v hv=>by
  obtain⟨l1,e1⟩:=List.getElem?_eq_some_iff.1 hv;rw[hcell i l1,e1]
 exact⟨b,o,hA,fun i hi=>⟨one _ _ (flatS_get l i hi).1,by rw[Nat.add_assoc];exact one _ _ (flatS_get l i hi).2⟩⟩
theorem cells (h:SL w A c l):CellsAt w A (flatS l):=by
 intro hn;obtain⟨b,o,hA,hc⟩:=h.at_ (by rintro rfl;exact hn rfl);refine⟨b,o,hA,fun i hi=>?_⟩;have hi2:i / 2<l.length:=by rw[flatS_len] at hi;omega
 obtain⟨g1,g2⟩:=flatS_get l (i / 2) hi2;rcases Nat.mod_two_eq_zero_or_one i with h0|h1
 ·have e:i=i / 2*2:=om;have:=(hc _ hi2).1
  rw[<-e] at this g1;rw[this,<-g1,List.getElem?_eq_getElem]
 ·have e:i=i / 2*2+1:=om;have:=(hc _ hi2).2;rw[Nat.add_assoc,<-e] at this
  rw[<-e] at g2;rw[this,<-g2,List.getElem?_eq_getElem]
end SL
def spV (s:Sp):Value:=.agg #[.int .i64 s.1,.int .i64 s.2]
instance (s:Sp):Decidable (goodS s):=by unfold goodS;infer_instance
def goodB (s:Sp):Bool:=decide (goodS s)
theorem G1z1 {P:Prop} (h:P:=by
 go_enter Tryz.func223,Tryz.ntmps223
 go_wp2
 go_ret
 exact⟨by rw[HR.out];rfl,x1⟩):P:=h
theorem G1z3 {P:Prop} (h:P:=by
 show _=_
 have h:goodB (lo,hi)=true<->(0<=lo/\lo<=hi/\hi<=1114111):=decide_eq_true_iff;rw[Bool.eq_iff_iff,h];simp only[decide_eq_true_eq,Bool.and_eq_true,and_assoc]):P:=h
theorem right_any (s:Sp)(w:World):Calls Tryz.prog 223 #[spV s] w (RetV (.bool (goodB s)) w):=by
 obtain⟨lo,hi⟩:=s;obtain⟨b1,x1⟩:=alloc1 w 81 #[.int .i64 lo,.int .i64 hi];obtain⟨p0,p1,_,_,pz⟩:=b1.c2;have HG:Hid (goodB (lo,hi)=(decide (0<=lo)&&decide (lo<=hi)&&decide (hi<=1114111))):=by
  exact G1z3
 generalize goodB (lo,hi)=r at *;unfold spV
 simp only
 by_cases h0:0<=lo
 ·by_cases h1:lo<=hi
  ·by_cases h2:hi<=1114111
   ·have HR:Hid (r=true):=by show _=_;rw[HG.out];simp[h0,h1,h2]
    exact G1z1
   ·have HR:Hid (r=false):=by show _=_;rw[HG.out];simp[h2]
    exact G1z1
  ·have HR:Hid (r=false):=by show _=_;rw[HG.out];simp[h1]
   exact G1z1
 ·have HR:Hid (r=false):=by show _=_;rw[HG.out];simp[h0]
  exact G1z1
theorem noHas {l:List Sp}{x:Int}(h:∀i (hi:i<l.length),¬(l[i].1<=x/\x<=l[i].2)):has l x=false:=by
 rw[Bool.eq_false_iff];intro hh;obtain⟨s,hs,h1⟩:=has_iff.1 hh;obtain⟨i,hi,rfl⟩:=List.getElem_of_mem hs;exact h i hi h1
theorem yesHas {l:List Sp}{x:Int}{i:Nat}(hi:i<l.length)(h1:l[i].1<=x)(h2:x<=l[i].2):has l x=true:=has_iff.2 ⟨_,List.getElem_mem hi,h1,h2⟩
def depsOf (ops:Array Oper)(k:Nat):List Nat:=match ops[k]? with
 | some o=>(o.after.toList.filter (fun e=>Region.binds .any e)).map (·.on)
 | none=>[]
def Down (ops:Array Oper)(listed:Array Bool):Prop:=∀k,listed.getD k false=true->∀d∈depsOf ops k,listed.getD d false=true
def ancs (ops:Array Oper):Nat->List Nat->List Nat
 | 0,S=>S
 | f+1,S=>ancs ops f ((List.range ops.size).filter fun d=>S.contains d || S.any fun k=>(depsOf ops k).contains d)
theorem ancs_all {ops:Array Oper}{listed:Array Bool}(hD:Down ops listed):∀(f:Nat) (S:List Nat),(∀d∈S,listed.getD d false=true)->∀d∈ancs ops f S,listed.getD d false=true
 | 0,_,h,d,hd=>h d hd
 | f+1,S,h,d,hd=>ancs_all hD f _ (fun x hx=>by
  obtain⟨_,hx⟩:=List.mem_filter.1 hx;rw[Bool.or_eq_true] at hx;rcases hx with hx|hx
  ·exact h x (by simpa using hx)
  ·obtain⟨k,hk,hkx⟩:=List.any_eq_true.1 hx;exact hD k (h k hk) x (by simpa using hkx)) d hd
theorem deps_ready {ops:Array Oper}{listed:Array Bool}{s:Nat}(h:s∈Region.ready .any ops listed):∀d∈depsOf ops s,listed.getD d false=true:=by
 obtain⟨_,o,ho,hall⟩:=mem_ready.1 h;intro d hd;unfold depsOf at hd;rw[ho] at hd;simp only[List.mem_map,List.mem_filter] at hd;obtain⟨e,⟨he,hb⟩,rfl⟩:=hd;exact hall e (by simpa using he) hb
theorem Down.set {ops:Array Oper}{listed:Array Bool}{i:Nat}(hD:Down ops listed)(hi:i∈Region.ready .any ops listed):Down ops (listed.setIfInBounds i true):=by
 intro k hk d hd;by_cases hki:k=i
 ·subst hki;exact getD_set_true (deps_ready hi d hd)
 ·rw[getD_set_ne false (Ne.symm hki)] at hk;exact getD_set_true (hD k hk d hd)
section
variable (P:Program) (ops:Array Oper) (Q:Exit->Act->World->Prop) (w0:World) (s:Nat) (Fin:Nat->Array Bool->Act->World->Prop)
def wpS:Nat->Array Bool->Act->World->Prop
 | 0,listed,_,_=>Down ops listed->False
 | n+1,listed,a,w=>Down ops listed->Region.ready .any ops listed≠[]/\
  (s∈Region.ready .any ops listed->Region.ready .any ops listed=[s]/\∀w',Ext w w'->Ext w0 w'->Fin (n+1) listed a w')/\
  ∀i∈Region.ready .any ops listed,i≠s->∀w',Ext w w'->Ext w0 w'->wpOp P ops Q i (fun a2 w2=>Ext w' w2/\wpS n (listed.setIfInBounds i true) a2 w2) a w'
end
section
variable {P:Program} {ops:Array Oper} {Q:Exit->Act->World->Prop} {w0:World} {s:Nat} {Fin:Nat->Array Bool->Act->World->Prop}
theorem wpS_ext:∀(n:Nat) {listed:Array Bool} {a:Act} {w w':World},wpS P ops Q w0 s Fin n listed a w->Ext w w'->wpS P ops Q w0 s Fin n listed a w'
 | 0,_,_,_,_,h,_=>h
 | _+1,_,_,_,_,h,k=>fun hD=>⟨(h hD).1,fun hs=>⟨((h hD).2.1 hs).1,fun w2 h2 h3=>((h hD).2.1 hs).2 w2 (k.trans h2) h3⟩,fun i hi his w2 h2 h3=>(h hD).2.2 i hi his w2 (k.trans h2) h3⟩
theorem takeS {i:Nat}{oi:Oper}{v:Value}(hi:ops[i]? = some oi)(hsel:∀(j:Nat) (o:Oper) cs b,ops[j]? = some o->o.op≠.select cs b)(hQ:∀c a w,¬Q (.panic c) a w)
 (f:Nat) (hanc:i∈ancs ops f (depsOf ops s)) :
 ∀(n:Nat) {listed:Array Bool} {a:Act} {w:World},
  (∀j oj,ops[j]? = some oj->j≠i->listed.getD j true=false->(∀e∈oj.after,Region.binds .any e=true->e.on≠i)->oi.apart ops oj=true)->
  i∈Region.ready .any ops listed->YieldsIf P ops (Ext w0) oi v a->wpS P ops Q w0 s Fin n (listed.setIfInBounds i true) (a.put oi.dst v) w->wpS P ops Q w0 s Fin (n+1) listed a w:=by
 intro n;induction n with
 | zero=>
  intro listed a w _ hr _ h hD;exact absurd (hD.set hr) h
 | succ n ih=>
  intro listed a w hfree hr hy h hD;have hns:¬s∈Region.ready .any ops listed:=fun hs=>by
   have h1:=ancs_all hD f _ (deps_ready hs) i hanc;have h2:=(mem_ready.1 hr).1;rcases Nat.lt_or_ge i listed.size with h'|h'
   ·simp[h'] at h1 h2;rw[h1] at h2;cases h2
   ·simp[Array.getElem?_eq_none h'] at h1
  refine⟨fun h0=>(by rw[h0] at hr;cases hr),fun hs=>absurd hs hns,fun j hj hjs w' h1 h2=>?_⟩;by_cases hji:j=i
  ·subst hji;exact hy.wpOp hi h2 ⟨Ext.rfl' _,wpS_ext (n+1) h h1⟩
  ·obtain⟨hjun,oj,hoj,hall⟩:=mem_ready.1 hj;have hnot:∀e∈oj.after,Region.binds .any e=true->e.on≠i:=fun e he hb heq=>by
    have h1:=hall e he hb;have h0:=(mem_ready.1 hr).1;rw[heq] at h1;rcases Nat.lt_or_ge i listed.size with h'|h'
    ·simp[h'] at h0 h1;rw[h0] at h1;cases h1
    ·simp[Array.getElem?_eq_none h'] at h1
   have hap:=hfree j oj hoj hji hjun hnot;have h3:=(h (hD.set hr)).2.2 j (ready_mono hj hji) hjs w' h1 h2;have hQ':∀c a w,Q (.panic c) (a.put oi.dst v) w->Q (.panic c) a w:=fun c a w h=>absurd h (hQ _ _ _);have hfree':∀k ok,ops[k]? = some ok->k≠i->(listed.setIfInBounds j true).getD k true=false->
    (∀e∈ok.after,Region.binds .any e=true->e.on≠i)->oi.apart ops ok=true:=fun k ok hk hki hun hno=>hfree k ok hk hki (unlisted_set hun).2 hno
   refine wpOp_mono (fun a2 w2 h4=>?_) (wpOp_putIf hoj hap (fun cs b=>hsel i oi cs b hi) (fun cs b=>hsel j oj cs b hoj) hQ' hy h3);obtain⟨h5,h6,h7⟩:=h4;refine⟨h6,ih hfree' (ready_mono hr (Ne.symm hji)) h5 ?_⟩;rw[Array.setIfInBounds_comm _ _ hji];exact h7
theorem wpAny_of_S (hFin:∀n listed a w,Fin n listed a w->wpAny P .any ops Q n listed a w):∀(n:Nat) {listed:Array Bool} {a:Act} {w:World},Down ops listed->Ext w0 w->wpS P ops Q w0 s Fin n listed a w->wpAny P .any ops Q n listed a w
 | 0,_,_,_,hD,_,h=>absurd hD h
 | n+1,listed,a,w,hD,hx,h=>by
  obtain⟨h0,h1,h2⟩:=h hD;by_cases hs:s∈Region.ready .any ops listed
  ·exact hFin _ _ _ _ ((h1 hs).2 w (Ext.rfl' _) hx)
  ·refine⟨fun hr=>absurd hr h0,fun i hi=>?_⟩;have his:i≠s:=fun e=>hs (e▸hi);exact wpOp_mono (fun a2 w2 h4=>wpAny_of_S hFin n (hD.set hi) (hx.trans h4.1) h4.2) (h2 i hi his w (Ext.rfl' _) hx)
def Xs (L:List Nat)(s:Nat)(w0:World)(P:Program)(ops:Array Oper)(Q:Exit->Act->World->Prop)(n:Nat)(ls:List Nat)(a:Act)(w:World):Prop:=
 wpS P ops (NoPanic Q) w0 s (fun n listed a w=>∃ls,listed=bits ops.size ls/\Xr L w P ops Q n [] [] [] ls a w) n (bits ops.size ls) a w
theorem Xs.start {id:Nat}{a:Act}{w:World}(L:List Nat)(s:Nat)(hm:P.follows .mixedOrders=true)(h:Xs L s w P ops Q ops.size [] a w):(Code.region id ops true).wp P Q a w:=by
 refine wp_region_noPanic (wp_region_any hm ?_);unfold Xs at h;rw[bits_nil] at h;refine wpAny_of_S ?_ _ ?_ (Ext.drew w) (wpS_ext _ h (Ext.drew w))
 ·rintro n listed a w ⟨ls,rfl,hX⟩;exact wpAny_of_X _ (Kp.refl _ _) (hX rfl)
 ·intro k hk
  exfalso
  by_cases hkn:k<ops.size
  ·simp[hkn] at hk
  ·simp[hkn] at hk
variable {n:Nat} {ls:List Nat} {a:Act} {w:World} {L:List Nat}
def okTakeS (ops:Array Oper)(s:Nat)(ls:List Nat)(i:Nat):Bool:=
 Region.noSelect ops&&Region.free .any ops (bits ops.size ls) i&&(Region.ready .any ops (bits ops.size ls)).contains i&&(ancs ops 8 (depsOf ops s)).contains i
theorem Xs.takeY (i:Nat)(d:Option Tmp){oi:Oper}{v:Value}(hi:ops[i]? = some oi)(hd:oi.dst=d)
 (hok:okTakeS ops s ls i=true) (hy:YieldsIf P ops (Ext w0) oi v a) (h:Xs L s w0 P ops Q n (i::ls) (a.put d v) w):Xs L s w0 P ops Q (n+1) ls a w:=by
 subst hd;simp only[okTakeS,Bool.and_eq_true] at hok;obtain⟨⟨⟨h1,h2⟩,h3⟩,h4⟩:=hok;refine takeS hi (Region.noSelect_spec h1) (NoPanic.never Q) 8 (by simpa using h4) n (Region.free_spec hi h2) (by simpa using h3) hy ?_;rw[bits_set];exact h
theorem Xs.take (i:Nat)(d:Option Tmp){oi:Oper}{v:Value}(hi:ops[i]? = some oi)(hd:oi.dst=d)
 (hok:okTakeS ops s ls i=true) (hw:Region.wanted oi (yielded ops a.tmps)=true)
 (hrun:∀w',Ext w0 w'->(execOp a.eval oi).run P w'=.ok (.value v) w') (h:Xs L s w0 P ops Q n (i::ls) (a.put d v) w):Xs L s w0 P ops Q (n+1) ls a w:=
 Xs.takeY i d hi hd hok (.inl ⟨hw,hrun⟩) h
theorem Xst (i:Nat){d:Option Tmp}{oi:Oper}{v:Value}{b:Act}(h:Xs L s w0 P ops Q n (i::ls) b w)(hi:ops[i]? = some oi:=by rfl)(hd:oi.dst=d:=by(conv=>lhs;whnf);try rfl)(hok:okTakeS ops s ls i=true:=by decide +kernel)(hw:Region.wanted oi (yielded ops a.tmps)=true:=by rfl)
 (hrun:∀w',Ext w0 w'->(execOp a.eval oi).run P w'=.ok (.value v) w':=by intro w' hk;go_simp;(try with_reducible rfl);done)
 (hb:a.put d v=b:=by(try simp only[Act.put,List.setIfInBounds_toArray,List.set_cons_zero,List.set_cons_succ]);(try with_reducible rfl);done):Xs L s w0 P ops Q (n+1) ls a w:=Xs.take i d hi hd hok hw hrun (hb▸h)
theorem Xs.call (i:Nat){o:Oper}(ho:ops[i]? = some o)(hr:(Region.ready .any ops (bits ops.size ls) == [i]&&i != s)=true)(hw:Region.wanted o (yielded ops a.tmps)=true)
 (h:∀w',Ext w w'->Ext w0 w'->∀K,(∀a2 w2,Ext w' w2->Xs L s w0 P ops Q n (i::ls) a2 w2->K a2 w2)->o.wp P a w' K (NoPanic Q)):Xs L s w0 P ops Q (n+1) ls a w:=by
 simp only[Bool.and_eq_true,beq_iff_eq,bne_iff_ne,ne_eq] at hr;obtain⟨hr,his⟩:=hr;intro hD;refine⟨by rw[hr];simp,fun hs=>?_,fun j hj hjs w' x1 x2=>?_⟩
 ·rw[hr] at hs;exact absurd (List.mem_singleton.1 hs).symm his
 ·rw[hr] at hj;obtain rfl:=List.mem_singleton.1 hj;refine step_of ho hw fun K' hK'=>h w' x1 x2 K' fun a2 w2 h3 h5=>hK' a2 w2 ⟨h3,?_⟩;rw[bits_set];exact h5
theorem Xscl (i:Nat){o:Oper}(h:∀w',Ext w w'->Ext w0 w'->∀K,(∀a2 w2,Ext w' w2->Xs L s w0 P ops Q n (i::ls) a2 w2->K a2 w2)->o.wp P a w' K (NoPanic Q))(ho:ops[i]? = some o:=by rfl)(hr:(Region.ready .any ops (bits ops.size ls) == [i]&&i != s)=true:=by decide +kernel)(hw:Region.wanted o (yielded ops a.tmps)=true:=by rfl):Xs L s w0 P ops Q (n+1) ls a w:=Xs.call i ho hr hw h
theorem Xs.stop (hr:Region.ready .any ops (bits ops.size ls)=[s])(h:∀w',Ext w w'->Ext w0 w'->Xr L w' P ops Q (n+1) [] [] [] ls a w'):Xs L s w0 P ops Q (n+1) ls a w:=by
 intro _;refine⟨by rw[hr];simp,fun _=>⟨hr,fun w' x1 x2=>⟨ls,rfl,h w' x1 x2⟩⟩,fun j hj hjs=>?_⟩;rw[hr] at hj;exact absurd (List.mem_singleton.1 hj) hjs
end
def blkL (A:Option Addr):List Nat:=(A.map (·.block)).toList
theorem mem_blkL {A:Option Addr}{b:Nat}:b∈blkL A<->A.map (·.block)=some b:=by
 unfold blkL;cases A.map (·.block)<;>simp[eq_comm]
theorem KpP.of_grown {w w':World}{A:Option Addr}(h:w.grownBy w' (A.map (·.block))):KpP (fun b=>A.map (·.block)=some b) w w':=
 ⟨h.os,h.tape,h.output,h.size,fun k hk hn=>h.block k hk (fun e=>hn e.symm)⟩
theorem IL.kp {w w':World}{A:Option Addr}{c:Nat}{xs:List Int}{p:Nat->Prop}(h:IL w A c xs)(k:KpP p w w')(hn:xs≠[]->∀b,A.map (·.block)=some b->¬p b):IL w' A c xs:=by
 refine⟨h.le,h.cap,h.rng,fun hx=>?_⟩;obtain⟨b,o,rfl,hc⟩:=h.at_ hx;refine⟨b,o,rfl,fun i hi=>?_⟩;have h1:=hc i hi;rw[World.cell?_of_block (w:=w) (k.block b (World.block_lt_of_cell? _ _ h1) (hn hx b rfl))];exact h1
theorem OwnS.blt {w:World}{base e size n c:Nat}{A:Option Addr}{xs:List Value}(h:OwnS w base e size A n c xs){b:Nat}(hb:A.map (·.block)=some b):b<w.heap.size/\∃cur,w.heap[b]? = some (.cells cur e (0,0)):=by
 rcases h.form with⟨rfl,_⟩|⟨g,cur,rfl,_,hh,_⟩
 ·simp at hb
 ·have:g=b:=by simpa using hb
  subst this;exact⟨(Array.getElem?_eq_some_iff.1 hh).1,cur,hh⟩
theorem OwnS.kp {w w':World}{base e size n c:Nat}{A:Option Addr}{xs:List Value}{p:Nat->Prop}(h:OwnS w base e size A n c xs)(k:KpP p w w')(hn:∀b,A.map (·.block)=some b->¬p b):OwnS w' base e size A n c xs:=by
 refine⟨h.1,?_⟩;rcases h.2 with h2|⟨g,cap,cur,hv,hg,hh,r⟩
 ·exact Or.inl h2
 ·refine Or.inr ⟨g,cap,cur,hv,hg,?_,r⟩;injection hv with e1 _ _
  subst e1;exact(k.block g (Array.getElem?_eq_some_iff.1 hh).1 (hn g rfl)).trans hh
theorem KpP.kp {p:Nat->Prop}{a b:World}{L:List Nat}(h:Kp L a b)(hp:∀i∈L,p i):KpP p a b:=⟨h.os,h.tape,h.output,h.size,fun k hk hn=>h.block k hk (fun hm=>hn (hp k hm))⟩
theorem WI_kp {L:List Nat}{I:List (Nat×Nat)}{a b:World}{p:Nat->Prop}(h:KpP p a b)(hp:∀i,p i->i∈L):WI L I a b:=KpP.mono h (fun k hk=>.inl (hp k hk))
theorem Kp.kpP {L:List Nat}{a b c:World}{p:Nat->Prop}(h:Kp L a b)(k:KpP p b c)(hp:∀i,p i->i∈L):Kp L a c:=
 ⟨k.os.trans h.os,k.tape.trans h.tape,k.output.trans h.output,Nat.le_trans h.size k.size,fun i hi hn=>(k.block i (Nat.lt_of_lt_of_le hi h.size) (fun hq=>hn (hp i hq))).trans (h.block i hi hn)⟩
theorem blk_cells {w:World}{g T:Nat}{cs:List Value}(h:Blk w g T cs.toArray):CellsAt w (some ⟨g,0,none⟩) cs:=fun _=>⟨g,0,rfl,fun i hi=>by rw[h.cell];simp[hi]⟩
theorem KpP.thenGrown {p:Nat->Prop}{a b c:World}{A:Option Addr}(h:KpP p a b)(k:b.grownBy c (A.map (·.block)))(hp:∀i,A.map (·.block)=some i->a.heap.size<=i):KpP p a c:=by
 have kk:=KpP.of_grown k;exact⟨kk.os.trans h.os,kk.tape.trans h.tape,kk.output.trans h.output,Nat.le_trans h.size kk.size,fun i hi hn=>(kk.block i (Nat.lt_of_lt_of_le hi h.size) (fun hm=>by have:=hp i hm;omega)).trans (h.block i hi hn)⟩
theorem Ext.kp {p:Nat->Prop}{a b c:World}(h:Ext a b)(k:KpP p b c)(hp:∀i,p i->a.heap.size<=i):Ext a c:=
 ⟨k.os.trans h.os,k.tape.trans h.tape,k.output.trans h.output,Nat.le_trans h.size k.size,fun i hi=>(k.block i (Nat.lt_of_lt_of_le hi h.size) (fun hq=>by have:=hp i hq;omega)).trans (h.block i hi)⟩
theorem own_blk {w:World}{b1 e1 s1 n1 c1 g T:Nat}{A:Option Addr}{xs:List Value}{cs:Array Value}(h:OwnS w b1 e1 s1 A n1 c1 xs)(k:Blk w g T cs)(hne:e1≠T):A.map (·.block)≠some g:=fun e=>by
 obtain⟨_,cur,hh⟩:=OwnS.blt h e;unfold Blk at k;rw[k] at hh;injection hh with hh;injection hh with _ h2
 exact hne h2.symm
theorem blk_blk {w:World}{g h T U:Nat}{cs ds:Array Value}(k:Blk w g T cs)(l:Blk w h U ds)(hne:T≠U):g≠h:=by
 rintro rfl;unfold Blk at k l;rw[k] at l;injection l with l;injection l with _ h2
 exact hne h2
end
section
abbrev St:=List Nat
structure Ins where
 op:Int
 x:Int
 y:Int
 n:Int
 set:List Sp
def addR (G:List Ins):Nat->List Nat×List Nat->Nat->List Nat×List Nat
 | 0,s,_=>s
 | f+1,s,pc=>if pc∈s.2 then s else
  match G[pc]? with
  | none=>s
  | some i=>
   if i.op=2 then addR G f (addR G f (s.1,s.2++[pc]) i.x.toNat) i.y.toNat
   else if i.op=3 then addR G f (s.1,s.2++[pc]) i.x.toNat
   else if i.op=4 then addR G f (s.1,s.2++[pc]) (pc+1)
   else(s.1++[pc],s.2++[pc])
def addP (G:List Ins):Nat->List Nat×List Nat->Nat->(List Nat×List Nat)×Bool
 | 0,s,_=>(s,true)
 | f+1,s,pc=>if pc∈s.2 then(s,true) else
  match G[pc]? with
  | none=>(s,true)
  | some i=>
   if i.op=2 then
    if(addP G f (s.1,s.2++[pc]) i.x.toNat).2=true then addP G f (addP G f (s.1,s.2++[pc]) i.x.toNat).1 i.y.toNat
    else addP G f (s.1,s.2++[pc]) i.x.toNat
   else if i.op=3 then addP G f (s.1,s.2++[pc]) i.x.toNat
   else if i.op=4 then addP G f (s.1,s.2++[pc]) (pc+1)
   else((s.1++[pc],s.2++[pc]),decide (i.op≠0))
def isD (G:List Ins)(pc:Nat):Bool:=match G[pc]? with|some i=>decide (i.op=0)|none=>false
theorem addR_pre (G:List Ins):∀f s pc,∃t,(addR G f s pc).1=s.1++t
 | 0,s,pc=>⟨[],by simp[addR]⟩
 | f+1,s,pc=>by
  unfold addR
  split
  ·exact⟨[],by simp⟩
  ·split
   ·exact⟨[],by simp⟩
   ·rename_i i _
    split
    ·obtain⟨t1,h1⟩:=addR_pre G f (s.1,s.2++[pc]) i.x.toNat;obtain⟨t2,h2⟩:=addR_pre G f (addR G f (s.1,s.2++[pc]) i.x.toNat) i.y.toNat;exact⟨t1++t2,by rw[h2,h1,List.append_assoc]⟩
    ·split
     ·exact addR_pre G f (s.1,s.2++[pc]) i.x.toNat
     ·split
      ·exact addR_pre G f (s.1,s.2++[pc]) (pc+1)
      ·exact⟨[pc],rfl⟩
theorem addP_addR (G:List Ins):∀f s pc,(∀p∈s.1,isD G p=false)->
 ((addP G f s pc).2=true/\addR G f s pc=(addP G f s pc).1/\∀p∈(addP G f s pc).1.1,isD G p=false)\/
 ((addP G f s pc).2=false/\∃u d t,(addP G f s pc).1.1=u++[d]/\(∀p∈u,isD G p=false)/\isD G d=true/\(addR G f s pc).1=u++[d]++t)
 | 0,s,pc,h=>.inl ⟨rfl,rfl,h⟩
 | f+1,s,pc,h=>by
  unfold addP addR;by_cases hm:pc∈s.2
  ·simp only[hm,if_true];exact .inl ⟨trivial,trivial,h⟩
  ·simp only[hm,if_false]
   cases hg:G[pc]? with
   | none=>exact .inl ⟨rfl,rfl,h⟩
   | some i=>
    simp only
    by_cases h2:i.op=2
    ·simp only[h2,if_true];rcases addP_addR G f (s.1,s.2++[pc]) i.x.toNat h with⟨e1,e2,e3⟩|⟨e1,u,d,t,e2,e3,e4,e5⟩
     ·simp only[e1,if_true];rw[e2];exact addP_addR G f _ i.y.toNat e3
     ·simp only[e1];obtain⟨t2,h3⟩:=addR_pre G f (addR G f (s.1,s.2++[pc]) i.x.toNat) i.y.toNat;exact .inr ⟨e1,u,d,t++t2,e2,e3,e4,by rw[h3,e5];simp only[List.append_assoc]⟩
    ·simp only[h2,if_false];by_cases h3:i.op=3
     ·simp only[h3,if_true];exact addP_addR G f (s.1,s.2++[pc]) i.x.toNat h
     ·simp only[h3,if_false];by_cases h4:i.op=4
      ·simp only[h4,if_true];exact addP_addR G f (s.1,s.2++[pc]) (pc+1) h
      ·simp only[h4,if_false];by_cases h0:i.op=0
       ·right
        refine⟨by simp[h0],s.1,pc,[],rfl,h,by simp[isD,hg,h0],by simp⟩
       ·left
        refine⟨by simp[h0],trivial,fun p hp=>?_⟩;rcases List.mem_append.1 hp with hp|hp
        ·exact h p hp
        ·have:p=pc:=by simpa using hp
         subst this;simp[isD,hg,h0]
def listR (G:List Ins)(N:Nat)(from_:List Nat):List Nat×List Nat:=from_.foldl (addR G N) ([],[])
def listP (G:List Ins)(N:Nat):List Nat->List Nat×List Nat->List Nat×List Nat
 | [],s=>s
 | p::r,s=>if(addP G N s p).2=true then listP G N r (addP G N s p).1 else(addP G N s p).1
def cutD (G:List Ins):List Nat->List Nat
 | []=>[]
 | p::r=>if isD G p=true then[p] else p::cutD G r
theorem cutD_none {G:List Ins}:∀{l:List Nat},(∀p∈l,isD G p=false)->cutD G l=l
 | [],_=>rfl
 | p::r,h=>by
  unfold cutD;rw[h p si];simp only[Bool.false_eq_true,if_false];rw[cutD_none (fun q hq=>h q (by simp[hq]))]
theorem cutD_at {G:List Ins}{d:Nat}{t:List Nat}(hd:isD G d=true):∀{u:List Nat},(∀p∈u,isD G p=false)->cutD G (u++[d]++t)=u++[d]
 | [],_=>by simp[cutD,hd]
 | p::r,h=>by
  simp only[List.cons_append];unfold cutD;rw[h p si];simp only[Bool.false_eq_true,if_false];have:=cutD_at (t:=t) hd (u:=r) (fun q hq=>h q (by simp[hq]));simp only[List.append_assoc,List.singleton_append] at this ⊢;rw[this]
theorem foldR_pre (G:List Ins)(N:Nat):∀(r:List Nat) (s:List Nat×List Nat),∃t,(r.foldl (addR G N) s).1=s.1++t
 | [],s=>⟨[],by simp⟩
 | p::r,s=>by
  obtain⟨t1,h1⟩:=addR_pre G N s p;obtain⟨t2,h2⟩:=foldR_pre G N r (addR G N s p);exact⟨t1++t2,by rw[List.foldl_cons,h2,h1,List.append_assoc]⟩
theorem listP_listR (G:List Ins)(N:Nat):∀(r:List Nat) (s:List Nat×List Nat),(∀p∈s.1,isD G p=false)->(listP G N r s).1=cutD G (r.foldl (addR G N) s).1
 | [],s,h=>by simp[listP,cutD_none h]
 | p::r,s,h=>by
  unfold listP;rw[List.foldl_cons];rcases addP_addR G N s p h with⟨e1,e2,e3⟩|⟨e1,u,d,t,e2,e3,e4,e5⟩
  ·simp only[e1,if_true];rw[e2];exact listP_listR G N r _ e3
  ·simp only[e1];obtain⟨t2,h2⟩:=foldR_pre G N r (addR G N s p);rw[h2,e5,List.append_assoc];simp only[Bool.false_eq_true,if_false];rw[e2,cutD_at e4 e3]
def stateG (G:List Ins)(from_:List Nat):List Nat:=cutD G (listR G (G.length+1) from_).1
theorem state_prog (G:List Ins)(from_:List Nat):(listP G (G.length+1) from_ ([],[])).1=stateG G from_:=listP_listR G _ from_ _ si
def grow (L:List St)(s:St):List St:=if s=[]\/s∈L then L else L++[s]
inductive Rch {α:Type} (E:α->α->Prop):α->α->Prop
 | one {a b:α}:E a b->Rch E a b
 | cons {a b c:α}:E a b->Rch E b c->Rch E a c
theorem Rch.trans {α:Type}{E:α->α->Prop}{a b c:α}(h:Rch E a b)(k:Rch E b c):Rch E a c:=by
 induction h with
 | one h=>exact .cons h k
 | cons h _ ih=>exact .cons h (ih k)
end
section
open Go.RowKit
theorem G2z1 {P:Prop} (h:P:=by
 clear HI2 HY2 HN HY
 go_wp2
 go_roundw
 case rel=>exact⟨i+1,by go_num,om,HI3,x2⟩
 case measure=>simp[intOf];omega):P:=h
theorem sHas_any (A:Option Addr)(c:Nat)(l:List Sp)(x:Int)(w:World)(hl:SL w A c l):Calls Tryz.prog 171 #[.slice A l.length c,.int .i64 x] w (RetV (.bool (has l x)) w):=by
 have hlen:=hl.len;have HN:=fun h=>lh (noHas (l:=l) (x:=x) h);have HY:=fun i hi h1 h2=>lh (yesHas (l:=l) (x:=x) (i:=i) hi h1 h2);generalize has l x=r at *;go_enter Tryz.func171,Tryz.ntmps171
 go_wp2
 go_loopw [9] (fun v wr=>∃i:Nat,v=.int .i64 i/\i<=l.length/\Hid (∀j (hj:j<l.length),j<i->¬(l[j].1<=x/\x<=l[j].2))/\Ext w wr) (fun v _=>l.length-(intOf v).toNat)
 case atStart=>exact⟨0,rfl,om,fun j _ hj=>absurd hj (Nat.not_lt_zero _),Ext.rfl' _⟩
 case round=>
  obtain⟨i,rfl,hi,HI,x1⟩:=hrel;by_cases hlt:i<l.length
  ·obtain⟨b,o,rfl,g1,g2⟩:=(hl.ext x1).get hlt;have hI:(i:Int)<l.length:=om;have HI2:=lh (show ¬(l[i].1<=x/\x<=l[i].2)->∀j (hj:j<l.length),j<i+1->¬(l[j].1<=x/\x<=l[j].2) from fun hn j hj hji=>by
    rcases Nat.lt_or_ge j i with h1|h1
    ·exact HI.out j hj h1
    ·have:j=i:=om;subst this;exact hn)
   have HY2:=HY i hlt;generalize l[i]=s at *;obtain⟨lo,hi2⟩:=s
   simp only at g1 g2 HI2 HY2
   obtain⟨b1,xa⟩:=alloc1 wr 81 #[.int .i64 lo,.int .i64 hi2];obtain⟨p0,p1,_,_,pz⟩:=b1.c2;have x2:=x1.trans xa;by_cases h1:lo<=x
   ·by_cases h2:x<=hi2
    ·have HR:=HY2 h1 h2;clear HI2 HY2 HN HY
     go_wp2
     go_ret
     exact⟨by rw[HR.out];rfl,x2⟩
    ·have HI3:=lh (HI2.out (fun h=>h2 h.2));exact G2z1
   ·have HI3:=lh (HI2.out (fun h=>h1 h.1));exact G2z1
  ·have hI:¬(i:Int)<l.length:=om;have HR:=HN (fun j hj=>HI.out j hj om);clear HN HY
   go_wp2
   go_ret
   exact⟨by rw[HR.out];rfl,x1⟩
def okAt (l:List Sp)(i:Nat):Prop:=∀h:i<l.length,goodS l[i]/\(0<i->(l.getD (i-1) (0,0)).2+2<=l[i].1)
def OkL (l:List Sp):Prop:=∀i,i<l.length->okAt l i
open Classical in
noncomputable def validE (l:List Sp):Int:=if OkL l then(if 64<l.length then 4 else 0) else 1
theorem validE_bad {l:List Sp}{i:Nat}(hi:i<l.length)(h:¬okAt l i):validE l=1:=by
 unfold validE;rw[if_neg (fun hk=>h (hk i hi))]
theorem validE_ok {l:List Sp}(h:OkL l):validE l=if 64<l.length then 4 else 0:=by
 unfold validE;rw[if_pos h]
theorem okStep {l:List Sp}{i:Nat}(hi:i<l.length)(h:∀j,j<i->okAt l j) :
 (i=0->(goodS l[i]->okAt l i))/\(0<i->∃p:Sp,l[i-1]? = some p/\goodS p/\(goodS l[i]->p.2+2<=l[i].1->okAt l i)/\(¬(p.2+2<=l[i].1)->¬okAt l i))/\(¬goodS l[i]->¬okAt l i):=by
 refine⟨fun h0 hg _=>⟨hg,fun h1=>om⟩,fun h0=>?_,fun hg hk=>hg (hk hi).1⟩;have h1:i-1<l.length:=om;have hd:l.getD (i-1) (0,0)=l[i-1]:=by simp[List.getD_eq_getElem?_getD,List.getElem?_eq_getElem h1]
 refine⟨l[i-1],List.getElem?_eq_getElem h1,(h (i-1) om h1).1,fun hg hp _=>⟨hg,fun _=>by rw[hd];exact hp⟩,fun hp hk=>hp ?_⟩;have:=(hk hi).2 h0;rw[hd] at this;exact this
theorem okMore {l:List Sp}{i:Nat}(h:∀j,j<i->okAt l j)(hi:okAt l i):∀j,j<i+1->okAt l j:=fun j hj=>by
 rcases Nat.lt_or_ge j i with h1|h1
 ·exact h j h1
 ·have:j=i:=om;subst this;exact hi
end
def symV (runes:Bool)(x:Int):Bool:=if runes=true then decide (0<=x/\x<55296) || decide (57343<x/\x<=1114111) else decide (0<=x/\x<=255)
def topV (runes:Bool):Int:=if runes=true then 1114111 else 255
def symAt (G:List Ins)(c:Int)(p:Nat):Bool:=match G[p]? with|some i=>decide (i.op=1)&&has i.set c|none=>false
def nextG (G:List Ins)(l:St)(c:Int):St:=stateG G ((l.filter (symAt G c)).map (·+1))
def doneG (G:List Ins)(l:St):Bool:=match l.getLast? with|some p=>isD G p|none=>false
theorem nextG_nil (G:List Ins)(c:Int):nextG G [] c=[]:=rfl
theorem doneG_nil (G:List Ins):doneG G []=false:=rfl
theorem doneG_last {G:List Ins}{l:St}(h:l≠[]):doneG G l=isD G (l.getLast h):=by
 unfold doneG;rw[List.getLast?_eq_some_getLast h]
theorem cutD_sub {G:List Ins}:∀{l:List Nat} {p:Nat},p∈cutD G l->p∈l
 | q::r,p,h=>by
  unfold cutD at h
  split at h
  ·have:p=q:=by simpa using h
   subst this;simp
  ·rcases List.mem_cons.1 h with rfl|h
   ·simp
   ·exact List.mem_cons_of_mem _ (cutD_sub h)
def SeenOk (n:Nat)(seen:List Nat):Prop:=seen.Nodup/\∀p∈seen,p<n
theorem SeenOk.nil (n:Nat):SeenOk n []:=⟨by simp,by simp⟩
theorem SeenOk.len {n:Nat}{seen:List Nat}(h:SeenOk n seen):seen.length<=n:=by
 have h1:=List.Nodup.length_le_of_subset (l₁:=seen) (l₂:=List.range n) h.1 (fun p hp=>List.mem_range.2 (h.2 p hp))
 rwa [List.length_range] at h1
theorem SeenOk.snoc {n:Nat}{seen:List Nat}(h:SeenOk n seen){pc:Nat}(hp:pc<n)(hn:pc∉seen):SeenOk n (seen++[pc]):=by
 refine⟨?_,fun p hp2=>?_⟩
 ·rw[List.nodup_append];exact⟨h.1,by simp,fun a ha b hb=>by
   have:b=pc:=by simpa using hb
   subst this;rintro rfl;exact hn ha⟩
 ·rcases List.mem_append.1 hp2 with h1|h1
  ·exact h.2 p h1
  ·have:p=pc:=by simpa using h1
   omega
section
open Go.RowKit
theorem Kp.grownL {L:List Nat}{a b c:World}{A:Option Addr}(h:Kp L a b)(k:b.grownBy c (A.map (·.block)))(hp:∀i,A.map (·.block)=some i->i∈L\/a.heap.size<=i):Kp L a c:=
 ⟨k.os.trans h.os,k.tape.trans h.tape,k.output.trans h.output,Nat.le_trans h.size k.size,fun i hi hn=>(k.block i (Nat.lt_of_lt_of_le hi h.size) (fun e=>by
  rcases hp i e.symm with h1|h1
  ·exact hn h1
  ·omega)).trans (h.block i hi hn)⟩
theorem WI_grown {L:List Nat}{I:List (Nat×Nat)}{w w':World}{A:Option Addr}(k:w.grownBy w' (A.map (·.block)))(hp:∀i,A.map (·.block)=some i->i∈L\/InI I i):WI L I w w':=
 ⟨k.os,k.tape,k.output,k.size,fun i hi hn=>k.block i hi (fun e=>hn (hp i e.symm))⟩
theorem sValid_any (A:Option Addr)(c:Nat)(l:List Sp)(w:World)(hl:SL w A c l):Calls Tryz.prog 166 #[.slice A l.length c] w (RetV (.int .i64 (validE l)) w):=by
 have hlen:=hl.len;have HB:=fun i hi h=>lh (validE_bad (l:=l) (i:=i) hi h);have HK:=fun h=>lh (validE_ok (l:=l) h);generalize validE l=r at *;go_enter Tryz.func166,Tryz.ntmps166
 go_wp2
 go_loopw [7] (fun v wr=>∃i:Nat,v=.int .i64 i/\i<=l.length/\Hid (∀j,j<i->okAt l j)/\Ext w wr) (fun v _=>l.length-(intOf v).toNat)
 case atStart=>exact⟨0,rfl,om,fun j hj=>absurd hj (Nat.not_lt_zero _),Ext.rfl' _⟩
 case round=>
  obtain⟨i,rfl,hi,HI,x1⟩:=hrel;by_cases hlt:i<l.length
  ·obtain⟨s1,s2,s3⟩:=okStep hlt HI.out;have HB2:=HB i hlt;have HM:=fun h=>lh (okMore HI.out h);obtain⟨b,o,rfl,g1,g2⟩:=(hl.ext x1).get hlt;have h64:=hl.wf hlt;have hI:(i:Int)<l.length:=om;by_cases h0:0<i
   ·obtain⟨p,hp,hpg,s4,s5⟩:=s2 h0;have h1l:i-1<l.length:=om;rw[List.getElem?_eq_getElem h1l] at hp;injection hp with hp
    obtain⟨b2,o2,hA2,g4,g3⟩:=(hl.ext x1).get h1l;obtain⟨rfl,rfl⟩:b=b2/\o=o2:=by injection hA2 with h1;injection h1 with h2 h3 h4;exact⟨h2,h3⟩
    rw[hp] at g3;clear s1 s2 hA2 hp g4 h1l HI HB;obtain⟨k,rfl⟩:∃k,i=k+1:=⟨i-1,om⟩;simp only[Nat.add_sub_cancel] at g3;generalize l[k+1]=s at *;obtain⟨lo,hi2⟩:=s;obtain⟨plo,phi⟩:=p
    simp only at g1 g2 g3 s4 s5 hpg
    have hG:=fun(W':World)=>lh (right_any (lo,hi2) W');unfold spV at hG
    simp only at hG
    have hphi:0<=phi/\phi<=1114111:=by unfold goodS at hpg;simp only at hpg;omega
    have hki:(0:Int)<(k:Int)+1:=om;have hwk:IntKind.i64.wrap ((k:Int)+1-1)=(k:Int):=wj;have hwk2:IntKind.i64.wrap (k:Int)=(k:Int):=wj;have hk0:(0:Int)<=(k:Int)+1:=om;have hk1:(k:Int)+1<(l.length:Int):=om;have hk2:(k:Int)<(l.length:Int):=om;have hto:((k:Int)+1).toNat=k+1:=om;have hwd:IntKind.i64.wrap (phi+2)=phi+2:=wj;obtain⟨b1,xa⟩:=alloc1 wr 81 #[.int .i64 lo,.int .i64 hi2];have x2:=x1.trans xa;have g3a:=xa.cell g3;obtain⟨p0,p1,_,_,pz⟩:=b1.c2
    go_upto_region 4 with fail
    obtain⟨gs,hgs⟩:∃gs,gs=wr.heap.size:=⟨_,rfl⟩
    rw[<-hgs] at b1 p0 p1 pz ⊢;generalize wr.alloc (.cells #[.int .i64 lo,.int .i64 hi2] 81)=wa at *;have k0:=kc0 p0;have k1:=kc0 p1;have k3:=kc0 g3a;clear xa hgs;by_cases hg:goodS (lo,hi2)
    ·have hgB:goodB (lo,hi2)=true:=decide_eq_true hg;rw[hgB] at hG;by_cases hp:phi+2<=lo
     ·have hd:¬lo<phi+2:=om;have HE:=HM (s4 hg om);clear s3 s4 s5 HB2 HM HK hp;refine Xr.start [] kr ?_;refine Xtk 0 ?_;refine Xcl 1 fun w2 hE2 hK2 K hKK=>?_;go_simp;refine(hG _).out.mono ?_;rintro e w3 ⟨rfl,x3⟩;refine hKK _ _ x3 ?_;clear hKK hG;refine ptm ?_;refine Xtk 2 ?_;refine Xtn ?_
      iterate 14(first|refine Xtn ?_|refine Xsn ?_)
      refine Xtn ?_;refine Xdn fun w4 hE4 hK4=>?_;have x4:=x2.trans hK4.nil;clear k0 k1 k3 p0 p1 g1 g2 g3 g3a hd hE2 hK2 x3 hE4 hK4 b1
      go_wp2_with fail
      go_roundw
      case rel=>exact⟨k+1+1,by go_num,om,HE,x4⟩
      case measure=>simp[intOf];omega
     ·have hd:lo<phi+2:=om;have HE:=HB2 (s5 om);clear s3 s4 s5 HB2 HM HK hp;refine Xr.start [] kr ?_;refine Xtk 0 ?_;refine Xcl 1 fun w2 hE2 hK2 K hKK=>?_;go_simp;refine(hG _).out.mono ?_;rintro e w3 ⟨rfl,x3⟩;refine hKK _ _ x3 ?_;clear hKK hG;refine ptm ?_;refine Xtk 2 ?_;refine Xtn ?_
      iterate 14(first|refine Xtn ?_|refine Xsn ?_)
      refine Xtn ?_;refine Xdn fun w4 hE4 hK4=>?_;have x4:=x2.trans hK4.nil;clear k0 k1 k3 p0 p1 g1 g2 g3 g3a hd hE2 hK2 x3 hE4 hK4 b1
      go_wp2_with fail
      go_ret
      exact⟨by rw[HE.out];rfl,x4⟩
    ·have hgB:goodB (lo,hi2)=false:=decide_eq_false hg;rw[hgB] at hG;have HE:=HB2 (s3 hg);clear s3 s4 s5 HB2 HM HK;refine Xr.start [] kr ?_;refine Xtk 0 ?_;refine Xcl 1 fun w2 hE2 hK2 K hKK=>?_;go_simp;refine(hG _).out.mono ?_;rintro e w3 ⟨rfl,x3⟩;refine hKK _ _ x3 ?_;clear hKK hG;refine ptm ?_;refine Xtk 2 ?_;refine Xtn ?_
     iterate 14(first|refine Xtn ?_|refine Xsn ?_)
     refine Xtn ?_;refine Xdn fun w4 hE4 hK4=>?_;have x4:=x2.trans hK4.nil;clear k0 k1 k3 p0 p1 g1 g2 g3 g3a hE2 hK2 x3 hE4 hK4 b1
     go_wp2_with fail
     go_ret
     exact⟨by rw[HE.out];rfl,x4⟩
   ·obtain rfl:i=0:=om;clear s2 HI HB;generalize l[0]=s at *;obtain⟨lo,hi2⟩:=s;simp only[Nat.zero_mul,Nat.add_zero] at g1 g2 s1 s3;have hG:=fun(W':World)=>lh (right_any (lo,hi2) W');unfold spV at hG
    simp only at hG
    obtain⟨b1,xa⟩:=alloc1 wr 81 #[.int .i64 lo,.int .i64 hi2];have x2:=x1.trans xa;obtain⟨p0,p1,_,_,pz⟩:=b1.c2
    go_upto_region 4 with fail
    obtain⟨gs,hgs⟩:∃gs,gs=wr.heap.size:=⟨_,rfl⟩
    rw[<-hgs] at b1 p0 p1 pz ⊢;generalize wr.alloc (.cells #[.int .i64 lo,.int .i64 hi2] 81)=wa at *;have k0:=kc0 p0;have k1:=kc0 p1;clear xa hgs;by_cases hg:goodS (lo,hi2)
    ·have hgB:goodB (lo,hi2)=true:=decide_eq_true hg;rw[hgB] at hG;have HE:=HM (s1 trivial hg);clear HB2 HM HK s1 s3;refine Xr.start [] kr ?_;refine Xtk 0 ?_;refine Xcl 1 fun w2 hE2 hK2 K hKK=>?_;go_simp;refine(hG _).out.mono ?_;rintro e w3 ⟨rfl,x3⟩;refine hKK _ _ x3 ?_;clear hKK hG;refine ptm ?_;refine Xtk 2 ?_;refine Xtn ?_
     iterate 14(first|refine Xtn ?_|refine Xsn ?_)
     refine Xtn ?_;refine Xdn fun w4 hE4 hK4=>?_;have x4:=x2.trans hK4.nil;clear k0 k1 p0 p1 g1 g2 hE2 hK2 x3 hE4 hK4 b1
     go_wp2_with fail
     go_roundw
     case rel=>exact⟨1,by go_num,om,HE,x4⟩
     case measure=>simp[intOf];omega
    ·have hgB:goodB (lo,hi2)=false:=decide_eq_false hg;rw[hgB] at hG;have HE:=HB2 (s3 hg);clear HB2 HM HK s1 s3;refine Xr.start [] kr ?_;refine Xtk 0 ?_;refine Xcl 1 fun w2 hE2 hK2 K hKK=>?_;go_simp;refine(hG _).out.mono ?_;rintro e w3 ⟨rfl,x3⟩;refine hKK _ _ x3 ?_;clear hKK hG;refine ptm ?_;refine Xtk 2 ?_;refine Xtn ?_
     iterate 14(first|refine Xtn ?_|refine Xsn ?_)
     refine Xtn ?_;refine Xdn fun w4 hE4 hK4=>?_;have x4:=x2.trans hK4.nil;clear k0 k1 p0 p1 g1 g2 hE2 hK2 x3 hE4 hK4 b1
     go_wp2_with fail
     go_ret
     exact⟨by rw[HE.out];rfl,x4⟩
  ·have hI:¬(i:Int)<l.length:=om;have HR:=HK (fun j hj=>HI.out j om);clear HK HB HI;by_cases h64:64<l.length
   ·have HR2:Hid (r=4):=by show _=_;rw[HR.out,if_pos h64]
    have hI64:(64:Int)<l.length:=om;clear HR
    go_wp2
    go_ret
    exact⟨by rw[HR2.out];rfl,x1⟩
   ·have HR2:Hid (r=0):=by show _=_;rw[HR.out,if_neg h64]
    have hI64:¬(64:Int)<l.length:=om;clear HR
    go_wp2
    go_ret
    exact⟨by rw[HR2.out];rfl,x1⟩
end
section
open Go.RowKit
open Go.ChangeMaps (setBlock)
structure KLaw {α:Type}[DecidableEq α](P:Program)(k:TypeId)(kv:α->Value):Prop where
 check:∀(e:Bool) (x:α) (w:World),(Instr.checkKey e 10000 k (kv x)).run P w=.ok () w
 find:∀(x:α) (es:List MapEntry) (ks:List α),es.map (·.key)=ks.map kv->∀w:World,(Instr.findKey k (kv x) es).run P w=.ok ((ks.findIdx? (· == x)).map fun i=>(i,((es[i]?).map (·.val)).getD undef)) w
 same:∀x:α,Instr.sameBits 10000 (kv x) (kv x)=true
theorem findNow_int {kd:IntKind}{k:IntKind}(x:Int):∀(es:List MapEntry) (ks:List Int) (j:Nat),es.map (·.key)=ks.map (Value.int kd)->
 Instr.findNow (.int k) (.int kd x) es j=some ((ks.findIdx? (· == x)).map fun i=>(j+i,((es[i]?).map (·.val)).getD undef))
 | [],[],_,_=>by simp[Instr.findNow]
 | [],_::_,_,h=>by simp at h
 | _::_,[],_,h=>by simp at h
 | e::es,y::ks,j,h=>by
  simp only[List.map_cons,List.cons.injEq] at h;simp only[Instr.findNow,h.1,Instr.sameNow,if_true];have ih:=findNow_int (k:=k) x es ks (j+1) h.2;by_cases hxy:x=y
  ·subst hxy;simp[List.findIdx?_cons]
  ·have e1:(x == y)=false:=by simp[hxy]
   have e2:(y == x)=false:=by simp;exact fun e=>hxy e.symm
   rw[e1];simp only[ih,List.findIdx?_cons,e2,Bool.false_eq_true,if_false,Option.map_map]
   congr 2
   funext i
   simp only[Function.comp,List.getElem?_cons_succ]
   congr 1;omega
theorem int_klaw {P:Program}{k:TypeId}{kd:IntKind}(hk:P.underlying k=some (.int kd)):KLaw P k (Value.int kd) where
 check:=fun e x w=>by
  unfold Instr.checkKey;simp[Sem.run_bind,run_underlying hk]
 find:=fun x es ks h w=>by
  unfold Instr.findKey;simp only[Sem.run_bind,run_underlying hk,Result.andThen_ok,findNow_int x es ks 0 h]
  simp
 same:=fun x=>by simp[Instr.sameBits]
section
variable {α β:Type}
def MapAt (w:World)(b:Nat)(kv:α->Value)(vv:β->Value)(l:List (α×β)):Prop:=
 ∃(es:Array MapEntry) (clock:Nat),w.heap[b]? = some (.map es clock)/\es.toList.map (fun e=>(e.key,e.val))=l.map (fun p=>(kv p.1,vv p.2))/\(l.map (·.1)).Nodup/\
  (es.toList.map (·.born)).Nodup/\∀e∈es.toList,e.born<clock
variable {P:Program} {w w':World} {b k e t:Nat} {kv:α->Value} {vv:β->Value} {l:List (α×β)}
theorem MapAt.made (w:World)(kv:α->Value)(vv:β->Value):MapAt (w.alloc (.map #[] 0)) w.heap.size kv vv []:=
 ⟨#[],0,by show(w.heap.push _)[w.heap.size]? = _;simp,by simp,by simp,by simp,by simp⟩
theorem MapAt.lt (h:MapAt w b kv vv l):b<w.heap.size:=by
 obtain⟨es,clock,h,_⟩:=h;exact(Array.getElem?_eq_some_iff.1 h).1
theorem MapAt.ext (h:MapAt w b kv vv l)(x:Ext w w'):MapAt w' b kv vv l:=by
 have hl:=h.lt;obtain⟨es,clock,h,r⟩:=h;exact⟨es,clock,(x.block b hl).trans h,r⟩
theorem MapAt.kp {p:Nat->Prop}(h:MapAt w b kv vv l)(x:KpP p w w')(hn:¬p b):MapAt w' b kv vv l:=by
 have hl:=h.lt;obtain⟨es,clock,h,r⟩:=h;exact⟨es,clock,(x.block b hl hn).trans h,r⟩
theorem MapAt.ne (h:MapAt w b kv vv l){g T:Nat}{cs:Array Value}(hb:Blk w g T cs):b≠g:=by
 rintro rfl;obtain⟨es,clock,h,_⟩:=h;unfold Blk at hb;rw[hb] at h;cases h
def at? [DecidableEq α](l:List (α×β))(x:α):Option β:=(l.find? (fun p=>p.1 == x)).map (·.2)
def putL [DecidableEq α](l:List (α×β))(x:α)(v:β):List (α×β):=if l.any (fun p=>p.1 == x) then l.map (fun p=>if p.1=x then(x,v) else p) else l++[(x,v)]
theorem keys_of {es:List MapEntry}(h:es.map (fun e=>(e.key,e.val))=l.map (fun p=>(kv p.1,vv p.2))):es.map (·.key)=(l.map (·.1)).map kv:=by
 have:=congrArg (List.map Prod.fst) h
 simpa[List.map_map,Function.comp_def] using this
theorem find_idx [DecidableEq α](x:α):∀l:List (α×β),(l.map (·.1)).findIdx? (· == x)=l.findIdx? (fun p=>p.1 == x)
 | []=>rfl
 | p::l=>by simp only[List.map_cons,List.findIdx?_cons,find_idx x l]
theorem val_at {es:List MapEntry}(h:es.map (fun e=>(e.key,e.val))=l.map (fun p=>(kv p.1,vv p.2)))(i:Nat):((es[i]?).map (·.val))=(l[i]?).map (fun p=>vv p.2):=by
 have:=congrArg (fun z=>(z[i]?).map Prod.snd) h
 simpa[List.getElem?_map,Option.map_map,Function.comp_def] using this
theorem find_get [DecidableEq α](x:α):∀l:List (α×β),(l.findIdx? (fun p=>p.1 == x)).bind (fun i=>l[i]?)=l.find? (fun p=>p.1 == x)
 | []=>rfl
 | p::l=>by
  have ih:=find_get x l;simp only[List.findIdx?_cons,List.find?_cons]
  cases hb:p.1 == x with
  | true=>simp
  | false=>
   simp only[Bool.false_eq_true,if_false]
   rw[<-ih]
   cases List.findIdx? (fun p=>p.1 == x) l<;>simp
theorem MapAt.look [DecidableEq α](h:MapAt w b kv vv l)(K:KLaw P k kv)(ht:P.underlying t=some (.map k e)){z:Value}(hz:(zeroValue e).run P w=.ok z w)(x:α) :
 (Instr.lookup t (.map (some b)) (kv x) false).run P w=.ok (((at? l x).map vv).getD z) w/\
 (Instr.lookup t (.map (some b)) (kv x) true).run P w=.ok (.tuple #[((at? l x).map vv).getD z,.bool (at? l x).isSome]) w:=by
 obtain⟨es,clock,hb,hes,_⟩:=h;have hf:=K.find x es.toList (l.map (·.1)) (keys_of hes) w;rw[find_idx] at hf;have hat:at? l x=((l.findIdx? (fun p=>p.1 == x)).bind (fun i=>l[i]?)).map (·.2):=by rw[find_get];rfl
 constructor
 all_goals
  simp only[Instr.lookup,Sem.run_bind,run_underlying ht,Result.andThen_ok,MapKept.run_getObj_map hb,Sem.run_pure,K.check,hf]
  cases hi:l.findIdx? (fun p=>p.1 == x) with
  | none=>rw[hi] at hat;simp[hat,hz]
  | some i=>
   rw[hi] at hat;have hi2:=List.findIdx?_eq_some_iff_getElem.1 hi;obtain⟨hlt,_⟩:=hi2;have hv:=val_at hes i;simp only[Option.bind_some,List.getElem?_eq_getElem hlt,Option.map_some] at hat hv;simp only[Option.map_some];rw[hv];simp[hat]
theorem MapAt.len (h:MapAt w b kv vv l):∃es clock,w.heap[b]? = some (.map es clock)/\es.size=l.length:=by
 obtain⟨es,clock,hb,hes,_⟩:=h;refine⟨es,clock,hb,?_⟩;have:=congrArg List.length hes
 simpa using this
theorem heap_setBlock (w:World)(b:Nat)(o:Obj)(hb:b<w.heap.size):(setBlock w b o).heap[b]? = some o:=by
 simp[setBlock,hb]
theorem kp_setBlock (w:World)(b:Nat)(o:Obj):KpP (·=b) w (setBlock w b o):=
 ⟨rfl,rfl,rfl,by simp[setBlock],fun k _ hn=>by simp only[setBlock];rw[Array.getElem?_setIfInBounds_ne (fun e=>hn e.symm)]⟩
theorem pairs_born {es:Array MapEntry}{l:List (α×β)}(h:es.toList.map (fun e=>(e.key,e.val))=l.map (fun p=>(kv p.1,vv p.2))):es.size=l.length:=by
 have:=congrArg List.length h
 simpa using this
theorem any_find [DecidableEq α](x:α)(l:List (α×β)):l.any (fun p=>p.1 == x)=(l.findIdx? (fun p=>p.1 == x)).isSome:=by
 induction l with
 | nil=>rfl
 | cons p l ih=>simp only[List.any_cons,List.findIdx?_cons,ih];cases p.1 == x<;>simp
theorem modify_map [DecidableEq α](x:α)(v:β):∀(l:List (α×β)),(l.map (·.1)).Nodup->∀i,l.findIdx? (fun p=>p.1 == x)=some i->l.modify i (fun _=>(x,v))=l.map (fun p=>if p.1=x then(x,v) else p)
 | [],_,i,h=>by simp at h
 | p::l,hn,i,h=>by
  simp only[List.map_cons,List.nodup_cons] at hn;rw[List.findIdx?_cons] at h;by_cases hp:p.1=x
  ·have hb:(p.1 == x)=true:=by simpa using hp
   rw[hb] at h;simp only[if_true,Option.some.injEq] at h;subst h;simp only[List.modify_zero_cons,List.map_cons,hp,if_true,List.cons.injEq,true_and]
   symm
   rw[List.map_congr_left (g:=id),List.map_id];intro q hq;have:q.1≠x:=fun e=>hn.1 (by rw[hp,<-e];exact List.mem_map.2 ⟨q,hq,rfl⟩);simp[this]
  ·have hb:(p.1 == x)=false:=by simpa using hp
   rw[hb] at h;simp only[Bool.false_eq_true,if_false] at h
   cases hj:l.findIdx? (fun p=>p.1 == x) with
   | none=>rw[hj] at h;simp at h
   | some j=>
    rw[hj] at h;simp only[Option.map_some,Option.some.injEq] at h;subst h;simp only[List.modify_succ_cons,List.map_cons,hp,if_false,modify_map x v l hn.2 j hj]
theorem map_modify_entry (es:List MapEntry)(f:MapEntry->MapEntry)(g:Value×Value->Value×Value)(hfg:∀e,((f e).key,(f e).val)=g (e.key,e.val))(i:Nat) :
 (es.modify i f).map (fun e=>(e.key,e.val))=(es.map (fun e=>(e.key,e.val))).modify i g:=by
 induction es generalizing i with
 | nil=>cases i<;>rfl
 | cons e es ih=>
  cases i with
  | zero=>simp[hfg]
  | succ i=>simp[ih]
theorem MapAt.put [DecidableEq α](h:MapAt w b kv vv l)(K:KLaw P k kv)(ht:P.underlying t=some (.map k e))(x:α)(v:β) :
 ∃o,(Instr.mapUpdate t (.map (some b)) (kv x) (vv v)).run P w=.ok () (setBlock w b o)/\MapAt (setBlock w b o) b kv vv (putL l x v):=by
 have hlt:=h.lt;obtain⟨es,clock,hb,hes,hnd,hbn,hbl⟩:=h;have hf:=K.find x es.toList (l.map (·.1)) (keys_of hes) w;rw[find_idx] at hf
 cases hi:l.findIdx? (fun p=>p.1 == x) with
 | none=>
  rw[hi] at hf;refine⟨.map (es.push { key:=kv x,val:=vv v,born:=clock }) (clock+1),?_,?_⟩
  ·simp only[Instr.mapUpdate,Sem.run_bind,run_underlying ht,Result.andThen_ok,MapKept.run_getObj_map hb,K.check,hf,Option.map_none];exact MapKept.run_setObj_map _ hb
  ·have hput:putL l x v=l++[(x,v)]:=by unfold putL;rw[any_find,hi];rfl
   rw[hput];refine⟨_,_,heap_setBlock w b _ hlt,?_,?_,?_,?_⟩
   ·simp[hes]
   ·rw[List.map_append,List.nodup_append];refine⟨hnd,by simp,?_⟩;intro y hy z hz hyz;have hz2:z=x:=by simpa using hz
    subst hz2;obtain⟨p,hp,rfl⟩:=List.mem_map.1 hy;have:=List.findIdx?_eq_none_iff.1 hi p hp;simp[hyz] at this
   ·simp only[Array.toList_push,List.map_append,List.nodup_append];refine⟨hbn,by simp,?_⟩;intro y hy z hz hyz;obtain⟨p,hp,rfl⟩:=List.mem_map.1 hy;have:=hbl p hp;have hz2:z=clock:=by simpa using hz
    omega
   ·intro e he;simp only[Array.toList_push,List.mem_append,List.mem_singleton] at he;rcases he with he|rfl
    ·have:=hbl e he;omega
    ·simp
 | some i=>
  rw[hi] at hf;obtain⟨hil,hix,_⟩:=List.findIdx?_eq_some_iff_getElem.1 hi;have hie:i<es.size:=by rw[pairs_born hes];exact hil
  have hkey:es[i].key=kv x:=by
   have h1:=keys_of hes;have h2:=congrArg (fun z=>z[i]?) h1;simp only[List.getElem?_map,List.getElem?_eq_getElem hil,Option.map_some] at h2;have h3:l[i].1=x:=by simpa using hix
   rw[h3] at h2;have h4:es.toList[i]? = some es[i]:=by simp[hie]
   rw[h4] at h2
   simpa using h2
  refine⟨.map (es.modify i fun e=>{ e with key:=kv x,val:=vv v }) clock,?_,?_⟩
  ·have h4:es[i]? = some es[i]:=by simp[hie]
   simp only[Instr.mapUpdate,Sem.run_bind,run_underlying ht,Result.andThen_ok,MapKept.run_getObj_map hb,K.check,hf,Option.map_some,h4,Option.getD_some,Instr.keyThatStays,hkey,K.same,if_true,Sem.run_pure];exact MapKept.run_setObj_map _ hb
  ·have hput:putL l x v=l.modify i (fun _=>(x,v)):=by unfold putL;rw[any_find,hi,modify_map x v l hnd i hi];rfl
   have hkeys:(l.modify i (fun _=>(x,v))).map (·.1)=l.map (·.1):=by
    apply List.ext_getElem?;intro j;rw[List.getElem?_map,List.getElem?_map,List.getElem?_modify];by_cases hij:i=j
    ·subst hij;rw[List.getElem?_eq_getElem hil];have h3:l[i].1=x:=by simpa using hix
     simp[h3]
    ·simp[hij]
   have hborn:(es.modify i fun e=>{ e with key:=kv x,val:=vv v }).toList.map (·.born)=es.toList.map (·.born):=by
    rw[Array.toList_modify];apply List.ext_getElem?;intro j;rw[List.getElem?_map,List.getElem?_map,List.getElem?_modify];by_cases hij:i=j
    ·subst hij;cases es.toList[i]?<;>simp
    ·simp[hij]
   rw[hput];refine⟨_,_,heap_setBlock w b _ hlt,?_,by rw[hkeys];exact hnd,by rw[hborn];exact hbn,?_⟩
   ·rw[Array.toList_modify,map_modify_entry _ _ (fun _=>(kv x,vv v)) (fun _=>rfl),hes];apply List.ext_getElem?;intro j;rw[List.getElem?_modify,List.getElem?_map,List.getElem?_map,List.getElem?_modify];by_cases hij:i=j
    ·subst hij;cases l[i]?<;>simp
    ·simp[hij]
   ·intro e he;have:e.born∈es.toList.map (·.born):=by rw[<-hborn];exact List.mem_map.2 ⟨e,he,rfl⟩
    obtain⟨e',he',h5⟩:=List.mem_map.1 this
    rw[<-h5];exact hbl e' he'
end
end
section
open Go.RowKit
theorem eq_of_all {a b:List Sp}(hl:a.length=b.length)(h:∀j (h1:j<a.length) (h2:j<b.length),a[j]=b[j]):decide (a=b)=true:=decide_eq_true (List.ext_getElem hl h)
theorem ne_of_one {a b:List Sp}{j:Nat}(h1:j<a.length)(h2:j<b.length)(h:a[j]≠b[j]):decide (a=b)=false:=decide_eq_false (fun e=>by subst e;exact h rfl)
theorem ne_of_len {a b:List Sp}(h:a.length≠b.length):decide (a=b)=false:=decide_eq_false (fun e=>h (congrArg _ e))
theorem infoInt:(Tryz.prog.info? 3).map (fun i=>(i.zero,i.size,i.bytes))=some (some (.int .i64 0),1,8):=by kernel_rfl
theorem OwnS.store {w:World}{base e size n c:Nat}{A:Option Addr}{xs:List Value}(h:OwnS w base e size A n c xs){i:Nat}(hi:i<xs.length) :
 ∃g,A=some ⟨g,0,none⟩/\base<=g/\w.cell? ⟨g,i,none⟩=some xs[i]/\w.frozen? ⟨g,i,none⟩=false/\g<w.heap.size/\∀v,OwnS (w.setCell ⟨g,i,none⟩ v) base e size A n c (xs.set i v):=by
 rcases h.form with⟨_,h0,_,h1⟩|⟨g,cur,rfl,hg,hh,hnc,hcm,hcs,ht⟩
 ·subst h1;simp at hi
 ·have hB:Blk w g e cur:=hh;obtain⟨b,o,he,hc⟩:=OwnS.cells h (by intro e;subst e;simp at hi);injection he with he;injection he with e1 e2 _
  subst e1 e2;refine⟨g,rfl,hg,?_,hB.frz i,hB.lt,fun v=>?_⟩
  ·have:=hc i hi
   simpa using this
  ·have h1:=OwnS.of_blk (n:=n) (c:=c) (size:=size) (hB.set i v) hg (by rw[Array.size_setIfInBounds];exact hcs) hnc hcm;have e:((cur.setIfInBounds i v).toList.take (n*size))=xs.set i v:=by
    rw[Array.toList_setIfInBounds,<-ht,List.take_set]
   rw[e] at h1;exact h1
def OwnP (w:World)(base:Nat)(A:Option Addr)(c:Nat)(l:List Sp):Prop:=OwnS w base 81 2 A l.length c (flatS l)
theorem OwnP.nil (w:World)(base:Nat):OwnP w base none 0 []:=OwnS.nil _ _ _ _
theorem OwnP.kp {w w':World}{base c:Nat}{A:Option Addr}{l:List Sp}{p:Nat->Prop}(h:OwnP w base A c l)(k:KpP p w w')(hn:∀b,A.map (·.block)=some b->¬p b):OwnP w' base A c l:=OwnS.kp h k hn
end
section
inductive Sh where
 | lf (ts:List Int)
 | nd (l r:Sh)
open Sh
def hB:Nat->Nat->Nat
 | 0,_=>1
 | f+1,L=>if L=1 then 1 else max (hB f (L / 2)) (hB f (L-L / 2))+1
end
section
open Go.RowKit Go.ChangeShapes
theorem I64.of_wf {n:Int}(h:(Lit.int .i64 n).wf=true):I64 n:=bounds_i64 h
theorem IL.of_row {w:World}{a:Option Addr}{len cap:Nat}{zs:List Int}
 (h:(a=none/\len=0/\cap=0/\zs=[])\/∃x,a=some x/\len<=cap/\cap<=maxLen/\zs.length=cap/\(∀i,i<zs.length->w.cell? (x.add i)=some (.int .i64 (zs.getD i 0)))/\∀n∈zs,(Lit.int .i64 n).wf=true) :
 ∃l:List Int,l.length=len/\IL w a cap l:=by
 rcases h with⟨rfl,rfl,rfl,rfl⟩|⟨x,rfl,hl,hm,hz,hc,hw⟩
 ·exact⟨[],rfl,IL.nil w⟩
 ·have hlen:(zs.take len).length=len:=by rw[List.length_take];omega
  refine⟨zs.take len,hlen,om,hm,fun n hn=>I64.of_wf (hw n (List.mem_of_mem_take hn)),fun hn=>?_⟩;have h0:0<len:=by
   rw[<-hlen];exact List.length_pos_iff.2 hn
  obtain⟨b,off,spot⟩:=x;have hs:=hc 0 om;have hspot:spot=none:=by simpa[Addr.add] using World.cell?_spot hs
  subst hspot;refine⟨b,off,rfl,fun i hi=>?_⟩;rw[hlen] at hi;have h1:=hc i om;have e1:(zs.take len)[i]'(by rw[hlen];exact hi)=zs.getD i 0:=by
   rw[List.getElem_take,List.getD_eq_getElem?_getD,List.getElem?_eq_getElem om];rfl
  rw[e1,<-h1]
  congr 1
  unfold Addr.add
  split
  ·subst_vars;rfl
  ·rfl
end
end Go.Proofs.YtmgpefenkilffaaGreat
