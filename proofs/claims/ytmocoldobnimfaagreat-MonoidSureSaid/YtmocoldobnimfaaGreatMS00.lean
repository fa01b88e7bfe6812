/- Texts of this proof: Sh Base App Fw S1 S2 S3 S4 S5 G1 P1 P2. -/
import Derived.KernelRfl
import Derived.Lib.Hide
import Derived.RowKit
import Derived.WalkKit
import Derived.WalkSpells
import Derived.Deep.Draws
import Derived.Laws.OwnMore
import Derived.Maps.AppendAt
import Derived.Deep.AppendLies
import Derived.Deep.CutBlock
import Derived.Deep.CutRange
import Derived.Deep.DeepCutAuto
import Derived.Deep.LoopGhost
import Derived.WalkLawsBesides
import Derived.Deep.QuietTactic
import Derived.BigQuiet
import Derived.OrdersHeld
import Derived.Deep.RegionHeld3
import Derived.Test.YtmocoldobnimfaaGreatRows
set_option linter.all false
set_option maxHeartbeats 2000000
namespace Go.Proofs.YtmocoldobnimfaaGreat
theorem om {p : Prop} (h : p := by omega) : p := h
theorem si {p : Prop} (h : p := by simp) : p := h
theorem dK {p : Prop} (h : p := by decide +kernel) : p := h
theorem kr {p : Prop} (h : p := by kernel_rfl) : p := h
theorem de {p : Prop} (h : p := by decide) : p := h
theorem um {p : Prop} (h : p := by unfold Go.maxLen; omega) : p := h
theorem wj {p : Prop} (h : p := by rw [Go.IntKind.wrap_i64]; omega) : p := h
theorem lh {p : Prop} (h : p) : Go.RowKit.Hid p := Lib.hid h
theorem ptm {P Q : Prop} (k : Q) (h : Q -> P := by intro k; (try simp only [Act.put, List.setIfInBounds_toArray, List.set_cons_zero, List.set_cons_succ]); exact k) : P := h k
section
open Go.RowKit
def I64 (n:Int):Prop:=-9223372036854775808<=n/\n<=9223372036854775807
def Ext (w w':World):Prop:=Below w.heap.size w w'
namespace Ext
theorem rfl' (w:World):Ext w w:=Below.refl _ _
theorem trans {a b c:World}(h:Ext a b)(k:Ext b c):Ext a c:=Below.trans h (Below.mono k h.size)
theorem drewN (w:World)(n:Nat):Ext w (w.drewN n):=⟨rfl,rfl,rfl,Nat.le_refl _,fun _ _=>rfl⟩
theorem drew (w:World):Ext w w.drew:=⟨rfl,rfl,rfl,Nat.le_refl _,fun _ _=>rfl⟩
theorem alloc (w:World)(o:Obj):Ext w (w.alloc o):=(Below.refl _ _).alloc (Nat.le_refl _) o
theorem setNew {a w:World}(h:Ext a w){p:Addr}(hp:a.heap.size<=p.block)(u:Value):Ext a (w.setCell p u):=Below.setCell h hp u
theorem grown {a w w':World}(h:Ext a w){row:Option Nat}(hg:w.grownBy w' row)(hr:∀k,row=some k->a.heap.size<=k):Ext a w':=Below.grown h hg h.size hr
theorem cells {a b:World}(h:Ext a b):(∀k o,k<a.heap.size->b.cell? ⟨k,o,none⟩=a.cell? ⟨k,o,none⟩)/\(∀k o,k<a.heap.size->b.frozen? ⟨k,o,none⟩=a.frozen? ⟨k,o,none⟩):=
 ⟨fun k o hk=>Below.cell h (p:=⟨k,o,none⟩) hk,fun k o hk=>Below.frozen h (p:=⟨k,o,none⟩) hk⟩
theorem cell {a b:World}(h:Ext a b){p:Addr}{v:Value}(hc:a.cell? p=some v):b.cell? p=some v:=by
 rw[Below.cell h (World.block_lt_of_cell? _ _ hc)];exact hc
end Ext
def QP (w:World)(A:Option Addr)(xs:List Value):Prop:=
 xs≠[]->∃b o,A=some ⟨b,o,none⟩/\∀i (h:i<xs.length),w.cell? ⟨b,o+i,none⟩=some xs[i]
theorem QP.ext {w w':World}{A:Option Addr}{xs:List Value}(h:QP w A xs)(k:Ext w w'):QP w' A xs:=by
 intro hn;obtain⟨b,o,rfl,hc⟩:=h hn;exact⟨b,o,rfl,fun i hi=>k.cell (hc i hi)⟩
structure IL (w:World)(A:Option Addr)(c:Nat)(xs:List Int):Prop where
 le:xs.length<=c
 cap:c<=maxLen
 rng:∀x∈xs,I64 x
 at_:xs≠[]->∃b o,A=some ⟨b,o,none⟩/\∀i (h:i<xs.length),w.cell? ⟨b,o+i,none⟩=some (.int .i64 xs[i])
namespace IL
variable {w w':World} {A:Option Addr} {c:Nat} {xs:List Int}
theorem ext (h:IL w A c xs)(k:Ext w w'):IL w' A c xs:=by
 refine⟨h.le,h.cap,h.rng,fun hn=>?_⟩;obtain⟨b,o,rfl,hc⟩:=h.at_ hn;exact⟨b,o,rfl,fun i hi=>k.cell (hc i hi)⟩
theorem nil (w:World):IL w none 0 []:=⟨Nat.le_refl _,Nat.zero_le _,by simp,fun h=>absurd rfl h⟩
theorem len (h:IL w A c xs):xs.length<=c/\c<=9223372036854775807:=⟨h.le,by have:=h.cap;unfold maxLen at this;omega⟩
theorem get {k:Nat}(h:IL w A c xs)(hk:k<xs.length):∃b o,A=some ⟨b,o,none⟩/\w.cell? ⟨b,o+k,none⟩=some (.int .i64 xs[k]):=by
 obtain⟨b,o,rfl,hc⟩:=h.at_ (by intro h0;subst h0;simp at hk);exact⟨b,o,rfl,hc k hk⟩
theorem wf {k:Nat}(h:IL w A c xs)(hk:k<xs.length):I64 xs[k]:=h.rng _ (List.getElem_mem hk)
end IL
def Blk (w:World)(g:Nat)(T:TypeId)(cs:Array Value):Prop:=w.heap[g]? = some (.cells cs T (0,0))
namespace Blk
variable {w w':World} {g:Nat} {T:TypeId} {cs:Array Value}
theorem lt (h:Blk w g T cs):g<w.heap.size:=by
 unfold Blk at h;exact(Array.getElem?_eq_some_iff.1 h).1
theorem cell (h:Blk w g T cs)(i:Nat):w.cell? ⟨g,i,none⟩=cs[i]?:=by
 unfold Blk at h;simp[World.cell?,h]
theorem frz (h:Blk w g T cs)(i:Nat):w.frozen? ⟨g,i,none⟩=false:=by
 unfold Blk at h;simp[World.frozen?,h]
theorem new (w:World)(T:TypeId)(cs:Array Value):Blk (w.alloc (.cells cs T)) w.heap.size T cs:=by
 show(w.heap.push _)[w.heap.size]? = _
 simp
theorem ext (h:Blk w g T cs)(k:Ext w w'):Blk w' g T cs:=(k.block g h.lt).trans h
theorem alloc (h:Blk w g T cs)(o:Obj):Blk (w.alloc o) g T cs:=h.ext (Ext.alloc _ _)
theorem set (h:Blk w g T cs)(i:Nat)(u:Value):Blk (w.setCell ⟨g,i,none⟩ u) g T (cs.setIfInBounds i u):=by
 unfold Blk at h ⊢;simp[World.setCell,Array.getElem?_modify,h]
theorem c3 {x y z:Value}(h:Blk w g T #[x,y,z]):w.cell? ⟨g,0,none⟩=some x/\w.cell? ⟨g,1,none⟩=some y/\w.cell? ⟨g,2,none⟩=some z/\
 w.frozen? ⟨g,0,none⟩=false/\w.frozen? ⟨g,1,none⟩=false/\w.frozen? ⟨g,2,none⟩=false/\g<w.heap.size:=
 ⟨h.cell 0,h.cell 1,h.cell 2,h.frz 0,h.frz 1,h.frz 2,h.lt⟩
theorem c2 {x y:Value}(h:Blk w g T #[x,y]):w.cell? ⟨g,0,none⟩=some x/\w.cell? ⟨g,1,none⟩=some y/\
 w.frozen? ⟨g,0,none⟩=false/\w.frozen? ⟨g,1,none⟩=false/\g<w.heap.size:=
 ⟨h.cell 0,h.cell 1,h.frz 0,h.frz 1,h.lt⟩
theorem far (h:Blk w g T cs){p:Addr}(hp:g≠p.block)(u:Value):Blk (w.setCell p u) g T cs:=(Below.heap_setCell w p u g hp).trans h
end Blk
structure Kp (L:List Nat)(w w':World):Prop where
 os:w'.os=w.os
 tape:w'.tape=w.tape
 output:w'.output=w.output
 size:w.heap.size<=w'.heap.size
 block:∀k,k<w.heap.size->k∉L->w'.heap[k]? = w.heap[k]?
namespace Kp
variable {L:List Nat} {a b c w w':World}
theorem refl (L:List Nat)(w:World):Kp L w w:=⟨rfl,rfl,rfl,Nat.le_refl _,fun _ _ _=>rfl⟩
theorem of_ext (h:Ext w w'):Kp L w w':=⟨h.os,h.tape,h.output,h.size,fun k hk _=>h.block k hk⟩
theorem trans (h:Kp L a b)(k:Kp L b c):Kp L a c:=
 ⟨k.os.trans h.os,k.tape.trans h.tape,k.output.trans h.output,Nat.le_trans h.size k.size,fun i hi hn=>(k.block i (Nat.lt_of_lt_of_le hi h.size) hn).trans (h.block i hi hn)⟩
theorem ext (h:Kp L a b)(k:Ext b c):Kp L a c:=h.trans (of_ext k)
theorem drew (w:World):Kp L w w.drew:=of_ext (Ext.drew w)
theorem set (h:Kp L a w){p:Addr}(hp:p.block∈L\/a.heap.size<=p.block)(u:Value):Kp L a (w.setCell p u):=
 ⟨h.os,h.tape,h.output,by simpa[World.setCell] using h.size,fun k hk hn=>(Below.heap_setCell w p u k (by
  rintro rfl;rcases hp with hp|hp
  ·exact hn hp
  ·omega)).trans (h.block k hk hn)⟩
theorem cell (h:Kp L a b){p:Addr}{v:Value}(hc:a.cell? p=some v)(hn:p.block∉L):b.cell? p=some v:=by
 rw[World.cell?_of_block (w:=a) (h.block p.block (World.block_lt_of_cell? _ _ hc) hn)];exact hc
theorem blk {g T:Nat}{cs:Array Value}(hb:Blk a g T cs)(h:Kp L a b)(hn:g∉L):Blk b g T cs:=(h.block g hb.lt hn).trans hb
theorem to_ext {e:World}(h:Kp L a b)(k:Ext e a)(hL:∀g∈L,e.heap.size<=g):Ext e b:=
 ⟨h.os.trans k.os,h.tape.trans k.tape,h.output.trans k.output,Nat.le_trans k.size h.size,fun i hi=>(h.block i (Nat.lt_of_lt_of_le hi k.size) (fun hm=>by have:=hL i hm;omega)).trans (k.block i hi)⟩
theorem nil (h:Kp [] a b):Ext a b:=⟨h.os,h.tape,h.output,h.size,fun i hi=>h.block i hi si⟩
end Kp
def QD (v:Value)(w:World)(e:Ending)(w':World):Prop:=e=.returned v/\Ext w w'
def XP (v:Value)(w:World)(e:Ending)(w':World):Prop:=e=.returned v/\∃n,w'=w.drewN n
theorem Yy (w:World)(T:TypeId)(cs:Array Value):Blk (w.alloc (.cells cs T)) w.heap.size T cs/\Ext w (w.alloc (.cells cs T)):=⟨Blk.new _ _ _,Ext.alloc _ _⟩
theorem FB (w:World)(T:TypeId)(cs:Array Value)(T':TypeId)(cs':Array Value) :
 Blk ((w.alloc (.cells cs T)).alloc (.cells cs' T')) w.heap.size T cs/\Blk ((w.alloc (.cells cs T)).alloc (.cells cs' T')) (w.heap.size+1) T' cs'/\Ext w ((w.alloc (.cells cs T)).alloc (.cells cs' T')):=
 ⟨(Blk.new _ _ _).alloc _,by simpa using Blk.new (w.alloc _) T' cs',(Ext.alloc _ _).trans (Ext.alloc _ _)⟩
def Fr (w:World)(A:Option Addr):Prop:=∀k,A.map (·.block)=some k->w.heap.size<=k
theorem Fr.nil (w:World):Fr w none:=by intro k hk;cases hk
theorem Fr.mono {w w0:World}{A:Option Addr}(h:Fr w A)(k:Ext w0 w):Fr w0 A:=fun b hb=>Nat.le_trans k.size (h b hb)
def iD (xs:List Int)(w:World)(e:Ending)(w':World):Prop:=∃A c,e=.returned (.slice A xs.length c)/\IL w' A c xs/\Ext w w'/\Fr w A
theorem XP.v {v:Value}{w w':World}{e:Ending}(h:XP v w e w'):QD v w e w':=by
 obtain⟨rfl,n,rfl⟩:=h;exact⟨rfl,Ext.drewN w n⟩
theorem kc0 {w:World}{p:Addr}{v:Value}(h:w.cell? p=some v):∀w',Kp [] w w'->w'.cell? p=some v:=fun _ k=>k.cell h si
theorem kx0 {w:World}{p:Addr}{v:Value}(h:w.cell? p=some v):∀w',Ext w w'->w'.cell? p=some v:=fun _ k=>k.cell h
def QQ (w:World)(base e size:Nat)(A:Option Addr)(n c:Nat)(xs:List Value):Prop:=w.ownsRow base e size (.slice A n c) n xs
namespace QQ
variable {w w':World} {base e size n c:Nat} {A:Option Addr} {xs:List Value}
theorem nil (w:World)(base e size:Nat):QQ w base e size none 0 0 []:=World.ownsRow_nil _ _ _ _
theorem form (h:QQ w base e size A n c xs):(A=none/\n=0/\c=0/\xs=[])\/
 ∃g cur,A=some ⟨g,0,none⟩/\base<=g/\w.heap[g]? = some (.cells cur e (0,0))/\n<=c/\c<=maxLen/\cur.size=c*size/\cur.toList.take (n*size)=xs:=by
 rcases h.2 with⟨hv,h0⟩|⟨g,cap,cur,hv,r⟩
 ·left
  injection hv with e1 e2 e3
  subst e1 e2 e3;refine⟨rfl,rfl,rfl,?_⟩;have:=h.1
  simpa using this
 ·right
  injection hv with e1 e2 e3
  subst e1 e3;exact⟨g,cur,rfl,r⟩
theorem ext (h:QQ w base e size A n c xs)(k:Ext w w'):QQ w' base e size A n c xs:=by
 refine⟨h.1,?_⟩;rcases h.2 with h2|⟨g,cap,cur,hv,hg,hh,r⟩
 ·exact Or.inl h2
 ·exact Or.inr ⟨g,cap,cur,hv,hg,(k.block g (Array.getElem?_eq_some_iff.1 hh).1).trans hh,r⟩
theorem row (h:QQ w base e size A n c xs):∀k,A.map (·.block)=some k->base<=k:=by
 intro k hk;rcases h.form with⟨rfl,_⟩|⟨g,cur,rfl,hg,_⟩
 ·simp at hk
 ·simp at hk;omega
theorem far (h:QQ w base e size A n c xs){p:Addr}(hp:A.map (·.block)≠some p.block)(u:Value):QQ (w.setCell p u) base e size A n c xs:=by
 refine⟨h.1,?_⟩;rcases h.2 with h2|⟨g,cap,cur,hv,hg,hh,r⟩
 ·exact Or.inl h2
 ·refine Or.inr ⟨g,cap,cur,hv,hg,?_,r⟩;injection hv with e1 _ _
  subst e1;rw[Below.heap_setCell _ _ _ _ (by intro hk;exact hp (by simp[hk]))];exact hh
theorem caps (h:QQ w base e size A n c xs):n<=c/\c<=9223372036854775807:=by
 rcases h.form with⟨_,rfl,rfl,_⟩|⟨g,cur,_,_,_,h1,h2,_⟩
 ·omega
 ·unfold maxLen at h2;omega
theorem cells (h:QQ w base e size A n c xs):QP w A xs:=by
 intro hn;rcases h.form with⟨_,_,_,rfl⟩|⟨g,cur,rfl,_,hh,h1,_,hs,ht⟩
 ·exact absurd rfl hn
 ·refine⟨g,0,rfl,fun i hi=>?_⟩;subst ht;have hi':i<cur.size:=by
   have:=List.length_take_le (n*size) cur.toList;have h2:=List.length_take_le' (n*size) cur.toList;simp at hi;omega
  rw[Nat.zero_add,List.getElem_take];simp[World.cell?,hh,hi']
theorem of_blk {g:Nat}{cs:Array Value}(h:Blk w g e cs)(hb:base<=g)(hs:cs.size=c*size)(hn:n<=c)(hm:c<=maxLen) :
 QQ w base e size (some ⟨g,0,none⟩) n c (cs.toList.take (n*size)):=
 ⟨by rw[List.length_take,Array.length_toList,hs,Nat.min_eq_left (Nat.mul_le_mul_right _ hn)],Or.inr ⟨g,c,cs,rfl,hb,h,hn,hm,hs,rfl⟩⟩
end QQ
section
variable {P:Program} (w:World)
theorem aI (base t ty e:Nat)(i:TypeInfo)(z:Value)(size bytes:Nat)(ht:P.underlying t=some (.slice e))(hi:P.info? e=some i)(hz:i.zero=some z)
 (hsize:i.size=size) (hby:i.bytes=bytes) (hzs:z.cells.size=size) (hsz:0<size)
 (A:Option Addr) (n c:Nat) (xs:List Value) (hown:QQ w base e size A n c xs)
 (B:Option Addr) (m d:Nat) (news:List Value) (hl:news.length=m*size) (hr:QP w B news) (h1:∀u∈news,u.oneCell'=true)
 (h63:n+m<=maxLen) (hbytes:(n+m)*bytes<=140737488355328) (hbase:base<=w.heap.size) :
 ∃A' c' w',(Builtin.append_ #[t,t] ty #[.slice A n c,.slice B m d]).run P w=.ok (.slice A' (n+m) c') w'/\QQ w' base e size A' (n+m) c' (xs++news)/\
  w.grownBy w' (A.map (·.block))/\(A'.map (·.block)=A.map (·.block)\/A'.map (·.block)=some w.heap.size):=by
 have hob:(Value.slice A n c).ownBlock=A.map (·.block):=by cases A<;>rfl
 by_cases hm:news=[]
 ·subst hm;have hm0:m=0:=by
   have h2:m*size=0:=by simpa using hl.symm
   rcases Nat.mul_eq_zero.1 h2 with h3|h3
   ·exact h3
   ·omega
  subst hm0;rcases B with _|ad
  ·refine⟨A,c,w,?_,by simpa using hown,World.grownBy.refl w _,.inl rfl⟩;rcases hown.form with⟨rfl,rfl,rfl,rfl⟩|⟨g,cur,rfl,_,hh,hnc,_⟩
   ·simp[Builtin.append_,run_underlying ht,sizeOf,typeInfo,hi,Builtin.lenOf,Builtin.firstCells]
   ·simp[Builtin.append_,run_underlying ht,sizeOf,typeInfo,hi,Builtin.lenOf,Builtin.firstCells,hnc,storeCells]
  ·obtain⟨v',w',hrun,h2,h3,_,h5⟩:=run_append_own_at (P:=P) w base t ty e i z size bytes ht hi hz hsize hby hzs hsz _ n xs hown ad 0 d [] si si si h63 hbytes hbase;rw[hob] at h3 h5;have hv:∃A' c',v'=.slice A' (n+0) c':=by
    rcases h2.2 with⟨rfl,h0⟩|⟨g,cap,cur,rfl,_⟩
    ·exact⟨none,0,by rw[h0]⟩
    ·exact⟨_,_,rfl⟩
   obtain⟨A',c',rfl⟩:=hv;refine⟨A',c',w',hrun,h2,h3,?_⟩;have hob':(Value.slice A' (n+0) c').ownBlock=A'.map (·.block):=by cases A'<;>rfl
   rw[<-hob'];exact h5
 ·obtain⟨b,o,rfl,hc⟩:=hr hm;obtain⟨v',w',hrun,h2,h3,_,h5⟩:=run_append_own_at (P:=P) w base t ty e i z size bytes ht hi hz hsize hby hzs hsz _ n xs hown ⟨b,o,none⟩ m d news hl
   (fun j u hu=>by
    obtain⟨hj,rfl⟩:=List.getElem?_eq_some_iff.1 hu;rw[Addr.add_lit];exact hc j hj) h1 h63 hbytes hbase
  rw[hob] at h3 h5;have hv:∃A' c',v'=.slice A' (n+m) c':=by
   rcases h2.2 with⟨rfl,h0⟩|⟨g,cap,cur,rfl,_⟩
   ·exact⟨none,0,by rw[h0]⟩
   ·exact⟨_,_,rfl⟩
  obtain⟨A',c',rfl⟩:=hv;refine⟨A',c',w',hrun,h2,h3,?_⟩;have hob':(Value.slice A' (n+m) c').ownBlock=A'.map (·.block):=by cases A'<;>rfl
  rw[<-hob'];exact h5
theorem VT {o:Oper}{a:Act}{K:Act->World->Prop}{Q:Exit->Act->World->Prop}(s x:Operand)(t:Nat)
 (ho:o.op=.call { callee:=.builtin .append,args:=#[s,x],argTypes:=#[t,t] })
 (base e:Nat) (i:TypeInfo) (z:Value) (size bytes:Nat) (ht:P.underlying t=some (.slice e)) (hi:P.info? e=some i) (hz:i.zero=some z)
 (hsize:i.size=size) (hby:i.bytes=bytes) (hzs:z.cells.size=size) (hsz:0<size)
 (A:Option Addr) (n c:Nat) (xs:List Value) (hs:a.eval s=.slice A n c) (hown:QQ w base e size A n c xs)
 (B:Option Addr) (m d:Nat) (news:List Value) (hx:a.eval x=.slice B m d) (hl:news.length=m*size) (hr:QP w B news) (h1:∀u∈news,u.oneCell'=true)
 (h63:n+m<=maxLen) (hbytes:(n+m)*bytes<=140737488355328) (hbase:base<=w.heap.size)
 (h:∀A' c' w',QQ w' base e size A' (n+m) c' (xs++news)->w.grownBy w' (A.map (·.block))->(A'.map (·.block)=A.map (·.block)\/A'.map (·.block)=some w.heap.size)->
  K (a.put o.dst (.slice A' (n+m) c')) w'):o.wp P a w K Q:=by
 obtain⟨A',c',w',hrun,h2,h3,h4⟩:=aI (P:=P) w base t o.type e i z size bytes ht hi hz hsize hby hzs hsz A n c xs hown B m d news hl hr h1 h63 hbytes hbase;unfold Oper.wp execOp;simp only[ho,resolve,invoke,builtin,Sem.run_bind,Sem.run_pure,Result.andThen_ok,List.map_toArray,List.map_cons,List.map_nil,hs,hx,hrun];exact h A' c' w' h2 h3 h4
theorem Qv {ops:Array Oper}{rest:List Oper}{o:Oper}{a:Act}{Q:Exit->Act->World->Prop}(hgd:o.guard=none)(s x:Operand)(t:Nat)
 (ho:o.op=.call { callee:=.builtin .append,args:=#[s,x],argTypes:=#[t,t] })
 (base e:Nat) (i:TypeInfo) (z:Value) (size bytes:Nat) (ht:P.underlying t=some (.slice e)) (hi:P.info? e=some i) (hz:i.zero=some z)
 (hsize:i.size=size) (hby:i.bytes=bytes) (hzs:z.cells.size=size) (hsz:0<size)
 (A:Option Addr) (n c:Nat) (xs:List Value) (hs:a.eval s=.slice A n c) (hown:QQ w base e size A n c xs)
 (B:Option Addr) (m d:Nat) (news:List Value) (hx:a.eval x=.slice B m d) (hl:news.length=m*size) (hr:QP w B news) (h1:∀u∈news,u.oneCell'=true)
 (h63:n+m<=maxLen) (hbytes:(n+m)*bytes<=140737488355328) (hbase:base<=w.heap.size)
 (h:∀A' c' w',QQ w' base e size A' (n+m) c' (xs++news)->w.grownBy w' (A.map (·.block))->(A'.map (·.block)=A.map (·.block)\/A'.map (·.block)=some w.heap.size)->
  wpList P ops Q rest (a.put o.dst (.slice A' (n+m) c')) w'):wpList P ops Q (o::rest) a w:=
 wpList_plain hgd fun _ hK=>VT w s x t ho base e i z size bytes ht hi hz hsize hby hzs hsz A n c xs hs hown B m d news hx hl hr h1 h63 hbytes hbase fun A' c' w' h2 h3 h4=>hK _ _ (h A' c' w' h2 h3 h4)
end
def WO (w:World)(base e:Nat)(A:Option Addr)(c:Nat)(xs:List Int):Prop:=QQ w base e 1 A xs.length c (xs.map (Value.int .i64))
theorem ZP (xs:List Int):∀u∈xs.map (Value.int .i64),u.oneCell'=true:=by
 intro u hu;obtain⟨_,_,rfl⟩:=List.mem_map.1 hu
 rfl
theorem IL.cells {w:World}{A:Option Addr}{c:Nat}{xs:List Int}(h:IL w A c xs):QP w A (xs.map (Value.int .i64)):=by
 intro hn;obtain⟨b,o,rfl,hc⟩:=h.at_ (by intro h0;subst h0;simp at hn);exact⟨b,o,rfl,fun i hi=>by simp only[List.getElem_map];exact hc i (by simpa using hi)⟩
theorem IL.of_own {w:World}{base e:Nat}{A:Option Addr}{c:Nat}{xs:List Int}(h:WO w base e A c xs)(hr:∀x∈xs,I64 x):IL w A c xs:=by
 refine⟨(QQ.caps h).1,?_,hr,fun hn=>?_⟩
 ·have:=(QQ.caps h).2;unfold maxLen;omega
 ·obtain⟨b,o,rfl,hc⟩:=QQ.cells h (by simpa using hn);exact⟨b,o,rfl,fun i hi=>by have:=hc i (by simpa using hi);simpa using this⟩
theorem IL.one {w:World}{g T:Nat}{x:Int}(h:Blk w g T #[.int .i64 x])(hr:I64 x):IL w (some ⟨g,0,none⟩) 1 [x]:=
 ⟨by simp,by unfold maxLen;omega,by simpa using hr,fun _=>⟨g,0,rfl,fun i hi=>by
  have:i=0:=by simpa using hi
  subst this;simpa using h.cell 0⟩⟩
theorem IL.cut_in {w:World}{A:Option Addr}{c k j:Nat}{xs:List Int}(h:IL w A c xs)(hkj:k<=j)(hj:j<=xs.length):IL w (A.map (fun x=>x.add k)) (c-k) ((xs.drop k).take (j-k)):=by
 have h1:=h.le;have h2:=h.cap;refine⟨by simp;omega,om,fun x hx=>h.rng x (List.mem_of_mem_drop (List.mem_of_mem_take hx)),fun hn=>?_⟩;have hx:xs≠[]:=by rintro rfl;simp at hn
 obtain⟨b,o,rfl,hc⟩:=h.at_ hx;refine⟨b,o+k,by rw[Option.map_some,Addr.add_lit],fun i hi=>?_⟩;have hi':i<j-k/\k+i<xs.length:=by simp at hi;omega
 rw[List.getElem_take,List.getElem_drop,Nat.add_assoc];exact hc (k+i) hi'.2
theorem IL.of_blk {w:World}{g T:Nat}{xs:List Int}(h:Blk w g T (xs.map (Value.int .i64)).toArray)(hr:∀x∈xs,I64 x)(hm:xs.length<=maxLen):IL w (some ⟨g,0,none⟩) xs.length xs:=
 ⟨Nat.le_refl _,hm,hr,fun _=>⟨g,0,rfl,fun i hi=>by
  rw[h.cell];simp[hi]⟩⟩
theorem KN {P:Program}{w1 w:World}{ops:Array Oper}{rest:List Oper}{o:Oper}{a:Act}{Q:Exit->Act->World->Prop}(hgd:o.guard=none)(s x:Operand)(t:Nat)
 (ho:o.op=.call { callee:=.builtin .append,args:=#[s,x],argTypes:=#[t,t] })
 (e:Nat) (hinf:(P.info? e).map (fun i=>(i.zero,i.size,i.bytes))=some (some (.int .i64 0),1,8)) (ht:P.underlying t=some (.slice e))
 (a0:World) (hext:Ext a0 w1) (v:Int) (hw:w=w1.alloc (.cells #[.int .i64 v] e))
 (A:Option Addr) (c:Nat) (xs:List Int) (hs:a.eval s=.slice A xs.length c) (hown:WO w1 a0.heap.size e A c xs)
 (hx:a.eval x=.slice (some ⟨w1.heap.size,0,none⟩) 1 1) (hb:xs.length<=1099511627776) (ys:List Int) (hys:ys=xs++[v])
 (h:∀A' c' w',WO w' a0.heap.size e A' c' ys->Ext a0 w'->w1.grownBy w' (A.map (·.block))->(A'.map (·.block)=A.map (·.block)\/(A'.map (·.block)=some (w1.heap.size+1)))->wpList P ops Q rest (a.put o.dst (.slice A' ys.length c')) w'):wpList P ops Q (o::rest) a w:=by
 obtain⟨i0,hi0,hz0,hz1,hz2⟩:=info_parts hinf;subst hw;have e1:=Ext.alloc w1 (.cells #[.int .i64 v] e);have hc:QP (w1.alloc (.cells #[.int .i64 v] e)) (some ⟨w1.heap.size,0,none⟩) [.int .i64 v]:=fun _=>⟨_,0,rfl,fun i hi=>by
  have:i=0:=by simpa using hi
  subst this;simp⟩
 refine Qv _ hgd s x t ho a0.heap.size e i0 (.int .i64 0) 1 8 ht hi0 hz0 hz1 hz2 rfl om A xs.length c (xs.map (Value.int .i64)) hs (QQ.ext hown e1) _ 1 1 [.int .i64 v] hx rfl hc
  (by simp[Value.oneCell']) um om (by simp;have:=hext.size;omega) ?_
 intro A' c' w' ho' hg hat;have hl:ys.length=xs.length+1:=by rw[hys];simp
 have hg':w1.grownBy w' (A.map (·.block)):=⟨hg.os,hg.tape,hg.output,Nat.le_trans e1.size hg.size,fun k hk hne=>(hg.block k (Nat.lt_of_lt_of_le hk e1.size) hne).trans (e1.block k hk)⟩
 rw[<-hl];refine h A' c' w' ?_ (hext.grown hg' (QQ.row hown)) hg' (by simpa using hat);subst hys;unfold WO;rw[hl]
 simpa using ho'
theorem Ext.app {a w w':World}{e size n c:Nat}{A:Option Addr}{xs:List Value}(h:Ext a w)(ho:QQ w a.heap.size e size A n c xs)(hg:w.grownBy w' (A.map (·.block))):Ext a w':=
 h.grown hg ho.row
structure KpP (p:Nat->Prop)(w w':World):Prop where
 os:w'.os=w.os
 tape:w'.tape=w.tape
 output:w'.output=w.output
 size:w.heap.size<=w'.heap.size
 block:∀k,k<w.heap.size->¬p k->w'.heap[k]? = w.heap[k]?
namespace KpP
variable {p q:Nat->Prop} {a b c w w':World}
theorem refl (p:Nat->Prop)(w:World):KpP p w w:=⟨rfl,rfl,rfl,Nat.le_refl _,fun _ _ _=>rfl⟩
theorem of_ext (h:Ext w w'):KpP p w w':=⟨h.os,h.tape,h.output,h.size,fun k hk _=>h.block k hk⟩
theorem mono (h:KpP p a b)(hpq:∀k,p k->q k):KpP q a b:=⟨h.os,h.tape,h.output,h.size,fun k hk hn=>h.block k hk (fun hp=>hn (hpq k hp))⟩
theorem trans (h:KpP p a b)(k:KpP p b c):KpP p a c:=
 ⟨k.os.trans h.os,k.tape.trans h.tape,k.output.trans h.output,Nat.le_trans h.size k.size,fun i hi hn=>(k.block i (Nat.lt_of_lt_of_le hi h.size) hn).trans (h.block i hi hn)⟩
theorem set (h:KpP p a w){x:Addr}(hp:p x.block\/a.heap.size<=x.block)(u:Value):KpP p a (w.setCell x u):=
 ⟨h.os,h.tape,h.output,by simpa[World.setCell] using h.size,fun k hk hn=>(Below.heap_setCell w x u k (by
  rintro rfl;rcases hp with hp|hp
  ·exact hn hp
  ·omega)).trans (h.block k hk hn)⟩
theorem blk {g T:Nat}{cs:Array Value}(h:KpP p a b)(hb:Blk a g T cs)(hn:¬p g):Blk b g T cs:=(h.block g hb.lt hn).trans hb
end KpP
structure Lz where
 z:Nat
 d:Nat
 k:Nat
 v:Nat->Value
 T:Nat
 cs:Array Value
def InI (I:List (Nat×Nat))(b:Nat):Prop:=∃p∈I,p.1<=b/\b<p.2
section
variable {P:Program} {ops:Array Oper} {Q:Exit->Act->World->Prop} (L:List Nat) (w0:World)
def WI (I:List (Nat×Nat))(w w':World):Prop:=KpP (fun b=>b∈L\/InI I b) w w'
def yF (I:List (Nat×Nat))(q:Lz)(g:Nat)(w:World):Prop:=w0.heap.size<=g/\Blk w g q.T q.cs/\¬InI I g
def KJ (P:Program)(ops:Array Oper)(Q:Exit->Act->World->Prop)(R:List Lz->List (Nat×Nat)->Array Bool->Act->World->Prop)
 (Z:List Lz) (I:List (Nat×Nat)) (listed:Array Bool) (a:Act) (w:World) (i:Nat):Prop:=
 ∀w',Ext w w'->Kp L w0 w'->
  match Z.find? (fun q=>q.k == i) with
  | none=>wpOp P ops Q i (fun a2 w2=>WI L I w' w2/\Kp L w0 w2/\R Z ((w'.heap.size,w2.heap.size)::I) (listed.setIfInBounds i true) a2 w2) a w'
  | some q=>∀g,yF w0 I q g w'->wpOp P ops Q i (fun a2 w2=>WI L ((g,g+1)::I) w' w2/\Kp L w0 w2/\
   R (Z.filter (fun q=>q.k != i)) ((w'.heap.size,w2.heap.size)::(g,g+1)::I) (listed.setIfInBounds i true) a2 w2) (a.put (some q.d) (q.v g)) w'
def wpX (P:Program)(ops:Array Oper)(Q:Exit->Act->World->Prop):Nat->List Lz->List (Nat×Nat)->Array Bool->Act->World->Prop
 | 0,Z,_,listed,a,w=>Region.ready .any ops listed=[]/\Z=[]/\∀w',Ext w w'->Kp L w0 w'->Q .normal a w'
 | n+1,Z,I,listed,a,w=>
  (Region.ready .any ops listed=[]->Z=[]/\∀w',Ext w w'->Kp L w0 w'->Q .normal a w')/\
  ∀i∈Region.ready .any ops listed,KJ L w0 P ops Q (wpX P ops Q n) Z I listed a w i
variable {L w0}
theorem wK:∀(n:Nat) {Z:List Lz} {I:List (Nat×Nat)} {listed:Array Bool} {a:Act} {w w':World},wpX L w0 P ops Q n Z I listed a w->Ext w w'->wpX L w0 P ops Q n Z I listed a w'
 | 0,_,_,_,_,_,_,h,k=>⟨h.1,h.2.1,fun w2 h2=>h.2.2 w2 (k.trans h2)⟩
 | _+1,_,_,_,_,_,_,h,k=>⟨fun hr=>⟨(h.1 hr).1,fun w2 h2=>(h.1 hr).2 w2 (k.trans h2)⟩,fun i hi w2 h2=>h.2 i hi w2 (k.trans h2)⟩
theorem xE {I J:List (Nat×Nat)}(h:∀p∈I,p∈J){b:Nat}(hb:InI I b):InI J b:=let⟨p,hp,r⟩:=hb;⟨p,h p hp,r⟩
theorem wv {I J:List (Nat×Nat)}(h:∀p∈I,p∈J){w w':World}(hw:WI L I w w'):WI L J w w':=KpP.mono hw (fun _ hk=>hk.imp id (xE h))
theorem wM {I J:List (Nat×Nat)}(h:∀p∈I,p∈J){q:Lz}{g:Nat}{w:World}(hw:yF w0 J q g w):yF w0 I q g w:=⟨hw.1,hw.2.1,fun hi=>hw.2.2 (xE h hi)⟩
theorem XS:∀(n:Nat) {Z:List Lz} {I J:List (Nat×Nat)} {listed:Array Bool} {a:Act} {w:World},(∀p∈I,p∈J)->wpX L w0 P ops Q n Z I listed a w->wpX L w0 P ops Q n Z J listed a w
 | 0,_,_,_,_,_,_,_,h=>h
 | n+1,Z,I,J,listed,a,w,hIJ,h=>by
  refine⟨h.1,fun i hi w' h1 h2=>?_⟩;have h3:=h.2 i hi w' h1 h2;have c2:∀(x:Nat×Nat),∀p∈x::I,p∈x::J:=fun x p hp=>by
   rcases List.mem_cons.1 hp with rfl|hp
   ·simp
   ·exact List.mem_cons_of_mem _ (hIJ p hp)
  unfold KJ at *;generalize hf:Z.find? (fun q=>q.k == i)=f at h3 ⊢
  cases f with
  | none=>
   exact wpOp_mono (fun a2 w2 h4=>⟨wv hIJ h4.1,h4.2.1,XS n (c2 _) h4.2.2⟩) h3
  | some q=>
   intro g hg;refine wpOp_mono (fun a2 w2 h4=>⟨wv (c2 _) h4.1,h4.2.1,XS n ?_ h4.2.2⟩) (h3 g (wM hIJ hg));intro p hp;rcases List.mem_cons.1 hp with rfl|hp
   ·simp
   ·exact List.mem_cons_of_mem _ (c2 _ p hp)
theorem jj:∀(n:Nat) {I:List (Nat×Nat)} {listed:Array Bool} {a:Act} {w:World},Kp L w0 w->wpX L w0 P ops Q n [] I listed a w->wpAny P .any ops Q n listed a w
 | 0,_,_,_,w,hk,h=>⟨h.1,h.2.2 w (Ext.rfl' w) hk⟩
 | n+1,_,_,_,w,hk,h=>⟨fun hr=>(h.1 hr).2 w (Ext.rfl' w) hk,fun i hi=>
  wpOp_mono (fun _ _ h4=>jj n h4.2.1 h4.2.2) (h.2 i hi w (Ext.rfl' w) hk)⟩
theorem FC {i d:Nat}{o:Oper}{v:Value}(ho:ops[i]? = some o)(hs:∀cs b,o.op≠.select cs b)(hl:d∉o.looksAt ops)(hd:o.dst≠some d)
 (hQ:∀c a w,¬Q (.panic c) a w) {K K':Act->World->Prop} {a:Act} {w:World} (hK:∀a2 w2,K a2 w2->K' (a2.put (some d) v) w2)
 (h:wpOp P ops Q i K a w):wpOp P ops Q i K' (a.put (some d) v) w:=by
 have hl':∀x,some d=some x->x∉o.looksAt ops:=fun x hx=>by injection hx with hx;subst hx;exact hl
 have hc:∀u,(a.put (some d) v).put o.dst u=(a.put o.dst u).put (some d) v:=fun u=>Act.put_comm a v u (fun x hx=>by injection hx with hx;subst hx;exact hd);unfold wpOp at *;simp only[ho] at *;rw[wanted_put o a (some d) v hl']
 split
 ·rename_i hw
  simp only[hw,if_true] at h;rcases h with h|⟨hasks,hlets⟩
  case inr=>exact .inr ⟨by unfold Oper.asks at *;rw[execOp_put o hs a (some d) v hl'];exact hasks,hlets⟩
  refine .inl ?_;unfold Oper.wp at *;rw[execOp_put o hs a (some d) v hl'];generalize (execOp a.eval o).run P w=r at *
  cases r with
  | ok n w'=>
   cases n<;>simp only[Oper.upon] at h ⊢
   case value u=>rw[hc];exact hK _ _ h
   case skip=>rw[hc];exact hK _ _ h
   case defer e=>
    have:=hK _ _ h
    rw[<-Act.put_comm _ v undef (fun x hx=>by injection hx with hx;subst hx;exact hd),<-Act.put_defers] at this;exact this
   case enter f args=>
    refine Calls.mono h fun e w'' he=>?_
    cases e with
    | returned u=>show K' _ _;rw[hc];exact hK _ _ he
    | panicked c=>exact absurd he (hQ _ _ _)
    | outgrown=>exact he
   case row row args=>exact Rows.mono h fun u w'' he=>by rw[hc];exact hK _ _ he
  | halt x w'=>
   cases x<;>simp only[Oper.upon] at h ⊢
   case panic u=>exact absurd h (hQ _ _ _)
 ·rename_i hw
  simp only[hw] at h;rw[hc];exact hK _ _ h
theorem yG {i:Nat}{o:Oper}(ho:ops[i]? = some o){K:Act->World->Prop}{a:Act}{w:World}(h:wpOp P ops Q i K a w) :
 wpOp P ops Q i (fun a2 w2=>K a2 w2/\∃u,a2.tmps=(a.put o.dst u).tmps) a w:=by
 unfold wpOp at *;simp only[ho] at *
 split
 ·rename_i hw
  simp only[hw,if_true] at h;rcases h with h|h
  case inr=>exact .inr h
  refine .inl ?_;unfold Oper.wp at *;generalize (execOp a.eval o).run P w=r at *
  cases r with
  | ok n w'=>
   cases n<;>simp only[Oper.upon] at h ⊢
   case value u=>exact⟨h,u,rfl⟩
   case skip=>exact⟨h,_,rfl⟩
   case defer e=>exact⟨h,undef,by rw[<-Act.put_defers]⟩
   case enter f args=>
    refine Calls.mono h fun e w'' he=>?_
    cases e with
    | returned u=>exact⟨he,u,rfl⟩
    | panicked c=>exact he
    | outgrown=>exact he
   case row row args=>exact Rows.mono h fun u w'' he=>⟨he,u,rfl⟩
  | halt x w'=>cases x<;>simp only[Oper.upon] at h ⊢<;>exact h
 ·rename_i hw
  simp only[hw] at h;exact⟨h,undef,rfl⟩
theorem Cz {Z:List Lz}{q:Lz}:(q::Z).find? (fun x=>x.k == q.k)=some q:=by simp
theorem Cj {Z:List Lz}{q:Lz}{i:Nat}(h:q.k≠i):(q::Z).find? (fun x=>x.k == i)=Z.find? (fun x=>x.k == i):=by
 have e:(q.k == i)=false:=by simp[h]
 rw[List.find?_cons,e]
theorem KM {Z:List Lz}{i:Nat}(h:∀q∈Z,q.k≠i):Z.find? (fun x=>x.k == i)=none:=by
 rw[List.find?_eq_none];intro x hx;simpa using h x hx
theorem wN {Z:List Lz}{q:Lz}(h:∀x∈Z,x.k≠q.k):(q::Z).filter (fun x=>x.k != q.k)=Z:=by
 have h1:Z.filter (fun x=>x.k != q.k)=Z:=by rw[List.filter_eq_self];intro x hx;simpa using h x hx
 rw[List.filter_cons];simp[h1]
theorem wO {Z:List Lz}{q:Lz}{i:Nat}(h:q.k≠i):(q::Z).filter (fun x=>x.k != i)=q::Z.filter (fun x=>x.k != i):=by
 rw[List.filter_cons];simp[h]
theorem Jw {listed:Array Bool}{i j:Nat}(h:(listed.setIfInBounds i true).getD j true=false):j≠i/\listed.getD j true=false:=by
 by_cases hij:i=j
 ·subst hij
  exfalso
  rcases Nat.lt_or_ge i listed.size with h'|h'
  ·simp[h'] at h
  ·have h2:(listed.setIfInBounds i true).size<=i:=by simpa using h'
   simp[Array.getElem?_eq_none h2] at h
 ·rw[getD_set_ne true hij] at h;exact⟨fun e=>hij e.symm,h⟩
theorem iF {α:Type}{x y p:α}{I:List α}(h:p∈x::y::I):p∈y::x::I:=by
 simp only[List.mem_cons] at h ⊢;rcases h with h|h|h
 ·exact Or.inr (Or.inl h)
 ·exact Or.inl h
 ·exact Or.inr (Or.inr h)
theorem lF {α:Type}{x y z p:α}{I:List α}(h:p∈x::y::z::I):p∈y::z::x::I:=by
 simp only[List.mem_cons] at h ⊢;rcases h with h|h|h|h
 ·exact Or.inr (Or.inr (Or.inl h))
 ·exact Or.inl h
 ·exact Or.inr (Or.inl h)
 ·exact Or.inr (Or.inr (Or.inr h))
theorem AR {q:Lz}(hL:∀b∈L,b<w0.heap.size)(hsel:∀(j:Nat) (o:Oper) cs b,ops[j]? = some o->o.op≠.select cs b)(hQ:∀c a w,¬Q (.panic c) a w) :
 ∀(n:Nat) {Z:List Lz} {I:List (Nat×Nat)} {listed:Array Bool} {a:Act} {w:World} {g:Nat},(∀x∈Z,x.k≠q.k/\x.d≠q.d)->
  (∀j oj,ops[j]? = some oj->j≠q.k->listed.getD j true=false->q.d∉oj.looksAt ops/\oj.dst≠some q.d)->
  yF w0 I q g w->wpX L w0 P ops Q n (q::Z) I listed a w->wpX L w0 P ops Q n Z ((g,g+1)::I) listed (a.put (some q.d) (q.v g)) w
 | 0,_,_,_,_,_,_,_,_,_,h=>(by have:=h.2.1;cases this)
 | n+1,Z,I,listed,a,w,g,hk,hfar,hg,h=>by
  refine⟨fun hr=>(by have:=(h.1 hr).1;cases this),fun i hi w' h1 h2=>?_⟩;have h3:=h.2 i hi w' h1 h2;obtain⟨hun,oi,hoi,hall⟩:=mem_ready.1 hi;have hgB:Blk w' g q.T q.cs:=hg.2.1.ext h1;have hglt:=hgB.lt;have hgL:∀J,¬InI J g->¬(g∈L\/InI J g):=fun J hJ hor=>hor.elim (fun hm=>by have:=hL g hm;have:=hg.1;omega) hJ;have hfar':∀j oj,ops[j]? = some oj->j≠q.k->(listed.setIfInBounds i true).getD j true=false->q.d∉oj.looksAt ops/\oj.dst≠some q.d:=
   fun j oj hj hjk hl=>hfar j oj hj hjk (Jw hl).2
  by_cases hik:q.k=i
  ·subst hik
   (try unfold KJ at h3)
   rw[Cz] at h3;rw[KM (fun x hx=>(hk x hx).1)];have h4:=h3 g ⟨hg.1,hgB,hg.2.2⟩;rw[wN (fun x hx=>(hk x hx).1)] at h4;exact h4
  ·have hf:=hfar i oi hoi (fun e=>hik e.symm) hun
   (try unfold KJ at h3)
   rw[Cj hik] at h3;generalize hf2:Z.find? (fun x=>x.k == i)=f at h3 ⊢
   cases f with
   | none=>
    refine FC hoi (fun cs b=>hsel i oi cs b hoi) hf.1 hf.2 hQ (fun a2 w2 h4=>?_) h3;refine⟨wv (fun p hp=>List.mem_cons_of_mem _ hp) h4.1,h4.2.1,XS n ?_ (AR hL hsel hQ n hk hfar' ⟨hg.1,?_,?_⟩ h4.2.2)⟩
    ·exact fun p hp=>iF hp
    ·exact KpP.blk h4.1 hgB (hgL I hg.2.2)
    ·rintro⟨p,hp,hp1,hp2⟩;rcases List.mem_cons.1 hp with rfl|hp
     ·simp only at hp1;omega
     ·exact hg.2.2 ⟨p,hp,hp1,hp2⟩
   | some q'=>
    intro g' hg';have hm:=List.mem_of_find?_eq_some hf2;have h4:=h3 g' (wM (fun p hp=>List.mem_cons_of_mem _ hp) hg');rw[wO hik] at h4;have hne:g'≠g:=fun e=>hg'.2.2 ⟨(g,g+1),by simp,by simp;omega⟩;rw[Act.put_comm a (x:=some q.d) (y:=some q'.d) _ _ (fun x hx=>by injection hx with hx;subst hx;intro e;injection e with e;exact(hk q' hm).2 e)];refine FC hoi (fun cs b=>hsel i oi cs b hoi) hf.1 hf.2 hQ (fun a2 w2 h5=>?_) h4;have hgI:¬InI ((g',g'+1)::I) g:=by
     rintro⟨p,hp,hp1,hp2⟩;rcases List.mem_cons.1 hp with rfl|hp
     ·simp only at hp1 hp2;omega
     ·exact hg.2.2 ⟨p,hp,hp1,hp2⟩
    have hg2lt:=hg'.2.1.lt;refine⟨wv ?_ h5.1,h5.2.1,XS n ?_ (AR hL hsel hQ n (fun x hx=>hk x (List.mem_filter.1 hx).1) hfar' ⟨hg.1,?_,?_⟩ h5.2.2)⟩
    ·intro p hp;rcases List.mem_cons.1 hp with rfl|hp
     ·simp
     ·exact List.mem_cons_of_mem _ (List.mem_cons_of_mem _ hp)
    ·exact fun p hp=>lF hp
    ·exact KpP.blk h5.1 hgB (hgL _ hgI)
    ·rintro⟨p,hp,hp1,hp2⟩;rcases List.mem_cons.1 hp with rfl|hp
     ·simp only at hp1;omega
     ·exact hgI ⟨p,hp,hp1,hp2⟩
theorem kO {a b:Act}(h:a.tmps=b.tmps):a.eval=b.eval:=by
 funext x;cases x<;>simp[Act.eval,h]
theorem declare {q:Lz}{oz:Oper}(hL:∀b∈L,b<w0.heap.size)(hsel:∀(j:Nat) (o:Oper) cs b,ops[j]? = some o->o.op≠.select cs b)(hQ:∀c a w,¬Q (.panic c) a w)
 (hz:ops[q.z]? = some oz) (hzg:oz.guard=none) (hzd:oz.dst=some q.d) (hkw:∀o,ops[q.k]? = some o->∃e∈o.after,Region.binds .any e=true/\e.on=q.z) :
 ∀(n:Nat) {Z:List Lz} {I:List (Nat×Nat)} {listed:Array Bool} {a:Act} {w:World},
  (∀w',(execOp a.eval oz).run P w'=.ok (.value (q.v w'.heap.size)) (w'.alloc (.cells q.cs q.T)))->
  q.z∈Region.ready .any ops listed->
  (∀j oj,ops[j]? = some oj->j≠q.z->listed.getD j true=false->(∀e∈oj.after,Region.binds .any e=true->e.on≠q.z)->oz.apart ops oj=true)->
  (∀j oj,ops[j]? = some oj->j≠q.k->j≠q.z->listed.getD j true=false->q.d∉oj.looksAt ops/\oj.dst≠some q.d)->
  (∀x∈Z,x.k≠q.k/\x.d≠q.d/\x.k≠q.z/\x.d∉oz.looksAt ops)->(∀p∈I,p.2<=w.heap.size)->
  wpX L w0 P ops Q n (q::Z) I (listed.setIfInBounds q.z true) a w->wpX L w0 P ops Q (n+1) Z I listed a w
 | 0,_,_,_,_,_,_,_,_,_,_,_,h=>(by have:=h.2.1;cases this)
 | n+1,Z,I,listed,a,w,hrun,hrd,hfree,hfar,hk,hI,h=>by
  refine⟨fun hr=>(by rw[hr] at hrd;cases hrd),fun i hi w' h1 h2=>?_⟩;obtain⟨hzun,_,_,_⟩:=mem_ready.1 hrd;by_cases hiz:i=q.z
  ·subst hiz
   (try unfold KJ)
   rw[KM (fun x hx=>(hk x hx).2.2.1)]
   simp only
   unfold wpOp;rw[hz];simp only[Region.wanted,hzg,if_true];refine .inl ?_;unfold Oper.wp;rw[hrun w'];simp only[Oper.upon];have hE:Ext w' (w'.alloc (.cells q.cs q.T)):=Ext.alloc _ _;refine⟨KpP.of_ext hE,h2.ext hE,?_⟩;rw[hzd,World.size_alloc];refine AR hL hsel hQ (n+1) (fun x hx=>⟨(hk x hx).1,(hk x hx).2.1⟩) (fun j oj hj hjk hl=>?_) ⟨h2.size,Blk.new _ _ _,?_⟩ (wK _ h (h1.trans hE))
   ·have hl':=Jw hl;exact hfar j oj hj hjk hl'.1 hl'.2
   ·rintro⟨p,hp,hp1,hp2⟩;have:=hI p hp;have:=h1.size;omega
  ·obtain⟨hun,oi,hoi,hall⟩:=mem_ready.1 hi;have hnw:∀e∈oi.after,Region.binds .any e=true->e.on≠q.z:=fun e he hb heq=>by
    have h3:=hall e he hb;rw[heq] at h3;rcases Nat.lt_or_ge q.z listed.size with h'|h'
    ·simp[h'] at h3 hzun;rw[h3] at hzun;cases hzun
    ·simp[Array.getElem?_eq_none h'] at h3
   have hik:q.k≠i:=fun e=>by
    obtain⟨ed,he,hb,hon⟩:=hkw oi (e▸hoi);exact hnw ed he hb hon
   have hap:=Oper.apart_spec (hfree i oi hoi hiz hun hnw);have h3:=h.2 i (ready_mono hi hiz) w' h1 h2;have hfree':∀j oj,ops[j]? = some oj->j≠q.z->(listed.setIfInBounds i true).getD j true=false->(∀e∈oj.after,Region.binds .any e=true->e.on≠q.z)->oz.apart ops oj=true:=
    fun j oj hj hjz hl hno=>hfree j oj hj hjz (Jw hl).2 hno
   have hfar':∀j oj,ops[j]? = some oj->j≠q.k->j≠q.z->(listed.setIfInBounds i true).getD j true=false->q.d∉oj.looksAt ops/\oj.dst≠some q.d:=
    fun j oj hj hjk hjz hl=>hfar j oj hj hjk hjz (Jw hl).2
   have hrd':=ready_mono hrd (Ne.symm hiz)
   (try unfold KJ at h3)
   (try unfold KJ)
   rw[Cj hik] at h3;generalize hf2:Z.find? (fun x=>x.k == i)=f at h3 ⊢
   cases f with
   | none=>
    refine wpOp_mono (fun a2 w2 h4=>?_) (yG hoi h3);obtain⟨⟨h5,h6,h7⟩,u,hu⟩:=h4;refine⟨h5,h6,declare hL hsel hQ hz hzg hzd hkw n ?_ hrd' hfree' hfar' hk ?_ ?_⟩
    ·intro w3;rw[kO hu,execOp_put oz (fun cs b=>hsel q.z oz cs b hz) a oi.dst u hap.2.2];exact hrun w3
    ·intro p hp;rcases List.mem_cons.1 hp with rfl|hp
     ·exact Nat.le_refl _
     ·have:=hI p hp;have:=h1.size;have:=h5.size;omega
    ·rw[Array.setIfInBounds_comm _ _ hiz];exact h7
   | some q'=>
    intro g' hg';have hm:=List.mem_of_find?_eq_some hf2;have h4:=h3 g' hg';rw[wO hik] at h4;refine wpOp_mono (fun a2 w2 h4=>?_) (yG hoi h4);obtain⟨⟨h5,h6,h7⟩,u,hu⟩:=h4;refine⟨h5,h6,declare hL hsel hQ hz hzg hzd hkw n ?_ hrd' hfree' hfar' (fun x hx=>hk x (List.mem_filter.1 hx).1) ?_ ?_⟩
    ·intro w3;rw[kO hu,execOp_put oz (fun cs b=>hsel q.z oz cs b hz) _ oi.dst u hap.2.2,
      execOp_put oz (fun cs b=>hsel q.z oz cs b hz) a (some q'.d) _ (fun x hx=>by injection hx with hx;subst hx;exact(hk q' hm).2.2.2)]
     exact hrun w3
    ·intro p hp;have hlt:=hg'.2.1.lt;rcases List.mem_cons.1 hp with rfl|hp
     ·exact Nat.le_refl _
     ·rcases List.mem_cons.1 hp with rfl|hp
      ·have:=h5.size;simp only;omega
      ·have:=hI p hp;have:=h1.size;have:=h5.size;omega
    ·rw[Array.setIfInBounds_comm _ _ hiz];exact h7
theorem iG {i:Nat}{oi:Oper}{v:Value}(hi:ops[i]? = some oi)(hsel:∀(j:Nat) (o:Oper) cs b,ops[j]? = some o->o.op≠.select cs b)(hQ:∀c a w,¬Q (.panic c) a w) :
 ∀(n:Nat) {Z:List Lz} {I:List (Nat×Nat)} {listed:Array Bool} {a:Act} {w:World},
  (∀j oj,ops[j]? = some oj->j≠i->listed.getD j true=false->(∀e∈oj.after,Region.binds .any e=true->e.on≠i)->oi.apart ops oj=true)->
  i∈Region.ready .any ops listed->YieldsIf P ops (Kp L w0) oi v a->(∀x∈Z,x.k≠i/\x.d∉oi.looksAt ops/\oi.dst≠some x.d)->
  wpX L w0 P ops Q n Z I (listed.setIfInBounds i true) (a.put oi.dst v) w->wpX L w0 P ops Q (n+1) Z I listed a w:=by
 intro n;induction n with
 | zero=>
  intro Z I listed a w _ hr hy hZ h;refine⟨fun h0=>(by rw[h0] at hr;cases hr),fun j hj w' h1 h2=>?_⟩;by_cases hji:j=i
  ·subst hji
   (try unfold KJ)
   rw[KM (fun x hx=>(hZ x hx).1)];exact hy.wpOp hi h2 ⟨KpP.refl _ _,h2,XS 0 (fun p hp=>List.mem_cons_of_mem _ hp) (wK 0 h h1)⟩
  ·have:=ready_mono hj hji;rw[h.1] at this;cases this
 | succ n ih=>
  intro Z I listed a w hfree hr hy hZ h;refine⟨fun h0=>(by rw[h0] at hr;cases hr),fun j hj w' h1 h2=>?_⟩;by_cases hji:j=i
  ·subst hji
   (try unfold KJ)
   rw[KM (fun x hx=>(hZ x hx).1)];exact hy.wpOp hi h2 ⟨KpP.refl _ _,h2,XS (n+1) (fun p hp=>List.mem_cons_of_mem _ hp) (wK (n+1) h h1)⟩
  ·obtain⟨hjun,oj,hoj,hall⟩:=mem_ready.1 hj;have hnot:∀e∈oj.after,Region.binds .any e=true->e.on≠i:=fun e he hb heq=>by
    have h1:=hall e he hb;have h0:=(mem_ready.1 hr).1;rw[heq] at h1;rcases Nat.lt_or_ge i listed.size with h'|h'
    ·simp[h'] at h0 h1;rw[h0] at h1;cases h1
    ·simp[Array.getElem?_eq_none h'] at h1
   have hap:=hfree j oj hoj hji hjun hnot;have h3:=h.2 j (ready_mono hj hji) w' h1 h2;have hQ':∀c a w,Q (.panic c) (a.put oi.dst v) w->Q (.panic c) a w:=fun c a w h=>absurd h (hQ _ _ _);have hfree':∀k ok,ops[k]? = some ok->k≠i->(listed.setIfInBounds j true).getD k true=false->
    (∀e∈ok.after,Region.binds .any e=true->e.on≠i)->oi.apart ops ok=true:=fun k ok hk hki hun hno=>hfree k ok hk hki (Jw hun).2 hno
   (try unfold KJ at h3)
   (try unfold KJ)
   generalize hf2:Z.find? (fun x=>x.k == j)=f at h3 ⊢
   cases f with
   | none=>
    refine wpOp_mono (fun a2 w2 h4=>?_) (wpOp_putIf hoj hap (fun cs b=>hsel i oi cs b hi) (fun cs b=>hsel j oj cs b hoj) hQ' hy h3);obtain⟨h5,h6,h7,h8⟩:=h4;refine⟨h6,h7,ih hfree' (ready_mono hr (Ne.symm hji)) h5 hZ ?_⟩;rw[Array.setIfInBounds_comm _ _ hji];exact h8
   | some q'=>
    intro g' hg';have hm:=List.mem_of_find?_eq_some hf2;have hz:=hZ q' hm;have hz':∀x,some q'.d=some x->x∉oi.looksAt ops:=fun x hx=>by injection hx with hx;subst hx;exact hz.2.1
    have h4:=h3 g' hg';have hcomm:(a.put oi.dst v).put (some q'.d) (q'.v g')=(a.put (some q'.d) (q'.v g')).put oi.dst v:=Act.put_comm a v _ (fun d hd e=>hz.2.2 (by rw[hd,e]));rw[hcomm] at h4;have hy':YieldsIf P ops (Kp L w0) oi v (a.put (some q'.d) (q'.v g')):=hy.of_same (execOp_put oi (fun cs b=>hsel i oi cs b hi) a (some q'.d) _ hz') (wanted_put oi a (some q'.d) _ hz');refine wpOp_mono (fun a2 w2 h4=>?_) (wpOp_putIf hoj hap (fun cs b=>hsel i oi cs b hi) (fun cs b=>hsel j oj cs b hoj) hQ' hy' h4);obtain⟨h5,h6,h7,h8⟩:=h4;refine⟨h6,h7,ih hfree' (ready_mono hr (Ne.symm hji)) h5 (fun x hx=>hZ x (List.mem_filter.1 hx).1) ?_⟩;rw[Array.setIfInBounds_comm _ _ hji];exact h8
end
theorem RR (g:Nat)(I:List (Nat×Nat)):InI ((g,g+1)::I) g:=⟨(g,g+1),by simp,by simp⟩
theorem VU {L:List Nat}{I:List (Nat×Nat)}{g:Nat}{a w:World}(h:WI L ((g,g+1)::I) a w)(o:Nat)(u:Value):WI L ((g,g+1)::I) a (w.setCell ⟨g,o,none⟩ u):=
 KpP.set h (Or.inl (Or.inr (RR g I))) u
theorem QM {L:List Nat}{I:List (Nat×Nat)}{g:Nat}{a w:World}(h:WI L I a w)(hg:g∈L)(o:Nat)(u:Value):WI L I a (w.setCell ⟨g,o,none⟩ u):=
 KpP.set h (Or.inl (Or.inl hg)) u
theorem Q4 (L:List Nat)(I:List (Nat×Nat))(w:World):WI L I w w:=KpP.refl _ _
theorem dE {L:List Nat}{I:List (Nat×Nat)}{a w:World}(h:Ext a w):WI L I a w:=KpP.of_ext h
theorem Kp.setN {L:List Nat}{g:Nat}{a w:World}(h:Kp L a w)(hg:a.heap.size<=g)(o:Nat)(u:Value):Kp L a (w.setCell ⟨g,o,none⟩ u):=h.set (Or.inr hg) u
theorem Kp.setL {L:List Nat}{g:Nat}{a w:World}(h:Kp L a w)(hg:g∈L)(o:Nat)(u:Value):Kp L a (w.setCell ⟨g,o,none⟩ u):=h.set (Or.inl hg) u
def bits (n:Nat)(ls:List Nat):Array Bool:=((List.range n).map fun j=>ls.contains j).toArray
theorem Zw (n i:Nat)(ls:List Nat):(bits n ls).setIfInBounds i true=bits n (i::ls):=by
 apply Array.ext
 ·simp[bits]
 ·intro j h1 h2;simp only[bits,List.setIfInBounds_toArray,List.getElem_toArray,List.getElem_set,List.getElem_map,List.getElem_range,List.contains_cons];by_cases h:i=j
  ·subst h;simp
  ·have:(j == i)=false:=by simp;exact fun e=>h e.symm
   simp[h,this]
theorem FD (n:Nat):bits n []=Array.replicate n false:=by
 apply Array.ext
 ·simp[bits]
 ·intro j h1 h2;simp[bits]
section
variable {P:Program} {ops:Array Oper} {Q:Exit->Act->World->Prop} {L:List Nat} {w0:World}
def Xr (L:List Nat)(w0:World)(P:Program)(ops:Array Oper)(Q:Exit->Act->World->Prop)(n:Nat)(KD:List (Nat×Nat))(Z:List Lz)(I:List (Nat×Nat))(ls:List Nat)(a:Act)(w:World):Prop:=
 Z.map (fun q=>(q.k,q.d))=KD->wpX L w0 P ops (NoPanic Q) n Z I (bits ops.size ls) a w
theorem Xr.start {id:Nat}{a:Act}{w:World}(L:List Nat)(hm:P.follows .mixedOrders=true)(h:Xr L w P ops Q ops.size [] [] [] [] a w):(Code.region id ops true).wp P Q a w:=by
 refine wp_region_noPanic (wp_region_any hm ?_);have h:=h rfl;rw[FD] at h;exact jj _ (Kp.drew w) (wK _ h (Ext.drew w))
def Yx (ops:Array Oper)(ls:List Nat)(Z:List (Nat×Nat))(i:Nat):Bool:=
 Region.noSelect ops&&Region.free .any ops (bits ops.size ls) i&&(Region.ready .any ops (bits ops.size ls)).contains i &&
  match ops[i]? with
  | some oi=>Z.all fun x=>x.1 != i&&!(oi.looksAt ops).contains x.2&&oi.dst != some x.2
  | none=>false
theorem NoPanic.never (Q:Exit->Act->World->Prop):∀c a w,¬NoPanic Q (.panic c) a w:=fun _ _ _ h=>h
variable {n:Nat} {KD:List (Nat×Nat)} {Z:List Lz} {I:List (Nat×Nat)} {ls:List Nat} {a:Act} {w:World}
theorem Xr.takeY (i:Nat)(d:Option Tmp){oi:Oper}{v:Value}(hi:ops[i]? = some oi)(hd:oi.dst=d)
 (hok:Yx ops ls KD i=true) (hy:YieldsIf P ops (Kp L w0) oi v a) (h:Xr L w0 P ops Q n KD Z I (i::ls) (a.put d v) w):Xr L w0 P ops Q (n+1) KD Z I ls a w:=by
 subst hd;intro hKD;have h':wpX L w0 P ops (NoPanic Q) n Z I (bits ops.size (i::ls)) (a.put oi.dst v) w:=h hKD;clear h;subst hKD;simp only[Yx,hi,Bool.and_eq_true] at hok;obtain⟨⟨⟨h1,h2⟩,h3⟩,h4⟩:=hok;refine iG hi (Region.noSelect_spec h1) (NoPanic.never Q) n (Region.free_spec hi h2) (by simpa using h3) hy ?_ ?_
 ·intro x hx;have h5:=List.all_eq_true.1 h4 (x.k,x.d) (List.mem_map.2 ⟨x,hx,rfl⟩);simp only[Bool.and_eq_true,bne_iff_ne,ne_eq,Bool.not_eq_true'] at h5;refine⟨h5.1.1,?_,h5.2⟩;have h6:=h5.1.2;intro hm;rw[List.contains_iff_mem.2 hm] at h6;cases h6
 ·rw[Zw];exact h'
theorem Xr.take (i:Nat)(d:Option Tmp){oi:Oper}{v:Value}(hi:ops[i]? = some oi)(hd:oi.dst=d)
 (hok:Yx ops ls KD i=true) (hw:Region.wanted oi (yielded ops a.tmps)=true)
 (hrun:∀w',Kp L w0 w'->(execOp a.eval oi).run P w'=.ok (.value v) w') (h:Xr L w0 P ops Q n KD Z I (i::ls) (a.put d v) w):Xr L w0 P ops Q (n+1) KD Z I ls a w:=
 Xr.takeY i d hi hd hok (.inl ⟨hw,hrun⟩) h
theorem Xr.skip (i:Nat)(d:Option Tmp){oi:Oper}(hi:ops[i]? = some oi)(hd:oi.dst=d)
 (hok:Yx ops ls KD i=true) (hw:Region.wanted oi (yielded ops a.tmps)=false)
 (h:Xr L w0 P ops Q n KD Z I (i::ls) (a.put d undef) w):Xr L w0 P ops Q (n+1) KD Z I ls a w:=
 Xr.takeY i d hi hd hok (.inr ⟨hw,rfl⟩) h
def N4 (ops:Array Oper)(ls:List Nat)(Z:List (Nat×Nat))(z d k:Nat):Bool:=
 Region.noSelect ops&&Region.free .any ops (bits ops.size ls) z&&(Region.ready .any ops (bits ops.size ls)).contains z &&
 (match ops[z]? with
  | some oz=>oz.guard.isNone&&oz.dst == some d&&Z.all fun x=>x.1 != k&&x.2 != d&&x.1 != z&&!(oz.looksAt ops).contains x.2
  | none=>false) &&
 (match ops[k]? with
  | some ok=>ok.after.any fun e=>Region.binds .any e&&e.on == z
  | none=>false) &&
 (List.range ops.size).all fun j=>j == k || j == z || ls.contains j || match ops[j]? with
  | some oj=>!(oj.looksAt ops).contains d&&oj.dst != some d
  | none=>true
theorem N5 {n j:Nat}{ls:List Nat}(h:(bits n ls).getD j true=false):ls.contains j=false:=by
 unfold bits at h;rcases Nat.lt_or_ge j n with hj|hj
 ·simpa[hj] using h
 ·simp[hj] at h
theorem Xr.lazy (z d k:Nat)(v:Nat->Value)(T:Nat)(cs:Array Value){oz:Oper}(hz:ops[z]? = some oz)(hL:∀b∈L,b<w0.heap.size)
 (hok:N4 ops ls KD z d k=true) (hI:∀p∈I,p.2<=w.heap.size)
 (hrun:∀w',(execOp a.eval oz).run P w'=.ok (.value (v w'.heap.size)) (w'.alloc (.cells cs T)))
 (h:Xr L w0 P ops Q n ((k,d)::KD) (⟨z,d,k,v,T,cs⟩::Z) I (z::ls) a w):Xr L w0 P ops Q (n+1) KD Z I ls a w:=by
 intro hKD;have h':wpX L w0 P ops (NoPanic Q) n (⟨z,d,k,v,T,cs⟩::Z) I (bits ops.size (z::ls)) a w:=h (by simp[hKD]);clear h;subst hKD;simp only[N4,hz,Bool.and_eq_true] at hok;obtain⟨⟨⟨⟨⟨h1,h2⟩,h3⟩,⟨h4,h4d⟩,h4z⟩,h5⟩,h6⟩:=hok;refine declare (q:=⟨z,d,k,v,T,cs⟩) hL (Region.noSelect_spec h1) (NoPanic.never Q) hz (by simpa using h4) (by simpa using h4d) ?_ n hrun (by simpa using h3) (Region.free_spec hz h2) ?_ ?_ hI ?_
 ·intro o ho
  simp only at ho
  rw[ho] at h5;obtain⟨e,he,hb⟩:=Array.any_eq_true'.1 h5;simp only[Bool.and_eq_true,beq_iff_eq] at hb;exact⟨e,he,hb⟩
 ·intro j oj hj hjk hjz hl;have h7:=List.all_eq_true.1 h6 j (List.mem_range.2 (Array.getElem?_eq_some_iff.1 hj).1);have h8:=N5 hl
  simp only at hjk hjz
  simp only[hj,Bool.or_eq_true,beq_iff_eq,hjk,hjz,h8,Bool.false_eq_true,false_or,Bool.and_eq_true,bne_iff_ne,ne_eq,Bool.not_eq_true'] at h7;refine⟨fun hm=>?_,h7.2⟩;have:=h7.1;rw[List.contains_iff_mem.2 hm] at this;cases this
 ·intro x hx;have h7:=List.all_eq_true.1 h4z (x.k,x.d) (List.mem_map.2 ⟨x,hx,rfl⟩);simp only[Bool.and_eq_true,bne_iff_ne,ne_eq,Bool.not_eq_true'] at h7;refine⟨h7.1.1.1,h7.1.1.2,h7.1.2,fun hm=>?_⟩;have:=h7.2;rw[List.contains_iff_mem.2 hm] at this;cases this
 ·rw[Zw];exact h'
theorem Jy {i:Nat}{o:Oper}{K:Act->World->Prop}{a:Act}{w:World}(ho:ops[i]? = some o)(hw:Region.wanted o (yielded ops a.tmps)=true)
 (h:∀K',(∀a w,K a w->K' a w)->o.wp P a w K' (NoPanic Q)):wpOp P ops (NoPanic Q) i K a w:=by
 unfold wpOp;simp only[ho,hw,if_true];exact .inl (h K fun _ _ h=>h)
theorem VJ {Z:List Lz}{i:Nat}(h:((Z.map fun q=>(q.k,q.d)).all fun x=>x.1 != i)=true):∀q∈Z,q.k≠i:=fun q hq e=>by
 have:=List.all_eq_true.1 h (q.k,q.d) (List.mem_map.2 ⟨q,hq,rfl⟩);simp[e] at this
theorem Xr.step (i:Nat){o:Oper}(ho:ops[i]? = some o)
 (hr:(Region.ready .any ops (bits ops.size ls) == [i]&&KD.all fun x=>x.1 != i)=true) (hw:Region.wanted o (yielded ops a.tmps)=true)
 (h:∀w',Ext w w'->Kp L w0 w'->∀K,(∀a2 w2,WI L I w' w2->Kp L w0 w2->Xr L w0 P ops Q n KD Z ((w'.heap.size,w2.heap.size)::I) (i::ls) a2 w2->K a2 w2)->o.wp P a w' K (NoPanic Q)) :
 Xr L w0 P ops Q (n+1) KD Z I ls a w:=by
 intro hKD;simp only[Bool.and_eq_true,beq_iff_eq] at hr;obtain⟨hr,hZ⟩:=hr;refine⟨fun h0=>(by rw[hr] at h0;cases h0),fun j hj w' h1 h2=>?_⟩;rw[hr] at hj;obtain rfl:j=i:=by simpa using hj
 have hf:Z.find? (fun q=>q.k == j)=none:=KM (VJ (by rw[hKD];exact hZ))
 (try unfold KJ)
 rw[hf];refine Jy ho hw fun K' hK'=>h w' h1 h2 K' fun a2 w2 h3 h4 h5=>hK' a2 w2 ⟨h3,h4,?_⟩;rw[Zw];exact h5 hKD
theorem Xr.call (i:Nat){o:Oper}(ho:ops[i]? = some o)
 (hr:(Region.ready .any ops (bits ops.size ls) == [i]&&KD.all fun x=>x.1 != i)=true) (hw:Region.wanted o (yielded ops a.tmps)=true)
 (h:∀w',Ext w w'->Kp L w0 w'->∀K,(∀a2 w2,Ext w' w2->Xr L w0 P ops Q n KD Z ((w'.heap.size,w2.heap.size)::I) (i::ls) a2 w2->K a2 w2)->o.wp P a w' K (NoPanic Q)) :
 Xr L w0 P ops Q (n+1) KD Z I ls a w:=by
 intro hKD;simp only[Bool.and_eq_true,beq_iff_eq] at hr;obtain⟨hr,hZ⟩:=hr;refine⟨fun h0=>(by rw[hr] at h0;cases h0),fun j hj w' h1 h2=>?_⟩;rw[hr] at hj;obtain rfl:j=i:=by simpa using hj
 have hf:Z.find? (fun q=>q.k == j)=none:=KM (VJ (by rw[hKD];exact hZ))
 (try unfold KJ)
 rw[hf];refine Jy ho hw fun K' hK'=>h w' h1 h2 K' fun a2 w2 h3 h5=>hK' a2 w2 ⟨KpP.of_ext h3,h2.ext h3,?_⟩;rw[Zw];exact h5 hKD
theorem Xr.stepZ {z d k:Nat}{v:Nat->Value}{T:Nat}{cs:Array Value}{o:Oper}(ho:ops[k]? = some o)
 (hr:(Region.ready .any ops (bits ops.size ls) == [k]&&KD.all fun x=>x.1 != k)=true)
 (hw:∀g,Region.wanted o (yielded ops (a.put (some d) (v g)).tmps)=true)
 (h:∀w' g,Ext w w'->Kp L w0 w'->w0.heap.size<=g->Blk w' g T cs->¬InI I g->∀K,(∀a2 w2,WI L ((g,g+1)::I) w' w2->Kp L w0 w2->
  Xr L w0 P ops Q n KD Z ((w'.heap.size,w2.heap.size)::(g,g+1)::I) (k::ls) a2 w2->K a2 w2)->o.wp P (a.put (some d) (v g)) w' K (NoPanic Q)) :
 Xr L w0 P ops Q (n+1) ((k,d)::KD) (⟨z,d,k,v,T,cs⟩::Z) I ls a w:=by
 intro hKD0;have hKD:Z.map (fun q=>(q.k,q.d))=KD:=by simpa using hKD0
 clear hKD0;simp only[Bool.and_eq_true,beq_iff_eq] at hr;obtain⟨hr,hZ⟩:=hr;refine⟨fun h0=>(by rw[hr] at h0;cases h0),fun j hj w' h1 h2=>?_⟩;rw[hr] at hj;obtain rfl:j=k:=by simpa using hj
 have hf:=VJ (Z:=Z) (i:=j) (by rw[hKD];exact hZ)
 (try unfold KJ)
 rw[Cz (q:=⟨z,d,j,v,T,cs⟩)];intro g hg;rw[wN (q:=⟨z,d,j,v,T,cs⟩) hf];refine Jy ho (hw g) fun K' hK'=>h w' g h1 h2 hg.1 hg.2.1 hg.2.2 K' fun a2 w2 h3 h4 h5=>hK' a2 w2 ⟨h3,h4,?_⟩;rw[Zw];exact h5 hKD
theorem Xr.done (hr:Region.ready .any ops (bits ops.size ls)=[])
 (h:∀w',Ext w w'->Kp L w0 w'->Q .normal a w'):Xr L w0 P ops Q n [] [] I ls a w:=by
 intro _
 cases n with
 | zero=>exact⟨hr,rfl,fun w' h1 h2=>h w' h1 h2⟩
 | succ n=>exact⟨fun _=>⟨rfl,fun w' h1 h2=>h w' h1 h2⟩,fun i hi=>by rw[hr] at hi;cases hi⟩
end
section
variable {P:Program} {ops:Array Oper} {Q:Exit->Act->World->Prop} {L:List Nat} {w0:World}
variable {n:Nat} {KD:List (Nat×Nat)} {Z:List Lz} {I:List (Nat×Nat)} {ls:List Nat} {a:Act} {w:World}
theorem Xtk (i:Nat){d:Option Tmp}{oi:Oper}{v:Value}{b:Act}(h:Xr L w0 P ops Q n KD Z I (i::ls) b w)(hi:ops[i]? = some oi:=by rfl)(hd:oi.dst=d:=by(conv=>lhs;whnf);try rfl)(hok:Yx ops ls KD i=true:=by decide +kernel)(hw:Region.wanted oi (yielded ops a.tmps)=true:=by rfl)
 (hrun:∀w',Kp L w0 w'->(execOp a.eval oi).run P w'=.ok (.value v) w':=by intro w' hk;go_simp;(try with_reducible rfl);done)
 (hb:a.put d v=b:=by(try simp only[Act.put,List.setIfInBounds_toArray,List.set_cons_zero,List.set_cons_succ]);(try with_reducible rfl);done):Xr L w0 P ops Q (n+1) KD Z I ls a w:=Xr.take i d hi hd hok hw hrun (hb▸h)
theorem Xsk (i:Nat){d:Option Tmp}{oi:Oper}{b:Act}(h:Xr L w0 P ops Q n KD Z I (i::ls) b w)(hi:ops[i]? = some oi:=by rfl)(hd:oi.dst=d:=by(conv=>lhs;whnf);try rfl)(hok:Yx ops ls KD i=true:=by decide +kernel)(hw:Region.wanted oi (yielded ops a.tmps)=false:=by rfl)
 (hb:a.put d undef=b:=by(try simp only[Act.put,List.setIfInBounds_toArray,List.set_cons_zero,List.set_cons_succ]);(try with_reducible rfl);done):Xr L w0 P ops Q (n+1) KD Z I ls a w:=Xr.skip i d hi hd hok hw (hb▸h)
theorem Xtn {i j:Nat}{d:Option Tmp}{oi:Oper}{v:Value}{b:Act}(h:Xr L w0 P ops Q n KD Z I (j::i::ls) b w)(hj:i+1=j:=by simp only[Nat.reduceAdd];rfl)(hi:ops[j]? = some oi:=by rfl)(hd:oi.dst=d:=by(conv=>lhs;whnf);try rfl)(hok:Yx ops (i::ls) KD j=true:=by decide +kernel)(hw:Region.wanted oi (yielded ops a.tmps)=true:=by rfl)
 (hrun:∀w',Kp L w0 w'->(execOp a.eval oi).run P w'=.ok (.value v) w':=by intro w' hk;go_simp;(try with_reducible rfl);done)
 (hb:a.put d v=b:=by(try simp only[Act.put,List.setIfInBounds_toArray,List.set_cons_zero,List.set_cons_succ]);(try with_reducible rfl);done):Xr L w0 P ops Q (n+1) KD Z I (i::ls) a w:=Xr.take j d hi hd hok hw hrun (hb▸h)
theorem Xsn {i j:Nat}{d:Option Tmp}{oi:Oper}{b:Act}(h:Xr L w0 P ops Q n KD Z I (j::i::ls) b w)(hj:i+1=j:=by simp only[Nat.reduceAdd];rfl)(hi:ops[j]? = some oi:=by rfl)(hd:oi.dst=d:=by(conv=>lhs;whnf);try rfl)(hok:Yx ops (i::ls) KD j=true:=by decide +kernel)(hw:Region.wanted oi (yielded ops a.tmps)=false:=by rfl)
 (hb:a.put d undef=b:=by(try simp only[Act.put,List.setIfInBounds_toArray,List.set_cons_zero,List.set_cons_succ]);(try with_reducible rfl);done):Xr L w0 P ops Q (n+1) KD Z I (i::ls) a w:=Xr.skip j d hi hd hok hw (hb▸h)
theorem Xdn (h:∀w',Ext w w'->Kp L w0 w'->Q .normal a w')(hr:Region.ready .any ops (bits ops.size ls)=[]:=by decide +kernel):Xr L w0 P ops Q n [] [] I ls a w:=Xr.done hr h
theorem Xsp (i:Nat){o:Oper}(h:∀w',Ext w w'->Kp L w0 w'->∀K,(∀a2 w2,WI L I w' w2->Kp L w0 w2->Xr L w0 P ops Q n KD Z ((w'.heap.size,w2.heap.size)::I) (i::ls) a2 w2->K a2 w2)->o.wp P a w' K (NoPanic Q))(ho:ops[i]? = some o:=by rfl)
 (hr:(Region.ready .any ops (bits ops.size ls) == [i]&&KD.all fun x=>x.1 != i)=true:=by decide +kernel) (hw:Region.wanted o (yielded ops a.tmps)=true:=by rfl):Xr L w0 P ops Q (n+1) KD Z I ls a w:=Xr.step i ho hr hw h
theorem Xcl (i:Nat){o:Oper}(h:∀w',Ext w w'->Kp L w0 w'->∀K,(∀a2 w2,Ext w' w2->Xr L w0 P ops Q n KD Z ((w'.heap.size,w2.heap.size)::I) (i::ls) a2 w2->K a2 w2)->o.wp P a w' K (NoPanic Q))(ho:ops[i]? = some o:=by rfl)
 (hr:(Region.ready .any ops (bits ops.size ls) == [i]&&KD.all fun x=>x.1 != i)=true:=by decide +kernel) (hw:Region.wanted o (yielded ops a.tmps)=true:=by rfl):Xr L w0 P ops Q (n+1) KD Z I ls a w:=Xr.call i ho hr hw h
end
abbrev Sp:=Int×Int
def has (l:List Sp)(x:Int):Bool:=l.any fun s=>decide (s.1<=x)&&decide (x<=s.2)
theorem ZD {l:List Sp}{x:Int}:has l x=true<->∃s∈l,s.1<=x/\x<=s.2:=by
 unfold has;simp[List.any_eq_true]
theorem I9 (x:Int):has [] x=false:=rfl
theorem FE (s:Sp)(l:List Sp)(x:Int):has (s::l) x=(decide (s.1<=x/\x<=s.2) || has l x):=by
 simp[has]
theorem jv (l m:List Sp)(x:Int):has (l++m) x=(has l x || has m x):=by simp[has]
def Kk (l:List Sp):Prop:=(∀s∈l,s.1<=s.2)/\l.Pairwise (fun s t=>s.2+2<=t.1)
theorem Kk.nil:Kk []:=⟨by simp,List.Pairwise.nil⟩
theorem Kk.tail {s:Sp}{l:List Sp}(h:Kk (s::l)):Kk l:=⟨fun t ht=>h.1 t (by simp[ht]),(List.pairwise_cons.1 h.2).2⟩
theorem Kk.far {s:Sp}{l:List Sp}(h:Kk (s::l)){x:Int}(hx:has l x=true):s.2+2<=x:=by
 obtain⟨t,ht,h1,_⟩:=ZD.1 hx;have:=(List.pairwise_cons.1 h.2).1 t ht;omega
def QU (l:List Sp)(s:Sp):List Sp:=match l.getLast? with
 | some t=>if s.1<=t.2+1 then l.dropLast++[(t.1,max t.2 s.2)] else l++[s]
 | none=>[s]
theorem jw (s:Sp):QU [] s=[s]:=rfl
theorem YB (l:List Sp)(t s:Sp):QU (l++[t]) s=if s.1<=t.2+1 then l++[(t.1,max t.2 s.2)] else l++[t]++[s]:=by
 unfold QU;simp
theorem jy (l:List Sp)(s:Sp):l.length<=(QU l s).length/\(QU l s).length<=l.length+1:=by
 rcases List.eq_nil_or_concat l with rfl|⟨l,t,rfl⟩
 ·simp[jw]
 ·rw[List.concat_eq_append,YB];split<;>simp
theorem RS {l:List Sp}{s:Sp}(h:Kk l)(hs:s.1<=s.2)(hl:∀t∈l,t.1<=s.1) :
 Kk (QU l s)/\(∀x,has (QU l s) x=(has l x || decide (s.1<=x/\x<=s.2)))/\(∀t∈QU l s,t.1<=s.1):=by
 rcases List.eq_nil_or_concat l with rfl|⟨l,t,rfl⟩
 ·rw[jw];refine⟨⟨by simpa using hs,by simp⟩,fun x=>by simp[has],by simp⟩
 ·rw[List.concat_eq_append] at *;rw[YB];have hts:=hl t si;have ht:=h.1 t si;have hp:=List.pairwise_append.1 h.2
  split
  ·rename_i hle
   refine⟨⟨fun u hu=>?_,List.pairwise_append.2 ⟨hp.1,by simp,fun u hu v hv=>?_⟩⟩,fun x=>?_,fun u hu=>?_⟩
   ·rcases List.mem_append.1 hu with hu|hu
    ·exact h.1 u (by simp[hu])
    ·obtain rfl:=List.mem_singleton.1 hu
     simp only;omega
   ·obtain rfl:=List.mem_singleton.1 hv;exact hp.2.2 u hu t si
   ·rw[jv,jv];simp only[has,List.any_cons,List.any_nil,Bool.or_false,Bool.or_assoc]
    congr 1
    rw[Bool.eq_iff_iff];simp only[Bool.and_eq_true,decide_eq_true_eq,Bool.or_eq_true];omega
   ·rcases List.mem_append.1 hu with hu|hu
    ·exact hl u (by simp[hu])
    ·obtain rfl:=List.mem_singleton.1 hu;exact hts
  ·rename_i hgt
   refine⟨⟨fun u hu=>?_,List.pairwise_append.2 ⟨h.2,by simp,fun u hu v hv=>?_⟩⟩,fun x=>?_,fun u hu=>?_⟩
   ·rcases List.mem_append.1 hu with hu|hu
    ·exact h.1 u hu
    ·obtain rfl:=List.mem_singleton.1 hu;exact hs
   ·obtain rfl:=List.mem_singleton.1 hv;rcases List.mem_append.1 hu with hu|hu
    ·have:=hp.2.2 u hu t si;omega
    ·obtain rfl:=List.mem_singleton.1 hu;omega
   ·rw[jv]
    congr 1
    simp[has]
   ·rcases List.mem_append.1 hu with hu|hu
    ·exact hl u hu
    ·obtain rfl:=List.mem_singleton.1 hu;exact Int.le_refl _
theorem yH:∀(l acc:List Sp),Kk acc->(∀s∈l,s.1<=s.2)->l.Pairwise (fun s t=>s.1<=t.1)->(∀t∈acc,∀s∈l,t.1<=s.1)->
 Kk (l.foldl QU acc)/\∀x,has (l.foldl QU acc) x=(has acc x || has l x)
 | [],acc,h,_,_,_=>⟨h,fun x=>by simp[has]⟩
 | s::l,acc,h,hs,hp,hl=>by
  obtain⟨h1,h2,h3⟩:=RS h (hs s si) (fun t ht=>hl t ht s si);have hp':=List.pairwise_cons.1 hp;obtain⟨h4,h5⟩:=yH l (QU acc s) h1 (fun t ht=>hs t (by simp[ht])) hp'.2 (fun t ht u hu=>Int.le_trans (h3 t ht) (hp'.1 u hu));refine⟨h4,fun x=>?_⟩;rw[List.foldl_cons,h5,h2,FE,Bool.or_assoc]
def ZZ:List Int->Int->List Sp
 | [],_=>[]
 | [a],top=>[(a,top)]
 | a::b::r,top=>(a,b-1)::ZZ (b::r) top
theorem JN (a b:Int)(r:List Int)(top:Int):ZZ (a::b::r) top=(a,b-1)::ZZ (b::r) top:=rfl
theorem XY:∀(l:List Int) (top:Int),(ZZ l top).length=l.length
 | [],_=>rfl
 | [_],_=>rfl
 | a::b::r,top=>by rw[JN,List.length_cons,XY (b::r) top];rfl
structure Kv (l:List Int)(top:Int):Prop where
 inc:l.Pairwise (· < ·)
 le:∀x∈l,x<=top
theorem Kv.tail {a:Int}{l:List Int}{top:Int}(h:Kv (a::l) top):Kv l top:=⟨(List.pairwise_cons.1 h.inc).2,fun x hx=>h.le x (by simp[hx])⟩
theorem KG:∀{l:List Int} {top:Int},Kv l top->∀s∈ZZ l top,s.1∈l/\s.1<=s.2/\s.2<=top/\∀e∈l,¬(s.1<e/\e<=s.2)
 | [],_,_,s,hs=>by simp[ZZ] at hs
 | [a],top,h,s,hs=>by
  obtain rfl:=List.mem_singleton.1 hs;have:=h.le a si;refine⟨by simp,this,Int.le_refl _,fun e he=>?_⟩;obtain rfl:=List.mem_singleton.1 he
  simp only;omega
 | a::b::r,top,h,s,hs=>by
  have hp:=List.pairwise_cons.1 h.inc;have hab:=hp.1 b si;have hb:=h.le b si;rw[JN] at hs;rcases List.mem_cons.1 hs with rfl|hs
  ·refine⟨by simp,by simp only;omega,by simp only;omega,fun e he=>?_⟩
   simp only
   rcases List.mem_cons.1 he with rfl|he
   ·omega
   ·rcases List.mem_cons.1 he with rfl|he
    ·omega
    ·have:=(List.pairwise_cons.1 hp.2).1 e he;omega
  ·obtain⟨h1,h2,h3,h4⟩:=KG h.tail s hs;refine⟨List.mem_cons_of_mem _ h1,h2,h3,fun e he=>?_⟩;rcases List.mem_cons.1 he with rfl|he
   ·have:=hp.1 s.1 h1;omega
   ·exact h4 e he
theorem yI:∀{l:List Int} {top:Int},Kv l top->(ZZ l top).Pairwise (fun s t=>s.2<t.1)
 | [],_,_=>List.Pairwise.nil
 | [a],_,_=>by simp[ZZ]
 | a::b::r,top,h=>by
  rw[JN];refine List.pairwise_cons.2 ⟨fun t ht=>?_,yI h.tail⟩;have h1:=(KG h.tail t ht).1
  simp only
  rcases List.mem_cons.1 h1 with h2|h2
  ·omega
  ·have:=(List.pairwise_cons.1 h.tail.inc).1 t.1 h2;omega
theorem kP:∀{l:List Int} {top:Int},Kv l top->∀a,l.head? = some a->∀x,a<=x->x<=top->∃s∈ZZ l top,s.1<=x/\x<=s.2
 | [],_,_,a,ha,_,_,_=>by simp at ha
 | [b],top,_,a,ha,x,h1,h2=>by
  simp at ha;subst ha;exact⟨(b,top),by simp[ZZ],h1,h2⟩
 | b::c::r,top,h,a,ha,x,h1,h2=>by
  simp at ha;subst ha;rw[JN];by_cases hc:x<c
  ·exact⟨(b,c-1),by simp,h1,by simp only;omega⟩
  ·obtain⟨s,hs,h3⟩:=kP h.tail c rfl x om h2;exact⟨s,List.mem_cons_of_mem _ hs,h3⟩
def cls (l:List Int)(top:Int)(p:Int->Bool):List Sp:=((ZZ l top).filter (fun s=>p s.1)).foldl QU []
theorem kR {l:List Int}{top:Int}(h:Kv l top)(p:Int->Bool):Kk (cls l top p)/\∀x,has (cls l top p) x=true<->∃s∈ZZ l top,p s.1=true/\s.1<=x/\x<=s.2:=by
 have hm:=KG h;have hp:((ZZ l top).filter (fun s=>p s.1)).Pairwise (fun s t=>s.1<=t.1):=by
  refine List.Pairwise.filter _ ((yI h).imp_of_mem (fun{s t} hs ht hst=>?_));have:=(hm s hs).2.1;omega
 obtain⟨h1,h2⟩:=yH ((ZZ l top).filter (fun s=>p s.1)) [] Kk.nil (fun s hs=>(hm s (List.mem_filter.1 hs).1).2.1) hp si;refine⟨h1,fun x=>?_⟩;unfold cls;rw[h2,I9,Bool.false_or,ZD];constructor
 ·rintro⟨s,hs,h3⟩;obtain⟨h4,h5⟩:=List.mem_filter.1 hs;exact⟨s,h4,h5,h3⟩
 ·rintro⟨s,hs,h3,h4⟩;exact⟨s,List.mem_filter.2 ⟨hs,h3⟩,h4⟩
def yL (l:List Int)(top:Int)(p:Int->Bool):Prop:=∀e x,e<=x->x<=top->(∀y∈l,¬(e<y/\y<=x))->p x=p e
theorem aL {l:List Int}{top:Int}(h:Kv l top){p:Int->Bool}(hp:yL l top p){a:Int}(ha:l.head? = some a)(x:Int):has (cls l top p) x=(p x&&decide (a<=x/\x<=top)):=by
 rw[Bool.eq_iff_iff,(kR h p).2];simp only[Bool.and_eq_true,decide_eq_true_eq];constructor
 ·rintro⟨s,hs,h1,h2,h3⟩;obtain⟨h4,h5,h6,h7⟩:=KG h s hs;refine⟨?_,?_,om⟩
  ·rw[hp s.1 x h2 om (fun y hy hc=>h7 y hy ⟨hc.1,om⟩)];exact h1
  ·have:a<=s.1:=by
    rcases l with _|⟨b,l⟩
    ·simp at ha
    ·simp at ha;subst ha;rcases List.mem_cons.1 h4 with e|e
     ·omega
     ·have:=(List.pairwise_cons.1 h.inc).1 s.1 e;omega
   omega
 ·rintro⟨h1,h2,h3⟩;obtain⟨s,hs,h4,h5⟩:=kP h a ha x h2 h3;obtain⟨_,_,h6,h7⟩:=KG h s hs;exact⟨s,hs,by rw[<-hp s.1 x h4 h3 (fun y hy hc=>h7 y hy ⟨hc.1,om⟩)];exact h1,h4,h5⟩
def yM (a:List Sp)(l:List Int)(top:Int):Prop:=∀s∈a,(s.1<=top->s.1∈l)/\(s.2+1<=top->s.2+1∈l)
theorem yN {a:List Sp}{l:List Int}{top:Int}(h:yM a l top)(e x:Int)(hx:e<=x)(ht:x<=top)(hg:∀y∈l,¬(e<y/\y<=x)):has a x=has a e:=by
 rw[Bool.eq_iff_iff,ZD,ZD];constructor
 ·rintro⟨s,hs,h1,h2⟩;refine⟨s,hs,?_,om⟩;rcases Int.lt_or_le e s.1 with h3|h3
  ·exact absurd ⟨h3,h1⟩ (hg s.1 ((h s hs).1 om))
  ·exact h3
 ·rintro⟨s,hs,h1,h2⟩;refine⟨s,hs,om,?_⟩;rcases Int.lt_or_le s.2 x with h3|h3
  ·exact absurd ⟨om,om⟩ (hg (s.2+1) ((h s hs).2 om))
  ·exact h3
def KO (st:List Sp×Bool)(s:Sp)(b:Bool):List Sp×Bool:=
 (if b then(match st.2,st.1.getLast? with
  | true,some t=>st.1.dropLast++[(t.1,s.2)]
  | _,_=>st.1++[s]) else st.1,b)
def ww (p:Int->Bool)(l:List Sp)(st:List Sp×Bool):List Sp×Bool:=l.foldl (fun st s=>KO st s (p s.1)) st
def OfI (st:List Sp×Bool)(acc:List Sp)(nxt:Int):Prop:=st.1=acc/\(st.2=true->∃t,acc.getLast? = some t/\t.2+1=nxt)/\(st.2=false->∀t,acc.getLast? = some t->t.2+1<nxt)
theorem yO {st:List Sp×Bool}{acc:List Sp}{s:Sp}{b:Bool}(h:OfI st acc s.1)(hs:s.1<=s.2) :
 OfI (KO st s b) (if b then QU acc s else acc) (s.2+1):=by
 obtain⟨h1,h2,h3⟩:=h;obtain⟨l,f⟩:=st
 simp only at h1 h2 h3
 subst h1
 cases b with
 | false=>
  refine⟨rfl,fun hf=>by simp[KO] at hf,fun _ t ht=>?_⟩;have ht':l.getLast? = some t:=by simpa using ht
  cases f with
  | false=>have:=h3 rfl t ht';omega
  | true=>
   obtain⟨u,hu,hu2⟩:=h2 rfl;rw[hu] at ht';injection ht' with ht'
   subst ht';omega
 | true=>
  cases f with
  | false=>
   have e1:QU l s=l++[s]:=by
    unfold QU
    cases hl:l.getLast? with
    | none=>rw[List.getLast?_eq_none_iff] at hl;subst hl;rfl
    | some t=>
     have:=h3 rfl t hl
     simp only
     rw[if_neg om]
   refine⟨by simp[KO,e1],fun _=>⟨s,by simp[e1],rfl⟩,fun hf=>by simp[KO] at hf⟩
  | true=>
   obtain⟨t,hl,ht⟩:=h2 rfl;have e1:QU l s=l.dropLast++[(t.1,s.2)]:=by
    unfold QU;rw[hl]
    simp only
    rw[if_pos om,Int.max_eq_right om]
   refine⟨by simp[KO,e1,hl],fun _=>⟨(t.1,s.2),by simp[e1],rfl⟩,fun hf=>by simp[KO] at hf⟩
theorem Ck (p:Int->Bool):∀(l:List Int) (a top:Int) (st:List Sp×Bool) (acc:List Sp),Kv (a::l) top->OfI st acc a->(ww p (ZZ (a::l) top) st).1=((ZZ (a::l) top).filter (fun s=>p s.1)).foldl QU acc
 | [],a,top,st,acc,hE,h=>by
  have:=(yO (s:=(a,top)) (b:=p a) h (hE.le a si)).1;simp only[ww,ZZ,List.foldl_cons,List.foldl_nil,List.filter_cons,List.filter_nil];rw[this]
  cases p a<;>rfl
 | b::r,a,top,st,acc,hE,h=>by
  have hab:=(List.pairwise_cons.1 hE.inc).1 b si;have h2:=yO (s:=(a,b-1)) (b:=p a) h (by simp only;omega);have e:b-1+1=b:=om;simp only[e] at h2;have h3:=Ck p r b top _ _ hE.tail h2;rw[JN];unfold ww at h3 ⊢;rw[List.foldl_cons,h3,List.filter_cons]
  cases p a<;>simp
theorem dF {l:List Int}{top:Int}(hE:Kv l top)(p:Int->Bool):(ww p (ZZ l top) ([],false)).1=cls l top p:=by
 rcases l with _|⟨a,l⟩
 ·rfl
 ·exact Ck p l a top _ _ hE ⟨rfl,fun h=>by simp at h,fun _ t ht=>by simp at ht⟩
def upto (l:List Int)(n:Int):Nat:=(l.takeWhile (fun x=>decide (x<n))).length
theorem LQ (l:List Int)(n:Int):upto l n<=l.length:=by
 unfold upto;induction l with
 | nil=>simp
 | cons a l ih=>rw[List.takeWhile_cons];split<;>simp<;>omega
theorem AS:∀(l:List Int) (n:Int) (i:Nat) (h:i<l.length),i<upto l n->l[i]<n
 | a::l,n,i,h,hi=>by
  unfold upto at hi;rw[List.takeWhile_cons] at hi;by_cases ha:a<n
  ·simp only[ha,decide_true,if_true,List.length_cons] at hi;rcases i with _|i
   ·exact ha
   ·exact AS l n i (by simpa using h) (by unfold upto;omega)
  ·simp[ha] at hi
theorem AT:∀(l:List Int) (n:Int) (h:upto l n<l.length),¬l[upto l n]<n
 | a::l,n,h=>by
  by_cases ha:a<n
  ·have e:upto (a::l) n=upto l n+1:=by simp[upto,List.takeWhile_cons,ha]
   have h2:upto l n<l.length:=by rw[e] at h;simpa using h
   have:=AT l n h2;simp only[e,List.getElem_cons_succ];exact this
  ·have e:upto (a::l) n=0:=by simp[upto,List.takeWhile_cons,ha]
   simp only[e,List.getElem_cons_zero];exact ha
theorem LW {l:List Int}{n:Int}{k:Nat}(h1:∀i (h:i<l.length),i<k->l[i]<n)(hk:k<=l.length)(h2:∀h:k<l.length,¬l[k]<n):upto l n=k:=by
 rcases Nat.lt_trichotomy (upto l n) k with h|h|h
 ·exact absurd (h1 _ om h) (AT l n om)
 ·exact h
 ·have:=LQ l n;exact absurd (AS l n k om h) (h2 om)
def WD (l:List Int)(n top:Int):List Int:=if top<n\/l[upto l n]? = some n then l else l.take (upto l n)++n::l.drop (upto l n)
theorem KP {l:List Int}{n top x:Int}(h:Kv l top):x∈WD l n top<->x∈l\/(x=n/\n<=top):=by
 unfold WD
 split
 ·rename_i hc
  constructor
  ·exact fun hx=>.inl hx
  ·rintro(hx|⟨rfl,hx⟩)
   ·exact hx
   ·rcases hc with hc|hc
    ·omega
    ·exact List.mem_of_getElem? hc
 ·rename_i hc
  rw[not_or] at hc;rw[List.mem_append,List.mem_cons];constructor
  ·rintro(hx|hx|hx)
   ·exact .inl (List.mem_of_mem_take hx)
   ·exact .inr ⟨hx,om⟩
   ·exact .inl (List.mem_of_mem_drop hx)
  ·rintro(hx|⟨hx,_⟩)
   ·rw[<-List.take_append_drop (upto l n) l] at hx;rcases List.mem_append.1 hx with hx|hx
    ·exact .inl hx
    ·exact .inr (.inr hx)
   ·exact .inr (.inl hx)
theorem kT {l:List Int}{n top:Int}(h:Kv l top):Kv (WD l n top) top:=by
 refine⟨?_,fun x hx=>?_⟩
 ·unfold WD
  split
  ·exact h.inc
  ·rename_i hc
   rw[not_or] at hc;refine List.pairwise_append.2 ⟨h.inc.sublist (List.take_sublist _ _),List.pairwise_cons.2 ⟨fun y hy=>?_,h.inc.sublist (List.drop_sublist _ _)⟩,fun x hx y hy=>?_⟩
   ·have hlt:upto l n<l.length:=by
     rcases Nat.lt_or_ge (upto l n) l.length with h1|h1
     ·exact h1
     ·rw[List.drop_eq_nil_of_le h1] at hy;simp at hy
    have h1:=AT l n hlt;have h2:l[upto l n]≠n:=fun e=>hc.2 (by rw[List.getElem?_eq_getElem hlt,e]);rw[List.drop_eq_getElem_cons hlt] at hy;rcases List.mem_cons.1 hy with rfl|hy
    ·omega
    ·have h3:=h.inc.sublist (List.drop_sublist (upto l n) l);rw[List.drop_eq_getElem_cons hlt] at h3;have:=(List.pairwise_cons.1 h3).1 y hy;omega
   ·have hxn:x<n:=by
     obtain⟨i,hi,rfl⟩:=List.getElem_of_mem hx;rw[List.length_take] at hi;rw[List.getElem_take];exact AS l n i om om
    rcases List.mem_cons.1 hy with rfl|hy
    ·exact hxn
    ·have h3:=h.inc
     rw[<-List.take_append_drop (upto l n) l] at h3;exact(List.pairwise_append.1 h3).2.2 x hx y hy
 ·rcases(KP h).1 hx with hx|⟨rfl,hx⟩
  ·exact h.le x hx
  ·exact hx
theorem Cv {l:List Int}{n top:Int}(h:l.head? = some 0)(hn:0<=n):(WD l n top).head? = some 0:=by
 rcases l with _|⟨a,l⟩
 ·simp at h
 ·obtain rfl:a=0:=by simpa using h
  unfold WD
  split
  ·rfl
  ·rename_i hc
   rw[not_or] at hc;by_cases h0:(0:Int)<n
   ·have e:upto (0::l) n=upto l n+1:=by simp[upto,List.takeWhile_cons,h0]
    rw[e];simp
   ·have e:upto (0::l) n=0:=by simp[upto,List.takeWhile_cons,h0]
    obtain rfl:n=0:=om;rw[e] at hc;simp at hc
theorem xF (l:List Int)(n top:Int):(WD l n top).length<=l.length+1:=by
 unfold WD;have:=LQ l n
 split
 ·omega
 ·simp;omega
def V7 (top:Int)(l:List Int)(s:Sp):List Int:=WD (WD l s.1 top) (s.2+1) top
def QI (top:Int)(ls:List (List Sp)):List Int:=ls.flatten.foldl (V7 top) [0]
structure V0 (l:List Int)(top:Int)(a:List Sp):Prop where
 ends:Kv l top
 head:l.head? = some 0
 inn:yM a l top
 only:∀x∈l,x=0\/∃s∈a,x=s.1\/x=s.2+1
theorem V0.put {l:List Int}{top:Int}{a:List Sp}(h:V0 l top a){s:Sp}(hs:0<=s.1/\s.1<=s.2):V0 (V7 top l s) top (a++[s]):=by
 have h1:=kT (n:=s.1) h.ends;refine⟨kT h1,Cv (Cv h.head hs.1) om,fun t ht=>?_,fun x hx=>?_⟩
 ·unfold V7;rcases List.mem_append.1 ht with ht|ht
  ·have:=h.inn t ht;exact⟨fun hx=>(KP h1).2 (.inl ((KP h.ends).2 (.inl (this.1 hx)))),fun hx=>(KP h1).2 (.inl ((KP h.ends).2 (.inl (this.2 hx))))⟩
  ·obtain rfl:=List.mem_singleton.1 ht;exact⟨fun hx=>(KP h1).2 (.inl ((KP h.ends).2 (.inr ⟨rfl,hx⟩))),fun hx=>(KP h1).2 (.inr ⟨rfl,hx⟩)⟩
 ·unfold V7 at hx;rcases(KP h1).1 hx with hx|⟨hx,_⟩
  ·rcases(KP h.ends).1 hx with hx|⟨hx,_⟩
   ·rcases h.only x hx with h2|⟨t,ht,h2⟩
    ·exact .inl h2
    ·exact .inr ⟨t,List.mem_append_left _ ht,h2⟩
   ·exact .inr ⟨s,by simp,.inl hx⟩
  ·exact .inr ⟨s,by simp,.inr hx⟩
theorem V0.all:∀(b:List Sp) {l:List Int} {top:Int} {a:List Sp},V0 l top a->(∀s∈b,0<=s.1/\s.1<=s.2)->V0 (b.foldl (V7 top) l) top (a++b)
 | [],l,top,a,h,_=>by simpa using h
 | s::b,l,top,a,h,hb=>by
  have:=V0.all b (h.put (hb s si)) (fun t ht=>hb t (by simp[ht]))
  simpa using this
theorem jx {top:Int}(h0:0<=top){ls:List (List Sp)}(hb:∀s∈ls.flatten,0<=s.1/\s.1<=s.2):V0 (QI top ls) top ls.flatten:=by
 have h:V0 [0] top []:=⟨⟨by simp,by simpa using h0⟩,rfl,fun s hs=>by simp at hs,by simp⟩;have:=h.all ls.flatten hb
 simpa[QI] using this
theorem zT (top:Int):∀(b:List Sp) (l:List Int),(b.foldl (V7 top) l).length<=l.length+2*b.length
 | [],l=>by simp
 | s::b,l=>by
  have h1:=zT top b (V7 top l s);have h2:=xF l s.1 top;have h3:=xF (WD l s.1 top) (s.2+1) top;rw[List.foldl_cons,List.length_cons];unfold V7 at *;omega
def QH (s:Sp):Prop:=0<=s.1/\s.1<=s.2/\s.2<=1114111
theorem aM {ls:List (List Sp)}{top:Int}(h0:0<=top)(hg:∀s∈ls.flatten,0<=s.1/\s.1<=s.2){p:Int->Bool}(hp:yL (QI top ls) top p)(x:Int) :
 has (cls (QI top ls) top p) x=(p x&&decide (0<=x/\x<=top)):=by
 have h:=jx h0 hg;exact aL h.ends hp h.head x
theorem N6 {n:List Int}{top:Int}{ls:List (List Sp)}(h:∀a∈ls,yM a n top)(k:List Bool->Bool):yL n top (fun x=>k (ls.map (fun a=>has a x))):=by
 intro e x h1 h2 h3;have:ls.map (fun a=>has a x)=ls.map (fun a=>has a e):=List.map_congr_left (fun a ha=>yN (h a ha) e x h1 h2 h3);simp only[this]
structure lS (n:List Int)(ls:List (List Sp)):Prop where
 inc:n.Pairwise (· < ·)
 inn:∀a∈ls,∀s∈a,s.1∈n/\s.2+1∈n
theorem UN:(Tryz.prog.info? 38).map (fun i=>(i.zero,i.size,i.bytes))=some (some (.agg #[.int .i64 0,.int .i64 0]),2,16):=by kernel_rfl
def Qz (l:List Sp):List Value:=l.flatMap fun s=>[.int .i64 s.1,.int .i64 s.2]
theorem WL (l m:List Sp):Qz (l++m)=Qz l++Qz m:=by simp[Qz]
theorem jA (s:Sp)(l:List Sp):Qz (s::l)=.int .i64 s.1::.int .i64 s.2::Qz l:=by simp[Qz]
theorem Q1 (l:List Sp):(Qz l).length=l.length*2:=by
 induction l with
 | nil=>rfl
 | cons y l ih=>rw[jA];simp only[List.length_cons];omega
theorem ZG (l:List Sp):∀u∈Qz l,u.oneCell'=true:=by
 intro u hu;obtain⟨s,_,hs⟩:=List.mem_flatMap.1 hu;simp only[List.mem_cons,List.not_mem_nil,or_false] at hs;rcases hs with rfl|rfl<;>rfl
theorem ZH (l:List Sp)(i:Nat)(h:i<l.length):(Qz l)[i*2]? = some (.int .i64 l[i].1)/\(Qz l)[i*2+1]? = some (.int .i64 l[i].2):=by
 induction l generalizing i with
 | nil=>simp at h
 | cons y l ih=>
  cases i with
  | zero=>simp[jA]
  | succ i=>
   have hi:i<l.length:=by simpa using h
   have e1:(i+1)*2=i*2+2:=om;rw[jA,e1];exact ih i hi
def S64 (s:Sp):Prop:=I64 s.1/\I64 s.2
structure SL (w:World)(A:Option Addr)(c:Nat)(l:List Sp):Prop where
 le:l.length<=c
 cap:c<=maxLen
 rng:∀s∈l,S64 s
 at_:l≠[]->∃b o,A=some ⟨b,o,none⟩/\∀i (h:i<l.length),w.cell? ⟨b,o+i*2,none⟩=some (.int .i64 l[i].1)/\w.cell? ⟨b,o+i*2+1,none⟩=some (.int .i64 l[i].2)
namespace SL
variable {w w':World} {A:Option Addr} {c:Nat} {l:List Sp}
theorem ext (h:SL w A c l)(k:Ext w w'):SL w' A c l:=by
 refine⟨h.le,h.cap,h.rng,fun hn=>?_⟩;obtain⟨b,o,rfl,hc⟩:=h.at_ hn;exact⟨b,o,rfl,fun i hi=>⟨k.cell (hc i hi).1,k.cell (hc i hi).2⟩⟩
theorem nil (w:World):SL w none 0 []:=⟨Nat.le_refl _,Nat.zero_le _,by simp,fun h=>absurd rfl h⟩
theorem len (h:SL w A c l):l.length<=c/\c<=9223372036854775807:=⟨h.le,by have:=h.cap;unfold maxLen at this;omega⟩
theorem get {k:Nat}(h:SL w A c l)(hk:k<l.length):∃b o,A=some ⟨b,o,none⟩/\w.cell? ⟨b,o+k*2,none⟩=some (.int .i64 l[k].1)/\w.cell? ⟨b,o+k*2+1,none⟩=some (.int .i64 l[k].2):=by
 obtain⟨b,o,rfl,hc⟩:=h.at_ (by intro h0;subst h0;simp at hk);exact⟨b,o,rfl,hc k hk⟩
theorem wf {k:Nat}(h:SL w A c l)(hk:k<l.length):S64 l[k]:=h.rng _ (List.getElem_mem hk)
theorem blt (h:SL w A c l)(hn:l≠[]){b:Nat}(hb:A.map (·.block)=some b):b<w.heap.size:=by
 obtain⟨b',o,rfl,hc⟩:=h.at_ hn;have hbb:b'=b:=by simpa using hb
 subst hbb;have h0:=(hc 0 (List.length_pos_iff.2 hn)).1;exact World.block_lt_of_cell? _ _ h0
theorem of_own {base:Nat}(h:QQ w base 38 2 A l.length c (Qz l))(hr:∀s∈l,S64 s):SL w A c l:=by
 have hc:=QQ.caps h;refine⟨hc.1,by unfold maxLen;omega,hr,fun hn=>?_⟩;obtain⟨b,o,hA,hcell⟩:=QQ.cells h (by intro e;have:=Q1 l;rw[e] at this;simp at this;exact hn (List.length_eq_zero_iff.1 om));have one:∀(i:Nat) (v:Value),(Qz l)[i]? = some v->w.cell? ⟨b,o+i,none⟩=some v:=fun i v hv=>by
  obtain⟨l1,e1⟩:=List.getElem?_eq_some_iff.1 hv;rw[hcell i l1,e1]
 exact⟨b,o,hA,fun i hi=>⟨one _ _ (ZH l i hi).1,by rw[Nat.add_assoc];exact one _ _ (ZH l i hi).2⟩⟩
theorem cells (h:SL w A c l):QP w A (Qz l):=by
 intro hn;obtain⟨b,o,hA,hc⟩:=h.at_ (by rintro rfl;exact hn rfl);refine⟨b,o,hA,fun i hi=>?_⟩;have hi2:i / 2<l.length:=by rw[Q1] at hi;omega
 obtain⟨g1,g2⟩:=ZH l (i / 2) hi2;rcases Nat.mod_two_eq_zero_or_one i with h0|h1
 ·have e:i=i / 2*2:=om;have:=(hc _ hi2).1
  rw[<-e] at this g1;rw[this,<-g1,List.getElem?_eq_getElem]
 ·have e:i=i / 2*2+1:=om;have:=(hc _ hi2).2;rw[Nat.add_assoc,<-e] at this
  rw[<-e] at g2;rw[this,<-g2,List.getElem?_eq_getElem]
end SL
def spV (s:Sp):Value:=.agg #[.int .i64 s.1,.int .i64 s.2]
instance (s:Sp):Decidable (QH s):=by unfold QH;infer_instance
def JO (s:Sp):Bool:=decide (QH s)
theorem MW {P:Prop} (h:P:=by
 go_enter Tryz.func155,Tryz.ntmps155
 go_wp2
 go_ret
 exact⟨by rw[HR.out];rfl,x1⟩):P:=h
theorem dG {P:Prop} (h:P:=by
 show _=_
 have h:JO (lo,hi)=true<->(0<=lo/\lo<=hi/\hi<=1114111):=decide_eq_true_iff;rw[Bool.eq_iff_iff,h];simp only[decide_eq_true_eq,Bool.and_eq_true,and_assoc]):P:=h
theorem Cw (s:Sp)(w:World):Calls Tryz.prog 155 #[spV s] w (QD (.bool (JO s)) w):=by
 obtain⟨lo,hi⟩:=s;obtain⟨b1,x1⟩:=Yy w 38 #[.int .i64 lo,.int .i64 hi];obtain⟨p0,p1,_,_,pz⟩:=b1.c2;have HG:Hid (JO (lo,hi)=(decide (0<=lo)&&decide (lo<=hi)&&decide (hi<=1114111))):=by
  exact dG
 generalize JO (lo,hi)=r at *;unfold spV
 simp only
 by_cases h0:0<=lo
 ·by_cases h1:lo<=hi
  ·by_cases h2:hi<=1114111
   ·have HR:Hid (r=true):=by show _=_;rw[HG.out];simp[h0,h1,h2]
    exact MW
   ·have HR:Hid (r=false):=by show _=_;rw[HG.out];simp[h2]
    exact MW
  ·have HR:Hid (r=false):=by show _=_;rw[HG.out];simp[h1]
   exact MW
 ·have HR:Hid (r=false):=by show _=_;rw[HG.out];simp[h0]
  exact MW
theorem MZ {P:Prop} (h:P:=by
 go_enter Tryz.func162,Tryz.ntmps162
 go_wp2
 go_ret
 exact⟨by rw[HR.out];rfl,x1⟩):P:=h
theorem FF (s:Sp)(w:World):Calls Tryz.prog 162 #[spV s] w (QD (.bool (JO s)) w):=by
 obtain⟨lo,hi⟩:=s;obtain⟨b1,x1⟩:=Yy w 38 #[.int .i64 lo,.int .i64 hi];obtain⟨p0,p1,_,_,pz⟩:=b1.c2;have HG:Hid (JO (lo,hi)=(decide (0<=lo)&&decide (lo<=hi)&&decide (hi<=1114111))):=by
  exact dG
 generalize JO (lo,hi)=r at *;unfold spV
 simp only
 by_cases h0:0<=lo
 ·by_cases h1:lo<=hi
  ·by_cases h2:hi<=1114111
   ·have HR:Hid (r=true):=by show _=_;rw[HG.out];simp[h0,h1,h2]
    exact MZ
   ·have HR:Hid (r=false):=by show _=_;rw[HG.out];simp[h2]
    exact MZ
  ·have HR:Hid (r=false):=by show _=_;rw[HG.out];simp[h1]
   exact MZ
 ·have HR:Hid (r=false):=by show _=_;rw[HG.out];simp[h0]
  exact MZ
theorem UO {l:List Sp}{x:Int}(h:∀i (hi:i<l.length),¬(l[i].1<=x/\x<=l[i].2)):has l x=false:=by
 rw[Bool.eq_false_iff];intro hh;obtain⟨s,hs,h1⟩:=ZD.1 hh;obtain⟨i,hi,rfl⟩:=List.getElem_of_mem hs;exact h i hi h1
theorem N7 {l:List Sp}{x:Int}{i:Nat}(hi:i<l.length)(h1:l[i].1<=x)(h2:x<=l[i].2):has l x=true:=ZD.2 ⟨_,List.getElem_mem hi,h1,h2⟩
theorem dH {P:Prop} (h:P:=by
 clear HI2 HY2 HN HY
 go_wp2
 go_roundw
 case rel=>exact⟨i+1,by go_num,om,HI3,x1⟩
 case measure=>simp[intOf];omega):P:=h
theorem FG (A:Option Addr)(c:Nat)(l:List Sp)(x:Int)(w:World)(hl:SL w A c l):Calls Tryz.prog 128 #[.slice A l.length c,.int .i64 x] w (QD (.bool (has l x)) w):=by
 have hlen:=hl.len;have HN:=fun h=>lh (UO (l:=l) (x:=x) h);have HY:=fun i hi h1 h2=>lh (N7 (l:=l) (x:=x) (i:=i) hi h1 h2);generalize has l x=r at *;go_enter Tryz.func128,Tryz.ntmps128
 go_wp2
 go_loopw [5] (fun v wr=>∃i:Nat,v=.int .i64 i/\i<=l.length/\Hid (∀j (hj:j<l.length),j<i->¬(l[j].1<=x/\x<=l[j].2))/\Ext w wr) (fun v _=>l.length-(intOf v).toNat)
 case atStart=>exact⟨0,rfl,om,fun j _ hj=>absurd hj (Nat.not_lt_zero _),Ext.rfl' _⟩
 case round=>
  obtain⟨i,rfl,hi,HI,x1⟩:=hrel;by_cases hlt:i<l.length
  ·obtain⟨b,o,rfl,g1,g2⟩:=(hl.ext x1).get hlt;have hI:(i:Int)<l.length:=om;have HI2:=lh (show ¬(l[i].1<=x/\x<=l[i].2)->∀j (hj:j<l.length),j<i+1->¬(l[j].1<=x/\x<=l[j].2) from fun hn j hj hji=>by
    rcases Nat.lt_or_ge j i with h1|h1
    ·exact HI.out j hj h1
    ·have:j=i:=om;subst this;exact hn)
   have HY2:=HY i hlt;generalize l[i]=s at *;obtain⟨lo,hi2⟩:=s
   simp only at g1 g2 HI2 HY2
   by_cases h1:lo<=x
   ·by_cases h2:x<=hi2
    ·have HR:=HY2 h1 h2;clear HI2 HY2 HN HY
     go_wp2
     go_ret
     exact⟨by rw[HR.out];rfl,x1⟩
    ·have HI3:=lh (HI2.out (fun h=>h2 h.2));exact dH
   ·have HI3:=lh (HI2.out (fun h=>h1 h.1));exact dH
  ·have hI:¬(i:Int)<l.length:=om;have HR:=HN (fun j hj=>HI.out j hj om);clear HN HY
   go_wp2
   go_ret
   exact⟨by rw[HR.out];rfl,x1⟩
end
section
abbrev St:=List Nat
structure Ins where
 op:Int
 x:Int
 y:Int
 n:Int
 set:List Sp
def WZ (G:List Ins):Nat->List Nat×List Nat->Nat->List Nat×List Nat
 | 0,s,_=>s
 | f+1,s,pc=>if pc∈s.2 then s else
  match G[pc]? with
  | none=>s
  | some i=>
   if i.op=2 then WZ G f (WZ G f (s.1,s.2++[pc]) i.x.toNat) i.y.toNat
   else if i.op=3 then WZ G f (s.1,s.2++[pc]) i.x.toNat
   else if i.op=4 then WZ G f (s.1,s.2++[pc]) (pc+1)
   else(s.1++[pc],s.2++[pc])
def Q2 (G:List Ins):Nat->List Nat×List Nat->Nat->(List Nat×List Nat)×Bool
 | 0,s,_=>(s,true)
 | f+1,s,pc=>if pc∈s.2 then(s,true) else
  match G[pc]? with
  | none=>(s,true)
  | some i=>
   if i.op=2 then
    if(Q2 G f (s.1,s.2++[pc]) i.x.toNat).2=true then Q2 G f (Q2 G f (s.1,s.2++[pc]) i.x.toNat).1 i.y.toNat
    else Q2 G f (s.1,s.2++[pc]) i.x.toNat
   else if i.op=3 then Q2 G f (s.1,s.2++[pc]) i.x.toNat
   else if i.op=4 then Q2 G f (s.1,s.2++[pc]) (pc+1)
   else((s.1++[pc],s.2++[pc]),decide (i.op≠0))
def isD (G:List Ins)(pc:Nat):Bool:=match G[pc]? with|some i=>decide (i.op=0)|none=>false
theorem XT (G:List Ins):∀f s pc,∃t,(WZ G f s pc).1=s.1++t
 | 0,s,pc=>⟨[],by simp[WZ]⟩
 | f+1,s,pc=>by
  unfold WZ
  split
  ·exact⟨[],by simp⟩
  ·split
   ·exact⟨[],by simp⟩
   ·rename_i i _
    split
    ·obtain⟨t1,h1⟩:=XT G f (s.1,s.2++[pc]) i.x.toNat;obtain⟨t2,h2⟩:=XT G f (WZ G f (s.1,s.2++[pc]) i.x.toNat) i.y.toNat;exact⟨t1++t2,by rw[h2,h1,List.append_assoc]⟩
    ·split
     ·exact XT G f (s.1,s.2++[pc]) i.x.toNat
     ·split
      ·exact XT G f (s.1,s.2++[pc]) (pc+1)
      ·exact⟨[pc],rfl⟩
theorem YC (G:List Ins):∀f s pc,(∀p∈s.1,isD G p=false)->
 ((Q2 G f s pc).2=true/\WZ G f s pc=(Q2 G f s pc).1/\∀p∈(Q2 G f s pc).1.1,isD G p=false)\/
 ((Q2 G f s pc).2=false/\∃u d t,(Q2 G f s pc).1.1=u++[d]/\(∀p∈u,isD G p=false)/\isD G d=true/\(WZ G f s pc).1=u++[d]++t)
 | 0,s,pc,h=>.inl ⟨rfl,rfl,h⟩
 | f+1,s,pc,h=>by
  unfold Q2 WZ;by_cases hm:pc∈s.2
  ·simp only[hm,if_true];exact .inl ⟨trivial,trivial,h⟩
  ·simp only[hm,if_false]
   cases hg:G[pc]? with
   | none=>exact .inl ⟨rfl,rfl,h⟩
   | some i=>
    simp only
    by_cases h2:i.op=2
    ·simp only[h2,if_true];rcases YC G f (s.1,s.2++[pc]) i.x.toNat h with⟨e1,e2,e3⟩|⟨e1,u,d,t,e2,e3,e4,e5⟩
     ·simp only[e1,if_true];rw[e2];exact YC G f _ i.y.toNat e3
     ·simp only[e1];obtain⟨t2,h3⟩:=XT G f (WZ G f (s.1,s.2++[pc]) i.x.toNat) i.y.toNat;exact .inr ⟨e1,u,d,t++t2,e2,e3,e4,by rw[h3,e5];simp only[List.append_assoc]⟩
    ·simp only[h2,if_false];by_cases h3:i.op=3
     ·simp only[h3,if_true];exact YC G f (s.1,s.2++[pc]) i.x.toNat h
     ·simp only[h3,if_false];by_cases h4:i.op=4
      ·simp only[h4,if_true];exact YC G f (s.1,s.2++[pc]) (pc+1) h
      ·simp only[h4,if_false];by_cases h0:i.op=0
       ·right
        refine⟨by simp[h0],s.1,pc,[],rfl,h,by simp[isD,hg,h0],by simp⟩
       ·left
        refine⟨by simp[h0],trivial,fun p hp=>?_⟩;rcases List.mem_append.1 hp with hp|hp
        ·exact h p hp
        ·have:p=pc:=by simpa using hp
         subst this;simp[isD,hg,h0]
def UP (G:List Ins)(N:Nat)(from_:List Nat):List Nat×List Nat:=from_.foldl (WZ G N) ([],[])
def JP (G:List Ins)(N:Nat):List Nat->List Nat×List Nat->List Nat×List Nat
 | [],s=>s
 | p::r,s=>if(Q2 G N s p).2=true then JP G N r (Q2 G N s p).1 else(Q2 G N s p).1
def VY (G:List Ins):List Nat->List Nat
 | []=>[]
 | p::r=>if isD G p=true then[p] else p::VY G r
theorem kU {G:List Ins}:∀{l:List Nat},(∀p∈l,isD G p=false)->VY G l=l
 | [],_=>rfl
 | p::r,h=>by
  unfold VY;rw[h p si];simp only[Bool.false_eq_true,if_false];rw[kU (fun q hq=>h q (by simp[hq]))]
theorem LZ {G:List Ins}{d:Nat}{t:List Nat}(hd:isD G d=true):∀{u:List Nat},(∀p∈u,isD G p=false)->VY G (u++[d]++t)=u++[d]
 | [],_=>by simp[VY,hd]
 | p::r,h=>by
  simp only[List.cons_append];unfold VY;rw[h p si];simp only[Bool.false_eq_true,if_false];have:=LZ (t:=t) hd (u:=r) (fun q hq=>h q (by simp[hq]));simp only[List.append_assoc,List.singleton_append] at this ⊢;rw[this]
theorem Cy (G:List Ins)(N:Nat):∀(r:List Nat) (s:List Nat×List Nat),∃t,(r.foldl (WZ G N) s).1=s.1++t
 | [],s=>⟨[],by simp⟩
 | p::r,s=>by
  obtain⟨t1,h1⟩:=XT G N s p;obtain⟨t2,h2⟩:=Cy G N r (WZ G N s p);exact⟨t1++t2,by rw[List.foldl_cons,h2,h1,List.append_assoc]⟩
theorem wP (G:List Ins)(N:Nat):∀(r:List Nat) (s:List Nat×List Nat),(∀p∈s.1,isD G p=false)->(JP G N r s).1=VY G (r.foldl (WZ G N) s).1
 | [],s,h=>by simp[JP,kU h]
 | p::r,s,h=>by
  unfold JP;rw[List.foldl_cons];rcases YC G N s p h with⟨e1,e2,e3⟩|⟨e1,u,d,t,e2,e3,e4,e5⟩
  ·simp only[e1,if_true];rw[e2];exact wP G N r _ e3
  ·simp only[e1];obtain⟨t2,h2⟩:=Cy G N r (WZ G N s p);rw[h2,e5,List.append_assoc];simp only[Bool.false_eq_true,if_false];rw[e2,LZ e4 e3]
def QX (G:List Ins)(from_:List Nat):List Nat:=VY G (UP G (G.length+1) from_).1
theorem jB (G:List Ins)(from_:List Nat):(JP G (G.length+1) from_ ([],[])).1=QX G from_:=wP G _ from_ _ si
def grow (L:List St)(s:St):List St:=if s=[]\/s∈L then L else L++[s]
def Q5 (ts:List St)(L:List St):List St:=ts.foldl grow L
theorem FH (L:List St)(s:St):∃t,grow L s=L++t:=by
 unfold grow;split
 ·exact⟨[],by simp⟩
 ·exact⟨[s],rfl⟩
theorem VK:∀(ts:List St) (L:List St),∃t,Q5 ts L=L++t
 | [],L=>⟨[],by simp[Q5]⟩
 | s::ts,L=>by
  obtain⟨t1,h1⟩:=FH L s;obtain⟨t2,h2⟩:=VK ts (grow L s);exact⟨t1++t2,by show Q5 ts (grow L s)=_;rw[h2,h1,List.append_assoc]⟩
theorem xG (L:List St)(s:St):s=[]\/s∈grow L s:=by
 unfold grow;split
 ·assumption
 ·exact .inr si
theorem Yq:∀(ts:List St) (L:List St),∀s∈ts,s=[]\/s∈Q5 ts L
 | [],_,s,h=>by cases h
 | t::ts,L,s,h=>by
  show s=[]\/s∈Q5 ts (grow L t)
  rcases List.mem_cons.1 h with rfl|h
  ·rcases xG L s with h1|h1
   ·exact .inl h1
   ·obtain⟨u,hu⟩:=VK ts (grow L s);exact .inr (by rw[hu];simp[h1])
  ·exact Yq ts _ s h
def Yz (L:List St):Prop:=L.Nodup/\[]∉L
theorem vQ {L:List St}(h:Yz L)(s:St):Yz (grow L s):=by
 unfold grow;split
 ·exact h
 ·rename_i hn
  simp only[not_or] at hn;refine⟨?_,?_⟩
  ·rw[List.nodup_append];exact⟨h.1,by simp,fun a ha b hb=>by
    have:b=s:=by simpa using hb
    subst this;rintro rfl;exact hn.2 ha⟩
  ·simp only[List.mem_append,List.mem_singleton,not_or];exact⟨h.2,fun e=>hn.1 e.symm⟩
theorem qy:∀(ts:List St) {L:List St},Yz L->Yz (Q5 ts L)
 | [],_,h=>h
 | s::ts,_,h=>qy ts (vQ h s)
def expl (nx:St->List St):Nat->Nat->List St->Option (List St)
 | 0,_,_=>none
 | f+1,i,L=>if 1024<L.length then none else match L[i]? with
  | none=>some L
  | some l=>expl nx f (i+1) (Q5 (nx l) L)
theorem Cx {nx:St->List St}{f i:Nat}{L:List St}(h:1024<L.length):expl nx f i L=none:=by
 cases f with
 | zero=>rfl
 | succ f=>unfold expl;rw[if_pos h]
theorem CC {nx:St->List St}{f i:Nat}{L:List St}(h:¬1024<L.length)(hi:i<L.length):expl nx (f+1) i L=expl nx f (i+1) (Q5 (nx L[i]) L):=by
 rw[expl,if_neg h,List.getElem?_eq_getElem hi]
theorem FI {nx:St->List St}{f i:Nat}{L:List St}(h:¬1024<L.length)(hi:L.length<=i):expl nx (f+1) i L=some L:=by
 rw[expl,if_neg h,List.getElem?_eq_none hi]
theorem MJ {nx nx':St->List St}(h:∀l,nx l=nx' l)(f i:Nat)(L:List St):expl nx f i L=expl nx' f i L:=by
 have:nx=nx':=funext h;rw[this]
def idx (L:List St)(s:St):Int:=if s=[] then -1 else(L.idxOf s:Nat)
theorem AU {L t:List St}{s:St}(h:s=[]\/s∈L):idx (L++t) s=idx L s:=by
 unfold idx
 split
 ·rfl
 ·rename_i hn
  have hm:s∈L:=h.resolve_left hn;rw[List.idxOf_append,if_pos hm]
theorem aN {L:List St}(hg:Yz L){j:Nat}(hj:j<L.length):idx L L[j]=j:=by
 unfold idx;have hne:L[j]≠[]:=fun e=>hg.2 (by rw[<-e];exact List.getElem_mem hj);rw[if_neg hne,hg.1.idxOf_getElem]
theorem YD {L:List St}{s:St}(h:s∈L)(hn:s≠[]):0<=idx L s/\idx L s<L.length/\L[(idx L s).toNat]? = some s:=by
 unfold idx;rw[if_neg hn];have h1:=List.idxOf_lt_length_of_mem h;refine⟨om,om,?_⟩;simp[h1]
inductive Rch {α:Type} (E:α->α->Prop):α->α->Prop
 | one {a b:α}:E a b->Rch E a b
 | cons {a b c:α}:E a b->Rch E b c->Rch E a c
theorem Rch.trans {α:Type}{E:α->α->Prop}{a b c:α}(h:Rch E a b)(k:Rch E b c):Rch E a c:=by
 induction h with
 | one h=>exact .cons h k
 | cons h _ ih=>exact .cons h (ih k)
structure FL (E:Nat->Nat->Prop)(M M':Nat->Prop)(t:Nat):Prop where
 sub:∀x,M x->M' x
 all:∀p,E p t->M' p
 new:∀x,M' x->¬M x->Rch E x t/\∀p,E p x->M' p
structure JR (E:Nat->Nat->Prop)(M M':Nat->Prop)(t:Nat)(P:Nat->Prop):Prop where
 sub:∀x,M x->M' x
 all:∀p,P p->M' p
 new:∀x,M' x->¬M x->Rch E x t/\∀p,E p x->M' p
theorem JR.start (E:Nat->Nat->Prop)(M:Nat->Prop)(t:Nat):JR E M M t (fun _=>False):=⟨fun _ h=>h,fun _ h=>h.elim,fun x h k=>absurd h k⟩
theorem JR.old {E:Nat->Nat->Prop}{M M':Nat->Prop}{t:Nat}{P:Nat->Prop}(h:JR E M M' t P){s:Nat}(hs:M' s):JR E M M' t (fun p=>P p\/p=s):=
 ⟨h.sub,fun p hp=>hp.elim (h.all p) (fun e=>e▸hs),h.new⟩
theorem JR.step {E:Nat->Nat->Prop}{M M' M'':Nat->Prop}{t:Nat}{P:Nat->Prop}(h:JR E M M' t P){s:Nat}(hE:E s t)(k:FL E (fun x=>M' x\/x=s) M'' s):JR E M M'' t (fun p=>P p\/p=s):=by
 refine⟨fun x hx=>k.sub x (.inl (h.sub x hx)),fun p hp=>k.sub p (hp.imp (h.all p) id),fun x hx hM=>?_⟩;by_cases h1:M' x
 ·obtain⟨h2,h3⟩:=h.new x h1 hM;exact⟨h2,fun p hp=>k.sub p (.inl (h3 p hp))⟩
 ·by_cases h4:x=s
  ·subst h4;exact⟨.one hE,k.all⟩
  ·obtain⟨h5,h6⟩:=k.new x hx (by rintro(h7|h7);exact h1 h7;exact h4 h7);exact⟨h5.trans (.one hE),h6⟩
theorem JR.done {E:Nat->Nat->Prop}{M M':Nat->Prop}{t:Nat}{P:Nat->Prop}(h:JR E M M' t P)(hP:∀p,E p t->P p):FL E M M' t:=⟨h.sub,fun p hp=>h.all p (hP p hp),h.new⟩
structure VG (E:Nat->Nat->Prop)(M:Nat->Prop)(T:Nat->Prop):Prop where
 why:∀x,M x->∃t,T t/\Rch E x t
 clo:∀x,M x->∀p,E p x->M p
 all:∀t,T t->∀p,E p t->M p
theorem VG.step {E:Nat->Nat->Prop}{M M':Nat->Prop}{T:Nat->Prop}(h:VG E M T){t:Nat}(k:FL E M M' t):VG E M' (fun x=>T x\/x=t):=by
 refine⟨fun x hx=>?_,fun x hx p hp=>?_,fun u hu p hp=>?_⟩
 ·by_cases h1:M x
  ·obtain⟨u,h2,h3⟩:=h.why x h1;exact⟨u,.inl h2,h3⟩
  ·exact⟨t,.inr rfl,(k.new x hx h1).1⟩
 ·by_cases h1:M x
  ·exact k.sub p (h.clo x h1 p hp)
  ·exact(k.new x hx h1).2 p hp
 ·rcases hu with hu|rfl
  ·exact k.sub p (h.all u hu p hp)
  ·exact k.all p hp
theorem VG.law {E:Nat->Nat->Prop}{M:Nat->Prop}{T:Nat->Prop}(h:VG E M T)(x:Nat):M x<->∃t,T t/\Rch E x t:=by
 refine⟨h.why x,?_⟩;rintro⟨t,ht,hr⟩;induction hr with
 | one he=>exact h.all _ ht _ he
 | cons he _ ih=>exact h.clo _ (ih ht) _ he
def Stp (f:St->Int->St)(cs:List Int)(a b:St):Prop:=b≠[]/\∃c∈cs,f a c=b
def Opn (f:St->Int->St)(cs:List Int)(dn:St->Bool)(s:St):Prop:=∃t,Rch (Stp f cs) s t/\dn t=true
section
variable {f:St->Int->St} {cs:List Int} {dn:St->Bool}
theorem jC (hf:∀c,f [] c=[])(hd:dn []=false):∀(w:List Int) (s:St),w≠[]->(∀c∈w,c∈cs)->dn (w.foldl f s)=true->Opn f cs dn s
 | [],_,h,_,_=>absurd rfl h
 | [c],s,_,hc,h=>⟨f s c,.one ⟨fun e=>(by rw[List.foldl_cons,List.foldl_nil,e,hd] at h;cases h),c,hc c si,rfl⟩,h⟩
 | c::c2::r,s,_,hc,h=>by
  obtain⟨t,h1,h2⟩:=jC hf hd (c2::r) (f s c) si (fun x hx=>hc x (by simp[hx])) h;refine⟨t,.cons ⟨fun e=>?_,c,hc c si,rfl⟩ h1,h2⟩;have hnil:∀(l:List Int),l.foldl f []=[]:=fun l=>by
   induction l with
   | nil=>rfl
   | cons x l ih=>rw[List.foldl_cons,hf];exact ih
  have h3:(c::c2::r).foldl f s=(c2::r).foldl f (f s c):=rfl;rw[h3,e,hnil,hd] at h;cases h
theorem RT {S:List St}(hS:∀x∈S,∀c∈cs,dn (f x c)=false/\(f x c=[]\/f x c∈S)){s:St}(hs:s∈S):¬Opn f cs dn s:=by
 rintro⟨t,hr,hd⟩;have:∀{a b:St},Rch (Stp f cs) a b->a∈S->b∈S/\dn b=false:=by
  intro a b h;induction h with
  | one h=>
   intro ha;obtain⟨hn,c,hc,rfl⟩:=h;obtain⟨h1,h2⟩:=hS _ ha c hc;exact⟨h2.resolve_left hn,h1⟩
  | cons h _ ih=>
   intro ha;obtain⟨hn,c,hc,rfl⟩:=h;obtain⟨h1,h2⟩:=hS _ ha c hc;exact ih (h2.resolve_left hn)
 have:=(this hr hs).2;rw[hd] at this;cases this
end
def FM (nx:Nat->Nat->Int)(m:Nat)(p t:Nat):Prop:=∃k,k<m/\nx p k=(t:Int)
theorem aO {f:St->Int->St}{cs:List Int}{dn:St->Bool}{R:List St}(hg:Yz R)(hc:∀l∈R,∀c∈cs,f l c=[]\/f l c∈R)
 {nx:Nat->Nat->Int} (hnx:∀(p:Nat) (hp:p<R.length) (k:Nat) (hk:k<cs.length),nx p k=idx R (f R[p] cs[k])) {E:Nat->Nat->Prop} (hE:∀p t,E p t<->p<R.length/\FM nx cs.length p t)
 {j:Nat} (hj:j<R.length):(∃t,(∃ht:t<R.length,dn R[t]=true)/\Rch E j t)<->Opn f cs dn R[j]:=by
 have h1:∀p t,E p t->∃(hp:p<R.length) (ht:t<R.length),Stp f cs R[p] R[t]:=by
  intro p t h;obtain⟨hp,k,hk,h⟩:=(hE p t).1 h;rw[hnx p hp k hk] at h;have hm:=hc R[p] (List.getElem_mem hp) cs[k] (List.getElem_mem hk);by_cases hn:f R[p] cs[k]=[]
  ·rw[hn] at h;unfold idx at h;rw[if_pos rfl] at h;omega
  ·obtain⟨h2,h3,h4⟩:=YD (hm.resolve_left hn) hn;rw[h] at h3 h4;have ht:t<R.length:=om;have e:((t:Int)).toNat=t:=om;rw[e] at h4;obtain⟨_,h5⟩:=List.getElem?_eq_some_iff.1 h4;exact⟨hp,ht,by rw[h5];exact hn,cs[k],List.getElem_mem hk,h5.symm⟩
 constructor
 ·rintro⟨t,⟨ht,hd⟩,hr⟩;have:∀{a b:Nat},Rch E a b->∃(ha:a<R.length) (hb:b<R.length),Rch (Stp f cs) R[a] R[b]:=by
   intro a b h;induction h with
   | one h=>obtain⟨hp,ht,h⟩:=h1 _ _ h;exact⟨hp,ht,.one h⟩
   | cons h _ ih=>
    obtain⟨hp,ht,h⟩:=h1 _ _ h;obtain⟨_,hb,k⟩:=ih;exact⟨hp,hb,.cons h k⟩
  obtain⟨_,_,h⟩:=this hr;exact⟨R[t],h,hd⟩
 ·rintro⟨b,hr,hd⟩;have:∀{a b:St},Rch (Stp f cs) a b->∀(p:Nat) (hp:p<R.length),R[p]=a->∃(t:Nat) (ht:t<R.length),R[t]=b/\Rch E p t:=by
   have step:∀{a b:St},Stp f cs a b->∀(p:Nat) (hp:p<R.length),R[p]=a->∃(t:Nat) (ht:t<R.length),R[t]=b/\E p t:=by
    rintro a b ⟨hn,c,hcm,rfl⟩ p hp rfl;obtain⟨k,hk,rfl⟩:=List.mem_iff_getElem.1 hcm;obtain⟨t,ht,he⟩:=List.mem_iff_getElem.1 ((hc R[p] (List.getElem_mem hp) cs[k] (List.getElem_mem hk)).resolve_left hn);exact⟨t,ht,he,(hE p t).2 ⟨hp,k,hk,by rw[hnx p hp k hk,<-he,aN hg]⟩⟩
   intro a b h;induction h with
   | one h=>intro p hp e;obtain⟨t,ht,h1,h2⟩:=step h p hp e;exact⟨t,ht,h1,.one h2⟩
   | cons h _ ih=>
    intro p hp e;obtain⟨t,ht,h1,h2⟩:=step h p hp e;obtain⟨u,hu,h3,h4⟩:=ih t ht h1;exact⟨u,hu,h3,.cons h2 h4⟩
  obtain⟨t,ht,h1,h2⟩:=this hr j hj rfl;subst h1;exact⟨t,⟨ht,hd⟩,h2⟩
def W5 (nx:Int->Nat->Int)(dn:Int->Bool):List Nat->Nat->Int->Int->Int×Int
 | [],_,s,last=>(s,last)
 | c::r,k,s,last=>if s = -1 then(s,last) else W5 nx dn r (k+1) (nx s c) (if nx s c≠-1/\dn (nx s c)=true then((k+1:Nat):Int) else last)
section
variable (nx:Int->Nat->Int) (dn:Int->Bool)
theorem JF (l:List Nat)(k:Nat)(last:Int):W5 nx dn l k (-1) last=(-1,last):=by
 cases l with
 | nil=>rfl
 | cons c r=>unfold W5;rw[if_pos rfl]
theorem zI:∀(a b:List Nat) (k:Nat) (s last:Int),
 W5 nx dn (a++b) k s last=W5 nx dn b (k+a.length) (W5 nx dn a k s last).1 (W5 nx dn a k s last).2
 | [],b,k,s,last=>by simp[W5]
 | c::r,b,k,s,last=>by
  rw[List.cons_append];by_cases h:s = -1
  ·subst h;rw[JF,JF,JF]
  ·rw[W5,if_neg h,zI r b,W5,if_neg h,List.length_cons];have e:k+1+r.length=k+(r.length+1):=om;rw[e]
theorem qV:∀(l:List Nat) (k j:Nat) (s a b L:Int),b=(if a = -1 then L else k+a)->
 W5 nx dn l (k+j) s b=((W5 nx dn l j s a).1,if(W5 nx dn l j s a).2 = -1 then L else k+(W5 nx dn l j s a).2)
 | [],k,j,s,a,b,L,h=>by
  subst h
  rfl
 | c::r,k,j,s,a,b,L,h=>by
  by_cases hs:s = -1
  ·subst hs;rw[JF,JF,h]
  ·rw[W5,if_neg hs,W5,if_neg hs];have e:k+j+1=k+(j+1):=om;rw[e];refine qV r k (j+1) (nx s c) _ _ L ?_;by_cases h2:nx s c≠-1/\dn (nx s c)=true
   ·rw[if_pos h2,if_pos h2,if_neg om];omega
   ·rw[if_neg h2,if_neg h2,h]
theorem CD:∀(l:List Nat) (k:Nat) (s a:Int),(W5 nx dn l k s a).2=a\/((k:Int)<(W5 nx dn l k s a).2/\(W5 nx dn l k s a).2<=(k+l.length:Nat))
 | [],_,_,_=>.inl rfl
 | c::r,k,s,a=>by
  by_cases hs:s = -1
  ·subst hs;rw[JF];exact .inl rfl
  ·rw[W5,if_neg hs];rcases CD r (k+1) (nx s c) (if nx s c≠-1/\dn (nx s c)=true then((k+1:Nat):Int) else a) with h|h
   ·rw[h];by_cases h2:nx s c≠-1/\dn (nx s c)=true
    ·rw[if_pos h2,List.length_cons];right;omega
    ·rw[if_neg h2];exact .inl rfl
   ·right;rw[List.length_cons];omega
def toS (cl:List Nat)(i:Int):Int×Int:=W5 nx dn cl 0 i (-1)
def Jx (first:Int)(k:Nat):Int:=if first≠-1/\dn first=true then(k:Int) else -1
def enS (first:Int)(cl:List Nat)(k:Nat):Int×Int:=W5 nx dn (cl.drop k) k first (Jx dn first k)
def vW (la:Nat)(to_:Int->Int×Int)(p:Int×Int):Int×Int:=
 if p.1 = -1 then(-1,p.2) else((to_ p.1).1,if(to_ p.1).2 = -1 then p.2 else la+(to_ p.1).2)
theorem LJ (b:List Nat)(la:Nat)(p:Int×Int):vW la (toS nx dn b) p=W5 nx dn b la p.1 p.2:=by
 unfold vW toS;by_cases h:p.1 = -1
 ·rw[if_pos h,h,JF]
 ·rw[if_neg h];have:=qV nx dn b la 0 p.1 (-1) p.2 p.2 si;rw[Nat.add_zero] at this;rw[this]
theorem RU (a b:List Nat)(i:Int):toS nx dn (a++b) i=vW a.length (toS nx dn b) (toS nx dn a i):=by
 rw[LJ];unfold toS;rw[zI,Nat.zero_add]
theorem Ew (first:Int)(a b:List Nat){k:Nat}(h:k<=a.length):enS nx dn first (a++b) k=vW a.length (toS nx dn b) (enS nx dn first a k):=by
 rw[LJ];unfold enS;rw[List.drop_append_of_le_length h,zI];have e:k+(a.drop k).length=a.length:=by rw[List.length_drop];omega
 rw[e]
theorem BW (first:Int)(a b:List Nat){j:Nat}:enS nx dn first (a++b) (a.length+j) =
 ((enS nx dn first b j).1,if(enS nx dn first b j).2 = -1 then -1 else a.length+(enS nx dn first b j).2):=by
 unfold enS;have e:(a++b).drop (a.length+j)=b.drop j:=by simp
 rw[e];refine qV nx dn (b.drop j) a.length j first (Jx dn first j) _ (-1) ?_;unfold Jx;by_cases h:first≠-1/\dn first=true
 ·rw[if_pos h,if_pos h,if_neg om];omega
 ·rw[if_neg h,if_neg h,if_pos rfl]
end
def WE (f:St->Int->St)(dn:St->Bool):List Int->Nat->St->Int->St×Int
 | [],_,s,last=>(s,last)
 | c::r,k,s,last=>WE f dn r (k+1) (f s c) (if dn (f s c)=true then((k+1:Nat):Int) else last)
theorem FN {f:St->Int->St}{dn:St->Bool}(hf:∀c,f [] c=[])(hd:dn []=false):∀(l:List Int) (k:Nat) (last:Int),WE f dn l k [] last=([],last)
 | [],_,_=>rfl
 | c::r,k,last=>by
  rw[WE,hf,hd];simp only[Bool.false_eq_true,if_false];exact FN hf hd r (k+1) last
theorem N8 {f:St->Int->St}{dn:St->Bool}{nx:Int->Nat->Int}{dm:Int->Bool}{g:St->Int}{R:St->Prop}{A:Int->Prop}{cl:Int->Nat}
 (hf:∀c,f [] c=[]) (hd:dn []=false) (hg0:g [] = -1) (hgR:∀s,R s->g s≠-1)
 (hR:∀s c,R s->A c->f s c=[]\/R (f s c)) (hnx:∀s c,R s->A c->nx (g s) (cl c)=g (f s c)) (hdm:∀s,R s->dm (g s)=dn s) :
 ∀(l:List Int) (k:Nat) (s:St) (last:Int),(∀c∈l,A c)->s=[]\/R s->
  W5 nx dm (l.map cl) k (g s) last=(g (WE f dn l k s last).1,(WE f dn l k s last).2)/\((WE f dn l k s last).1=[]\/R (WE f dn l k s last).1)
 | [],_,s,last,_,hs=>⟨rfl,hs⟩
 | c::r,k,s,last,hl,hs=>by
  rcases hs with rfl|hs
  ·rw[FN hf hd,hg0,JF];exact⟨rfl,.inl rfl⟩
  ·have hc:=hl c si;have ih:=N8 hf hd hg0 hgR hR hnx hdm r (k+1) (f s c) (if dn (f s c)=true then((k+1:Nat):Int) else last) (fun x hx=>hl x (by simp[hx])) (hR s c hs hc);rw[List.map_cons,W5,if_neg (hgR s hs),WE,hnx s c hs hc];have e:(if g (f s c)≠-1/\dm (g (f s c))=true then((k+1:Nat):Int) else last)=(if dn (f s c)=true then((k+1:Nat):Int) else last):=by
    rcases hR s c hs hc with h|h
    ·rw[h,hg0,hd];simp
    ·rw[hdm _ h];simp[hgR _ h]
   rw[e];exact ih
end
def QL (c:List Sp):List Int:=c.flatMap (fun s=>[s.1,s.2])
theorem vZ {c:List Sp}(h:∀s∈c,s.1<=s.2){x:Int}(hx:x∈QL c):has c x=true:=by
 unfold QL at hx;obtain⟨s,hs,hx⟩:=List.mem_flatMap.1 hx;have:=h s hs;rw[ZD];simp only[List.mem_cons,List.not_mem_nil,or_false] at hx;rcases hx with rfl|rfl
 ·exact⟨s,hs,Int.le_refl _,this⟩
 ·exact⟨s,hs,this,Int.le_refl _⟩
def Qy (runes:Bool)(x:Int):Bool:=if runes=true then decide (0<=x/\x<55296) || decide (57343<x/\x<=1114111) else decide (0<=x/\x<=255)
def Wj (runes:Bool):Int:=if runes=true then 1114111 else 255
theorem N9 {runes:Bool}{c:List Sp}(hc:∀s∈c,0<=s.1/\s.2<=Wj runes){x:Int}(hx:has c x=true)(hv:Qy runes x=true):∃y∈QL c,Qy runes y=true:=by
 obtain⟨s,hs,h1,h2⟩:=ZD.1 hx;have hb:=hc s hs;have m1:s.1∈QL c:=List.mem_flatMap.2 ⟨s,hs,by simp⟩;have m2:s.2∈QL c:=List.mem_flatMap.2 ⟨s,hs,by simp⟩;unfold Qy Wj at *;cases runes
 ·simp only[Bool.false_eq_true,if_false,decide_eq_true_eq] at *;exact⟨s.1,m1,om⟩
 ·simp only[if_true,Bool.or_eq_true,decide_eq_true_eq] at *;by_cases h3:s.1<55296
  ·exact⟨s.1,m1,om⟩
  ·exact⟨s.2,m2,om⟩
def zJ (runes:Bool)(cs:List (List Sp)):List (List Sp):=cs.filter (fun c=>(QL c).any (Qy runes))
def JY (runes:Bool)(c:List Sp):Int:=((QL c).find? (Qy runes)).getD 0
def zM (runes:Bool)(c:List Sp):Int:=((QL c).reverse.find? (Qy runes)).getD 0
theorem BZ {runes:Bool}{c:List Sp}(h:(QL c).any (Qy runes)=true):JY runes c∈QL c/\Qy runes (JY runes c)=true:=by
 unfold JY
 cases hf:(QL c).find? (Qy runes) with
 | none=>
  obtain⟨y,hy,hv⟩:=List.any_eq_true.1 h;have:=List.find?_eq_none.1 hf y hy;rw[hv] at this;simp at this
 | some y=>exact⟨List.mem_of_find?_eq_some hf,List.find?_some hf⟩
theorem LK {runes:Bool}{c:List Sp}(h:(QL c).any (Qy runes)=true):zM runes c∈QL c/\Qy runes (zM runes c)=true:=by
 unfold zM
 cases hf:(QL c).reverse.find? (Qy runes) with
 | none=>
  obtain⟨y,hy,hv⟩:=List.any_eq_true.1 h;have:=List.find?_eq_none.1 hf y (List.mem_reverse.2 hy);rw[hv] at this;simp at this
 | some y=>exact⟨List.mem_reverse.1 (List.mem_of_find?_eq_some hf),List.find?_some hf⟩
def strs (kept:List (List Sp)):List (Int×Nat):=kept.zipIdx.flatMap (fun p=>p.1.map (fun s=>(s.1,p.2)))
theorem xH {kept:List (List Sp)}{p:Int×Nat}:p∈strs kept<->∃hk:p.2<kept.length,∃s∈kept[p.2],p.1=s.1:=by
 unfold strs;rw[List.mem_flatMap];constructor
 ·rintro⟨q,hq,hp⟩;obtain⟨s,hs,rfl⟩:=List.mem_map.1 hp;obtain⟨h1,h2,h3⟩:=List.mem_zipIdx hq;simp only[Nat.sub_zero] at h3;refine⟨om,s,?_,rfl⟩
  rw[<-h3];exact hs
 ·rintro⟨hk,s,hs,h1⟩;refine⟨(kept[p.2],p.2),?_,?_⟩
  ·rw[List.mem_zipIdx_iff_getElem?];simp[hk]
  ·exact List.mem_map.2 ⟨s,hs,by rw[<-h1]⟩
theorem Ix {kept:List (List Sp)}(hle:∀c∈kept,∀s∈c,s.1<=s.2)
 (hdis:∀x k k' (hk:k<kept.length) (hk':k'<kept.length),has kept[k] x=true->has kept[k'] x=true->k=k')
 {st:List (Int×Nat)} (hp:(strs kept).Perm st) (hs:st.Pairwise (fun a b=>a.1<=b.1)) {x:Int} {k:Nat} (hk:k<kept.length) (hx:has kept[k] x=true)
 {i:Nat} (hi:i<=st.length) (h1:∀j (hj:j<st.length),j<i->st[j].1<=x) (h2:∀(hj:i<st.length),x<st[i].1):∃h0:i-1<st.length,0<i/\st[i-1].2=k:=by
 obtain⟨s,hsm,h3,h4⟩:=ZD.1 hx;have hm:(s.1,k)∈st:=hp.mem_iff.1 (xH.2 ⟨hk,s,hsm,rfl⟩);obtain⟨j',hj',he⟩:=List.mem_iff_getElem.1 hm;have hsrt:=List.pairwise_iff_getElem.1 hs;have hj'i:j'<i:=by
  rcases Nat.lt_or_ge j' i with h|h
  ·exact h
  ·have hi2:i<st.length:=om;have h5:=h2 hi2;rcases Nat.lt_or_ge i j' with h6|h6
   ·have:=hsrt i j' hi2 hj' h6;rw[he] at this;simp only at this;omega
   ·have:i=j':=om;subst this;rw[he] at h5;simp only at h5;omega
 have h0:i-1<st.length:=om;refine⟨h0,om,?_⟩;have h5:=h1 (i-1) h0 om;have h6:s.1<=st[i-1].1:=by
  rcases Nat.lt_or_ge j' (i-1) with h|h
  ·have:=hsrt j' (i-1) hj' h0 h;rw[he] at this;exact this
  ·have:j'=i-1:=om;subst this;rw[he];exact Int.le_refl _
 obtain⟨hk2,s2,hs2,h7⟩:=xH.1 (hp.mem_iff.2 (List.getElem_mem h0));have h8:=hle _ (List.getElem_mem hk2) s2 hs2;exact hdis st[i-1].1 _ _ hk2 hk (ZD.2 ⟨s2,hs2,om,om⟩) (ZD.2 ⟨s,hsm,h6,om⟩)
