/- Texts of this proof: App Row. -/
import Derived.Test.YtmpcoifnpflapaaGreatER00
import Derived.DataReads
import Derived.OpenShut
set_option linter.all false
namespace Go.Proofs.YtmpcoifnpflapaaGreat
section
open Go.RowKit
def OwnS (w:World)(base e size:Nat)(A:Option Addr)(n c:Nat)(xs:List Value):Prop:=w.ownsRow base e size (.slice A n c) n xs
namespace OwnS
variable {w w':World} {base e size n c:Nat} {A:Option Addr} {xs:List Value}
theorem nil (w:World)(base e size:Nat):OwnS w base e size none 0 0 []:=World.ownsRow_nil _ _ _ _
theorem len (h:OwnS w base e size A n c xs):xs.length=n*size:=h.1
theorem form (h:OwnS w base e size A n c xs):(A=none/\n=0/\c=0/\xs=[])\/
 ∃g cur,A=some ⟨g,0,none⟩/\base<=g/\w.heap[g]? = some (.cells cur e (0,0))/\n<=c/\c<=maxLen/\cur.size=c*size/\cur.toList.take (n*size)=xs:=by
 rcases h.2 with⟨hv,h0⟩|⟨g,cap,cur,hv,r⟩
 ·left
  injection hv with e1 e2 e3
  subst e1 e2 e3;refine⟨rfl,rfl,rfl,?_⟩;have:=h.1
  simpa using this
 ·right
  injection hv with e1 e2 e3
  subst e1 e3;exact⟨g,cur,rfl,r⟩
theorem ext (h:OwnS w base e size A n c xs)(k:Ext w w'):OwnS w' base e size A n c xs:=by
 refine⟨h.1,?_⟩;rcases h.2 with h2|⟨g,cap,cur,hv,hg,hh,r⟩
 ·exact Or.inl h2
 ·exact Or.inr ⟨g,cap,cur,hv,hg,(k.block g (Array.getElem?_eq_some_iff.1 hh).1).trans hh,r⟩
theorem row (h:OwnS w base e size A n c xs):∀k,A.map (·.block)=some k->base<=k:=by
 intro k hk;rcases h.form with⟨rfl,_⟩|⟨g,cur,rfl,hg,_⟩
 ·simp at hk
 ·simp at hk;omega
theorem far (h:OwnS w base e size A n c xs){p:Addr}(hp:A.map (·.block)≠some p.block)(u:Value):OwnS (w.setCell p u) base e size A n c xs:=by
 refine⟨h.1,?_⟩;rcases h.2 with h2|⟨g,cap,cur,hv,hg,hh,r⟩
 ·exact Or.inl h2
 ·refine Or.inr ⟨g,cap,cur,hv,hg,?_,r⟩;injection hv with e1 _ _
  subst e1;rw[Below.heap_setCell _ _ _ _ (by intro hk;exact hp (by simp[hk]))];exact hh
theorem caps (h:OwnS w base e size A n c xs):n<=c/\c<=9223372036854775807:=by
 rcases h.form with⟨_,rfl,rfl,_⟩|⟨g,cur,_,_,_,h1,h2,_⟩
 ·omega
 ·unfold maxLen at h2;omega
theorem cells (h:OwnS w base e size A n c xs):CellsAt w A xs:=by
 intro hn;rcases h.form with⟨_,_,_,rfl⟩|⟨g,cur,rfl,_,hh,h1,_,hs,ht⟩
 ·exact absurd rfl hn
 ·refine⟨g,0,rfl,fun i hi=>?_⟩;subst ht;have hi':i<cur.size:=by
   have:=List.length_take_le (n*size) cur.toList;have h2:=List.length_take_le' (n*size) cur.toList;simp at hi;omega
  rw[Nat.zero_add,List.getElem_take];simp[World.cell?,hh,hi']
theorem of_blk {g:Nat}{cs:Array Value}(h:Blk w g e cs)(hb:base<=g)(hs:cs.size=c*size)(hn:n<=c)(hm:c<=maxLen) :
 OwnS w base e size (some ⟨g,0,none⟩) n c (cs.toList.take (n*size)):=
 ⟨by rw[List.length_take,Array.length_toList,hs,Nat.min_eq_left (Nat.mul_le_mul_right _ hn)],Or.inr ⟨g,c,cs,rfl,hb,h,hn,hm,hs,rfl⟩⟩
end OwnS
section
variable {P:Program} (w:World)
theorem run_app (base t ty e:Nat)(i:TypeInfo)(z:Value)(size bytes:Nat)(ht:P.underlying t=some (.slice e))(hi:P.info? e=some i)(hz:i.zero=some z)
 (hsize:i.size=size) (hby:i.bytes=bytes) (hzs:z.cells.size=size) (hsz:0<size)
 (A:Option Addr) (n c:Nat) (xs:List Value) (hown:OwnS w base e size A n c xs)
 (B:Option Addr) (m d:Nat) (news:List Value) (hl:news.length=m*size) (hr:CellsAt w B news) (h1:∀u∈news,u.oneCell'=true)
 (h63:n+m<=maxLen) (hbytes:(n+m)*bytes<=140737488355328) (hbase:base<=w.heap.size) :
 ∃A' c' w',(Builtin.append_ #[t,t] ty #[.slice A n c,.slice B m d]).run P w=.ok (.slice A' (n+m) c') w'/\OwnS w' base e size A' (n+m) c' (xs++news)/\
  w.grownBy w' (A.map (·.block))/\(A'.map (·.block)=A.map (·.block)\/A'.map (·.block)=some w.heap.size):=by
 have hob:(Value.slice A n c).ownBlock=A.map (·.block):=by cases A<;>rfl
 by_cases hm:news=[]
 ·subst hm;have hm0:m=0:=by
   have h2:m*size=0:=by simpa using hl.symm
   rcases Nat.mul_eq_zero.1 h2 with h3|h3
   ·exact h3
   ·omega
  subst hm0;rcases B with _|ad
  ·refine⟨A,c,w,?_,by simpa using hown,World.grownBy.refl w _,.inl rfl⟩;rcases hown.form with⟨rfl,rfl,rfl,rfl⟩|⟨g,cur,rfl,_,hh,hnc,_⟩
   ·simp[Builtin.append_,run_underlying ht,sizeOf,typeInfo,hi,Builtin.lenOf,Builtin.firstCells]
   ·simp[Builtin.append_,run_underlying ht,sizeOf,typeInfo,hi,Builtin.lenOf,Builtin.firstCells,hnc,storeCells]
  ·obtain⟨v',w',hrun,h2,h3,_,h5⟩:=run_append_own_at (P:=P) w base t ty e i z size bytes ht hi hz hsize hby hzs hsz _ n xs hown ad 0 d [] si si si h63 hbytes hbase;rw[hob] at h3 h5;have hv:∃A' c',v'=.slice A' (n+0) c':=by
    rcases h2.2 with⟨rfl,h0⟩|⟨g,cap,cur,rfl,_⟩
    ·exact⟨none,0,by rw[h0]⟩
    ·exact⟨_,_,rfl⟩
   obtain⟨A',c',rfl⟩:=hv;refine⟨A',c',w',hrun,h2,h3,?_⟩;have hob':(Value.slice A' (n+0) c').ownBlock=A'.map (·.block):=by cases A'<;>rfl
   rw[<-hob'];exact h5
 ·obtain⟨b,o,rfl,hc⟩:=hr hm;obtain⟨v',w',hrun,h2,h3,_,h5⟩:=run_append_own_at (P:=P) w base t ty e i z size bytes ht hi hz hsize hby hzs hsz _ n xs hown ⟨b,o,none⟩ m d news hl
   (fun j u hu=>by
    obtain⟨hj,rfl⟩:=List.getElem?_eq_some_iff.1 hu;rw[Addr.add_lit];exact hc j hj) h1 h63 hbytes hbase
  rw[hob] at h3 h5;have hv:∃A' c',v'=.slice A' (n+m) c':=by
   rcases h2.2 with⟨rfl,h0⟩|⟨g,cap,cur,rfl,_⟩
   ·exact⟨none,0,by rw[h0]⟩
   ·exact⟨_,_,rfl⟩
  obtain⟨A',c',rfl⟩:=hv;refine⟨A',c',w',hrun,h2,h3,?_⟩;have hob':(Value.slice A' (n+m) c').ownBlock=A'.map (·.block):=by cases A'<;>rfl
  rw[<-hob'];exact h5
theorem wp_app {o:Oper}{a:Act}{K:Act->World->Prop}{Q:Exit->Act->World->Prop}(s x:Operand)(t:Nat)
 (ho:o.op=.call { callee:=.builtin .append,args:=#[s,x],argTypes:=#[t,t] })
 (base e:Nat) (i:TypeInfo) (z:Value) (size bytes:Nat) (ht:P.underlying t=some (.slice e)) (hi:P.info? e=some i) (hz:i.zero=some z)
 (hsize:i.size=size) (hby:i.bytes=bytes) (hzs:z.cells.size=size) (hsz:0<size)
 (A:Option Addr) (n c:Nat) (xs:List Value) (hs:a.eval s=.slice A n c) (hown:OwnS w base e size A n c xs)
 (B:Option Addr) (m d:Nat) (news:List Value) (hx:a.eval x=.slice B m d) (hl:news.length=m*size) (hr:CellsAt w B news) (h1:∀u∈news,u.oneCell'=true)
 (h63:n+m<=maxLen) (hbytes:(n+m)*bytes<=140737488355328) (hbase:base<=w.heap.size)
 (h:∀A' c' w',OwnS w' base e size A' (n+m) c' (xs++news)->w.grownBy w' (A.map (·.block))->(A'.map (·.block)=A.map (·.block)\/A'.map (·.block)=some w.heap.size)->
  K (a.put o.dst (.slice A' (n+m) c')) w'):o.wp P a w K Q:=by
 obtain⟨A',c',w',hrun,h2,h3,h4⟩:=run_app (P:=P) w base t o.type e i z size bytes ht hi hz hsize hby hzs hsz A n c xs hown B m d news hl hr h1 h63 hbytes hbase;unfold Oper.wp execOp;simp only[ho,resolve,invoke,builtin,Sem.run_bind,Sem.run_pure,Result.andThen_ok,List.map_toArray,List.map_cons,List.map_nil,hs,hx,hrun];exact h A' c' w' h2 h3 h4
theorem wpList_app {ops:Array Oper}{rest:List Oper}{o:Oper}{a:Act}{Q:Exit->Act->World->Prop}(hgd:o.guard=none)(s x:Operand)(t:Nat)
 (ho:o.op=.call { callee:=.builtin .append,args:=#[s,x],argTypes:=#[t,t] })
 (base e:Nat) (i:TypeInfo) (z:Value) (size bytes:Nat) (ht:P.underlying t=some (.slice e)) (hi:P.info? e=some i) (hz:i.zero=some z)
 (hsize:i.size=size) (hby:i.bytes=bytes) (hzs:z.cells.size=size) (hsz:0<size)
 (A:Option Addr) (n c:Nat) (xs:List Value) (hs:a.eval s=.slice A n c) (hown:OwnS w base e size A n c xs)
 (B:Option Addr) (m d:Nat) (news:List Value) (hx:a.eval x=.slice B m d) (hl:news.length=m*size) (hr:CellsAt w B news) (h1:∀u∈news,u.oneCell'=true)
 (h63:n+m<=maxLen) (hbytes:(n+m)*bytes<=140737488355328) (hbase:base<=w.heap.size)
 (h:∀A' c' w',OwnS w' base e size A' (n+m) c' (xs++news)->w.grownBy w' (A.map (·.block))->(A'.map (·.block)=A.map (·.block)\/A'.map (·.block)=some w.heap.size)->
  wpList P ops Q rest (a.put o.dst (.slice A' (n+m) c')) w'):wpList P ops Q (o::rest) a w:=
 wpList_plain hgd fun _ hK=>wp_app w s x t ho base e i z size bytes ht hi hz hsize hby hzs hsz A n c xs hs hown B m d news hx hl hr h1 h63 hbytes hbase fun A' c' w' h2 h3 h4=>hK _ _ (h A' c' w' h2 h3 h4)
end
def OwnI (w:World)(base e:Nat)(A:Option Addr)(c:Nat)(xs:List Int):Prop:=OwnS w base e 1 A xs.length c (xs.map (Value.int .i64))
theorem ints_one (xs:List Int):∀u∈xs.map (Value.int .i64),u.oneCell'=true:=by
 intro u hu;obtain⟨_,_,rfl⟩:=List.mem_map.1 hu
 rfl
theorem IL.cells {w:World}{A:Option Addr}{c:Nat}{xs:List Int}(h:IL w A c xs):CellsAt w A (xs.map (Value.int .i64)):=by
 intro hn;obtain⟨b,o,rfl,hc⟩:=h.at_ (by intro h0;subst h0;simp at hn);exact⟨b,o,rfl,fun i hi=>by simp only[List.getElem_map];exact hc i (by simpa using hi)⟩
theorem IL.of_own {w:World}{base e:Nat}{A:Option Addr}{c:Nat}{xs:List Int}(h:OwnI w base e A c xs)(hr:∀x∈xs,I64 x):IL w A c xs:=by
 refine⟨(OwnS.caps h).1,?_,hr,fun hn=>?_⟩
 ·have:=(OwnS.caps h).2;unfold maxLen;omega
 ·obtain⟨b,o,rfl,hc⟩:=OwnS.cells h (by simpa using hn);exact⟨b,o,rfl,fun i hi=>by have:=hc i (by simpa using hi);simpa using this⟩
theorem IL.one {w:World}{g T:Nat}{x:Int}(h:Blk w g T #[.int .i64 x])(hr:I64 x):IL w (some ⟨g,0,none⟩) 1 [x]:=
 ⟨by simp,by unfold maxLen;omega,by simpa using hr,fun _=>⟨g,0,rfl,fun i hi=>by
  have:i=0:=by simpa using hi
  subst this;simpa using h.cell 0⟩⟩
theorem IL.cut_in {w:World}{A:Option Addr}{c k j:Nat}{xs:List Int}(h:IL w A c xs)(hkj:k<=j)(hj:j<=xs.length):IL w (A.map (fun x=>x.add k)) (c-k) ((xs.drop k).take (j-k)):=by
 have h1:=h.le;have h2:=h.cap;refine⟨by simp;omega,om,fun x hx=>h.rng x (List.mem_of_mem_drop (List.mem_of_mem_take hx)),fun hn=>?_⟩;have hx:xs≠[]:=by rintro rfl;simp at hn
 obtain⟨b,o,rfl,hc⟩:=h.at_ hx;refine⟨b,o+k,by rw[Option.map_some,Addr.add_lit],fun i hi=>?_⟩;have hi':i<j-k/\k+i<xs.length:=by simp at hi;omega
 rw[List.getElem_take,List.getElem_drop,Nat.add_assoc];exact hc (k+i) hi'.2
theorem IL.cut_end {w:World}{A:Option Addr}{c k j:Nat}{xs:List Int}(h:IL w A c xs)(hk:c=k):IL w A 0 ((xs.drop k).take (j-k)):=by
 have h1:=h.le;have e:(xs.drop k).take (j-k)=[]:=by rw[List.drop_eq_nil_of_le om];simp
 rw[e];exact⟨by simp,by unfold maxLen;omega,by simp,fun hn=>absurd rfl hn⟩
theorem IL.of_blk {w:World}{g T:Nat}{xs:List Int}(h:Blk w g T (xs.map (Value.int .i64)).toArray)(hr:∀x∈xs,I64 x)(hm:xs.length<=maxLen):IL w (some ⟨g,0,none⟩) xs.length xs:=
 ⟨Nat.le_refl _,hm,hr,fun _=>⟨g,0,rfl,fun i hi=>by
  rw[h.cell];simp[hi]⟩⟩
theorem wpList_app1I {P:Program}{w1 w:World}{ops:Array Oper}{rest:List Oper}{o:Oper}{a:Act}{Q:Exit->Act->World->Prop}(hgd:o.guard=none)(s x:Operand)(t:Nat)
 (ho:o.op=.call { callee:=.builtin .append,args:=#[s,x],argTypes:=#[t,t] })
 (e:Nat) (hinf:(P.info? e).map (fun i=>(i.zero,i.size,i.bytes))=some (some (.int .i64 0),1,8)) (ht:P.underlying t=some (.slice e))
 (a0:World) (hext:Ext a0 w1) (v:Int) (hw:w=w1.alloc (.cells #[.int .i64 v] e))
 (A:Option Addr) (c:Nat) (xs:List Int) (hs:a.eval s=.slice A xs.length c) (hown:OwnI w1 a0.heap.size e A c xs)
 (hx:a.eval x=.slice (some ⟨w1.heap.size,0,none⟩) 1 1) (hb:xs.length<=1099511627776) (ys:List Int) (hys:ys=xs++[v])
 (h:∀A' c' w',OwnI w' a0.heap.size e A' c' ys->Ext a0 w'->w1.grownBy w' (A.map (·.block))->(A'.map (·.block)=A.map (·.block)\/(A'.map (·.block)=some (w1.heap.size+1)))->wpList P ops Q rest (a.put o.dst (.slice A' ys.length c')) w'):wpList P ops Q (o::rest) a w:=by
 obtain⟨i0,hi0,hz0,hz1,hz2⟩:=info_parts hinf;subst hw;have e1:=Ext.alloc w1 (.cells #[.int .i64 v] e);have hc:CellsAt (w1.alloc (.cells #[.int .i64 v] e)) (some ⟨w1.heap.size,0,none⟩) [.int .i64 v]:=fun _=>⟨_,0,rfl,fun i hi=>by
  have:i=0:=by simpa using hi
  subst this;simp⟩
 refine wpList_app _ hgd s x t ho a0.heap.size e i0 (.int .i64 0) 1 8 ht hi0 hz0 hz1 hz2 rfl om A xs.length c (xs.map (Value.int .i64)) hs (OwnS.ext hown e1) _ 1 1 [.int .i64 v] hx rfl hc
  (by simp[Value.oneCell']) um om (by simp;have:=hext.size;omega) ?_
 intro A' c' w' ho' hg hat;have hl:ys.length=xs.length+1:=by rw[hys];simp
 have hg':w1.grownBy w' (A.map (·.block)):=⟨hg.os,hg.tape,hg.output,Nat.le_trans e1.size hg.size,fun k hk hne=>(hg.block k (Nat.lt_of_lt_of_le hk e1.size) hne).trans (e1.block k hk)⟩
 rw[<-hl];refine h A' c' w' ?_ (hext.grown hg' (OwnS.row hown)) hg' (by simpa using hat);subst hys;unfold OwnI;rw[hl]
 simpa using ho'
theorem Ext.app {a w w':World}{e size n c:Nat}{A:Option Addr}{xs:List Value}(h:Ext a w)(ho:OwnS w a.heap.size e size A n c xs)(hg:w.grownBy w' (A.map (·.block))):Ext a w':=
 h.grown hg ho.row
end
section
open Go.RowKit Go.ChangeShapes
theorem I64.of_wf {n:Int}(h:(Lit.int .i64 n).wf=true):I64 n:=bounds_i64 h
theorem IL.of_row {w:World}{a:Option Addr}{len cap:Nat}{zs:List Int}
 (h:(a=none/\len=0/\cap=0/\zs=[])\/∃x,a=some x/\len<=cap/\cap<=maxLen/\zs.length=cap/\(∀i,i<zs.length->w.cell? (x.add i)=some (.int .i64 (zs.getD i 0)))/\∀n∈zs,(Lit.int .i64 n).wf=true) :
 ∃l:List Int,l.length=len/\IL w a cap l:=by
 rcases h with⟨rfl,rfl,rfl,rfl⟩|⟨x,rfl,hl,hm,hz,hc,hw⟩
 ·exact⟨[],rfl,IL.nil w⟩
 ·have hlen:(zs.take len).length=len:=by rw[List.length_take];omega
  refine⟨zs.take len,hlen,om,hm,fun n hn=>I64.of_wf (hw n (List.mem_of_mem_take hn)),fun hn=>?_⟩;have h0:0<len:=by
   rw[<-hlen];exact List.length_pos_iff.2 hn
  obtain⟨b,off,spot⟩:=x;have hs:=hc 0 om;have hspot:spot=none:=by simpa[Addr.add] using World.cell?_spot hs
  subst hspot;refine⟨b,off,rfl,fun i hi=>?_⟩;rw[hlen] at hi;have h1:=hc i om;have e1:(zs.take len)[i]'(by rw[hlen];exact hi)=zs.getD i 0:=by
   rw[List.getElem_take,List.getD_eq_getElem?_getD,List.getElem?_eq_getElem om];rfl
  rw[e1,<-h1]
  congr 1
  unfold Addr.add
  split
  ·subst_vars;rfl
  ·rfl
end
end Go.Proofs.YtmpcoifnpflapaaGreat
