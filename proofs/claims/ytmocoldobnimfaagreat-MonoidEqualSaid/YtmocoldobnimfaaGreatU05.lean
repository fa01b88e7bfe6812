/- Texts of this proof: E1 App S1 S2. -/
import Derived.Test.YtmocoldobnimfaaGreatU00
import Derived.Test.YtmocoldobnimfaaGreatRows
import Derived.WalkLawsBesides
import Derived.Deep.QuietTactic
import Derived.BigQuiet
set_option linter.all false
set_option maxHeartbeats 400000
namespace Go.Proofs.YtmocoldobnimfaaGreat
section
open Go.RowKit
def around (n m:Int):Int:=(if n<0 then -(n+1) else n) % m
theorem around_bd (n m:Int)(h:1≤m):0≤around n m∧around n m<m:=
 ⟨Int.emod_nonneg _ om,Int.emod_lt_of_pos _ om⟩
theorem around_any (n m:Int)(w:World)(hn:I64 n)(h0:1≤m)(h1:m≤4294967296) :
 Calls Tryz.prog 17 #[.int .i64 n,.int .i64 m] w (RetQ (.int .i64 (around n m)) w):=by
 obtain⟨h2,h3⟩:=hn;by_cases h:n<0
 ·have e:around n m = -(n+1) % m:=by simp[around,h]
  have E:=lh e;clear e;have h4 : -(n+1)≥0:=om;go_enter Tryz.func17,Tryz.ntmps17
  go_wp2
  go_ret
  refine⟨?_,0,rfl⟩;rw[E.out]
  show Ending.returned (Value.int IntKind.i64 _)=_
  rw[←Int.neg_tmod,Int.tmod_eq_emod_of_nonneg h4]
 ·have e:around n m=n % m:=by simp[around,h]
  have E:=lh e;clear e;go_enter Tryz.func17,Tryz.ntmps17
  go_wp2
  go_ret
  exact⟨by rw[E.out];rfl,0,rfl⟩
def pick (l:List Int)(i:Nat)(m:Int):Int:=if h:i<l.length then around l[i] m else 0
theorem pick_any (A:Option Addr)(c:Nat)(l:List Int)(i:Nat)(m:Int)(w:World)(hl:IL w A c l)(h0:1≤m)(h1:m≤4294967296)(hi:i≤9223372036854775807) :
 Calls Tryz.prog 37 #[.slice A l.length c,.int .i64 i,.int .i64 m] w (RetQ (.int .i64 (pick l i m)) w):=by
 obtain⟨hlen,hcap⟩:=hl.len;by_cases h:i<l.length
 ·obtain⟨b,o,rfl,hc⟩:=hl.get h;have hw:=hl.wf h;have e:pick l i m=around l[i] m:=by simp[pick,h]
  have E:=lh e;clear e;have hlt:(i:Int)<l.length:=om;go_enter Tryz.func37,Tryz.ntmps37
  go_wp2_with (go_at_call 17;refine(around_any _ _ _ hw h0 h1).mono ?_;rintro e w1 ⟨rfl,n,rfl⟩)
  go_ret
  exact⟨by rw[E.out];rfl,n,rfl⟩
 ·have e:pick l i m=0:=by simp[pick,h]
  have E:=lh e;clear e;go_enter Tryz.func37,Tryz.ntmps37
  go_wp2
  go_ret
  exact⟨by rw[E.out];rfl,0,rfl⟩
theorem beq_take_succ (xs ys:List Int)(k:Nat)(h1:k<xs.length)(h2:k<ys.length)(h:xs.take k=ys.take k)(he:xs[k]=ys[k]):xs.take (k+1)=ys.take (k+1):=by
 rw[List.take_succ_eq_append_getElem h1,List.take_succ_eq_append_getElem h2,h,he]
theorem sameInts_any (A B:Option Addr)(c d:Nat)(xs ys:List Int)(w:World)(ha:IL w A c xs)(hb:IL w B d ys) :
 Calls Tryz.prog 54 #[.slice A xs.length c,.slice B ys.length d] w (RetQ (.bool (xs == ys)) w):=by
 obtain⟨a1,a2⟩:=ha.len;obtain⟨b1,b2⟩:=hb.len;by_cases hl:xs.length=ys.length
 ·have hl2:((xs.length:Int) != (ys.length:Int))=false:=by simp[hl]
  have hl':xs.length≤ys.length:=om;have hl'':ys.length≤xs.length:=om;have HL:=lh hl;clear hl;go_enter Tryz.func54,Tryz.ntmps54
  go_wp2
  go_loopw [5] (fun i wr=>∃k:Nat,k≤xs.length∧i=.int .i64 k∧Hid (xs.take k=ys.take k)∧∃n,wr=w.drewN n) (fun i _=>xs.length-(intOf i).toNat)
  case atStart=>exact⟨0,Nat.zero_le _,rfl,rfl,0,rfl⟩
  case round=>
   obtain⟨k,hk,rfl,ht,n,rfl⟩:=hrel;by_cases hlt:k<xs.length
   ·obtain⟨p1,o1,rfl,g1⟩:=ha.get hlt;obtain⟨p2,o2,rfl,g2⟩:=hb.get (show k<ys.length by omega);have hlt2:(k:Int)<xs.length:=om;have hlt3:(k:Int)<ys.length:=om;have hlt4:k<ys.length:=om;by_cases he:xs[k]=ys[k]
    ·have he':(xs[k] != ys[k])=false:=by simp[he]
     have HT:=lh (beq_take_succ xs ys k hlt om ht.out he);clear he
     go_wp2_with (go_quiet (fail))
     go_roundw
     case rel=>exact⟨k+1,om,by go_num,HT.out,_,rfl⟩
     case measure=>simp[intOf];omega
    ·have he':(xs[k] != ys[k])=true:=by simp[he]
     have hne:(xs == ys)=false:=by
      rw[beq_eq_false_iff_ne];rintro rfl;exact he rfl
     have HN:=lh hne;clear he hne
     go_wp2_with (go_quiet (fail))
     go_ret
     exact⟨by rw[HN.out];rfl,_,by rw[World.drewN_drewN]⟩
   ·have hne:(xs == ys)=true:=by
     have h1:=ht.out;rw[List.take_of_length_le om,List.take_of_length_le om] at h1;simp[h1]
    have HN:=lh hne;clear hne
    go_wp2
    go_ret
    exact⟨by rw[HN.out];rfl,_,rfl⟩
 ·have hl2:((xs.length:Int) != (ys.length:Int))=true:=by simp;omega
  have hne:(xs == ys)=false:=by
   rw[beq_eq_false_iff_ne];rintro rfl;exact hl rfl
  have HN:=lh hne;clear hne hl;go_enter Tryz.func54,Tryz.ntmps54
  go_wp2
  go_ret
  exact⟨by rw[HN.out];rfl,0,rfl⟩
end
section
open Go.RowKit
def OwnS (w:World)(base e size:Nat)(A:Option Addr)(n c:Nat)(xs:List Value):Prop:=w.ownsRow base e size (.slice A n c) n xs
namespace OwnS
variable {w w':World} {base e size n c:Nat} {A:Option Addr} {xs:List Value}
theorem nil (w:World)(base e size:Nat):OwnS w base e size none 0 0 []:=World.ownsRow_nil _ _ _ _
theorem len (h:OwnS w base e size A n c xs):xs.length=n*size:=h.1
theorem form (h:OwnS w base e size A n c xs):(A=none∧n=0∧c=0∧xs=[])∨
 ∃g cur,A=some ⟨g,0,none⟩∧base≤g∧w.heap[g]? = some (.cells cur e (0,0))∧n≤c∧c≤maxLen∧cur.size=c*size∧cur.toList.take (n*size)=xs:=by
 rcases h.2 with⟨hv,h0⟩|⟨g,cap,cur,hv,r⟩
 ·left
  injection hv with e1 e2 e3
  subst e1 e2 e3;refine⟨rfl,rfl,rfl,?_⟩;have:=h.1
  simpa using this
 ·right
  injection hv with e1 e2 e3
  subst e1 e3;exact⟨g,cur,rfl,r⟩
theorem ext (h:OwnS w base e size A n c xs)(k:Ext w w'):OwnS w' base e size A n c xs:=by
 refine⟨h.1,?_⟩;rcases h.2 with h2|⟨g,cap,cur,hv,hg,hh,r⟩
 ·exact Or.inl h2
 ·exact Or.inr ⟨g,cap,cur,hv,hg,(k.block g (Array.getElem?_eq_some_iff.1 hh).1).trans hh,r⟩
theorem row (h:OwnS w base e size A n c xs):∀k,A.map (·.block)=some k→base≤k:=by
 intro k hk;rcases h.form with⟨rfl,_⟩|⟨g,cur,rfl,hg,_⟩
 ·simp at hk
 ·simp at hk;omega
theorem far (h:OwnS w base e size A n c xs){p:Addr}(hp:A.map (·.block)≠some p.block)(u:Value):OwnS (w.setCell p u) base e size A n c xs:=by
 refine⟨h.1,?_⟩;rcases h.2 with h2|⟨g,cap,cur,hv,hg,hh,r⟩
 ·exact Or.inl h2
 ·refine Or.inr ⟨g,cap,cur,hv,hg,?_,r⟩;injection hv with e1 _ _
  subst e1;rw[Below.heap_setCell _ _ _ _ (by intro hk;exact hp (by simp[hk]))];exact hh
theorem caps (h:OwnS w base e size A n c xs):n≤c∧c≤9223372036854775807:=by
 rcases h.form with⟨_,rfl,rfl,_⟩|⟨g,cur,_,_,_,h1,h2,_⟩
 ·omega
 ·unfold maxLen at h2;omega
theorem cells (h:OwnS w base e size A n c xs):CellsAt w A xs:=by
 intro hn;rcases h.form with⟨_,_,_,rfl⟩|⟨g,cur,rfl,_,hh,h1,_,hs,ht⟩
 ·exact absurd rfl hn
 ·refine⟨g,0,rfl,fun i hi=>?_⟩;subst ht;have hi':i<cur.size:=by
   have:=List.length_take_le (n*size) cur.toList;have h2:=List.length_take_le' (n*size) cur.toList;simp at hi;omega
  rw[Nat.zero_add,List.getElem_take];simp[World.cell?,hh,hi']
theorem of_blk {g:Nat}{cs:Array Value}(h:Blk w g e cs)(hb:base≤g)(hs:cs.size=c*size)(hn:n≤c)(hm:c≤maxLen) :
 OwnS w base e size (some ⟨g,0,none⟩) n c (cs.toList.take (n*size)):=
 ⟨by rw[List.length_take,Array.length_toList,hs,Nat.min_eq_left (Nat.mul_le_mul_right _ hn)],Or.inr ⟨g,c,cs,rfl,hb,h,hn,hm,hs,rfl⟩⟩
end OwnS
section
variable {P:Program} (w:World)
theorem run_app (base t ty e:Nat)(i:TypeInfo)(z:Value)(size bytes:Nat)(ht:P.underlying t=some (.slice e))(hi:P.info? e=some i)(hz:i.zero=some z)
 (hsize:i.size=size) (hby:i.bytes=bytes) (hzs:z.cells.size=size) (hsz:0<size)
 (A:Option Addr) (n c:Nat) (xs:List Value) (hown:OwnS w base e size A n c xs)
 (B:Option Addr) (m d:Nat) (news:List Value) (hl:news.length=m*size) (hr:CellsAt w B news) (h1:∀u∈news,u.oneCell'=true)
 (h63:n+m≤maxLen) (hbytes:(n+m)*bytes≤140737488355328) (hbase:base≤w.heap.size) :
 ∃A' c' w',(Builtin.append_ #[t,t] ty #[.slice A n c,.slice B m d]).run P w=.ok (.slice A' (n+m) c') w'∧OwnS w' base e size A' (n+m) c' (xs++news)∧
  w.grownBy w' (A.map (·.block))∧(A'.map (·.block)=A.map (·.block)∨A'.map (·.block)=some w.heap.size):=by
 have hob:(Value.slice A n c).ownBlock=A.map (·.block):=by cases A<;>rfl
 by_cases hm:news=[]
 ·subst hm;have hm0:m=0:=by
   have h2:m*size=0:=by simpa using hl.symm
   rcases Nat.mul_eq_zero.1 h2 with h3|h3
   ·exact h3
   ·omega
  subst hm0;rcases B with _|ad
  ·refine⟨A,c,w,?_,by simpa using hown,World.grownBy.refl w _,.inl rfl⟩;rcases hown.form with⟨rfl,rfl,rfl,rfl⟩|⟨g,cur,rfl,_,hh,hnc,_⟩
   ·simp[Builtin.append_,run_underlying ht,sizeOf,typeInfo,hi,Builtin.lenOf,Builtin.firstCells]
   ·simp[Builtin.append_,run_underlying ht,sizeOf,typeInfo,hi,Builtin.lenOf,Builtin.firstCells,hnc,storeCells]
  ·obtain⟨v',w',hrun,h2,h3,_,h5⟩:=run_append_own_at (P:=P) w base t ty e i z size bytes ht hi hz hsize hby hzs hsz _ n xs hown ad 0 d [] si si si h63 hbytes hbase;rw[hob] at h3 h5;have hv:∃A' c',v'=.slice A' (n+0) c':=by
    rcases h2.2 with⟨rfl,h0⟩|⟨g,cap,cur,rfl,_⟩
    ·exact⟨none,0,by rw[h0]⟩
    ·exact⟨_,_,rfl⟩
   obtain⟨A',c',rfl⟩:=hv;refine⟨A',c',w',hrun,h2,h3,?_⟩;have hob':(Value.slice A' (n+0) c').ownBlock=A'.map (·.block):=by cases A'<;>rfl
   rw[←hob'];exact h5
 ·obtain⟨b,o,rfl,hc⟩:=hr hm;obtain⟨v',w',hrun,h2,h3,_,h5⟩:=run_append_own_at (P:=P) w base t ty e i z size bytes ht hi hz hsize hby hzs hsz _ n xs hown ⟨b,o,none⟩ m d news hl
   (fun j u hu=>by
    obtain⟨hj,rfl⟩:=List.getElem?_eq_some_iff.1 hu;rw[Addr.add_lit];exact hc j hj) h1 h63 hbytes hbase
  rw[hob] at h3 h5;have hv:∃A' c',v'=.slice A' (n+m) c':=by
   rcases h2.2 with⟨rfl,h0⟩|⟨g,cap,cur,rfl,_⟩
   ·exact⟨none,0,by rw[h0]⟩
   ·exact⟨_,_,rfl⟩
  obtain⟨A',c',rfl⟩:=hv;refine⟨A',c',w',hrun,h2,h3,?_⟩;have hob':(Value.slice A' (n+m) c').ownBlock=A'.map (·.block):=by cases A'<;>rfl
  rw[←hob'];exact h5
theorem wp_app {o:Oper}{a:Act}{K:Act→World→Prop}{Q:Exit→Act→World→Prop}(s x:Operand)(t:Nat)
 (ho:o.op=.call { callee:=.builtin .append,args:=#[s,x],argTypes:=#[t,t] })
 (base e:Nat) (i:TypeInfo) (z:Value) (size bytes:Nat) (ht:P.underlying t=some (.slice e)) (hi:P.info? e=some i) (hz:i.zero=some z)
 (hsize:i.size=size) (hby:i.bytes=bytes) (hzs:z.cells.size=size) (hsz:0<size)
 (A:Option Addr) (n c:Nat) (xs:List Value) (hs:a.eval s=.slice A n c) (hown:OwnS w base e size A n c xs)
 (B:Option Addr) (m d:Nat) (news:List Value) (hx:a.eval x=.slice B m d) (hl:news.length=m*size) (hr:CellsAt w B news) (h1:∀u∈news,u.oneCell'=true)
 (h63:n+m≤maxLen) (hbytes:(n+m)*bytes≤140737488355328) (hbase:base≤w.heap.size)
 (h:∀A' c' w',OwnS w' base e size A' (n+m) c' (xs++news)→w.grownBy w' (A.map (·.block))→(A'.map (·.block)=A.map (·.block)∨A'.map (·.block)=some w.heap.size)→
  K (a.put o.dst (.slice A' (n+m) c')) w'):o.wp P a w K Q:=by
 obtain⟨A',c',w',hrun,h2,h3,h4⟩:=run_app (P:=P) w base t o.type e i z size bytes ht hi hz hsize hby hzs hsz A n c xs hown B m d news hl hr h1 h63 hbytes hbase;unfold Oper.wp execOp;simp only[ho,resolve,invoke,builtin,Sem.run_bind,Sem.run_pure,Result.andThen_ok,List.map_toArray,List.map_cons,List.map_nil,hs,hx,hrun];exact h A' c' w' h2 h3 h4
theorem wpList_app {ops:Array Oper}{rest:List Oper}{o:Oper}{a:Act}{Q:Exit→Act→World→Prop}(hgd:o.guard=none)(s x:Operand)(t:Nat)
 (ho:o.op=.call { callee:=.builtin .append,args:=#[s,x],argTypes:=#[t,t] })
 (base e:Nat) (i:TypeInfo) (z:Value) (size bytes:Nat) (ht:P.underlying t=some (.slice e)) (hi:P.info? e=some i) (hz:i.zero=some z)
 (hsize:i.size=size) (hby:i.bytes=bytes) (hzs:z.cells.size=size) (hsz:0<size)
 (A:Option Addr) (n c:Nat) (xs:List Value) (hs:a.eval s=.slice A n c) (hown:OwnS w base e size A n c xs)
 (B:Option Addr) (m d:Nat) (news:List Value) (hx:a.eval x=.slice B m d) (hl:news.length=m*size) (hr:CellsAt w B news) (h1:∀u∈news,u.oneCell'=true)
 (h63:n+m≤maxLen) (hbytes:(n+m)*bytes≤140737488355328) (hbase:base≤w.heap.size)
 (h:∀A' c' w',OwnS w' base e size A' (n+m) c' (xs++news)→w.grownBy w' (A.map (·.block))→(A'.map (·.block)=A.map (·.block)∨A'.map (·.block)=some w.heap.size)→
  wpList P ops Q rest (a.put o.dst (.slice A' (n+m) c')) w'):wpList P ops Q (o::rest) a w:=
 wpList_plain hgd fun _ hK=>wp_app w s x t ho base e i z size bytes ht hi hz hsize hby hzs hsz A n c xs hs hown B m d news hx hl hr h1 h63 hbytes hbase fun A' c' w' h2 h3 h4=>hK _ _ (h A' c' w' h2 h3 h4)
end
def OwnI (w:World)(base e:Nat)(A:Option Addr)(c:Nat)(xs:List Int):Prop:=OwnS w base e 1 A xs.length c (xs.map (Value.int .i64))
theorem ints_one (xs:List Int):∀u∈xs.map (Value.int .i64),u.oneCell'=true:=by
 intro u hu;obtain⟨_,_,rfl⟩:=List.mem_map.1 hu
 rfl
theorem IL.cells {w:World}{A:Option Addr}{c:Nat}{xs:List Int}(h:IL w A c xs):CellsAt w A (xs.map (Value.int .i64)):=by
 intro hn;obtain⟨b,o,rfl,hc⟩:=h.at_ (by intro h0;subst h0;simp at hn);exact⟨b,o,rfl,fun i hi=>by simp only[List.getElem_map];exact hc i (by simpa using hi)⟩
theorem IL.of_own {w:World}{base e:Nat}{A:Option Addr}{c:Nat}{xs:List Int}(h:OwnI w base e A c xs)(hr:∀x∈xs,I64 x):IL w A c xs:=by
 refine⟨(OwnS.caps h).1,?_,hr,fun hn=>?_⟩
 ·have:=(OwnS.caps h).2;unfold maxLen;omega
 ·obtain⟨b,o,rfl,hc⟩:=OwnS.cells h (by simpa using hn);exact⟨b,o,rfl,fun i hi=>by have:=hc i (by simpa using hi);simpa using this⟩
theorem IL.one {w:World}{g T:Nat}{x:Int}(h:Blk w g T #[.int .i64 x])(hr:I64 x):IL w (some ⟨g,0,none⟩) 1 [x]:=
 ⟨by simp,by unfold maxLen;omega,by simpa using hr,fun _=>⟨g,0,rfl,fun i hi=>by
  have:i=0:=by simpa using hi
  subst this;simpa using h.cell 0⟩⟩
theorem IL.cut_in {w:World}{A:Option Addr}{c k j:Nat}{xs:List Int}(h:IL w A c xs)(hkj:k≤j)(hj:j≤xs.length):IL w (A.map (fun x=>x.add k)) (c-k) ((xs.drop k).take (j-k)):=by
 have h1:=h.le;have h2:=h.cap;refine⟨by simp;omega,om,fun x hx=>h.rng x (List.mem_of_mem_drop (List.mem_of_mem_take hx)),fun hn=>?_⟩;have hx:xs≠[]:=by rintro rfl;simp at hn
 obtain⟨b,o,rfl,hc⟩:=h.at_ hx;refine⟨b,o+k,by rw[Option.map_some,Addr.add_lit],fun i hi=>?_⟩;have hi':i<j-k∧k+i<xs.length:=by simp at hi;omega
 rw[List.getElem_take,List.getElem_drop,Nat.add_assoc];exact hc (k+i) hi'.2
theorem IL.of_blk {w:World}{g T:Nat}{xs:List Int}(h:Blk w g T (xs.map (Value.int .i64)).toArray)(hr:∀x∈xs,I64 x)(hm:xs.length≤maxLen):IL w (some ⟨g,0,none⟩) xs.length xs:=
 ⟨Nat.le_refl _,hm,hr,fun _=>⟨g,0,rfl,fun i hi=>by
  rw[h.cell];simp[hi]⟩⟩
theorem wpList_app1I {P:Program}{w1 w:World}{ops:Array Oper}{rest:List Oper}{o:Oper}{a:Act}{Q:Exit→Act→World→Prop}(hgd:o.guard=none)(s x:Operand)(t:Nat)
 (ho:o.op=.call { callee:=.builtin .append,args:=#[s,x],argTypes:=#[t,t] })
 (e:Nat) (hinf:(P.info? e).map (fun i=>(i.zero,i.size,i.bytes))=some (some (.int .i64 0),1,8)) (ht:P.underlying t=some (.slice e))
 (a0:World) (hext:Ext a0 w1) (v:Int) (hw:w=w1.alloc (.cells #[.int .i64 v] e))
 (A:Option Addr) (c:Nat) (xs:List Int) (hs:a.eval s=.slice A xs.length c) (hown:OwnI w1 a0.heap.size e A c xs)
 (hx:a.eval x=.slice (some ⟨w1.heap.size,0,none⟩) 1 1) (hb:xs.length≤1099511627776) (ys:List Int) (hys:ys=xs++[v])
 (h:∀A' c' w',OwnI w' a0.heap.size e A' c' ys→Ext a0 w'→w1.grownBy w' (A.map (·.block))→(A'.map (·.block)=A.map (·.block)∨(A'.map (·.block)=some (w1.heap.size+1)))→wpList P ops Q rest (a.put o.dst (.slice A' ys.length c')) w'):wpList P ops Q (o::rest) a w:=by
 obtain⟨i0,hi0,hz0,hz1,hz2⟩:=info_parts hinf;subst hw;have e1:=Ext.alloc w1 (.cells #[.int .i64 v] e);have hc:CellsAt (w1.alloc (.cells #[.int .i64 v] e)) (some ⟨w1.heap.size,0,none⟩) [.int .i64 v]:=fun _=>⟨_,0,rfl,fun i hi=>by
  have:i=0:=by simpa using hi
  subst this;simp⟩
 refine wpList_app _ hgd s x t ho a0.heap.size e i0 (.int .i64 0) 1 8 ht hi0 hz0 hz1 hz2 rfl om A xs.length c (xs.map (Value.int .i64)) hs (OwnS.ext hown e1) _ 1 1 [.int .i64 v] hx rfl hc
  (by simp[Value.oneCell']) um om (by simp;have:=hext.size;omega) ?_
 intro A' c' w' ho' hg hat;have hl:ys.length=xs.length+1:=by rw[hys];simp
 have hg':w1.grownBy w' (A.map (·.block)):=⟨hg.os,hg.tape,hg.output,Nat.le_trans e1.size hg.size,fun k hk hne=>(hg.block k (Nat.lt_of_lt_of_le hk e1.size) hne).trans (e1.block k hk)⟩
 rw[←hl];refine h A' c' w' ?_ (hext.grown hg' (OwnS.row hown)) hg' (by simpa using hat);subst hys;unfold OwnI;rw[hl]
 simpa using ho'
theorem Ext.app {a w w':World}{e size n c:Nat}{A:Option Addr}{xs:List Value}(h:Ext a w)(ho:OwnS w a.heap.size e size A n c xs)(hg:w.grownBy w' (A.map (·.block))):Ext a w':=
 h.grown hg ho.row
end
section
open Go.RowKit
abbrev Sp:=Int×Int
def has (l:List Sp)(x:Int):Bool:=l.any fun s=>decide (s.1≤x)&&decide (x≤s.2)
theorem has_iff {l:List Sp}{x:Int}:has l x=true↔∃s∈l,s.1≤x∧x≤s.2:=by
 unfold has;simp[List.any_eq_true]
theorem has_nil (x:Int):has [] x=false:=rfl
theorem has_cons (s:Sp)(l:List Sp)(x:Int):has (s::l) x=(decide (s.1≤x∧x≤s.2) || has l x):=by
 simp[has]
theorem has_append (l m:List Sp)(x:Int):has (l++m) x=(has l x || has m x):=by simp[has]
def Canon (l:List Sp):Prop:=(∀s∈l,s.1≤s.2)∧l.Pairwise (fun s t=>s.2+2≤t.1)
theorem Canon.nil:Canon []:=⟨by simp,List.Pairwise.nil⟩
theorem Canon.tail {s:Sp}{l:List Sp}(h:Canon (s::l)):Canon l:=⟨fun t ht=>h.1 t (by simp[ht]),(List.pairwise_cons.1 h.2).2⟩
theorem Canon.far {s:Sp}{l:List Sp}(h:Canon (s::l)){x:Int}(hx:has l x=true):s.2+2≤x:=by
 obtain⟨t,ht,h1,_⟩:=has_iff.1 hx;have:=(List.pairwise_cons.1 h.2).1 t ht;omega
def addS (l:List Sp)(s:Sp):List Sp:=match l.getLast? with
 | some t=>if s.1≤t.2+1 then l.dropLast++[(t.1,max t.2 s.2)] else l++[s]
 | none=>[s]
theorem addS_nil (s:Sp):addS [] s=[s]:=rfl
theorem addS_snoc (l:List Sp)(t s:Sp):addS (l++[t]) s=if s.1≤t.2+1 then l++[(t.1,max t.2 s.2)] else l++[t]++[s]:=by
 unfold addS;simp
theorem addS_len (l:List Sp)(s:Sp):l.length≤(addS l s).length∧(addS l s).length≤l.length+1:=by
 rcases List.eq_nil_or_concat l with rfl|⟨l,t,rfl⟩
 ·simp[addS_nil]
 ·rw[List.concat_eq_append,addS_snoc];split<;>simp
theorem addS_law {l:List Sp}{s:Sp}(h:Canon l)(hs:s.1≤s.2)(hl:∀t∈l,t.1≤s.1) :
 Canon (addS l s)∧(∀x,has (addS l s) x=(has l x || decide (s.1≤x∧x≤s.2)))∧(∀t∈addS l s,t.1≤s.1):=by
 rcases List.eq_nil_or_concat l with rfl|⟨l,t,rfl⟩
 ·rw[addS_nil];refine⟨⟨by simpa using hs,by simp⟩,fun x=>by simp[has],by simp⟩
 ·rw[List.concat_eq_append] at *;rw[addS_snoc];have hts:=hl t si;have ht:=h.1 t si;have hp:=List.pairwise_append.1 h.2
  split
  ·rename_i hle
   refine⟨⟨fun u hu=>?_,List.pairwise_append.2 ⟨hp.1,by simp,fun u hu v hv=>?_⟩⟩,fun x=>?_,fun u hu=>?_⟩
   ·rcases List.mem_append.1 hu with hu|hu
    ·exact h.1 u (by simp[hu])
    ·obtain rfl:=List.mem_singleton.1 hu
     simp only;omega
   ·obtain rfl:=List.mem_singleton.1 hv;exact hp.2.2 u hu t si
   ·rw[has_append,has_append];simp only[has,List.any_cons,List.any_nil,Bool.or_false,Bool.or_assoc]
    congr 1
    rw[Bool.eq_iff_iff];simp only[Bool.and_eq_true,decide_eq_true_eq,Bool.or_eq_true];omega
   ·rcases List.mem_append.1 hu with hu|hu
    ·exact hl u (by simp[hu])
    ·obtain rfl:=List.mem_singleton.1 hu;exact hts
  ·rename_i hgt
   refine⟨⟨fun u hu=>?_,List.pairwise_append.2 ⟨h.2,by simp,fun u hu v hv=>?_⟩⟩,fun x=>?_,fun u hu=>?_⟩
   ·rcases List.mem_append.1 hu with hu|hu
    ·exact h.1 u hu
    ·obtain rfl:=List.mem_singleton.1 hu;exact hs
   ·obtain rfl:=List.mem_singleton.1 hv;rcases List.mem_append.1 hu with hu|hu
    ·have:=hp.2.2 u hu t si;omega
    ·obtain rfl:=List.mem_singleton.1 hu;omega
   ·rw[has_append]
    congr 1
    simp[has]
   ·rcases List.mem_append.1 hu with hu|hu
    ·exact hl u hu
    ·obtain rfl:=List.mem_singleton.1 hu;exact Int.le_refl _
theorem addAll_law:∀(l acc:List Sp),Canon acc→(∀s∈l,s.1≤s.2)→l.Pairwise (fun s t=>s.1≤t.1)→(∀t∈acc,∀s∈l,t.1≤s.1)→
 Canon (l.foldl addS acc)∧∀x,has (l.foldl addS acc) x=(has acc x || has l x)
 | [],acc,h,_,_,_=>⟨h,fun x=>by simp[has]⟩
 | s::l,acc,h,hs,hp,hl=>by
  obtain⟨h1,h2,h3⟩:=addS_law h (hs s si) (fun t ht=>hl t ht s si);have hp':=List.pairwise_cons.1 hp;obtain⟨h4,h5⟩:=addAll_law l (addS acc s) h1 (fun t ht=>hs t (by simp[ht])) hp'.2 (fun t ht u hu=>Int.le_trans (h3 t ht) (hp'.1 u hu));refine⟨h4,fun x=>?_⟩;rw[List.foldl_cons,h5,h2,has_cons,Bool.or_assoc]
end
section
open Go.RowKit
def segsT:List Int→Int→List Sp
 | [],_=>[]
 | [a],top=>[(a,top)]
 | a::b::r,top=>(a,b-1)::segsT (b::r) top
theorem segsT_cons (a b:Int)(r:List Int)(top:Int):segsT (a::b::r) top=(a,b-1)::segsT (b::r) top:=rfl
theorem segsT_len:∀(l:List Int) (top:Int),(segsT l top).length=l.length
 | [],_=>rfl
 | [_],_=>rfl
 | a::b::r,top=>by rw[segsT_cons,List.length_cons,segsT_len (b::r) top];rfl
structure Ends (l:List Int)(top:Int):Prop where
 inc:l.Pairwise (· < ·)
 le:∀x∈l,x≤top
theorem Ends.tail {a:Int}{l:List Int}{top:Int}(h:Ends (a::l) top):Ends l top:=⟨(List.pairwise_cons.1 h.inc).2,fun x hx=>h.le x (by simp[hx])⟩
theorem segsT_mem:∀{l:List Int} {top:Int},Ends l top→∀s∈segsT l top,s.1∈l∧s.1≤s.2∧s.2≤top∧∀e∈l,¬(s.1<e∧e≤s.2)
 | [],_,_,s,hs=>by simp[segsT] at hs
 | [a],top,h,s,hs=>by
  obtain rfl:=List.mem_singleton.1 hs;have:=h.le a si;refine⟨by simp,this,Int.le_refl _,fun e he=>?_⟩;obtain rfl:=List.mem_singleton.1 he
  simp only;omega
 | a::b::r,top,h,s,hs=>by
  have hp:=List.pairwise_cons.1 h.inc;have hab:=hp.1 b si;have hb:=h.le b si;rw[segsT_cons] at hs;rcases List.mem_cons.1 hs with rfl|hs
  ·refine⟨by simp,by simp only;omega,by simp only;omega,fun e he=>?_⟩
   simp only
   rcases List.mem_cons.1 he with rfl|he
   ·omega
   ·rcases List.mem_cons.1 he with rfl|he
    ·omega
    ·have:=(List.pairwise_cons.1 hp.2).1 e he;omega
  ·obtain⟨h1,h2,h3,h4⟩:=segsT_mem h.tail s hs;refine⟨List.mem_cons_of_mem _ h1,h2,h3,fun e he=>?_⟩;rcases List.mem_cons.1 he with rfl|he
   ·have:=hp.1 s.1 h1;omega
   ·exact h4 e he
theorem segsT_pair:∀{l:List Int} {top:Int},Ends l top→(segsT l top).Pairwise (fun s t=>s.2<t.1)
 | [],_,_=>List.Pairwise.nil
 | [a],_,_=>by simp[segsT]
 | a::b::r,top,h=>by
  rw[segsT_cons];refine List.pairwise_cons.2 ⟨fun t ht=>?_,segsT_pair h.tail⟩;have h1:=(segsT_mem h.tail t ht).1
  simp only
  rcases List.mem_cons.1 h1 with h2|h2
  ·omega
  ·have:=(List.pairwise_cons.1 h.tail.inc).1 t.1 h2;omega
theorem segsT_has:∀{l:List Int} {top:Int},Ends l top→∀a,l.head? = some a→∀x,a≤x→x≤top→∃s∈segsT l top,s.1≤x∧x≤s.2
 | [],_,_,a,ha,_,_,_=>by simp at ha
 | [b],top,_,a,ha,x,h1,h2=>by
  simp at ha;subst ha;exact⟨(b,top),by simp[segsT],h1,h2⟩
 | b::c::r,top,h,a,ha,x,h1,h2=>by
  simp at ha;subst ha;rw[segsT_cons];by_cases hc:x<c
  ·exact⟨(b,c-1),by simp,h1,by simp only;omega⟩
  ·obtain⟨s,hs,h3⟩:=segsT_has h.tail c rfl x om h2;exact⟨s,List.mem_cons_of_mem _ hs,h3⟩
def cls (l:List Int)(top:Int)(p:Int→Bool):List Sp:=((segsT l top).filter (fun s=>p s.1)).foldl addS []
theorem cls_canon {l:List Int}{top:Int}(h:Ends l top)(p:Int→Bool):Canon (cls l top p)∧∀x,has (cls l top p) x=true↔∃s∈segsT l top,p s.1=true∧s.1≤x∧x≤s.2:=by
 have hm:=segsT_mem h;have hp:((segsT l top).filter (fun s=>p s.1)).Pairwise (fun s t=>s.1≤t.1):=by
  refine List.Pairwise.filter _ ((segsT_pair h).imp_of_mem (fun{s t} hs ht hst=>?_));have:=(hm s hs).2.1;omega
 obtain⟨h1,h2⟩:=addAll_law ((segsT l top).filter (fun s=>p s.1)) [] Canon.nil (fun s hs=>(hm s (List.mem_filter.1 hs).1).2.1) hp si;refine⟨h1,fun x=>?_⟩;unfold cls;rw[h2,has_nil,Bool.false_or,has_iff];constructor
 ·rintro⟨s,hs,h3⟩;obtain⟨h4,h5⟩:=List.mem_filter.1 hs;exact⟨s,h4,h5,h3⟩
 ·rintro⟨s,hs,h3,h4⟩;exact⟨s,List.mem_filter.2 ⟨hs,h3⟩,h4⟩
def Steady (l:List Int)(top:Int)(p:Int→Bool):Prop:=∀e x,e≤x→x≤top→(∀y∈l,¬(e<y∧y≤x))→p x=p e
theorem cls_has {l:List Int}{top:Int}(h:Ends l top){p:Int→Bool}(hp:Steady l top p){a:Int}(ha:l.head? = some a)(x:Int):has (cls l top p) x=(p x&&decide (a≤x∧x≤top)):=by
 rw[Bool.eq_iff_iff,(cls_canon h p).2];simp only[Bool.and_eq_true,decide_eq_true_eq];constructor
 ·rintro⟨s,hs,h1,h2,h3⟩;obtain⟨h4,h5,h6,h7⟩:=segsT_mem h s hs;refine⟨?_,?_,om⟩
  ·rw[hp s.1 x h2 om (fun y hy hc=>h7 y hy ⟨hc.1,om⟩)];exact h1
  ·have:a≤s.1:=by
    rcases l with _|⟨b,l⟩
    ·simp at ha
    ·simp at ha;subst ha;rcases List.mem_cons.1 h4 with e|e
     ·omega
     ·have:=(List.pairwise_cons.1 h.inc).1 s.1 e;omega
   omega
 ·rintro⟨h1,h2,h3⟩;obtain⟨s,hs,h4,h5⟩:=segsT_has h a ha x h2 h3;obtain⟨_,_,h6,h7⟩:=segsT_mem h s hs;exact⟨s,hs,by rw[←hp s.1 x h4 h3 (fun y hy hc=>h7 y hy ⟨hc.1,om⟩)];exact h1,h4,h5⟩
def EndsIn (a:List Sp)(l:List Int)(top:Int):Prop:=∀s∈a,(s.1≤top→s.1∈l)∧(s.2+1≤top→s.2+1∈l)
theorem has_steady {a:List Sp}{l:List Int}{top:Int}(h:EndsIn a l top)(e x:Int)(hx:e≤x)(ht:x≤top)(hg:∀y∈l,¬(e<y∧y≤x)):has a x=has a e:=by
 rw[Bool.eq_iff_iff,has_iff,has_iff];constructor
 ·rintro⟨s,hs,h1,h2⟩;refine⟨s,hs,?_,om⟩;rcases Int.lt_or_le e s.1 with h3|h3
  ·exact absurd ⟨h3,h1⟩ (hg s.1 ((h s hs).1 om))
  ·exact h3
 ·rintro⟨s,hs,h1,h2⟩;refine⟨s,hs,om,?_⟩;rcases Int.lt_or_le s.2 x with h3|h3
  ·exact absurd ⟨om,om⟩ (hg (s.2+1) ((h s hs).2 om))
  ·exact h3
end
end Go.Proofs.YtmocoldobnimfaaGreat
