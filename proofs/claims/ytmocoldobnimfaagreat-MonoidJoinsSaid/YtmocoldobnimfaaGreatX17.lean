/- Texts of this proof: Y1 G9 Z2 TX C1. -/
import Derived.Test.YtmocoldobnimfaaGreatX16
set_option linter.all false
set_option maxRecDepth 100000
set_option maxHeartbeats 16000000
namespace Go.Proofs.YtmocoldobnimfaaGreat
section
open Go.RowKit
attribute [local go_sem ↓] Go.wp_at_zero Go.wp_at_succ
def I32 (x:Int):Prop:=-2147483648≤x∧x≤2147483647
structure KL (w:World)(A:Option Addr)(c:Nat)(xs:List Int):Prop where
 le:xs.length≤c
 cap:c≤maxLen
 rng:∀x∈xs,I32 x
 at_:xs≠[]→∃b o,A=some ⟨b,o,none⟩∧∀i (h:i<xs.length),w.cell? ⟨b,o+i,none⟩=some (.int .i32 xs[i])
namespace KL
variable {w w':World} {A:Option Addr} {c:Nat} {xs:List Int}
theorem ext (h:KL w A c xs)(k:Ext w w'):KL w' A c xs:=by
 refine⟨h.le,h.cap,h.rng,fun hn=>?_⟩;obtain⟨b,o,rfl,hc⟩:=h.at_ hn;exact⟨b,o,rfl,fun i hi=>k.cell (hc i hi)⟩
theorem nil (w:World):KL w none 0 []:=⟨Nat.le_refl _,Nat.zero_le _,by simp,fun h=>absurd rfl h⟩
theorem len (h:KL w A c xs):xs.length≤c∧c≤9223372036854775807:=⟨h.le,by have:=h.cap;unfold maxLen at this;omega⟩
theorem get {k:Nat}(h:KL w A c xs)(hk:k<xs.length):∃b o,A=some ⟨b,o,none⟩∧w.cell? ⟨b,o+k,none⟩=some (.int .i32 xs[k]):=by
 obtain⟨b,o,rfl,hc⟩:=h.at_ (by intro h0;subst h0;simp at hk);exact⟨b,o,rfl,hc k hk⟩
theorem wf {k:Nat}(h:KL w A c xs)(hk:k<xs.length):I32 xs[k]:=h.rng _ (List.getElem_mem hk)
end KL
structure Sm where
 m:Nat
 len:Nat
 tA:Option Addr
 tc:Nat
 tg:List Int
 lA:Option Addr
 lc:Nat
 last:List Int
 sA:Option Addr
 sc:Nat
 st:List Int
 eA:Option Addr
 ec:Nat
 en:List Int
def smCells (s:Sm):Array Value:=#[.pointer (some ⟨s.m,0,none⟩),.int .i64 s.len,.slice s.tA s.tg.length s.tc,.slice s.lA s.last.length s.lc,.slice s.sA s.st.length s.sc,.slice s.eA s.en.length s.ec]
structure SmAt (w:World)(g:Nat)(s:Sm):Prop where
 blk:Blk w g 154 (smCells s)
 tg:KL w s.tA s.tc s.tg
 last:KL w s.lA s.lc s.last
 st:KL w s.sA s.sc s.st
 en:KL w s.eA s.ec s.en
 ty:∀A∈[s.tA,s.lA,s.sA,s.eA],∀b,A.map (·.block)=some b→∃cur,w.heap[b]? = some (.cells cur 21 (0,0))
theorem SmAt.ext {w w':World}{g:Nat}{s:Sm}(h:SmAt w g s)(k:Ext w w'):SmAt w' g s:=⟨h.blk.ext k,h.tg.ext k,h.last.ext k,h.st.ext k,h.en.ext k,fun A hA b e=>by
 obtain⟨cur,q⟩:=h.ty A hA b e;exact⟨cur,(k.block b (Array.getElem?_eq_some_iff.1 q).1).trans q⟩⟩
def aftG (n:Nat)(tg last:List Int)(st la:Int):Int×Int:=
 if st = -1 then(-1,la) else(tg.getD st.toNat 0,if last.getD st.toNat 0 = -1 then la else(n:Int)+last.getD st.toNat 0)
theorem after_any (w:World)(ga gb:Nat)(a b:Sm)(ha:SmAt w ga a)(hb:SmAt w gb b)(hlen:a.len≤1000000)(hl:b.last.length=b.tg.length)(hlr:∀x∈b.last,-1≤x∧x≤1000000)(st la:Int)(h0 : -1≤st)(h1:st<b.tg.length) :
 Calls Tryz.prog 132 #[.pointer (some ⟨ga,0,none⟩),.pointer (some ⟨gb,0,none⟩),.int .i32 st,.int .i32 la] w (RetV (.tuple #[.int .i32 (aftG a.len b.tg b.last st la).1,.int .i32 (aftG a.len b.tg b.last st la).2]) w):=by
 by_cases hd:st = -1
 ·subst hd;have HA:=lh (show aftG a.len b.tg b.last (-1) la=(-1,la) by simp[aftG]);rw[HA.out];go_enter Tryz.func132,Tryz.ntmps132
  go_wp2_with fail
  go_ret2
  exact⟨rfl,Ext.rfl' _⟩
 ·obtain⟨k,rfl⟩:∃k:Nat,st=k:=⟨st.toNat,om⟩;have hk:k<b.tg.length:=om;have hk2:k<b.last.length:=om;obtain⟨tb,oo,htA,ct⟩:=hb.tg.get hk;obtain⟨lb,lo,hlA,cl⟩:=hb.last.get hk2;have r1:w.cell? ⟨ga,1,none⟩=some (.int .i64 a.len):=ha.blk.cell 1;have q2:w.cell? ⟨gb,2,none⟩=some (.slice b.tA b.tg.length b.tc):=hb.blk.cell 2;have q3:w.cell? ⟨gb,3,none⟩=some (.slice b.lA b.last.length b.lc):=hb.blk.cell 3;have hrl:=hlr _ (List.getElem_mem hk2);have HA:=lh (show aftG a.len b.tg b.last (k:Int) la=(b.tg[k],if b.last[k] = -1 then la else(a.len:Int)+b.last[k]) by
   unfold aftG;rw[if_neg om];simp[List.getD_eq_getElem?_getD,hk,hk2])
  rw[HA.out];rw[htA] at q2;rw[hlA,hl] at q3;have hw1:IntKind.i32.wrap (a.len:Int)=a.len:=wraps_i32 _ om om;generalize b.last[k]=x at *;generalize b.tg[k]=y at *;clear HA hl htA hlA hlr h0 h1 hk2 ha hb;generalize b.tg.length=n at *;have hkI:(k:Int)<n:=om;by_cases hx:x = -1
  ·subst hx;simp only[if_true];go_enter Tryz.func132,Tryz.ntmps132
   go_wp2_with fail
   go_ret2
   exact⟨rfl,Ext.rfl' _⟩
  ·rw[if_neg hx];have hw2:IntKind.i32.wrap ((a.len:Int)+x)=a.len+x:=wraps_i32 _ om om;go_enter Tryz.func132,Tryz.ntmps132;have j1:=kc0 r1;have j3:=kc0 q3;have jl:=kc0 cl
   go_upto_region 4 with fail
   refine Xr.start [] kr ?_;refine Xtk 0 ?_
   iterate 13(refine Xtn ?_)
   refine Xdn fun w4 hE4 hK4=>?_;have r2':w4.cell? ⟨gb,2,none⟩=some (.slice (some ⟨tb,oo,none⟩) n b.tc):=hE4.cell q2;have ct':=hE4.cell ct;clear j1 j3 jl r1 q2 q3 ct cl
   go_wp2_with fail
   go_ret2
   exact⟨rfl,hE4⟩
end
section
open Go.RowKit
theorem infoBl:(Tryz.prog.info? 4).map (fun i=>(i.zero,i.size,i.bytes))=some (some (.bool false),1,1):=by kernel_rfl
theorem RetS.ext {out:List Sp}{w0 w w':World}{e:Ending}(x:Ext w0 w)(h:RetS out w e w'):RetS out w0 e w':=by
 rcases h with⟨h1,h2,h3⟩|⟨h1,A,c,h2,h3,h4,h5⟩
 ·exact .inl ⟨h1,h2,x.trans h3⟩
 ·exact .inr ⟨h1,A,c,h2,h3,x.trans h4,h5.mono x⟩
end
section
open Go.RowKit
attribute [local go_sem ↓] Go.wp_at_zero Go.wp_at_succ
theorem zword_any (x:Int)(w:World):Calls Tryz.prog 229 #[.int .i64 x] w (RetB w):=by
 go_enter Tryz.func229,Tryz.ntmps229
 go_wp2
 all_goals
  go_ret
  exact⟨_,rfl,Ext.rfl' _⟩
theorem zin_any (A:Option Addr)(c:Nat)(l:List Sp)(x:Int)(w:World)(hs:SL w A c l):Calls Tryz.prog 212 #[.slice A l.length c,.int .i64 x] w (RetB w):=by
 have hll:=hs.len;have HS:=lh hs;clear hs;go_enter Tryz.func212,Tryz.ntmps212
 go_wp2
 go_loopw [5] (fun i wr=>∃k:Nat,k≤l.length∧i=.int .i64 k∧Ext w wr) (fun i _=>l.length-(intOf i).toNat)
 case atStart=>exact⟨0,Nat.zero_le _,rfl,Ext.rfl' _⟩
 case round=>
  obtain⟨k,hk,rfl,x1⟩:=hrel;by_cases hlt:k<l.length
  ·obtain⟨p1,o1,rfl,g1,g2⟩:=(HS.out.ext x1).get hlt;have hlt2:(k:Int)<l.length:=om
   go_wp2_with fail
   all_goals first
    | (go_ret;exact⟨_,rfl,x1⟩)
    | (
     go_roundw
     case rel=>exact⟨k+1,om,by go_num,x1⟩
     case measure=>simp[intOf];omega)
  ·have hlt2:¬(k:Int)<l.length:=om
   go_wp2_with fail
   go_ret
   exact⟨_,rfl,x1⟩
theorem zholds_any (n:Int)(T:Option Addr)(tc:Nat)(ts:List Int)(i:Nat)(w:World)(hT:IL w T tc ts)(hi:i≤ts.length) :
 Calls Tryz.prog 215 #[.int .i64 n,.slice T ts.length tc,.int .i64 i] w (RetB w):=by
 have hll:=hT.len;have HW:=fun(x:Int) (w':World)=>lh (zword_any x w');have X0:=Ext.rfl' w;by_cases h0:i=0
 ·subst h0;by_cases hl:ts.length=0
  ·have hlI:¬(0:Int)<(ts.length:Int):=om;clear hT;generalize ts.length=tn at *;subst hl;go_enter Tryz.func215,Tryz.ntmps215
   go_wp2_with (go_at_call 229;refine(HW _ _).out.mono ?_;rintro e w2 ⟨b2,rfl,x2⟩;have X2:=Ext.trans (by assumption:Ext w _) x2)
   all_goals
    go_ret
    exact⟨_,rfl,by assumption⟩
  ·have hlI:(0:Int)<(ts.length:Int):=om;obtain⟨b,o,rfl,cb⟩:=hT.get (k:=0) om;simp only[Nat.add_zero] at cb;generalize ts[0]'om=y at *;have HB:=fun(w':World) (x:Ext w w')=>x.cell cb;have hne:((0:Int) == (ts.length:Int))=false:=by simp;omega
   clear hT;generalize ts.length=tn at *;go_enter Tryz.func215,Tryz.ntmps215
   go_wp2_with (go_at_call 229;refine(HW _ _).out.mono ?_;rintro e w2 ⟨b2,rfl,x2⟩;have X2:=Ext.trans (by assumption:Ext w _) x2;have cb2:=HB _ X2)
   all_goals
    go_ret
    exact⟨_,rfl,by assumption⟩
 ·obtain⟨j,rfl⟩:∃j,i=j+1:=⟨i-1,om⟩;have hjl:j<ts.length:=om;obtain⟨b,o,rfl,ca⟩:=hT.get hjl;have HA:=fun(w':World) (x:Ext w w')=>x.cell ca;have ewj:IntKind.i64.wrap ((j:Int)+1-1)=(j:Int):=wj;have hjI:(j:Int)<(ts.length:Int):=om;have hj0:(0:Int)<(j:Int)+1:=om;have hjn:((j:Int)+1 == 0)=false:=by simp;omega
  have ecast:((j+1:Nat):Int)=(j:Int)+1:=om;rw[ecast];by_cases hl:j+1=ts.length
  ·have hlI:¬(j:Int)+1<(ts.length:Int):=om;have heq:((j:Int)+1 == (ts.length:Int))=true:=by simp;omega
   clear hT;generalize ts[j]=y at *;generalize ts.length=tn at *;go_enter Tryz.func215,Tryz.ntmps215
   go_wp2_with (go_at_call 229;refine(HW _ _).out.mono ?_;rintro e w2 ⟨b2,rfl,x2⟩;have X2:=Ext.trans (by assumption:Ext w _) x2;have ca2:=HA _ X2)
   all_goals
    go_ret
    exact⟨_,rfl,by assumption⟩
  ·have hlI:(j:Int)+1<(ts.length:Int):=om;have heq:((j:Int)+1 == (ts.length:Int))=false:=by simp;omega
   obtain⟨b',o',e1,cb⟩:=hT.get (k:=j+1) om;injection e1 with e1;injection e1 with e1 e2 _
   subst e1;subst e2;have HB:=fun(w':World) (x:Ext w w')=>x.cell cb;clear hT;generalize ts[j]=y at *;generalize ts[j+1]'om=z at *;generalize ts.length=tn at *;go_enter Tryz.func215,Tryz.ntmps215
   go_wp2_with (go_at_call 229;refine(HW _ _).out.mono ?_;rintro e w2 ⟨b2,rfl,x2⟩;have X2:=Ext.trans (by assumption:Ext w _) x2;have ca2:=HA _ X2;have cb2:=HB _ X2)
   all_goals
    go_ret
    exact⟨_,rfl,by assumption⟩
def ptB (v:Option Value):List Nat:=match v with|some (.slice (some A) _ _)=>[A.block]|_=>[]
def zL (w:World)(gs:Nat):List Nat:=gs::(ptB (w.cell? ⟨gs,5,none⟩)++ptB (w.cell? ⟨gs,6,none⟩))
theorem mem_ptB {A:Option Addr}{n c:Nat}{x:Nat}:x∈ptB (some (.slice A n c))↔A.map (·.block)=some x:=by
 cases A with
 | none=>simp[ptB]
 | some a=>simp[ptB,eq_comm]
structure ZF (gs:Nat)(a b:World):Prop where
 kp:Kp (zL a gs) a b
 old:∀x∈zL b gs,x∈zL a gs∨a.heap.size≤x
theorem zL_ext {gs:Nat}{a b:World}(x:Ext a b)(h:gs<a.heap.size):zL b gs=zL a gs:=by
 unfold zL;rw[x.cells.1 gs 5 h,x.cells.1 gs 6 h]
namespace ZF
variable {gs:Nat} {a b c w w':World}
theorem of_ext (x:Ext a b)(h:gs<a.heap.size):ZF gs a b:=⟨Kp.of_ext x,fun y hy=>.inl (by rw[zL_ext x h] at hy;exact hy)⟩
theorem refl (w:World)(h:gs<w.heap.size):ZF gs w w:=of_ext (Ext.rfl' w) h
theorem size (h:ZF gs a b):a.heap.size≤b.heap.size:=h.kp.size
theorem trans (h:ZF gs a b)(k:ZF gs b c):ZF gs a c:=
 ⟨⟨k.kp.os.trans h.kp.os,k.kp.tape.trans h.kp.tape,k.kp.output.trans h.kp.output,Nat.le_trans h.size k.size,fun i hi hn=>(k.kp.block i (Nat.lt_of_lt_of_le hi h.size) (fun hm=>by
  rcases h.old i hm with h1|h1
  ·exact hn h1
  ·omega)).trans (h.kp.block i hi hn)⟩,
  fun x hx=>by
   rcases k.old x hx with h1|h1
   ·exact h.old x h1
   ·exact .inr (Nat.le_trans h.size h1)⟩
theorem ext (h:ZF gs a b)(x:Ext b c)(hg:gs<a.heap.size):ZF gs a c:=h.trans (of_ext x (Nat.lt_of_lt_of_le hg h.size))
theorem mk2 {cs:Array Value}{eA cA:Option Addr}{en ec cn cc:Nat}(k:Kp (zL a gs) a b)(h:Blk b gs 257 cs)(h5:cs[5]? = some (.slice eA en ec))(h6:cs[6]? = some (.slice cA cn cc))
 (he:∀x,eA.map (·.block)=some x→x∈zL a gs∨a.heap.size≤x) (hc:∀x,cA.map (·.block)=some x→x∈zL a gs∨a.heap.size≤x):ZF gs a b:=
 ⟨k,fun x hx=>by
  unfold zL at hx;rw[h.cell 5,h.cell 6,h5,h6] at hx;rcases List.mem_cons.1 hx with rfl|hx
  ·exact .inl List.mem_cons_self
  rcases List.mem_append.1 hx with hx|hx
  ·exact he x (mem_ptB.1 hx)
  ·exact hc x (mem_ptB.1 hx)⟩
end ZF
section
variable {w w':World} {base gs tn tc st ns:Nat} {tA:Option Addr} {most fuel:Int} {em:Bool}
theorem SrM.typ (h:SrM w base gs tA tn tc most fuel st em ns){x:Nat}(hx:x∈zL w gs):base≤x∧∃cur T,w.heap[x]? = some (.cells cur T (0,0))∧ZT T:=by
 obtain⟨⟨eA,ec,ends,cA,cc,cps,h1,h2,h3,_⟩,hlo⟩:=h;unfold zL at hx;rw[h1.cell 5,h1.cell 6] at hx;rcases List.mem_cons.1 hx with rfl|hx
 ·exact⟨hlo,_,_,h1,.inl rfl⟩
 rcases List.mem_append.1 hx with hx|hx
 ·have hx:=mem_ptB.1 hx;obtain⟨_,cur,e⟩:=OwnS.blt h2 hx;exact⟨OwnS.row h2 _ hx,cur,_,e,.inr (.inl rfl)⟩
 ·have hx:=mem_ptB.1 hx;obtain⟨_,cur,e⟩:=OwnS.blt h3 hx;exact⟨OwnS.row h3 _ hx,cur,_,e,.inr (.inr rfl)⟩
theorem SrM.gs_lt (h:SrM w base gs tA tn tc most fuel st em ns):gs<w.heap.size:=by
 obtain⟨⟨_,_,_,_,_,_,h1,_⟩,_⟩:=h;exact h1.lt
theorem ZF.blk {g T:Nat}{ds:Array Value}(k:ZF gs w w')(h:SrM w base gs tA tn tc most fuel st em ns)(hb:Blk w g T ds)(hT:¬ZT T):Blk w' g T ds:=
 (k.kp.block g hb.lt (fun hm=>by
  obtain⟨_,cur,T2,e,h2⟩:=h.typ hm;have e2:=hb.symm.trans e;injection e2 with e2;injection e2 with _ e2 _
  exact hT (e2▸h2))).trans hb
variable {bd n:Nat} {w0:World} {kb kb':Int} {p:Option Nat}
theorem GoalAt.zf (h:GoalAt bd w0 w kb n p)(hs:SrM w base gs tA tn tc most fuel st em ns)(k:ZF gs w w'):GoalAt bd w0 w' kb n p:=by
 induction h with
 | nil=>exact .nil
 | mk g kind k2 fr nd d h1 h2 h3 h4 _ ih=>exact .mk g kind k2 fr nd d (k.blk hs h1 de) h2 h3 h4 ih
theorem CapAt.zf {A:Option Addr}{c:Nat}{l:List Sp}(h:CapAt w A c l)(hs:SrM w base gs tA tn tc most fuel st em ns)(k:ZF gs w w'):CapAt w' A c l:=by
 have hn:∀b,A.map (·.block)=some b→¬b∈zL w gs:=fun b hb hq=>by
  obtain⟨cur,hh⟩:=h.2 b hb;obtain⟨_,cur2,T2,e,h2⟩:=hs.typ hq;have e2:=hh.symm.trans e;injection e2 with e2;injection e2 with _ e2 _
  exact absurd (e2▸h2:ZT 82) de
 have kk:KpP (·∈zL w gs) w w':=⟨k.kp.os,k.kp.tape,k.kp.output,k.kp.size,k.kp.block⟩;refine⟨h.1.kpZ kk (fun _ b hb=>hn b hb),fun b hb=>?_⟩;obtain⟨cur,hh⟩:=h.2 b hb;exact⟨cur,(k.kp.block b (Array.getElem?_eq_some_iff.1 hh).1 (hn b hb)).trans hh⟩
end
def RetF (w0:World)(gs:Nat)(tA:Option Addr)(tn tc:Nat)(most:Int)(fuel:Nat)(st ns:Nat)(w:World)(e:Ending)(w':World):Prop:=
 ∃(b:Bool) (st':Nat) (em:Bool) (ns':Nat),e=.returned (.bool b)∧SrM w' w0.heap.size gs tA tn tc most fuel st' em ns'∧Ext w0 w'∧ZF gs w w'∧st≤st'∧ns≤ns'∧ns'≤ns+3*(st'-st)+1∧
  ((em=false∧st'≤fuel)∨(em=true∧b=true∧st'=fuel+1))
def RetStp (w0:World)(gs:Nat)(tA:Option Addr)(tn tc:Nat)(most:Int)(fuel:Nat)(st ns:Nat)(w:World)(e:Ending)(w':World):Prop:=
 e=.returned (.bool (decide (st+1≤fuel)))∧SrM w' w0.heap.size gs tA tn tc most fuel (st+1) (!decide (st+1≤fuel)) ns∧Ext w0 w'∧ZF gs w w'
theorem zL_mem {w:World}{gs T:Nat}{cs:Array Value}{eA cA:Option Addr}{en ec cn cc:Nat}(h:Blk w gs T cs)(h5:cs[5]? = some (.slice eA en ec))(h6:cs[6]? = some (.slice cA cn cc)) :
 (∀x,eA.map (·.block)=some x→x∈zL w gs)∧(∀x,cA.map (·.block)=some x→x∈zL w gs):=by
 unfold zL;rw[h.cell 5,h.cell 6,h5,h6];exact⟨fun x hx=>List.mem_cons_of_mem _ (List.mem_append.2 (.inl (mem_ptB.2 hx))),fun x hx=>List.mem_cons_of_mem _ (List.mem_append.2 (.inr (mem_ptB.2 hx)))⟩
theorem SrM.put {w:World}{base gs:Nat}{eA cA:Option Addr}{ec cc:Nat}{ends:List Int}{cps:List Value}{i:Nat}{v:Value}{cs:Array Value}
 (hb:Blk w gs 257 cs) (h5:cs[5]? = some (.slice eA ends.length ec)) (h6:cs[6]? = some (.slice cA cps.length cc)) (hi:i≠5∧i≠6)
 (he:OwnI w base 3 eA ec ends) (hc:OwnS w base 65 1 cA cps.length cc cps) :
 OwnI (w.setCell ⟨gs,i,none⟩ v) base 3 eA ec ends∧OwnS (w.setCell ⟨gs,i,none⟩ v) base 65 1 cA cps.length cc cps∧ZF gs w (w.setCell ⟨gs,i,none⟩ v):=by
 have hm:=zL_mem hb h5 h6;refine⟨OwnS.far he (p:=⟨gs,i,none⟩) (own_blk he hb de) v,OwnS.far hc (p:=⟨gs,i,none⟩) (own_blk hc hb de) v,?_⟩;refine ZF.mk2 (Kp.set (Kp.refl _ _) (p:=⟨gs,i,none⟩) (.inl List.mem_cons_self) v) (hb.set i v) (eA:=eA) (en:=ends.length) (ec:=ec) (cA:=cA) (cn:=cps.length) (cc:=cc) ?_ ?_ (fun x hx=>.inl (hm.1 x hx)) (fun x hx=>.inl (hm.2 x hx))
 ·rw[Array.getElem?_setIfInBounds,if_neg hi.1];exact h5
 ·rw[Array.getElem?_setIfInBounds,if_neg hi.2];exact h6
theorem zstep_any (w0 w:World)(gs:Nat)(tA:Option Addr)(tn tc:Nat)(most:Int)(fuel st ns:Nat)(h:SrM w w0.heap.size gs tA tn tc most fuel st false ns)(x0:Ext w0 w)(hst:st≤fuel)(hf:fuel≤1000000000000) :
 Calls Tryz.prog 211 #[.pointer (some ⟨gs,0,none⟩)] w (RetStp w0 gs tA tn tc most fuel st ns w):=by
 obtain⟨⟨eA,ec,ends,cA,cc,cps,hb,he,hc,h1,h2,h3,h4⟩,hlo⟩:=h;obtain⟨he1,hc1,z1⟩:=SrM.put (i:=3) (v:=.int .i64 ((st:Int)+1)) hb rfl rfl om he hc;have hb1:=hb.set 3 (.int .i64 ((st:Int)+1));have x1:Ext w0 (w.setCell ⟨gs,3,none⟩ (.int .i64 ((st:Int)+1))):=x0.setNew (p:=⟨gs,3,none⟩) hlo _;have c3:w.cell? ⟨gs,3,none⟩=some (.int .i64 st):=hb.cell 3;have f3:=hb.frz 3;have ewp:IntKind.i64.wrap ((st:Int)+1)=(st:Int)+1:=wj;have HE:=lh h1;have HC:=lh h2;have H3:=lh h3;have H4:=lh h4;have HX1:=lh x1;have HE1:=lh he1;have HC1:=lh hc1;have HZ1:=lh z1;have HGL:=lh hb.lt;have HB1:Hid (Blk (w.setCell ⟨gs,3,none⟩ (.int .i64 ((st:Int)+1))) gs 257 #[.slice tA tn tc,.int .i64 most,.int .i64 fuel,.int .i64 ((st:Int)+1),.bool false,.slice eA ends.length ec,.slice cA cps.length cc]):=lh (by simpa using hb1);clear h1 h2 h3 h4 x1 he1 hc1 z1 he hc hb hb1;go_enter Tryz.func211,Tryz.ntmps211
 go_upto_region 2 with fail
 generalize w.setCell ⟨gs,3,none⟩ (.int .i64 ((st:Int)+1))=wa at *;clear c3 f3;have c2:wa.cell? ⟨gs,2,none⟩=some (.int .i64 fuel):=HB1.out.cell 2;have c3:wa.cell? ⟨gs,3,none⟩=some (.int .i64 ((st:Int)+1)):=HB1.out.cell 3;have c4:wa.cell? ⟨gs,4,none⟩=some (.bool false):=HB1.out.cell 4;have f4:=HB1.out.frz 4;by_cases hlt:st+1≤fuel
 ·have hgt:¬((fuel:Int)<(st:Int)+1):=om
  go_wp2_with (go_quiet (fail))
  go_ret
  have xd:=Ext.drewN wa nq;refine⟨by simp[hlt],⟨⟨eA,ec,ends,cA,cc,cps,?_,OwnS.ext HE1.out xd,OwnS.ext HC1.out xd,HE.out,HC.out,H3.out,H4.out⟩,hlo⟩,HX1.out.trans xd,HZ1.out.ext xd HGL.out⟩;have b:=HB1.out.ext xd
  simpa[hlt] using b
 ·have hgt:(fuel:Int)<(st:Int)+1:=om
  go_upto_region 3 with(go_quiet (fail))
  have xd:=Ext.drewN wa nq;have HB2:=lh (HB1.out.ext xd);have HX2:=lh (HX1.out.trans xd);have HE2:=lh (OwnS.ext HE1.out xd);have HC2:=lh (OwnS.ext HC1.out xd);have HZ2:=lh (HZ1.out.ext xd HGL.out);clear xd c2 c3 c4 f4 HB1 HX1 HE1 HC1 HZ1;generalize wa.drewN nq=wb at *;have f4:=HB2.out.frz 4;have c4:wb.cell? ⟨gs,4,none⟩=some (.bool false):=HB2.out.cell 4;obtain⟨he3,hc3,z3⟩:=SrM.put (i:=4) (v:=.bool true) HB2.out rfl rfl om HE2.out HC2.out;have hb3:=HB2.out.set 4 (.bool true);have x3:Ext w0 (wb.setCell ⟨gs,4,none⟩ (.bool true)):=HX2.out.setNew (p:=⟨gs,4,none⟩) hlo _
  go_wp2_with fail
  go_ret
  refine⟨by simp[hlt],⟨⟨eA,ec,ends,cA,cc,cps,?_,he3,hc3,HE.out,HC.out,H3.out,H4.out⟩,hlo⟩,x3,HZ2.out.trans z3⟩
  simpa[hlt] using hb3
def RetWi (n:Nat)(w:World)(e:Ending)(w':World):Prop:=∃(A:Option Addr) (c:Nat) (l:List Sp),e=.returned (.slice A l.length c)∧l.length=n∧CapAt w' A c l∧Ext w w'
theorem flatS_set2:∀(l:List Sp) (m:Nat) (p q:Int),m<l.length→((flatS l).set (m*2) (.int .i64 p)).set (m*2+1) (.int .i64 q)=flatS (l.set m (p,q))
 | [],m,p,q,h=>by simp at h
 | s::l,0,p,q,_=>by simp[flatS]
 | s::l,m+1,p,q,h=>by
  have ih:=flatS_set2 l m p q (by simpa using h);have e:(m+1)*2=m*2+1+1:=om;rw[e];have e2:flatS (s::l)=.int .i64 s.1::.int .i64 s.2::flatS l:=by simp[flatS]
  rw[e2];simp only[List.set_cons_succ];rw[ih];simp[flatS]
theorem cap_of_own {w:World}{base c:Nat}{A:Option Addr}{l:List Sp}(h:OwnS w base 82 2 A l.length c (flatS l))(hr:∀s∈l,S64 s):CapAt w A c l:=
 ⟨SL.of_ownT h hr,fun b hb=>(OwnS.blt h hb).2⟩
theorem zwith_any (w:World)(A:Option Addr)(c:Nat)(l:List Sp)(n p q:Int)(hC:CapAt w A c l)(hl:l.length≤1000)(hn:I64 n)(hp:I64 p)(hq:I64 q) :
 Calls Tryz.prog 190 #[.slice A l.length c,.int .i64 n,.int .i64 p,.int .i64 q] w (RetWi l.length w):=by
 obtain⟨iA,jA0,jA1,jA2,jA3⟩:=info_parts infoA2;have hll:=hC.1.len;have E0:=Ext.alloc w (.cells #[] 82);have HO:Hid (OwnS (w.alloc (.cells #[] 82)) w.heap.size 82 2 (some ⟨w.heap.size,0,none⟩) 0 0 []):=lh (OwnS.of_blk (n:=0) (c:=0) (Blk.new w 82 #[]) (Nat.le_refl _) si si um);have HCL:=lh (hC.1.ext E0).cells;have HR:=lh hC.1.rng;have HN:=lh hn;have HPQ:=lh (show S64 (p,q) from⟨hp,hq⟩);clear hC hp hq hn;go_enter Tryz.func190,Tryz.ntmps190
 go_upto_region 2 with(at_builtin;refine wpList_app _ rfl _ _ _ rfl w.heap.size 82 iA _ 2 16 Tryz.underlying65 jA0 jA1 jA2 jA3 rfl om _ 0 0 [] rfl HO.out _ l.length c (flatS l) rfl (flatS_len l) HCL.out (flatS_one _) um om si ?_;intro A2 c2 w2 ho2 hg2 hat2)
 have x2:=E0.app HO.out hg2;simp only[Nat.zero_add,List.nil_append] at ho2 ⊢;have hc2:=OwnS.caps ho2;have HO2:=lh ho2;clear E0 HO HCL hg2 hat2 ho2;by_cases h1:1≤n
 ·by_cases h2:n≤l.length
  ·obtain⟨m,rfl⟩:∃m:Nat,n=(m:Int)+1:=⟨(n-1).toNat,om⟩;have hm:m<l.length:=om;have ewp:IntKind.i64.wrap ((m:Int)+1-1)=(m:Int):=by have:=HN.out;unfold I64 at this;rw[IntKind.wrap_i64];omega
   have hmI:(m:Int)<l.length:=om;have hfl:m*2<(flatS l).length:=by rw[flatS_len];omega
   obtain⟨g,rfl,hbg,g1,gf,glt,gst⟩:=OwnS.store HO2.out hfl;have ho3:=gst (.int .i64 p);have hfl2:m*2+1<((flatS l).set (m*2) (.int .i64 p)).length:=by rw[List.length_set,flatS_len];omega
   obtain⟨g',he,_,k1,kf,klt,kst⟩:=OwnS.store ho3 hfl2;injection he with he;injection he with he _ _
   subst he;have ho4:=kst (.int .i64 q);rw[flatS_set2 _ _ _ _ hm] at ho4;have x4:Ext w ((w2.setCell ⟨g,m*2,none⟩ (.int .i64 p)).setCell ⟨g,m*2+1,none⟩ (.int .i64 q)):=(x2.setNew (p:=⟨g,m*2,none⟩) hbg _).setNew (p:=⟨g,m*2+1,none⟩) hbg _;obtain⟨z,k0⟩:∃z,w2.cell? ⟨g,m*2+1,none⟩=some z:=by
    have hfl3:m*2+1<(flatS l).length:=by rw[flatS_len];omega
    obtain⟨g',he,_,k1,_⟩:=OwnS.store HO2.out hfl3;injection he with he;injection he with he _ _
    subst he;exact⟨_,k1⟩
   have kf0:w2.frozen? ⟨g,m*2+1,none⟩=false:=by
    have hfl3:m*2+1<(flatS l).length:=by rw[flatS_len];omega
    obtain⟨g',he,_,_,k1,_⟩:=OwnS.store HO2.out hfl3;injection he with he;injection he with he _ _
    subst he;exact k1
   have HO4:=lh ho4;have HX4:=lh x4;clear ho3 ho4 x4 gst kst k1 kf klt
   go_wp2_with fail
   go_ret
   refine⟨some ⟨g,0,none⟩,c2,l.set m (p,q),by simp,by simp,?_,HX4.out⟩;have ho:=HO4.out;rw[show l.length=(l.set m (p,q)).length from by simp] at ho;exact cap_of_own ho (fun s hs=>by
    rcases List.mem_or_eq_of_mem_set hs with h|h
    ·exact HR.out s h
    ·exact h▸HPQ.out)
  ·go_wp2_with fail
   go_ret
   exact⟨_,_,l,rfl,rfl,cap_of_own HO2.out HR.out,x2⟩
 ·go_wp2_with fail
  go_ret
  exact⟨_,_,l,rfl,rfl,cap_of_own HO2.out HR.out,x2⟩
end
section
open Go.RowKit
def tab12:List Int:=[97,97,97,98,98,99,97,98,10,32,65,200]
def sym12 (x:Int):Int:=tab12.getD (around x 12).toNat 0
def rtext (l:List Int)(m:Nat):List Int:=(l.take m).map sym12
theorem tab12_bd:∀p,p<12→0≤tab12.getD p 0∧tab12.getD p 0≤200:=by decide
theorem sym12_bd (x:Int):0≤sym12 x∧sym12 x≤200:=by
 have h:=around_bd x 12 om;exact tab12_bd _ om
theorem rtext_bd (l:List Int)(m:Nat):∀x∈rtext l m,0≤x∧x≤200:=by
 intro x hx;obtain⟨y,_,rfl⟩:=List.mem_map.1 hx;exact sym12_bd y
theorem rtext_len (l:List Int)(m:Nat):(rtext l m).length≤m:=by simp[rtext];omega
theorem rtext_succ (l:List Int)(k:Nat)(h:k<l.length):rtext l (k+1)=rtext l k++[sym12 l[k]]:=by
 unfold rtext;rw[List.take_succ_eq_append_getElem h,List.map_append];rfl
theorem I64_of {x:Int}(h : -1000000000000≤x∧x≤1000000000000):I64 x:=by unfold I64;omega
theorem rText_any (A:Option Addr)(c:Nat)(l:List Int)(m:Nat)(w:World)(hl:IL w A c l)(hm:m≤1000000) :
 Calls Tryz.prog 25 #[.slice A l.length c,.int .i64 m] w (RetIL (rtext l m) w):=by
 obtain⟨i0,hi0,hz0,hz1,hz2⟩:=info_parts infoInt;obtain⟨a1,a2⟩:=hl.len;go_enter Tryz.func25,Tryz.ntmps25
 go_wp2
 go_loopw [5,6] (fun v i wr=>∃(k:Nat) (A':Option Addr) (c':Nat),k≤l.length∧k≤m∧i=.int .i64 k∧v=.slice A' (rtext l k).length c'∧OwnI wr w.heap.size 3 A' c' (rtext l k)∧Ext w wr) (fun _ i _=>l.length-(intOf i).toNat)
 case atStart=>exact⟨0,none,0,Nat.zero_le _,Nat.zero_le _,rfl,rfl,OwnS.nil _ _ _ _,Ext.rfl' _⟩
 case round=>
  obtain⟨k,A',c',hk,hkm,rfl,rfl,hown,hext⟩:=hrel;have hlr:=rtext_len l k;by_cases hlt:k<l.length
  ·by_cases hlm:k<m
   ·have e1:=Ext.alloc wr (.cells (tab12.map (Value.int .i64)).toArray 3);have hB:=(Blk.new wr 3 (tab12.map (Value.int .i64)).toArray);have hs:=rtext_succ l k hlt;have hp:=around_bd l[k] 12 om;have hpk:pick l k 12=around l[k] 12:=by simp[pick,hlt]
    obtain⟨p,hp12,hpp⟩:∃p:Nat,p<12∧around l[k] 12=(p:Int):=⟨(around l[k] 12).toNat,om,om⟩;have hsy:sym12 l[k]=tab12.getD p 0:=by unfold sym12;rw[hpp];rfl
    rw[hsy] at hs;rw[hpp] at hpk;have HS:=lh hs;have HP:=lh hpk;clear hs hpk hsy hpp hp
    go_wp2_with fail
    refine(pick_any A c l k 12 _ (hl.ext (hext.trans e1)) om om om).mono ?_;rintro e w1 h1;obtain⟨rfl,hx1⟩:=h1.v;rw[HP.out];have hcell:=(hB.ext hx1).cell p;rw[show((tab12.map (Value.int .i64)).toArray)[p]? = some (.int .i64 (tab12.getD p 0)) by
     simp[List.getD,List.getElem?_eq_getElem (show p<tab12.length from hp12)]] at hcell
    have hE:=hext.trans (e1.trans hx1);have hown1:=OwnS.ext hown (e1.trans hx1);have hlt1:=(hB.ext hx1).lt;clear hB;have hp0:(p:Int)<12:=om;have HT:=lh (tab12_bd p hp12);generalize tab12.getD p 0=s at *
    go_wp2_with ((at_builtin;refine wpList_app1I (w1:=w1) rfl _ _ _ rfl 3 infoInt Tryz.underlying22 w hE s rfl A' c' (rtext l k) rfl hown1 rfl om (rtext l (k+1)) HS.out ?_;intro A2 c2 w2 hown2 hext2 _ _))
    go_roundw
    case rel=>exact⟨k+1,A2,c2,om,om,by go_num,rfl,hown2,hext2⟩
    case measure=>simp[intOf];omega
   ·have hk':k=m:=om;subst hk'
    go_wp2
    go_ret
    exact⟨A',c',rfl,IL.of_own hown (fun x hx=>I64_of (by have:=rtext_bd l k x hx;omega)),hext,OwnS.row hown⟩
  ·have hk':rtext l k=rtext l m:=by
    unfold rtext;rw[List.take_of_length_le om,List.take_of_length_le om]
   rw[hk'] at hown;have HK:=lh hk';clear hk'
   go_wp2
   go_ret
   rw[←HK.out] at hown ⊢;exact⟨A',c',rfl,IL.of_own hown (fun x hx=>I64_of (by have:=rtext_bd l k x hx;omega)),hext,OwnS.row hown⟩
end
section
open Go.RowKit
attribute [local go_sem ↓] Go.wp_at_zero Go.wp_at_succ
theorem C1z2 {P:Prop} (h:P:=by
 go_roundw
 case rel=>exact⟨i+1,by go_num,om,x1.trans x3⟩
 case measure=>simp[intOf];omega):P:=h
theorem C1z1 {P:Prop} (h:P:=by
 go_upto_region 12 with fail
 go_loopw [7] (fun v wr=>∃i:Nat,v=.int .i64 i∧i≤ks.length∧Ext wa wr) (fun v _=>ks.length-(intOf v).toNat)
 case atStart=>exact⟨0,rfl,om,Ext.rfl' _⟩
 case round=>
  obtain⟨i,rfl,hi,x1⟩:=hrel;have z2r:=x1.cell z2;by_cases hlt:i<ks.length
  ·have hiI:(i:Int)<ks.length:=om;obtain⟨b,o,hK,n,ht,k0,k1,k2,k3,k4,k5,k6,k7⟩:=kid8 (HC.out.ext (XR.trans x1)) (fun u hu=>(HK.out u hu).ext (XR.trans x1)) hlt;have hK':=hK;subst hK';have HT:=lh ht;clear ht
   go_wp2_with (go_at_call 62;refine(HIH.out wr _ HT.out R rc xs (HI.out.ext x1) om).mono ?_;rintro e w3 ⟨b3,rfl,x3⟩;cases b3)
   ·go_ret
    exact⟨_,rfl,E0.trans (x1.trans x3)⟩
   ·exact C1z2
  ·have hiI:¬(i:Int)<ks.length:=om
   go_wp2_with fail
   go_ret
   exact⟨_,rfl,E0.trans x1⟩):P:=h
theorem xcompiles_any (bd:Nat)(S:Nat→Prop):∀(d:Nat) (w:World) (v:Value),TreeAt bd S w d v→∀(R:Option Addr) (rc:Nat) (xs:List Int),IL w R rc xs→xs.length+d≤1000→Calls Tryz.prog 62 #[v,.slice R xs.length rc] w (RetB w):=by
 intro d;induction d with
 | zero=>intro w v h;obtain⟨e,he⟩:=h.pos;omega
 | succ d ih=>
  intro w v h R rc xs hI hlen;obtain⟨n,rfl,hok,hsl,hkl,hkc,hcl,hks⟩:=h.node;obtain⟨op,A,c,l,K,kc,ks,mn,mx,md,nn,neg⟩:=n;have hop:=hok.op;have hone:=hok.one;have hmd:=hok.md;have hn:=hok.n
  simp only at hop hone hmd hn hsl hkl hkc hcl hks
  unfold Nd.val
  simp only
  have HIH:=lh ih;clear ih h hok;have hrl:=hI.len;have B0:=Blk.new w 26 #[.int .i64 op,.slice A l.length c,.slice K ks.length kc,.int .i64 mn,.int .i64 mx,.int .i64 md,.int .i64 nn,.bool neg];have E0:=Ext.alloc w (.cells #[.int .i64 op,.slice A l.length c,.slice K ks.length kc,.int .i64 mn,.int .i64 mx,.int .i64 md,.int .i64 nn,.bool neg] 26);have HC:=lh (hcl.ext E0);have HK:=lh (fun u hu=>(hks u hu).ext E0);have HKL:ks.length≤kc∧kc≤9223372036854775807:=⟨hkl,by unfold maxLen at hkc;omega⟩;have HI:=lh (hI.ext E0);clear hcl hks hsl hkl hkc hI;go_enter Tryz.func62,Tryz.ntmps62
  go_upto_region 1 with fail
  obtain⟨gx,hgx⟩:∃gx,gx=w.heap.size:=⟨_,rfl⟩
  rw[←hgx] at B0 ⊢;clear hgx;generalize w.alloc (.cells #[.int .i64 op,.slice A l.length c,.slice K ks.length kc,.int .i64 mn,.int .i64 mx,.int .i64 md,.int .i64 nn,.bool neg] 26)=wa at *;have z0:wa.cell? ⟨gx,0,none⟩=some (.int .i64 op):=B0.cell 0;have z2:wa.cell? ⟨gx,2,none⟩=some (.slice K ks.length kc):=B0.cell 2;have z5:wa.cell? ⟨gx,5,none⟩=some (.int .i64 md):=B0.cell 5;have z6:wa.cell? ⟨gx,6,none⟩=some (.int .i64 nn):=B0.cell 6;have XR:=Ext.rfl' wa;by_cases h4:op=4
  ·subst h4;have hlt0:0<ks.length:=by have:=hone (.inl rfl);omega
   have hlt0I:(0:Int)<ks.length:=om;have hm2:(md == 2)=false:=by simp;omega
   obtain⟨b,o,hK,n,ht,k0,k1,k2,k3,k4,k5,k6,k7⟩:=kid8 HC.out HK.out hlt0;have hK':=hK;subst hK';simp only[Nat.zero_mul,Nat.add_zero] at k0 k1 k2 k3 k4 k5 k6 k7;have HN:=lh (ynullable_any bd S d wa _ ht);unfold Nd.val at HN;clear ht
   go_upto_region 12 with(go_at_call 107;refine HN.out.mono ?_;rintro e w3 ⟨b3,rfl,x3⟩;have z03:=x3.cell z0;have z23:=x3.cell z2;have HX3:=lh x3;cases b3)
   ·have x3:=HX3.out
    go_loopw [7] (fun v wr=>∃i:Nat,v=.int .i64 i∧i≤ks.length∧Ext w3 wr) (fun v _=>ks.length-(intOf v).toNat)
    case atStart=>exact⟨0,rfl,om,Ext.rfl' _⟩
    case round=>
     obtain⟨i,rfl,hi,x1⟩:=hrel;have z2r:=x1.cell z23;by_cases hlt:i<ks.length
     ·have hiI:(i:Int)<ks.length:=om;obtain⟨b,o,hK,n,ht,k0,k1,k2,k3,k4,k5,k6,k7⟩:=kid8 (HC.out.ext (x3.trans x1)) (fun u hu=>(HK.out u hu).ext (x3.trans x1)) hlt;injection hK with hK;injection hK with e1 e2 _
      subst e1;subst e2;have HT:=lh ht;clear ht
      go_wp2_with (go_at_call 62;refine(HIH.out wr _ HT.out R rc xs ((HI.out.ext x3).ext x1) om).mono ?_;rintro e w3 ⟨b3,rfl,x3⟩;cases b3)
      ·go_ret
       exact⟨_,rfl,(E0.trans HX3.out).trans (x1.trans x3)⟩
      ·exact C1z2
     ·have hiI:¬(i:Int)<ks.length:=om
      go_wp2_with fail
      go_ret
      exact⟨_,rfl,(E0.trans HX3.out).trans x1⟩
   ·go_ret
    exact⟨_,rfl,E0.trans HX3.out⟩
  ·by_cases h5:op=5
   ·subst h5;have HH:=lh (has_any R rc xs nn wa HI.out);generalize decide (nn∈xs)=hb at HH
    go_upto_region 5 with(go_at_call 108;refine HH.out.mono ?_;rintro e w3 ⟨rfl,nq3,rfl⟩)
    have x3:=Ext.drewN wa nq3;have HI3:=lh (HI.out.ext x3);have z03:=x3.cell z0;have z23:=x3.cell z2;have z63:=x3.cell z6;have HX3:=lh x3;have HZ3:=lh (⟨x3.cell z0,x3.cell z2⟩:(wa.drewN nq3).cell? ⟨gx,0,none⟩=_∧(wa.drewN nq3).cell? ⟨gx,2,none⟩=_);generalize wa.drewN nq3=wb at *;cases hb
    ·go_upto_region 8 with fail
     obtain⟨i0,hi0,hz0,hz1,hz2⟩:=info_parts infoInt;have k6:=kc0 z63;have HON:Hid (∀w':World,OwnS w' wb.heap.size 3 1 none 0 0 []):=lh (fun w'=>OwnS.nil _ _ _ _);refine Xr.start [] kr ?_;refine Xtk 0 ?_;refine Xtn ?_;refine Xtk 3 ?_;refine Xtn ?_;refine Xr.lazy 5 36 6 (fun g=>.slice (some ⟨g,0,none⟩) 1 1) 3 #[.int .i64 nn] rfl si dK si (fun w'=>by go_simp) ?_;refine Xcl 2 fun w4 hE4 hK4 K hKK=>?_;have x4:Ext wb w4:=hK4.nil;refine wp_app _ _ _ _ rfl wb.heap.size 3 i0 (.int .i64 0) 1 8 Tryz.underlying22 hi0 hz0 hz1 hz2 rfl om none 0 0 [] rfl (HON.out w4) _ xs.length rc (xs.map (Value.int .i64)) rfl si (HI3.out.ext x4).cells (ints_one _) um om x4.size ?_;intro A5 c5 w5 ho5 hg5 hat5;have x5:=Ext.app x4 (HON.out w4) hg5;simp only[Nat.zero_add,List.nil_append] at ho5 ⊢;have x45:Ext w4 w5:=(Ext.rfl' w4).grown hg5 si;refine hKK _ _ x45 ?_;clear hKK;refine ptm ?_;refine Xr.stepZ rfl dK (fun _=>by rfl) (fun w6 g6 hE6 hK6 hg6 hB6 hno K hKK=>?_);have ho6:=OwnS.ext ho5 hE6;refine wp_app _ _ _ _ rfl wb.heap.size 3 i0 (.int .i64 0) 1 8 Tryz.underlying22 hi0 hz0 hz1 hz2 rfl om A5 xs.length c5 (xs.map (Value.int .i64)) rfl ho6 _ 1 1 [.int .i64 nn] rfl rfl (blk_cells hB6) (ints_one [nn]) um om (by have:=hK6.size;omega) ?_;intro A9 c9 w9 ho9 hg9 hat9;have xb9:Ext wb w9:=Ext.app hK6.nil ho6 hg9;refine hKK _ _ (WI_grown hg9 (fun i hi=>.inr ⟨(w4.heap.size,w5.heap.size),by simp,by rcases hat5 with h|h<;>rw[h] at hi<;>simp at hi;omega,(OwnS.blt ho5 hi).1⟩)) (Kp.of_ext xb9) ?_;clear hKK;refine ptm ?_
     refine Xtk 7 ?_;refine Xdn fun w10 hE10 hK10=>?_;obtain⟨ys,HYS⟩:∃ys,Hid (ys=xs++[nn]):=⟨_,lh rfl⟩;have hyl:xs.length+1=ys.length:=by rw[HYS.out];simp
     have HI10:Hid (IL w10 A9 c9 ys):=lh (by
      have h:=OwnS.ext ho9 hE10;refine IL.of_own (base:=wb.heap.size) (e:=3) ?_ ?_
      ·unfold OwnI
       rw[←hyl,HYS.out]
       simpa using h
      ·rw[HYS.out];intro x hx;rcases List.mem_append.1 hx with hx|hx
       ·exact HI.out.rng x hx
       ·rw[List.mem_singleton.1 hx];unfold I64;omega)
     have z0t:=(xb9.trans hE10).cell z03;have z2t:=(xb9.trans hE10).cell z23;have HX10:=lh (HX3.out.trans (xb9.trans hE10));have hyl2:ys.length+d≤1000:=om;rw[hyl];clear ho9 hg9 hat9 ho6 xb9 hK10 hE10 hK6 hB6 hno hE6 ho5 hg5 hat5 x5 x45 x4 hK4 hE4 hyl z03 z23 z63 HZ3
     go_upto_region 12 with fail
     have hyc:=HI10.out.len
     go_loopw [7] (fun v wr=>∃i:Nat,v=.int .i64 i∧i≤ks.length∧Ext w10 wr) (fun v _=>ks.length-(intOf v).toNat)
     case atStart=>exact⟨0,rfl,om,Ext.rfl' _⟩
     case round=>
      obtain⟨i,rfl,hi,x1⟩:=hrel;have z2r:=x1.cell z2t;by_cases hlt:i<ks.length
      ·have hiI:(i:Int)<ks.length:=om;obtain⟨b,o,hK,n,ht,k0,k1,k2,k3,k4,k5,k6,k7⟩:=kid8 (HC.out.ext (HX10.out.trans x1)) (fun u hu=>(HK.out u hu).ext (HX10.out.trans x1)) hlt;have hK':=hK;subst hK';have HT:=lh ht;clear ht
       go_wp2_with (go_at_call 62;refine(HIH.out wr _ HT.out A9 c9 ys (HI10.out.ext x1) om).mono ?_;rintro e w3 ⟨b3,rfl,x3⟩;cases b3)
       ·go_ret
        exact⟨_,rfl,(E0.trans HX10.out).trans (x1.trans x3)⟩
       ·exact C1z2
      ·have hiI:¬(i:Int)<ks.length:=om
       go_wp2_with fail
       go_ret
       exact⟨_,rfl,(E0.trans HX10.out).trans x1⟩
    ·go_wp2_with fail
     go_ret
     exact⟨_,rfl,E0.trans HX3.out⟩
   ·by_cases h11:op=11
    ·subst h11;exact C1z1
    ·have hf4:(op == 4)=false:=by simp[h4]
     have hf5:(op == 5)=false:=by simp[h5]
     have hle:¬5<op:=om;exact C1z1
end
end Go.Proofs.YtmocoldobnimfaaGreat
