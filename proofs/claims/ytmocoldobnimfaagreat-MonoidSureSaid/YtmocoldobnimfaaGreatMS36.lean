/- Texts of this proof: PK2 PK4 PK5 PK6 PK1 PK7. -/
import Derived.Test.YtmocoldobnimfaaGreatMS25
import Derived.Test.YtmocoldobnimfaaGreatMS26
import Derived.Test.YtmocoldobnimfaaGreatMS33
import Derived.ArgAppend
import Derived.Lib.SliceRun
set_option linter.all false
set_option maxRecDepth 100000
set_option maxHeartbeats 16000000
namespace Go.Proofs.YtmocoldobnimfaaGreat
section
open Go.RowKit
attribute [local go_sem ↓] Go.wp_at_zero Go.wp_at_succ
structure Th where
 pc:Nat
 fr:Int
 A:Option Addr
 c:Nat
def KW (n2:Nat)(l:List Th):List Value:=l.flatMap fun t=>[.int .i64 t.pc,.int .i64 t.fr,.slice t.A n2 t.c]
theorem RG (n2:Nat)(l m:List Th):KW n2 (l++m)=KW n2 l++KW n2 m:=by simp[KW]
theorem Ej (n2:Nat)(l:List Th):(KW n2 l).length=l.length*3:=by
 induction l with
 | nil=>rfl
 | cons t l ih=>simp only[KW,List.flatMap_cons,List.length_append] at ih ⊢;rw[ih];simp;omega
theorem wW (n2:Nat):∀(l:List Th) (i:Nat) (h:i<l.length),(KW n2 l)[i*3]? = some (.int .i64 l[i].pc)/\(KW n2 l)[i*3+1]? = some (.int .i64 l[i].fr)/\(KW n2 l)[i*3+2]? = some (.slice l[i].A n2 l[i].c)
 | t::l,0,_=>by simp[KW]
 | t::l,i+1,h=>by
  have ih:=wW n2 l i (by simpa using h);have e:KW n2 (t::l)=[.int .i64 t.pc,.int .i64 t.fr,.slice t.A n2 t.c]++KW n2 l:=by simp[KW]
  have e0:(i+1)*3=i*3+1+1+1:=om;rw[e,e0]
  simpa using ih
structure ZC (w:World)(base n2:Nat)(A:Option Addr)(c:Nat):Prop where
 il:∃xs:List Int,xs.length=n2/\IL w A c xs
 ty:∀b,A.map (·.block)=some b->base<=b/\∃cur,w.heap[b]? = some (.cells cur 3 (0,0))
theorem ZC.ext {w w':World}{base n2 c:Nat}{A:Option Addr}(h:ZC w base n2 A c)(x:Ext w w'):ZC w' base n2 A c:=by
 obtain⟨⟨xs,h1,h2⟩,h3⟩:=h;refine⟨⟨xs,h1,h2.ext x⟩,fun b hb=>?_⟩;obtain⟨h4,cur,h5⟩:=h3 b hb;exact⟨h4,cur,(x.block b (Array.getElem?_eq_some_iff.1 h5).1).trans h5⟩
theorem ZC.kp {w w':World}{base n2 c:Nat}{A:Option Addr}{p:Nat->Prop}(h:ZC w base n2 A c)(k:KpP p w w')(hp:∀b,p b->b<base\/∀cur,w.heap[b]?≠some (.cells cur 3 (0,0))):ZC w' base n2 A c:=by
 obtain⟨⟨xs,h1,h2⟩,h3⟩:=h;have hn:∀b,A.map (·.block)=some b->¬p b:=fun b hb hpb=>by
  obtain⟨h4,cur,h5⟩:=h3 b hb;rcases hp b hpb with h6|h6
  ·omega
  ·exact h6 cur h5
 refine⟨⟨xs,h1,h2.kp k (fun _=>hn)⟩,fun b hb=>?_⟩;obtain⟨h4,cur,h5⟩:=h3 b hb;exact⟨h4,cur,(k.block b (Array.getElem?_eq_some_iff.1 h5).1 (hn b hb)).trans h5⟩
structure PkP where
 w0:World
 base:Nat
 g4:Nat
 g10:Nat
 g13:Nat
 g14:Nat
 gm:Nat
 gM:Nat
 gA:Option Addr
 gc:Nat
 n:Nat
 caps:Int
 rn:Bool
 T:Option Addr
 tn:Nat
 tc:Nat
 n2:Nat
def pkC (p:PkP):Array Value:=#[.slice p.gA p.n p.gc,.int .i64 p.caps,.bool p.rn,.slice p.T p.tn p.tc,.slice (some ⟨p.gM,0,none⟩) p.n p.n]
def PQ (p:PkP)(A:Option Addr)(b:Nat):Prop:=b=p.gM\/b=p.g10\/b=p.g13\/A.map (·.block)=some b
structure PkI (p:PkP)(w:World)(A:Option Addr)(c:Nat)(ths:List Th)(sn:List Nat)(mark:Int)(cl:Bool):Prop where
 x:Ext p.w0 w
 b4:Blk w p.g4 163 #[.pointer (some ⟨p.gm,0,none⟩)]
 bm:Blk w p.gm 229 (pkC p)
 b13:Blk w p.g13 4 #[.bool cl]
 b14:Blk w p.g14 277 #[.func (.func 169) #[] #[.pointer (some ⟨p.g13,0,none⟩),.pointer (some ⟨p.g4,0,none⟩),.pointer (some ⟨p.g10,0,none⟩),.pointer (some ⟨p.g14,0,none⟩)]]
 b10:Blk w p.g10 231 #[.slice A ths.length c]
 o:QQ w p.base 233 3 A ths.length c (KW p.n2 ths)
 rg:∀t∈ths,ZC w p.base p.n2 t.A t.c
 ms:∃ms,Blk w p.gM 3 (Wy ms)/\ms.length=p.n/\∀i,i<p.n->((ms.getD i 0=mark<->i∈sn)/\ms.getD i 0<=mark)
 lM:p.gM<p.base/\p.w0.heap.size<=p.gM
 lb:p.base<=p.g10/\p.base<=p.g13
structure PT (p:PkP)(A:Option Addr)(w:World)(A':Option Addr)(w':World):Prop where
 kp:KpP (PQ p A) w w'
 nw:A'.map (·.block)=A.map (·.block)\/∀b,A'.map (·.block)=some b->w.heap.size<=b
theorem PT.of_ext (p:PkP)(A:Option Addr){w w':World}(x:Ext w w'):PT p A w A w':=⟨KpP.of_ext x,.inl rfl⟩
theorem PT.trans {p:PkP}{A A1 A2:Option Addr}{w w1 w2:World}(h:PT p A w A1 w1)(k:PT p A1 w1 A2 w2):PT p A w A2 w2:=by
 refine⟨⟨k.kp.os.trans h.kp.os,k.kp.tape.trans h.kp.tape,k.kp.output.trans h.kp.output,Nat.le_trans h.kp.size k.kp.size,fun i hi hn=>?_⟩,?_⟩
 ·rw[k.kp.block i (Nat.lt_of_lt_of_le hi h.kp.size) (fun hq=>?_)]
  ·exact h.kp.block i hi hn
  ·rcases hq with hq|hq|hq|hq
   ·exact hn (.inl hq)
   ·exact hn (.inr (.inl hq))
   ·exact hn (.inr (.inr (.inl hq)))
   ·rcases h.nw with e|e
    ·exact hn (.inr (.inr (.inr (by rw[<-e];exact hq))))
    ·have:=e i hq;omega
 ·rcases k.nw with e|e
  ·rcases h.nw with e2|e2
   ·exact .inl (e.trans e2)
   ·exact .inr (fun b hb=>e2 b (by rw[<-e];exact hb))
  ·exact .inr (fun b hb=>Nat.le_trans h.kp.size (e b hb))
section
variable {p:PkP} {w w':World} {A:Option Addr} {c:Nat} {ths:List Th} {sn:List Nat} {mk:Int} {cl:Bool}
theorem PkI.ext (h:PkI p w A c ths sn mk cl)(x:Ext w w'):PkI p w' A c ths sn mk cl:=by
 obtain⟨h1,h2,h3,h4,h5,h6,h7,h8,⟨ms,h9,h10⟩,h11,h12⟩:=h;exact⟨h1.trans x,h2.ext x,h3.ext x,h4.ext x,h5.ext x,h6.ext x,QQ.ext h7 x,fun t ht=>(h8 t ht).ext x,⟨ms,h9.ext x,h10⟩,h11,h12⟩
theorem PkI.reg (h:PkI p w A c ths sn mk cl)(k:KpP (PQ p A) w w'){R:Option Addr}{rc:Nat}(hr:ZC w p.base p.n2 R rc):ZC w' p.base p.n2 R rc:=by
 refine hr.kp k (fun b hb=>?_);rcases hb with rfl|rfl|rfl|hb
 ·exact .inl h.lM.1
 ·refine .inr (fun cur e=>?_);have h1:=h.b10.symm.trans e;injection h1 with h1;injection h1 with _ h1;exact absurd h1 de
 ·refine .inr (fun cur e=>?_);have h1:=h.b13.symm.trans e;injection h1 with h1;injection h1 with _ h1;exact absurd h1 de
 ·refine .inr (fun cur e=>?_);obtain⟨_,cur2,h2⟩:=QQ.blt h.o hb;have h1:=h2.symm.trans e;injection h1 with h1;injection h1 with _ h1;exact absurd h1 de
theorem PkI.blk (h:PkI p w A c ths sn mk cl)(k:KpP (PQ p A) w w'){g T:Nat}{cs:Array Value}(hb:Blk w g T cs)(t1:T≠3)(t2:T≠231)(t3:T≠4)(t4:T≠233):Blk w' g T cs:=by
 obtain⟨ms,hM,_⟩:=h.ms;refine k.blk hb (fun hq=>?_);rcases hq with hq|hq|hq|hq
 ·exact Qq hb hM t1 hq
 ·exact Qq hb h.b10 t2 hq
 ·exact Qq hb h.b13 t3 hq
 ·exact QK h.o hb (fun e=>t4 e.symm) hq
theorem PkI.seen (h:PkI p w A c ths sn mk cl){pc:Nat}(hp:pc<p.n):PkI p (w.setCell ⟨p.gM,pc,none⟩ (.int .i64 mk)) A c ths (sn++[pc]) mk cl:=by
 obtain⟨h1,h2,h3,h4,h5,h6,h7,h8,⟨ms,h9,h10,h10'⟩,h11,h12⟩:=h;have d2:=Qq h2 h9 de;have d3:=Qq h3 h9 de;have d4:=Qq h4 h9 de;have d5:=Qq h5 h9 de;have d6:=Qq h6 h9 de;have kk:KpP (·=p.gM) w (w.setCell ⟨p.gM,pc,none⟩ (.int .i64 mk)):=KpP.set (x:=⟨p.gM,pc,none⟩) (KpP.refl (·=p.gM) _) (.inl rfl) _;refine⟨h1.setNew h11.2 _,h2.far d2 _,h3.far d3 _,h4.far d4 _,h5.far d5 _,h6.far d6 _,QQ.far h7 (QK h7 h9 de) _,fun t ht=>(h8 t ht).kp kk (fun b hb=>.inl (by have:b=p.gM:=hb;omega)),⟨ms.set pc mk,?_,by rw[List.length_set];exact h10,fun i hi=>?_⟩,h11,h12⟩
 ·rw[<-zz];exact h9.set pc _
 ·have hi2:i<ms.length:=om;have h13:=h10' i hi;simp only[List.getD_eq_getElem?_getD] at h13;simp only[List.getD_eq_getElem?_getD,List.getElem?_set,List.mem_append,List.mem_singleton];by_cases e:pc=i
  ·subst e;simp[hi2]
  ·rw[if_neg e];refine⟨⟨fun h14=>.inl (h13.1.1 h14),?_⟩,h13.2⟩;rintro(h14|h14)
   ·exact h13.1.2 h14
   ·exact absurd h14.symm e
theorem PkI.close (h:PkI p w A c ths sn mk cl)(b:Bool):PkI p (w.setCell ⟨p.g13,0,none⟩ (.bool b)) A c ths sn mk b:=by
 obtain⟨h1,h2,h3,h4,h5,h6,h7,h8,⟨ms,h9,h10⟩,h11,h12⟩:=h;have d2:=Qq h2 h4 de;have d3:=Qq h3 h4 de;have d5:=Qq h5 h4 de;have d6:=Qq h6 h4 de;have d9:=Qq h9 h4 de;have kk:KpP (·=p.g13) w (w.setCell ⟨p.g13,0,none⟩ (.bool b)):=KpP.set (x:=⟨p.g13,0,none⟩) (KpP.refl (·=p.g13) _) (.inl rfl) _;have b13:Blk (w.setCell ⟨p.g13,0,none⟩ (.bool b)) p.g13 4 #[.bool b]:=by simpa using h4.set 0 (.bool b)
 refine⟨h1.setNew (by show p.w0.heap.size<=p.g13;omega) _,h2.far d2 _,h3.far d3 _,b13,h5.far d5 _,h6.far d6 _,QQ.far h7 (QK h7 h4 de) _,fun t ht=>(h8 t ht).kp kk (fun b' hb=>.inr (fun cur e=>?_)),⟨ms,h9.far d9 _,h10⟩,h11,h12⟩;have hb':b'=p.g13:=hb;subst hb';have e1:=h4.symm.trans e;injection e1 with e1;injection e1 with _ e1;exact absurd e1 de
theorem PkI.put (h:PkI p w A c ths sn mk cl){w8:World}{A8:Option Addr}{c8:Nat}(t:Th)(hr:ZC w p.base p.n2 t.A t.c)(hg:w.grownBy w8 (A.map (·.block)))
 (ho:QQ w8 p.base 233 3 A8 (ths++[t]).length c8 (KW p.n2 (ths++[t]))) (hat:A8.map (·.block)=A.map (·.block)\/A8.map (·.block)=some w.heap.size) :
 PkI p (w8.setCell ⟨p.g10,0,none⟩ (.slice A8 (ths++[t]).length c8)) A8 c8 (ths++[t]) sn mk cl/\PT p A w A8 (w8.setCell ⟨p.g10,0,none⟩ (.slice A8 (ths++[t]).length c8)):=by
 have hI:=h;obtain⟨h1,h2,h3,h4,h5,h6,h7,h8,⟨ms,h9,h10⟩,h11,h12⟩:=h;have k:=KpP.of_grown hg;have kq:KpP (PQ p A) w w8:=KpP.mono k (fun i hi=>.inr (.inr (.inr hi)));have b2:=k.blk h2 (QK h7 h2 de);have b3:=k.blk h3 (QK h7 h3 de);have b4:=k.blk h4 (QK h7 h4 de);have b5:=k.blk h5 (QK h7 h5 de);have b6:=k.blk h6 (QK h7 h6 de);have b9:=k.blk h9 (QK h7 h9 de);have d2:=Qq b2 b6 de;have d3:=Qq b3 b6 de;have d4:=Qq b4 b6 de;have d5:=Qq b5 b6 de;have d9:=Qq b9 b6 de;have x8:Ext p.w0 w8:=h1.grown hg (fun i hi=>by
  have:=QQ.row h7 _ hi;omega)
 have k10:KpP (·=p.g10) w8 (w8.setCell ⟨p.g10,0,none⟩ (.slice A8 (ths++[t]).length c8)):=KpP.set (x:=⟨p.g10,0,none⟩) (KpP.refl (·=p.g10) _) (.inl rfl) _;have hnT:∀b,b=p.g10->∀cur,w8.heap[b]?≠some (.cells cur 3 (0,0)):=fun b hb cur e=>by
  subst hb;have e1:=b6.symm.trans e;injection e1 with e1;injection e1 with _ e1;exact absurd e1 de
 refine⟨⟨x8.setNew (by show p.w0.heap.size<=p.g10;omega) _,b2.far d2 _,b3.far d3 _,b4.far d4 _,b5.far d5 _,?_,QQ.far ho (QK ho b6 de) _,fun u hu=>?_,⟨ms,b9.far d9 _,h10⟩,h11,h12⟩,?_,?_⟩
 ·have b:=b6.set 0 (.slice A8 (ths++[t]).length c8)
  simpa using b
 ·refine ZC.kp ?_ k10 (fun b hb=>.inr (hnT b hb));rcases List.mem_append.1 hu with hu|hu
  ·exact hI.reg kq (h8 u hu)
  ·rw[List.mem_singleton.1 hu];exact hI.reg kq hr
 ·exact KpP.set (x:=⟨p.g10,0,none⟩) kq (.inl (.inr (.inl rfl))) _
 ·rcases hat with e|e
  ·exact .inl e
  ·exact .inr (fun b hb=>by rw[e] at hb;injection hb with hb;omega)
end
theorem RH:∀args w,(callFunc 169 args).run Tryz.prog w=.ok (.enter 169 args) w:=enters_of Tryz.func169 kr rfl
theorem ij:(Tryz.prog.info? 233).map (fun i=>(i.zero,i.size,i.bytes))=some (some (.agg #[.int .i64 0,.int .i64 0,.slice none 0 0]),3,40):=by kernel_rfl
def pkL (p:PkP)(A:Option Addr)(M:List Nat):List Nat:=p.gM::p.g10::p.g13::((A.map (·.block)).toList++M)
theorem PQ.mem {p:PkP}{A:Option Addr}{M:List Nat}:∀i,PQ p A i->i∈pkL p A M:=fun i h=>by
 rcases h with h|h|h|h
 ·simp[pkL,h]
 ·simp[pkL,h]
 ·simp[pkL,h]
 ·simp[pkL,h]
theorem PkI.nin {p:PkP}{w:World}{A:Option Addr}{c:Nat}{ths:List Th}{sn:List Nat}{mk:Int}{cl:Bool}(h:PkI p w A c ths sn mk cl){g T:Nat}{cs:Array Value}(hb:Blk w g T cs)(t1:T≠3)(t2:T≠231)(t3:T≠4)(t4:T≠233)
 {M:List Nat} (hM:g∉M):g∉pkL p A M:=fun e=>by
 obtain⟨ms,hms,_⟩:=h.ms;simp only[pkL,List.mem_cons,List.mem_append,Option.mem_toList] at e;rcases e with e|e|e|e|e
 ·exact Qq hb hms t1 e
 ·exact Qq hb h.b10 t2 e
 ·exact Qq hb h.b13 t3 e
 ·exact QK h.o hb (fun e=>t4 e.symm) e
 ·exact hM e
theorem NR {W:World}{b o N:Nat}{xs:List Int}(h:∀i (hi:i<xs.length),W.cell? ⟨b,o+i,none⟩=some (.int .i64 xs[i])):∀b',some (⟨b,o,none⟩:Addr)=some b'->∀(j:Nat) (u:Value),((xs.take N).map (Value.int .i64))[j]? = some u->W.cell? (b'.add j)=some u:=fun b' hb j u hu=>by
 injection hb with hb;subst hb
 obtain⟨hj,e⟩:=List.getElem?_eq_some_iff.1 hu
 rw[<-e,Addr.add_lit];simp only[List.getElem_map,List.getElem_take];exact h j (by simp at hj;omega)
def lx (p:PkP)(A:Option Addr)(mk:Int)(r:(List Nat×List Nat)×Bool)(w:World)(e:Ending)(w':World):Prop:=
 e=.returned (.tuple #[])/\∃(A':Option Addr) (c':Nat) (ths':List Th),PkI p w' A' c' ths' r.1.2 mk (!r.2)/\ths'.map Th.pc=r.1.1/\PT p A w A' w'
theorem xy (p:PkP)(w:World)(A:Option Addr)(c:Nat)(ths:List Th)(sn:List Nat)(mk:Int)(h:PkI p w A c ths sn mk true)(pc at_ fr:Int)(R:Value) :
 Calls Tryz.prog 169 #[.int .i64 pc,.int .i64 at_,.int .i64 fr,R,.pointer (some ⟨p.g13,0,none⟩),.pointer (some ⟨p.g4,0,none⟩),.pointer (some ⟨p.g10,0,none⟩),.pointer (some ⟨p.g14,0,none⟩)] w (QD (.tuple #[]) w):=by
 have c0:w.cell? ⟨p.g13,0,none⟩=some (.bool true):=h.b13.cell 0;clear h;go_enter Tryz.func169,Tryz.ntmps169
 go_wp2_with fail
 exact bodyPost_end (v:=.tuple #[]) (by simp[results,Tryz.results169,go_sem]) rfl ⟨rfl,Ext.rfl' _⟩
theorem iv {P:Prop}(h:P:=by
 rw[h0] at z0 HRR;clear HST HIH hju hju2 hsv hnx z1 z2 z3 hop';have b10:=HX.out.b10;have ol:=HX.out.o;have HP:=fun(wa w8:World) (xa:Ext wx wa) (A8:Option Addr) (c8:Nat) (hg:wa.grownBy w8 (A.map (·.block))) (ho:QQ w8 p.base 233 3 A8 (ths++[(⟨pc,fr,RA,rc⟩:Th)]).length c8 (KW p.n2 (ths++[⟨pc,fr,RA,rc⟩]))) (hat:A8.map (·.block)=A.map (·.block)\/A8.map (·.block)=some wa.heap.size)=>lh ((HX.out.ext xa).put ⟨pc,fr,RA,rc⟩ (HRX.out.ext xa) hg ho hat);have hl10:wx.cell? ⟨p.g10,0,none⟩=some (.slice A ths.length c):=b10.cell 0;have hsl:ths.length<=hs.length:=by have:=HAP.out.len;have:=HAP.out.ok.len;simp only[List.length_append,List.length_cons,List.length_nil,List.length_map] at *;omega
 have hbs:p.base<=wx.heap.size:=by have:=HX.out.lb.1;have:=b10.lt;omega
 obtain⟨iI,jI0,jI1,jI2,jI3⟩:=info_parts ij;obtain⟨us,hus⟩:∃us,us=ths++[(⟨pc,fr,RA,rc⟩:Th)]:=⟨_,rfl⟩
 rw[<-hus] at HP;have HUS:=lh hus;have hul:Hid (us.length=ths.length+1):=lh (by rw[hus];simp);clear hus;have HBL:=fun(wa w8:World) (xa:Ext wx wa) (hg:wa.grownBy w8 (A.map (·.block)))=>(KpP.of_grown hg).blk (b10.ext xa) (QK (QQ.ext ol xa) (b10.ext xa) de);have HBI:=lh (Blk.new wx 233 #[.int .i64 pc,.int .i64 fr,.slice RA p.n2 rc]);have hap8:hs.length<=8192:=hn8.2
 go_upto_region 7 with(at_builtin;refine Qv _ rfl _ _ _ rfl p.base 233 iI _ 3 40 Tryz.underlying231 jI0 jI1 jI2 jI3 rfl om A ths.length c (KW p.n2 ths) rfl (QQ.ext ol (Ext.alloc _ _)) _ 1 1 [.int .i64 pc,.int .i64 fr,.slice RA p.n2 rc] rfl rfl (QC HBI.out) (by intro u hu;simp only[List.mem_cons,List.not_mem_nil,or_false] at hu;rcases hu with rfl|rfl|rfl<;>rfl) um om (Nat.le_trans hbs (Ext.alloc _ _).size) ?_;intro A8 c8 w8 ho8 hg8 hat8;have cl8:=(HBL _ w8 (Ext.alloc _ _) hg8).cell 0;have fl8:=(HBL _ w8 (Ext.alloc _ _) hg8).frz 0)
 have hoc:QQ w8 p.base 233 3 A8 us.length c8 (KW p.n2 us):=by
  rw[HUS.out,RG,List.length_append];exact ho8
 obtain⟨hp9,ht9⟩:=(HP _ w8 (Ext.alloc _ _) A8 c8 hg8 hoc hat8).out;have HT9:=lh (HT.out.trans ((PT.of_ext p A (Ext.alloc wx (.cells #[.int .i64 pc,.int .i64 fr,.slice RA p.n2 rc] 233))).trans ht9));have HB9:=HX.out.blk ((PT.of_ext p A (Ext.alloc wx (.cells #[.int .i64 pc,.int .i64 fr,.slice RA p.n2 rc] 233))).trans ht9).kp HBX.out de de de de;rw[hul.out] at hp9 HT9 HB9;generalize w8.setCell ⟨p.g10,0,none⟩ (.slice A8 (ths.length+1) c8)=w9 at *;have HP9:=lh hp9;have y0:w9.cell? ⟨gx,0,none⟩=some (.int .i64 h.op):=HB9.cell 0;rw[h0] at y0;have y13:w9.cell? ⟨p.g13,0,none⟩=some (.bool false):=hp9.b13.cell 0;have f13:=hp9.b13.frz 0;clear hp9 ht9 hoc hg8 ho8 hat8 cl8 fl8 HB9 HBL HP hl10 ol b10 z0 ca HBI
 go_wp2_with fail
 have hmp:us.map Th.pc=ths.map Th.pc++[pc]:=by rw[HUS.out];simp
 refine bodyPost_end (v:=.tuple #[]) (by simp[results,Tryz.results169,go_sem]) rfl ⟨rfl,A8,c8,us,?_,by rw[HRR.out];exact hmp,HT9.out.trans ⟨KpP.set (x:=⟨p.g13,0,none⟩) (KpP.refl (PQ p A8) _) (.inl (.inr (.inr (.inl rfl)))) _,.inl rfl⟩⟩;rw[HRR.out];exact HP9.out.close _):P:=h
theorem Iv (p:PkP)(hs:List Hin)(hG:GOk p.rn p.caps (QW hs))(hP:PL p.w0 p.gA p.gc hs)(hpn:p.n=hs.length)(hn2:(p.n2:Int)=2*p.caps)(at_ fr:Int)(hat:0<=at_/\at_<=1000000) :
 ∀(f:Nat) (w:World) (A:Option Addr) (c:Nat) (ths:List Th) (sn:List Nat) (pc:Nat) (RA:Option Addr) (rc:Nat),PkI p w A c ths sn (at_+1) false->Vk hs.length (ths.map Th.pc,sn)->hs.length<f+sn.length->pc<hs.length->ZC w p.base p.n2 RA rc->
 Calls Tryz.prog 169 #[.int .i64 pc,.int .i64 at_,.int .i64 fr,.slice RA p.n2 rc,.pointer (some ⟨p.g13,0,none⟩),.pointer (some ⟨p.g4,0,none⟩),.pointer (some ⟨p.g10,0,none⟩),.pointer (some ⟨p.g14,0,none⟩)] w (lx p A (at_+1) (Q2 (QW hs) f (ths.map Th.pc,sn) pc) w):=by
 intro f;induction f with
 | zero=>
  intro w A c ths sn pc RA rc hI hA hf hp _;have:=hA.ok.len
  simp only at this
  omega
 | succ f ih=>
  intro w A c ths sn pc RA rc hI hA hf hp hr;have eg:=RH;have HI:=lh hI;have HR:=lh hr;obtain⟨ms,bM,hml,hmk⟩:=hI.ms;have hn8:=hG.len;rw[Qw] at hn8;have hpI:(pc:Int)<hs.length:=om;have hpm:pc<ms.length:=om;have c13:w.cell? ⟨p.g13,0,none⟩=some (.bool false):=hI.b13.cell 0;have c4:w.cell? ⟨p.g4,0,none⟩=some (.pointer (some ⟨p.gm,0,none⟩)):=hI.b4.cell 0;have cM:w.cell? ⟨p.gm,4,none⟩=some (.slice (some ⟨p.gM,0,none⟩) hs.length hs.length):=by rw[<-hpn];exact hI.bm.cell 4
  have cm:w.cell? ⟨p.gM,pc,none⟩=some (.int .i64 ms[pc]):=by rw[bM.cell];simp[Wy,hpm]
  have fm:=bM.frz pc;have hmp:=(hmk pc om).1;have hgd:ms.getD pc 0=ms[pc]:=by simp[List.getD_eq_getElem?_getD,hpm]
  rw[hgd] at hmp;clear hgd hmk hml hI hr;by_cases hm:pc∈sn
  ·have hx:=hmp.2 hm;rw[hx] at cm;rw[GT (show pc∈((ths.map Th.pc,sn):List Nat×List Nat).2 from hm)];clear hx hmp hm hf hA ih bM;go_enter Tryz.func169,Tryz.ntmps169
   go_wp2_with fail
   exact bodyPost_end (v:=.tuple #[]) (by simp[results,Tryz.results169,go_sem]) rfl ⟨rfl,A,c,ths,HI.out,rfl,PT.of_ext _ _ (Ext.rfl' _)⟩
  ·have hx:(ms[pc] == at_+1)=false:=by
    rw[beq_eq_false_iff_ne];exact fun e=>hm (hmp.1 e)
   have hins:=qG hp;have HST:=lh (D0 (f:=f) (s:=(ths.map Th.pc,sn)) hm hins);have HAS:=lh (hA.see hp hm);have HAP:=lh (hA.put hp hm);obtain⟨r,hr⟩:∃r,Hid (Q2 (QW hs) (f+1) (ths.map Th.pc,sn) pc=r):=⟨_,lh rfl⟩;rw[hr.out] at HST ⊢;generalize ms[pc]=mx at *;clear hmp;have HIH:=lh ih;have HG:=lh hG;have n4:=Qq HI.out.b4 bM de;have nm:=Qq HI.out.bm bM de;have HS:=lh (HI.out.seen (pc:=pc) om);have HK:=lh (KpP.set (x:=⟨p.gM,pc,none⟩) (KpP.refl (PQ p A) w) (.inl (.inl rfl)) (.int .i64 (at_+1)));have HF:=lh hf;clear ih hG hf;go_enter Tryz.func169,Tryz.ntmps169
   go_upto_region 2 with fail
   generalize w.setCell ⟨p.gM,pc,none⟩ (.int .i64 (at_+1))=w5 at *;clear c13 c4 cM cm fm bM hx n4 nm;have c4:w5.cell? ⟨p.g4,0,none⟩=some (.pointer (some ⟨p.gm,0,none⟩)):=HS.out.b4.cell 0;have c0b:w5.cell? ⟨p.gm,0,none⟩=some (.slice p.gA hs.length p.gc):=by rw[<-hpn];exact HS.out.bm.cell 0
   obtain⟨pb,po,hgA,c0,c1,c2,c3,c5⟩:=(hP.ext HS.out.x).get hp;rw[hgA] at c0b;obtain⟨h,hh⟩:∃h,Hid (hs[pc]=h):=⟨_,lh rfl⟩;rw[hh.out] at c0 c1 c2 c3 c5 HST;have BX:=Blk.new w5 126 #[.int .i64 h.op,.int .i64 h.x,.int .i64 h.y,.int .i64 h.n,.slice h.A h.l.length h.c];have EX:=Ext.alloc w5 (.cells #[.int .i64 h.op,.int .i64 h.x,.int .i64 h.y,.int .i64 h.n,.slice h.A h.l.length h.c] 126);have hgl:=hP.len
   go_upto_region 3 with fail
   obtain⟨gx,hgx⟩:∃gx,gx=w5.heap.size:=⟨_,rfl⟩
   rw[<-hgx] at BX ⊢;have HGX:=lh hgx;clear hgx;generalize w5.alloc (.cells #[.int .i64 h.op,.int .i64 h.x,.int .i64 h.y,.int .i64 h.n,.slice h.A h.l.length h.c] 126)=wx at *;have HX:=lh (HS.out.ext EX);have HT:Hid (PT p A w A wx):=lh ⟨HK.out.trans (KpP.of_ext EX),.inl rfl⟩;have HRX:=lh (HI.out.reg (HK.out.trans (KpP.of_ext EX)) HR.out);have HBX:=lh BX;have z0:wx.cell? ⟨gx,0,none⟩=some (.int .i64 h.op):=BX.cell 0;have z1:wx.cell? ⟨gx,1,none⟩=some (.int .i64 h.x):=BX.cell 1;have z2:wx.cell? ⟨gx,2,none⟩=some (.int .i64 h.y):=BX.cell 2;have z3:wx.cell? ⟨gx,3,none⟩=some (.int .i64 h.n):=BX.cell 3;have hpG:pc<(QW hs).length:=by rw[Qw];exact hp
   have hgi:(QW hs)[pc]=h.ins:=by rw[WM,hh.out]
   have hop:=HG.out.op hpG;have hnx:=HG.out.next hpG;have hju:=HG.out.jump hpG;have hju2:=HG.out.jump2 hpG;have hsv:=(HG.out.ins pc hpG).2.2.2.2;rw[hgi] at hop hnx hju hju2 hsv;rw[Qw] at hnx hju hju2;have ca:wx.cell? ⟨p.g14,0,none⟩=some (.func (.func 169) #[] #[.pointer (some ⟨p.g13,0,none⟩),.pointer (some ⟨p.g4,0,none⟩),.pointer (some ⟨p.g10,0,none⟩),.pointer (some ⟨p.g14,0,none⟩)]):=HX.out.b14.cell 0;clear hgi hpG c0b c0 c1 c2 c3 c4 c5 HS HK BX EX HI HR hgA;have hfs:hs.length<f+(sn++[pc]).length:=by have:=HF.out;simp only[List.length_append,List.length_cons,List.length_nil];omega
   have hop':h.op=0\/h.op=1\/h.op=2\/h.op=3\/h.op=4:=hop;clear hop;by_cases h01:h.op=0\/h.op=1
   ·have HRR:Hid (r=((ths.map Th.pc++[pc],sn++[pc]),decide (h.op≠0))):=lh (by
     rw[HST.out,if_neg (show ¬h.ins.op=2 from by show ¬h.op=2;omega),if_neg (show ¬h.ins.op=3 from by show ¬h.op=3;omega),if_neg (show ¬h.ins.op=4 from by show ¬h.op=4;omega)]
     rfl)
    rcases h01 with h0|h0
    ·exact iv
    ·exact iv
   ·have hn':(QW hs).length=hs.length:=Qw hs;by_cases h2:h.op=2
    ·obtain⟨x,hx,hxl⟩:=hju (.inl h2);obtain⟨y,hy,hyl⟩:=hju2 h2;have hx':h.x=(x:Int):=hx;have hy':h.y=(y:Int):=hy;rw[h2] at z0;rw[hx'] at z1;have HC:=lh (HIH.out wx A c ths (sn++[pc]) x RA rc HX.out HAS.out hfs hxl HRX.out);have HI1:=lh (VQ (G:=QW hs) f (ths.map Th.pc,sn++[pc]) x (by rw[hn'];exact HAS.out));rw[hn'] at HI1;have HRR:Hid (r=if(Q2 (QW hs) f (ths.map Th.pc,sn++[pc]) x).2=true then Q2 (QW hs) f (Q2 (QW hs) f (ths.map Th.pc,sn++[pc]) x).1 y else Q2 (QW hs) f (ths.map Th.pc,sn++[pc]) x):=lh (by
      rw[HST.out,if_pos (show h.ins.op=2 from h2)];have e:h.ins.x.toNat=x:=by show h.x.toNat=x;omega
      have e2:h.ins.y.toNat=y:=by show h.y.toNat=y;omega
      rw[e,e2])
     obtain⟨r1,hr1⟩:∃r1,Hid (Q2 (QW hs) f (ths.map Th.pc,sn++[pc]) x=r1):=⟨_,lh rfl⟩;rw[hr1.out] at HC HRR HI1;obtain⟨⟨l1,sn1⟩,b1⟩:=r1;have hs1:(sn++[pc]).length<=sn1.length:=HI1.out.2;have hy9:=lh hy';clear HST hju hju2 hnx hsv hx hx' hy hy' hn' z2 z3 hop'
     go_upto_region 10 with(go_at_fn 169;refine HC.out.mono ?_;rintro e w7 ⟨rfl,A7,c7,ths7,hi7,hl7,ht7⟩)
     have BX7:=HX.out.blk ht7.kp HBX.out de de de de;have HR7:=lh (HX.out.reg ht7.kp HRX.out);have HT7:=lh (HT.out.trans ht7);have z27:w7.cell? ⟨gx,2,none⟩=some (.int .i64 h.y):=BX7.cell 2;rw[hy9.out] at z27;have ca7:w7.cell? ⟨p.g14,0,none⟩=some (.func (.func 169) #[] #[.pointer (some ⟨p.g13,0,none⟩),.pointer (some ⟨p.g4,0,none⟩),.pointer (some ⟨p.g10,0,none⟩),.pointer (some ⟨p.g14,0,none⟩)]):=hi7.b14.cell 0;clear BX7 ht7 ca z0 z1 HX HBX HRX HT HC
     cases b1 with
     | true=>
      have HRR2:Hid (r=Q2 (QW hs) f (l1,sn1) y):=lh (by rw[HRR.out,if_pos rfl]);have HI7:Hid (PkI p w7 A7 c7 ths7 sn1 (at_+1) false):=lh hi7;have HC2:=lh (HIH.out w7 A7 c7 ths7 sn1 y RA rc HI7.out (by rw[hl7];exact HI1.out.1) om hyl HR7.out);rw[show ths7.map Th.pc=l1 from hl7] at HC2;clear HRR HIH hi7 hl7
      go_wp2_with (go_at_fn 169;refine HC2.out.mono ?_;rintro e w9 ⟨rfl,A9,c9,ths9,hi9,hl9,ht9⟩;have HI9:=lh hi9;have HL9:=lh hl9;have HT9:=lh (HT7.out.trans ht9);clear hi9 hl9 ht9)
      exact bodyPost_end (v:=.tuple #[]) (by simp[results,Tryz.results169,go_sem]) rfl ⟨rfl,A9,c9,ths9,by rw[HRR2.out];exact HI9.out,by rw[HRR2.out];exact HL9.out,HT9.out⟩
     | false=>
      have HRR2:Hid (r=((l1,sn1),false)):=lh (by rw[HRR.out,if_neg si]);have HI7:Hid (PkI p w7 A7 c7 ths7 sn1 (at_+1) true):=lh hi7;have HL7:=lh hl7;have HC2:=fun(pc':Int)=>lh (xy p w7 A7 c7 ths7 sn1 (at_+1) HI7.out pc' at_ fr (.slice RA p.n2 rc));clear HRR HIH hi7 hl7
      go_wp2_with (go_at_fn 169;refine(HC2 _).out.mono ?_;rintro e w9 ⟨rfl,x9⟩;have HX9:=lh x9;clear x9)
      exact bodyPost_end (v:=.tuple #[]) (by simp[results,Tryz.results169,go_sem]) rfl ⟨rfl,A7,c7,ths7,by rw[HRR2.out];exact HI7.out.ext HX9.out,by rw[HRR2.out];exact HL7.out,HT7.out.trans (PT.of_ext _ _ HX9.out)⟩
    ·by_cases h3:h.op=3
     ·obtain⟨x,hx,hxl⟩:=hju (.inr h3);have hx':h.x=(x:Int):=hx;rw[h3] at z0;rw[hx'] at z1;have HC:=lh (HIH.out wx A c ths (sn++[pc]) x RA rc HX.out HAS.out hfs hxl HRX.out);have HRR:Hid (r=Q2 (QW hs) f (ths.map Th.pc,sn++[pc]) x):=lh (by
       rw[HST.out,if_neg (show ¬h.ins.op=2 from h2),if_pos (show h.ins.op=3 from h3)];have e:h.ins.x.toNat=x:=by show h.x.toNat=x;omega
       rw[e])
      clear HST HIH hju hju2 hnx hsv hx hx' hn' z2 z3 hop' HBX HRX HX
      go_wp2_with (go_at_fn 169;refine HC.out.mono ?_;rintro e w9 ⟨rfl,A9,c9,ths9,hi9,hl9,ht9⟩;have HI9:=lh hi9;have HL9:=lh hl9;have HT9:=lh (HT.out.trans ht9);clear hi9 hl9 ht9)
      exact bodyPost_end (v:=.tuple #[]) (by simp[results,Tryz.results169,go_sem]) rfl ⟨rfl,A9,c9,ths9,by rw[HRR.out];exact HI9.out,by rw[HRR.out];exact HL9.out,HT9.out⟩
     ·have h4:h.op=4:=om;have hnl:=hnx (.inr h4);have hsv4:0<=h.n/\h.n<2*p.caps:=by
       rcases hsv with e|⟨e,_⟩|⟨e,_⟩|⟨e,_⟩|⟨_,e⟩|⟨e,_⟩
       ·exact absurd (show h.op=0 from e) om
       ·exact absurd (show h.op=1 from e) om
       ·exact absurd (show h.op=2 from e) om
       ·exact absurd (show h.op=3 from e) om
       ·exact e
       ·exact absurd (show h.op=5 from e) om
      obtain⟨N,hN⟩:∃N:Nat,h.n=(N:Int):=⟨h.n.toNat,om⟩;have hN2:N<p.n2:=om;rw[h4] at z0;rw[hN] at z3;have HRR:Hid (r=Q2 (QW hs) f (ths.map Th.pc,sn++[pc]) (pc+1)):=lh (by
       rw[HST.out,if_neg (show ¬h.ins.op=2 from h2),if_neg (show ¬h.ins.op=3 from h3),if_pos (show h.ins.op=4 from h4)])
      obtain⟨⟨xs,hxs,hxi⟩,hty⟩:=HRX.out;obtain⟨rb,ro,hRA,hxc⟩:=hxi.at_ (by rintro rfl;simp at hxs;omega);subst hRA;have hrc:=hxi.len;clear HST hju hju2 hnx hsv hsv4 hn' z1 z2 hop' hN;obtain⟨iI,jI0,jI1,jI2,jI3⟩:=info_parts VV;have HLD:=lh (fun(W:World) (x:Ext wx W)=>NR (N:=N) (fun i hi=>x.cell (hxc i hi)));have HIX:=lh hxi;have htl:((xs.take N).map (Value.int .i64)).length=N*1:=by simp;omega
      have hap8:p.n2<=100:=by have:=HG.out.cap9;omega
      have HBI:=lh (Blk.new wx 3 #[.int .i64 at_]);have HXA:=lh (Ext.alloc wx (.cells #[.int .i64 at_] 3))
      go_upto_region 15 with(at_builtin;refine wpList_append_grows _ rfl _ _ _ rfl 3 iI (.int .i64 0) 1 8 Tryz.underlying22 jI0 jI1 jI2 jI3 rfl om (some ⟨rb,ro,none⟩) N N ((xs.take N).map (Value.int .i64)) rfl si htl (HLD.out _ HXA.out) _ 1 1 [.int .i64 at_] rfl rfl (fun j u hu=>by obtain⟨hj,e⟩:=List.getElem?_eq_some_iff.1 hu;rw[Addr.add_lit,<-e];have h0:j=0:=(by simpa using hj);subst h0;exact HBI.out.cell 0) (by intro u hu;obtain rfl:=List.mem_singleton.1 hu;rfl) om um om ?_;intro v1 w1 ho1 hg1;obtain⟨A1,c1,rfl⟩:∃A1 c1,v1=.slice A1 (N+1) c1:=(by rcases ho1.2 with⟨e1,e2⟩|⟨g,cap,cur,e1,_⟩;(exact absurd e2 om);(exact⟨_,_,e1⟩)))
      have X1:=HXA.out.grown hg1 si;have HX1:=lh (HX.out.ext X1);obtain⟨b1,hb1⟩:∃b1,Hid (b1=(wx.alloc (.cells #[.int .i64 at_] 3)).heap.size/\wx.heap.size<=b1):=⟨_,lh ⟨rfl,HXA.out.size⟩⟩
      rw[<-hb1.out.1] at ho1;have HO1:Hid (QQ w1 b1 3 1 A1 (N+1) c1 ((xs.take N).map (Value.int .i64)++[.int .i64 at_])):=lh ho1;have hbb:p.base<=wx.heap.size:=by have:=HX.out.lb.1;have:=HX.out.b10.lt;omega
      have hbb1:p.base<=b1:=Nat.le_trans hbb hb1.out.2;have hw1s:b1<=w1.heap.size:=by rw[hb1.out.1];exact hg1.size
      have B14:=HX1.out.b14;have BX1:=HBX.out.ext X1;have n14:p.g14∉pkL p A (A1.map (·.block)).toList:=HX1.out.nin B14 de de de de (fun e=>QK HO1.out B14 de (by simpa using e));have nx:gx∉pkL p A (A1.map (·.block)).toList:=HX1.out.nin BX1 de de de de (fun e=>QK HO1.out BX1 de (by simpa using e));have q0:=fun(w':World) (hk:Kp (pkL p A (A1.map (·.block)).toList) w1 w')=>hk.cell (X1.cell ca) n14;have q3:=fun(w':World) (hk:Kp (pkL p A (A1.map (·.block)).toList) w1 w')=>hk.cell (X1.cell z3) nx;have hw2:IntKind.i64.wrap ((N:Int)+1)=((N+1:Nat):Int):=wj;have hw3:IntKind.i64.wrap ((pc:Int)+1)=((pc+1:Nat):Int):=wj;have HXX1:=lh X1;have HIL1:=lh (hxi.ext X1);have hrcn:rc<=9223372036854775807:=hrc.2;have hn2r:p.n2<=rc:=by rw[<-hxs];exact hrc.1
      clear hg1 ho1 B14 BX1 n14 nx ca z3 z0 HBI HXA HLD HRX HBX hxc hty htl;refine Xr.start (pkL p A (A1.map (·.block)).toList) kr ?_;refine Xtk 0 ?_
      iterate 9(refine Xtn ?_)
      clear q0 q3;refine Xr.take 10 (some 104) (v:=.slice (WS (some ⟨rb,ro,none⟩) rc (N+1)) ((p.n2-(N+1):Nat)) (rc-(N+1))) rfl rfl dK (by rfl) (fun w' hk=>by
       by_cases hca:rc=N+1
       ·have e1:WS (some (⟨rb,ro,none⟩:Addr)) rc (N+1)=some ⟨rb,ro,none⟩:=by unfold WS;rw[if_pos hca]
        rw[e1];go_simp
        all_goals(intro h';exact absurd h' om)
       ·have e1:WS (some (⟨rb,ro,none⟩:Addr)) rc (N+1)=(some (⟨rb,ro,none⟩:Addr)).map (fun x=>x.add (N+1)):=by unfold WS;rw[if_neg hca]
        rw[e1];go_simp
        all_goals(intro h';exact absurd h' om)) ?_
      refine ptm ?_;have hdl:((xs.drop (N+1)).map (Value.int .i64)).length=(p.n2-(N+1))*1:=by simp;omega
      refine Xsp 11 fun w4 hE4 hK4 K hKK=>?_;have HO4:=QQ.ext HO1.out hE4;have HDI:=IL.dropN (HIL1.out.ext hE4) (k:=N+1) om;refine VT _ _ _ _ rfl b1 3 iI (.int .i64 0) 1 8 Tryz.underlying22 jI0 jI1 jI2 jI3 rfl om A1 (N+1) c1 _ rfl HO4 _ (p.n2-(N+1)) (rc-(N+1)) ((xs.drop (N+1)).map (Value.int .i64)) rfl hdl HDI.cells (ZP _) um om (Nat.le_trans hw1s hE4.size) ?_;intro A2 c2 w5 ho5 hg5 hat5;have X5:Ext wx w5:=(HXX1.out.trans hE4).grown hg5 (fun i hi=>Nat.le_trans hb1.out.2 (QQ.row HO4 i hi));refine hKK _ _ (YQ hg5 (fun i hi=>.inl (by simp[pkL,hi]))) (hK4.grownL hg5 (fun i hi=>.inl (by simp[pkL,hi]))) ?_;clear hKK;refine ptm ?_;have e5:N+1+(p.n2-(N+1))=p.n2:=om;rw[e5] at ho5 ⊢;have hrng:∀x∈xs.take N++[at_]++xs.drop (N+1),I64 x:=fun x hx=>by
       rcases List.mem_append.1 hx with hx|hx
       ·rcases List.mem_append.1 hx with hx|hx
        ·exact HIX.out.rng x (List.mem_of_mem_take hx)
        ·rw[List.mem_singleton.1 hx];unfold I64;omega
       ·exact HIX.out.rng x (List.mem_of_mem_drop hx)
      have hlen:(xs.take N++[at_]++xs.drop (N+1)).length=p.n2:=by simp only[List.length_append,List.length_take,List.length_drop,List.length_singleton];omega
      have HO5:Hid (WO w5 b1 3 A2 c2 (xs.take N++[at_]++xs.drop (N+1))):=lh (by
       unfold WO;rw[hlen]
       simpa using ho5)
      have HRG:=lh hrng;have HRL:=lh hlen;have HX5:=lh X5;clear ho5 hg5 hat5 hlen hrng HO4 HDI hE4 hK4;refine Xsp 12 fun w6 hE6 hK6 K hKK=>?_;have HO6:=QQ.ext HO5.out hE6;have hr6:ZC w6 p.base p.n2 A2 c2:=⟨⟨_,HRL.out,IL.of_own HO6 HRG.out⟩,fun b hb=>⟨Nat.le_trans hbb1 (QQ.row HO6 b hb),by obtain⟨_,cur,h2⟩:=QQ.blt HO6 hb;exact⟨cur,h2⟩⟩⟩;go_simp;refine(HIH.out w6 A c ths (sn++[pc]) (pc+1) A2 c2 (HX.out.ext (HX5.out.trans hE6)) HAS.out hfs hnl hr6).mono ?_;rintro e w7 ⟨rfl,A7,c7,ths7,hi7,hl7,ht7⟩;refine hKK _ _ (FV ht7.kp PQ.mem) (hK6.kpP ht7.kp PQ.mem) ?_;clear hKK;refine ptm ?_;refine Xdn fun w8 hE8 hK8=>?_;have HI8:=lh (hi7.ext hE8);have HL8:=lh hl7;have HT8:=lh ((HT.out.trans (PT.of_ext p A (HX5.out.trans hE6))).trans (ht7.trans (PT.of_ext p A7 hE8)));clear hE6 hK6 hE8 hK8 hi7 hl7 ht7 hr6 HO6
      go_wp2_with fail
      exact bodyPost_end (v:=.tuple #[]) (by simp[results,Tryz.results169,go_sem]) rfl ⟨rfl,A7,c7,ths7,by rw[HRR.out];exact HI8.out,by rw[HRR.out];exact HL8.out,HT8.out⟩
theorem UF (A:Option Addr)(c:Nat)(l:List Sp)(x:Int)(w:World)(hl:SL w A c l):Calls Tryz.prog 171 #[.slice A l.length c,.int .i64 x] w (QD (.bool (has l x)) w):=by
 have HL:=lh hl;have h1:=hl.le;have h2:=hl.cap;unfold maxLen at h2;clear hl;go_enter Tryz.func171,Tryz.ntmps171
 go_wp2
 go_loopw [9] (fun i wr=>∃k:Nat,k<=l.length/\i=.int .i64 k/\Hid (has (l.take k) x=false)/\Hid (Ext w wr)) (fun i _=>l.length-(intOf i).toNat)
 case atStart=>exact⟨0,Nat.zero_le _,rfl,lh rfl,lh (Ext.rfl' _)⟩
 case round=>
  obtain⟨k,hk,rfl,HT,HX⟩:=hrel;by_cases hlt:k<l.length
  ·obtain⟨b,o,rfl,g1,g2⟩:=(HL.out.ext HX.out).get hlt;have hltI:(k:Int)<l.length:=om;have HS:Hid (has (l.take (k+1)) x=(decide (l[k].1<=x)&&decide (x<=l[k].2))):=lh (by
    have h:=HT.out;rw[List.take_succ_eq_append_getElem hlt];unfold has at h ⊢;rw[List.any_append,h]
    simp)
   have HF:Hid (has (l.take (k+1)) x=true->has l x=true):=lh (fun h=>by
    rw[ZD] at h ⊢;obtain⟨s,hs,h3⟩:=h;exact⟨s,List.mem_of_mem_take hs,h3⟩)
   generalize l[k]=s at *;have B:=Blk.new wr 38 #[.int .i64 s.1,.int .i64 s.2];have E:=Ext.alloc wr (.cells #[.int .i64 s.1,.int .i64 s.2] 38)
   go_upto_region 4 with fail
   generalize wr.alloc (.cells #[.int .i64 s.1,.int .i64 s.2] 38)=w4 at *;generalize wr.heap.size=g4 at *;have z0:w4.cell? ⟨g4,0,none⟩=some (.int .i64 s.1):=B.cell 0;have z1:w4.cell? ⟨g4,1,none⟩=some (.int .i64 s.2):=B.cell 1;have HX4:=lh (HX.out.trans E);clear g1 g2 B E;by_cases ha:s.1<=x
   ·by_cases hb:x<=s.2
    ·have HV:Hid (has l x=true):=lh (HF.out (by rw[HS.out];simp[ha,hb]))
     go_wp2
     go_ret
     exact⟨by rw[HV.out];rfl,HX4.out⟩
    ·have HV:Hid (has (l.take (k+1)) x=false):=lh (by rw[HS.out];simp[hb])
     go_wp2
     go_roundw
     case rel=>exact⟨k+1,om,by go_num,HV,HX4⟩
     case measure=>simp[intOf];omega
   ·have HV:Hid (has (l.take (k+1)) x=false):=lh (by rw[HS.out];simp[ha])
    go_wp2
    go_roundw
    case rel=>exact⟨k+1,om,by go_num,HV,HX4⟩
    case measure=>simp[intOf];omega
  ·have HV:Hid (has l x=false):=lh (by
    have h:=HT.out
    rwa [List.take_of_length_le om] at h)
   go_wp2
   go_ret
   exact⟨by rw[HV.out];rfl,HX.out⟩
structure SeI (p:PkP)(g3 g8 g9:Nat)(w:World)(fd:Bool)(en:Int):Prop where
 b3:Blk w g3 163 #[.pointer (some ⟨p.gm,0,none⟩)]
 b9:Blk w g9 4 #[.bool fd]
 b8:∃(st:Int) (A:Option Addr) (n c:Nat),Blk w g8 89 #[.int .i64 st,.int .i64 en,.slice A n c]
 l:p.w0.heap.size<=g8/\p.w0.heap.size<=g9/\g9<p.base
def SQ (g8 g9 b:Nat):Prop:=b=g8\/b=g9
theorem SeI.ext {p:PkP}{g3 g8 g9:Nat}{w w':World}{fd:Bool}{en:Int}(h:SeI p g3 g8 g9 w fd en)(x:Ext w w'):SeI p g3 g8 g9 w' fd en:=by
 obtain⟨h1,h2,⟨st,A,n,c,h3⟩,h4⟩:=h;exact⟨h1.ext x,h2.ext x,⟨st,A,n,c,h3.ext x⟩,h4⟩
theorem AL {P:Prop} (h:P:=by
 injection e1 with e1;injection e1 with _ e1;exact absurd e1 de):P:=h
theorem PkI.see {p:PkP}{g3 g8 g9:Nat}{w w':World}{A:Option Addr}{c:Nat}{ths:List Th}{sn:List Nat}{mk:Int}{cl fd:Bool}{en:Int}(h:PkI p w A c ths sn mk cl)(s:SeI p g3 g8 g9 w fd en)(k:KpP (SQ g8 g9) w w'):PkI p w' A c ths sn mk cl:=by
 obtain⟨h1,h2,h3,h4,h5,h6,h7,h8,⟨ms,h9,h10⟩,h11,h12⟩:=h;obtain⟨_,s9,⟨st,SA,sn',sc,s8⟩,sl⟩:=s;have f:∀{g T:Nat} {cs:Array Value},Blk w g T cs->T≠89->T≠4->¬SQ g8 g9 g:=fun hb t1 t2 e=>by
  rcases e with e|e
  ·exact Qq hb s8 t1 e
  ·exact Qq hb s9 t2 e
 have fr:∀b,SQ g8 g9 b->b<p.base\/∀cur,w.heap[b]?≠some (.cells cur 3 (0,0)):=fun b hb=>.inr fun cur e=>by
  rcases hb with rfl|rfl
  ·have e1:=s8.symm.trans e;exact AL
  ·have e1:=s9.symm.trans e;exact AL
 refine⟨Ext.kp h1 k (fun i hi=>by rcases hi with rfl|rfl<;>omega),k.blk h2 (f h2 de de),k.blk h3 (f h3 de de),k.blk h4 (fun e=>?_),k.blk h5 (f h5 de de),k.blk h6 (f h6 de de),QQ.kp h7 k (fun b hb e=>?_),fun t ht=>(h8 t ht).kp k fr,⟨ms,k.blk h9 (f h9 de de),h10⟩,h11,h12⟩
 ·rcases e with e|e
  ·exact Qq h4 s8 de e
  ·omega
 ·rcases e with e|e
  ·subst e;exact QK h7 s8 de hb
  ·subst e;exact QK h7 s9 de hb
def lB (p:PkP)(g3 g8 g9:Nat)(dn fd:Bool)(at_ en:Int)(w:World)(e:Ending)(w':World):Prop:=
 e=.returned (.bool true)/\KpP (SQ g8 g9) w w'/\SeI p g3 g8 g9 w' (fd || dn) (if dn=true then at_ else en)
theorem lR (n:Nat)(h:n<=1000000)(W:World):(Instr.makeSlice 65 (.int .i64 (n:Int)) (.int .i64 (n:Int))).run Tryz.prog W=.ok (.slice (some ⟨W.heap.size,0,none⟩) n n) (W.alloc (.cells (madeCells #[.int .i64 0,.int .i64 0] (n*2)) 82)):=by
 have inf:(Tryz.prog.info? 82).map (fun i=>(i.zero,i.size,i.bytes))=some (some (.agg #[.int .i64 0,.int .i64 0]),2,16):=by kernel_rfl
 obtain⟨i0,hi0,hz0,hz1,hz2⟩:=info_parts inf;have:=run_make (P:=Tryz.prog) W 65 82 i0 _ Tryz.underlying65 hi0 hz0 .i64 .i64 n n om (Int.le_refl _) (by rw[hz2];omega) om;rw[this,hz1]
 rfl
theorem NS {P:Prop} (h:P:=by
 go_wp2_with fail
 go_roundw
 case rel=>exact⟨q+1,_,by go_num,om,lh (hRel _ _).out.1,lh (hRel _ _).out.2⟩
 case measure=>simp[intOf];omega):P:=h
theorem UG (p:PkP)(hs:List Hin)(hG:GOk p.rn p.caps (QW hs))(hP:PL p.w0 p.gA p.gc hs)(hpn:p.n=hs.length)(hn2:(p.n2:Int)=2*p.caps)(at_:Int)(g3 g8 g9:Nat)(w:World)(A:Option Addr)(c:Nat)(ths:List Th)(sn:List Nat)(mk:Int)(cl fd:Bool)(en:Int)
 (hI:PkI p w A c ths sn mk cl) (hS:SeI p g3 g8 g9 w fd en) (hlt:∀t∈ths,t.pc<hs.length) (hl8:ths.length<=10000) :
 Calls Tryz.prog 136 #[.int .i64 at_,.slice A ths.length c,.pointer (some ⟨g3,0,none⟩),.pointer (some ⟨g9,0,none⟩),.pointer (some ⟨g8,0,none⟩)] w (lB p g3 g8 g9 (Qk (QW hs) (ths.map Th.pc)) fd at_ en w):=by
 have HI:=lh hI;have HS:=lh hS;have hac:=QQ.caps hI.o;by_cases h0:ths=[]
 ·subst h0;have HD:Hid (Qk (QW hs) (([]:List Th).map Th.pc)=false):=lh rfl;clear hI hS hlt;go_enter Tryz.func136,Tryz.ntmps136
  go_wp2_with fail
  go_ret
  rw[HD.out];exact⟨rfl,KpP.refl _ _,by simpa using HS.out⟩
 ·obtain⟨m,hm⟩:∃m,ths.length=m+1:=⟨ths.length-1,by have:=List.length_pos_iff.2 h0;omega⟩;have hml:m<ths.length:=om;obtain⟨b,o,hA,hc⟩:=QQ.cells hI.o (by intro e;have:=Ej p.n2 ths;rw[e] at this;simp at this;omega);have gc:=wW p.n2 ths m hml;have one:∀(i:Nat) (v:Value),(KW p.n2 ths)[i]? = some v->w.cell? ⟨b,o+i,none⟩=some v:=fun i v hv=>by
   obtain⟨hi,e⟩:=List.getElem?_eq_some_iff.1 hv
   rw[<-e];exact hc i hi
  have q0:=one _ _ gc.1;have q1:w.cell? ⟨b,o+m*3+1,none⟩=some (.int .i64 ths[m].fr):=by rw[Nat.add_assoc];exact one _ _ gc.2.1
  have q2:w.cell? ⟨b,o+m*3+2,none⟩=some (.slice ths[m].A p.n2 ths[m].c):=by rw[Nat.add_assoc];exact one _ _ gc.2.2
  have hmem:ths[m]∈ths:=List.getElem_mem _;have HRG:=lh (hI.rg _ hmem);have hpc:=hlt _ hmem;have HD:Hid (Qk (QW hs) (ths.map Th.pc)=isD (QW hs) ths[m].pc):=lh (by
   rw[yS (by simpa using h0),List.getLast_eq_getElem];simp[hm])
  generalize ths[m]=t at *;clear gc one hc hmem hlt h0;subst hA;rw[hm] at hac ⊢;have B8:=Blk.new w 233 #[.int .i64 t.pc,.int .i64 t.fr,.slice t.A p.n2 t.c];have E8:=Ext.alloc w (.cells #[.int .i64 t.pc,.int .i64 t.fr,.slice t.A p.n2 t.c] 233);have hmI:((m+1:Nat):Int)-1=(m:Int):=om;go_enter Tryz.func136,Tryz.ntmps136
  go_upto_region 4 with fail
  obtain⟨gt,hgt⟩:∃g,g=w.heap.size:=⟨_,rfl⟩
  rw[<-hgt] at B8 ⊢;have hgtl:w.heap.size<=gt:=om;clear hgt;generalize w.alloc (.cells #[.int .i64 (t.pc:Int),.int .i64 t.fr,.slice t.A p.n2 t.c] 233)=w4 at *;have HI4:=lh (hI.ext E8);have HS4:=lh (hS.ext E8);have HB4:=lh B8;have HRG4:=lh (HRG.out.ext E8);have c3:w4.cell? ⟨g3,0,none⟩=some (.pointer (some ⟨p.gm,0,none⟩)):=HS4.out.b3.cell 0;have cm0:w4.cell? ⟨p.gm,0,none⟩=some (.slice p.gA hs.length p.gc):=by rw[<-hpn];exact HI4.out.bm.cell 0
  have ct:w4.cell? ⟨gt,0,none⟩=some (.int .i64 t.pc):=B8.cell 0;obtain⟨pb,po,hgA,i0,_⟩:=(hP.ext HI4.out.x).get hpc;rw[hgA] at cm0;have HIS:Hid (isD (QW hs) t.pc=decide (hs[t.pc].op=0)):=lh (wC hpc);generalize hs[t.pc]=h at *;have hgl:=hP.len;have hpcI:(t.pc:Int)<hs.length:=om;clear hI hS q0 q1 q2 hgA;have d0:=kc0 c3;have d1:=kc0 cm0;have d2:=kc0 ct;have d3:=kc0 i0;refine Xr.start [] kr ?_;refine Xtk 0 ?_
  iterate 10(refine Xtn ?_)
  refine Xdn fun w5 hE5 hK5=>?_;have HX5:=lh (E8.trans hE5);have HI5:=lh (HI4.out.ext hE5);have HS5:=lh (HS4.out.ext hE5);have HB5:=lh (HB4.out.ext hE5);have HRG5:=lh (HRG4.out.ext hE5);have hgt5:Hid (w.heap.size<=gt):=lh hgtl;clear d0 d1 d2 d3 c3 cm0 ct i0 hE5 hK5 E8 B8 HI4 HS4 HB4 HRG4 HRG hgtl hP HI HS;by_cases hop:h.op=0
  ·have HDT:Hid (Qk (QW hs) (ths.map Th.pc)=true):=lh (by rw[HD.out,HIS.out];simp[hop]);have ho1:(h.op != 0)=false:=by simp[hop]
   obtain⟨st,SA,sn',sc,s8⟩:=HS5.out.b8;have c9:w5.cell? ⟨g9,0,none⟩=some (.bool fd):=HS5.out.b9.cell 0;have f9:=HS5.out.b9.frz 0
   go_upto_region 7 with fail
   obtain⟨k,hk⟩:∃k:Nat,p.caps=(k:Int):=⟨p.caps.toNat,by have:=hG.cap9;omega⟩;have hk9:k<=9:=by have:=hG.cap9;omega
   have HN2:Hid (p.n2=2*k):=lh om;have s8':=s8.far (p:=⟨g9,0,none⟩) (fun e=>Qq s8 HS5.out.b9 de e) (.bool true);have b3':=HS5.out.b3.far (p:=⟨g9,0,none⟩) (fun e=>Qq HS5.out.b3 HS5.out.b9 de e) (.bool true);have bt':=HB5.out.far (p:=⟨g9,0,none⟩) (fun e=>Qq HB5.out HS5.out.b9 de e) (.bool true);have bm':=HI5.out.bm.far (p:=⟨g9,0,none⟩) (fun e=>Qq HI5.out.bm HS5.out.b9 de e) (.bool true);have b9':Blk (w5.setCell ⟨g9,0,none⟩ (.bool true)) g9 4 #[.bool true]:=by simpa using HS5.out.b9.set 0 (.bool true)
   have k9:KpP (SQ g8 g9) w (w5.setCell ⟨g9,0,none⟩ (.bool true)):=KpP.set (x:=⟨g9,0,none⟩) (KpP.of_ext HX5.out) (.inl (.inr rfl)) _;have r9:ZC (w5.setCell ⟨g9,0,none⟩ (.bool true)) p.base p.n2 t.A t.c:=HRG5.out.kp (KpP.set (x:=⟨g9,0,none⟩) (KpP.refl (·=g9) _) (.inl rfl) _) (fun b hb=>.inr fun cur e=>by
    have hb':b=g9:=hb;subst hb';have e1:=HS5.out.b9.symm.trans e;exact AL)
   generalize w5.setCell ⟨g9,0,none⟩ (.bool true)=w6 at *;have n3:g3∉[g8]:=by simpa using Qq b3' s8' de
   have nt:gt∉[g8]:=by simpa using Qq bt' s8' de
   have nm:p.gm∉[g8]:=by simpa using Qq bm' s8' de
   have cc3:w6.cell? ⟨g3,0,none⟩=some (.pointer (some ⟨p.gm,0,none⟩)):=b3'.cell 0;have cct:w6.cell? ⟨gt,1,none⟩=some (.int .i64 t.fr):=bt'.cell 1;have ccm:w6.cell? ⟨p.gm,1,none⟩=some (.int .i64 k):=by rw[<-hk];exact bm'.cell 1
   have d0:=fun(w':World) (h:Kp [g8] w6 w')=>h.cell cc3 n3;have d1:=fun(w':World) (h:Kp [g8] w6 w')=>h.cell cct nt;have d2:=fun(w':World) (h:Kp [g8] w6 w')=>h.cell ccm nm;have h8lt:=s8'.lt;have HK9:=lh k9;have H8:=lh s8';have H9:=lh b9';have H3:=lh b3';have Ht:=lh bt';have HR9:=lh r9;clear cc3 cct ccm n3 nt nm s8' b3' bt' bm' b9' k9 r9 c9 f9 s8;refine Xr.start [g8] kr ?_;refine Xtk 0 ?_
   iterate 7(refine Xtn ?_)
   clear d0 d1 d2;have hmk:=lR k om;refine Xr.lazy 8 40 15 (fun g=>.slice (some ⟨g,0,none⟩) k k) 82 (madeCells #[.int .i64 0,.int .i64 0] (k*2)) rfl (by simpa using h8lt) dK si (fun w'=>by go_simp) ?_;refine Xsp 9 fun w7 hE7 hK7 K hKK=>?_;have b7:=H8.out.ext hE7;obtain⟨y0,y1,y2,f0,f1,f2,_⟩:=b7.c3;go_simp;change K _ (V4 w7 g8 0 0 none 0 0);refine hKK _ _ (zY (KpP.refl _ _) (.inl si) _ _ _ _ _) (Gz hK7 si _ _ _ _ _) ?_;have c7:=vy b7 0 0 none 0 0;generalize V4 w7 g8 0 0 none 0 0=w8 at *;clear hKK y0 y1 y2 f0 f1 f2 b7 hE7 hK7;refine ptm ?_;refine Xtk 10 ?_;refine Xsp 11 fun w9 hE9 hK9 K hKK=>?_;have b9:=c7.ext hE9;obtain⟨y0,y1,y2,f0,f1,f2,_⟩:=b9.c3;go_simp;refine hKK _ _ (QM (Q4 _ _ _) List.mem_cons_self _ _) (hK9.setL List.mem_cons_self _ _) ?_;have c9:Blk (w9.setCell ⟨g8,0,none⟩ (.int .i64 t.fr)) g8 89 #[.int .i64 t.fr,.int .i64 0,.slice none 0 0]:=by simpa using b9.set 0 (.int .i64 t.fr)
   generalize w9.setCell ⟨g8,0,none⟩ (.int .i64 t.fr)=w10 at *;clear hKK y0 y1 y2 f0 f1 f2 b9 c7 hE9 hK9;refine ptm ?_;refine Xtk 12 ?_;refine Xsp 13 fun w11 hE11 hK11 K hKK=>?_;have b11:=c9.ext hE11;obtain⟨y0,y1,y2,f0,f1,f2,_⟩:=b11.c3;go_simp;refine hKK _ _ (QM (Q4 _ _ _) List.mem_cons_self _ _) (hK11.setL List.mem_cons_self _ _) ?_;have c11:Blk (w11.setCell ⟨g8,1,none⟩ (.int .i64 at_)) g8 89 #[.int .i64 t.fr,.int .i64 at_,.slice none 0 0]:=by simpa using b11.set 1 (.int .i64 at_)
   generalize w11.setCell ⟨g8,1,none⟩ (.int .i64 at_)=w12 at *;clear hKK y0 y1 y2 f0 f1 f2 b11 c9 hE11 hK11;refine ptm ?_;refine Xtk 14 ?_;refine Xr.stepZ rfl dK (fun _=>by rfl) (fun w13 gC hE13 hK13 hgC hBC hno K hKK=>?_);have b13:=c11.ext hE13;obtain⟨y0,y1,y2,f0,f1,f2,_⟩:=b13.c3;go_simp;refine hKK _ _ (QM (Q4 _ _ _) List.mem_cons_self _ _) (hK13.setL List.mem_cons_self _ _) ?_;have c13:Blk (w13.setCell ⟨g8,2,none⟩ (.slice (some ⟨gC,0,none⟩) k k)) g8 89 #[.int .i64 t.fr,.int .i64 at_,.slice (some ⟨gC,0,none⟩) k k]:=by simpa using b13.set 2 (.slice (some ⟨gC,0,none⟩) k k)
   have bC:=hBC.far (p:=⟨g8,2,none⟩) (fun e=>Qq hBC b13 de e) (.slice (some ⟨gC,0,none⟩) k k);generalize w13.setCell ⟨g8,2,none⟩ (.slice (some ⟨gC,0,none⟩) k k)=w14 at *;clear hKK y0 y1 y2 f0 f1 f2 b13 c11 hE13 hK13 hBC hno;refine ptm ?_;refine Xdn fun w15 hE15 hK15=>?_;have HM8:=lh (c13.ext hE15);have HBC:=lh (bC.ext hE15);have HK15:=lh hK15;clear c13 bC hE15 hmk hK15;have h8C:g8≠gC:=Qq HM8.out HBC.out de;have K15:=lh (show KpP (SQ g8 g9) w6 w15 from KpP.mono (show KpP (·∈[g8]) w6 w15 from⟨HK15.out.os,HK15.out.tape,HK15.out.output,HK15.out.size,HK15.out.block⟩) (fun b hb=>.inl (by simpa using hb)));have HG9:=lh (show gC≠g9 from Qq HBC.out (Kp.blk H9.out HK15.out (by simpa using Qq H9.out H8.out de)) de);have hC6:Hid (w6.heap.size<=gC):=lh hgC;have m2:w15.cell? ⟨g8,2,none⟩=some (.slice (some ⟨gC,0,none⟩) k k):=HM8.out.cell 2;clear hgC h8lt hpcI hgl hac hpc hk hn2
   go_upto_region 9 with fail
   go_loopw [47] (fun v wr=>∃(q:Nat) (cs:Array Value),v=.int .i64 q/\q<=k/\Hid (Blk wr gC 82 cs/\cs.size=k*2)/\Hid (KpP (·=gC) w15 wr)) (fun v _=>k-(intOf v).toNat)
   case atStart=>exact⟨0,_,rfl,Nat.zero_le _,lh ⟨HBC.out,size_madeCells _ _⟩,lh (KpP.refl _ _)⟩
   case round=>
    obtain⟨q,cs,rfl,hq,HC,HK⟩:=hrel;have HFR:=lh (fun(b:Nat) (hb:b<w15.heap.size) (hn:b≠gC)=>HK.out.block b hb hn);by_cases hqk:q<k
    ·have hqI:(q:Int)<k:=om;have HMr:=HK.out.blk HM8.out h8C;have m2:wr.cell? ⟨g8,2,none⟩=some (.slice (some ⟨gC,0,none⟩) k k):=HMr.cell 2;have bt15:Blk w15 gt 233 _:=Kp.blk Ht.out HK15.out (by simpa using Qq Ht.out H8.out de);have btr:=HK.out.blk bt15 (Qq bt15 HBC.out de);have ctr:wr.cell? ⟨gt,2,none⟩=some (.slice t.A p.n2 t.c):=btr.cell 2;have hr15:ZC w15 p.base p.n2 t.A t.c:=HR9.out.kp (show KpP (·∈[g8]) w6 w15 from⟨HK15.out.os,HK15.out.tape,HK15.out.output,HK15.out.size,HK15.out.block⟩) (fun b hb=>.inr fun cur e=>by
      have hb':b=g8:=by simpa using hb
      subst hb';have e1:=H8.out.symm.trans e;exact AL)
     have hrr:ZC wr p.base p.n2 t.A t.c:=hr15.kp HK.out (fun b hb=>.inr fun cur e=>by
      have hb':b=gC:=hb;subst hb';have e1:=HBC.out.symm.trans e;exact AL)
     obtain⟨⟨xs,hxl,hxi⟩,_⟩:=hrr;obtain⟨rb,ro,hRA,hxc⟩:=hxi.at_ (by have:=HN2.out;rintro rfl;simp at hxl;omega);obtain⟨u,hu⟩:∃u:Nat,u=2*q:=⟨_,rfl⟩;have huI:2*(q:Int)=(u:Int):=om;have hu2:u+1<p.n2:=by have:=HN2.out;omega
     have hu2I:(u:Int)+1<p.n2:=om;have hu1I:(u:Int)<p.n2:=om;have hu0I:(0:Int)<=(u:Int)+1:=om;have r0:=hxc u om;have r1:=hxc (u+1) om;have hN2q:=HN2.out;have hxle:=hxi.len;rw[hxl] at hxle;rw[hRA] at ctr;generalize xs[u]=bv at *;generalize xs[u+1]=ev at *;have hc0:q*2<cs.size:=by have:=HC.out.2;omega
     have hc1:q*2+1<cs.size:=by have:=HC.out.2;omega
     have y0:wr.cell? ⟨gC,q*2,none⟩=some cs[q*2]:=by rw[HC.out.1.cell];exact Array.getElem?_eq_getElem hc0
     have y1:wr.cell? ⟨gC,q*2+1,none⟩=some cs[q*2+1]:=by rw[HC.out.1.cell];exact Array.getElem?_eq_getElem hc1
     have f0:=HC.out.1.frz (q*2);have f1:=HC.out.1.frz (q*2+1);have hw1:IntKind.i64.wrap (u:Int)=(u:Int):=wj;have hw2:IntKind.i64.wrap ((u:Int)+1)=((u+1:Nat):Int):=wj;clear hu hN2q;clear bt15 btr HMr hr15 hxi hxc hRA hxl
     go_upto_region 11 with fail
     have d0:=kc0 ctr;have d1:=kc0 r0;have d2:=kc0 r1;refine Xr.start [] kr ?_;refine Xtk 0 ?_
     iterate 14(refine Xtn ?_)
     refine Xdn fun w17 hE17 hK17=>?_;have K17:=lh (HK.out.trans (KpP.of_ext hE17));have BC17:=lh (HC.out.1.ext hE17);have z0:w17.cell? ⟨gC,q*2,none⟩=some cs[q*2]:=hE17.cell y0;have z1:w17.cell? ⟨gC,q*2+1,none⟩=some cs[q*2+1]:=hE17.cell y1;have zf0:=BC17.out.frz (q*2);have zf1:=BC17.out.frz (q*2+1);have m3:w17.cell? ⟨g8,2,none⟩=some (.slice (some ⟨gC,0,none⟩) k k):=hE17.cell m2;clear d0 d1 d2 y0 y1 f0 f1 m2 ctr r0 r1 hE17 hK17 HFR hw1 hw2 hu2 hu2I hu1I hu0I huI hxle;generalize cs[q*2]=e0 at *;generalize cs[q*2+1]=e1 at *;clear hc0 hc1;have hRel:=fun(v0 v1:Value)=>lh (show(Blk ((w17.setCell ⟨gC,q*2,none⟩ v0).setCell ⟨gC,q*2+1,none⟩ v1) gC 82 ((cs.setIfInBounds (q*2) v0).setIfInBounds (q*2+1) v1)/\((cs.setIfInBounds (q*2) v0).setIfInBounds (q*2+1) v1).size=k*2)/\KpP (·=gC) w15 ((w17.setCell ⟨gC,q*2,none⟩ v0).setCell ⟨gC,q*2+1,none⟩ v1) from⟨⟨(BC17.out.set (q*2) v0).set (q*2+1) v1,by simp[HC.out.2]⟩,(KpP.set (x:=⟨gC,q*2+1,none⟩) (KpP.set (x:=⟨gC,q*2,none⟩) K17.out (.inl rfl) v0) (.inl rfl) v1)⟩);by_cases hb1:bv = -1
     ·have hbb:(bv == -1)=true:=by simp[hb1]
      exact NS
     ·have hbb:(bv == -1)=false:=by simp[hb1]
      by_cases he1:ev = -1
      ·have hee:(ev == -1)=true:=by simp[he1]
       exact NS
      ·have hee:(ev == -1)=false:=by simp[he1]
       exact NS
    ·have hqI:¬(q:Int)<k:=om;have K6r:KpP (SQ g8 g9) w wr:=by
      refine⟨HK.out.os.trans (K15.out.os.trans HK9.out.os),HK.out.tape.trans (K15.out.tape.trans HK9.out.tape),HK.out.output.trans (K15.out.output.trans HK9.out.output),Nat.le_trans HK9.out.size (Nat.le_trans K15.out.size HK.out.size),fun b hb hn=>?_⟩;have h6:=HK9.out.size;rw[HK.out.block b (Nat.lt_of_lt_of_le hb (Nat.le_trans h6 K15.out.size)) (fun e=>by have:=hC6.out;have e':b=gC:=e;omega),K15.out.block b (Nat.lt_of_lt_of_le hb h6) hn];exact HK9.out.block b hb hn
     have H3r:Blk wr g3 163 #[.pointer (some ⟨p.gm,0,none⟩)]:=by
      have h15:=Kp.blk H3.out HK15.out (by simpa using Qq H3.out H8.out de);exact HK.out.blk h15 (Qq h15 HBC.out de)
     have H9r:Blk wr g9 4 #[.bool true]:=by
      have h15:=Kp.blk H9.out HK15.out (by simpa using Qq H9.out H8.out de);exact HK.out.blk h15 (fun e=>HG9.out e.symm)
     have H8r:=HK.out.blk HM8.out h8C;have HSI:Hid (SeI p g3 g8 g9 wr (fd || true) (if true=true then at_ else en)):=lh ⟨H3r,by simpa using H9r,⟨_,_,_,_,by simpa using H8r⟩,HS5.out.l⟩;have HKr:=lh K6r;clear H3r H9r H8r K6r
     go_wp2_with fail
     go_ret
     rw[HDT.out];exact⟨rfl,HKr.out,HSI.out⟩
  ·have HDF:Hid (Qk (QW hs) (ths.map Th.pc)=false):=lh (by rw[HD.out,HIS.out];simp[hop]);have ho1:(h.op != 0)=true:=by simp[hop]
   go_wp2_with fail
   go_ret
   rw[HDF.out];exact⟨rfl,KpP.of_ext HX5.out,by simpa using HS5.out⟩
end
section
open Go.RowKit
def JZ (G:List Ins)(N:Nat)(x:Int)(r:(List Nat×List Nat)×Bool)(p:Nat):(List Nat×List Nat)×Bool:=if Jv G x p=true then(if r.2=true then Q2 G N r.1 (p+1) else r) else r
theorem AM (G:List Ins)(N:Nat)(x:Int)(s:List Nat×List Nat):∀l:List Nat,l.foldl (JZ G N x) (s,false)=(s,false)
 | []=>rfl
 | p::l=>by
  have e:JZ G N x (s,false) p=(s,false):=by unfold JZ;split<;>rfl
  rw[List.foldl_cons,e];exact AM G N x s l
theorem zS (G:List Ins)(N:Nat)(x:Int):∀(l:List Nat) (s:List Nat×List Nat),(l.foldl (JZ G N x) (s,true)).1=JP G N ((l.filter (Jv G x)).map (·+1)) s
 | [],s=>rfl
 | p::l,s=>by
  rw[List.foldl_cons];by_cases h:Jv G x p=true
  ·rw[List.filter_cons_of_pos h,List.map_cons];have e:JZ G N x (s,true) p=Q2 G N s (p+1):=by unfold JZ;rw[if_pos h,if_pos rfl]
   rw[e];unfold JP;by_cases h2:(Q2 G N s (p+1)).2=true
   ·rw[if_pos h2];have e2:Q2 G N s (p+1)=((Q2 G N s (p+1)).1,true):=by rw[<-h2]
    rw[e2];exact zS G N x l _
   ·rw[if_neg h2];have h3:(Q2 G N s (p+1)).2=false:=by simpa using h2
    have e2:Q2 G N s (p+1)=((Q2 G N s (p+1)).1,false):=by rw[<-h3]
    rw[e2,AM]
  ·have hf:Jv G x p=false:=by simpa using h
   rw[List.filter_cons_of_neg h];have e:JZ G N x (s,true) p=(s,true):=by unfold JZ;rw[if_neg h]
   rw[e];exact zS G N x l s
theorem NT (G:List Ins)(x:Int)(l:List Nat):(l.foldl (JZ G (G.length+1) x) (([],[]),true)).1.1=QZ G l x:=by
 rw[zS,jB]
 rfl
theorem NU (G:List Ins):(Q2 G (G.length+1) ([],[]) 0).1.1=QX G [0]:=by
 have h:=jB G [0];unfold JP at h
 split at h
 ·exact h
 ·exact h
def pkR (G:List Ins):List Int->Nat->St->Bool×Int->Bool×Int
 | ts,k,s,r=>
  let r':=(r.1 || Qk G s,if Qk G s=true then(k:Int) else r.2)
  if s=[] then r' else match ts with
  | []=>r'
  | x::ts=>pkR G ts (k+1) (QZ G s x) r'
theorem Iw (G:List Ins):∀ts:List Int,ts.foldl (QZ G) []=[]
 | []=>rfl
 | x::ts=>by rw[List.foldl_cons,JH];exact Iw G ts
theorem Iy {G:List Ins}:∀(ts:List Int) (k:Nat) (s:St) (r:Bool×Int),Qk G (ts.foldl (QZ G) s)=true->pkR G ts k s r=(true,((k+ts.length:Nat):Int))
 | [],k,s,r,h=>by
  unfold pkR;have h':Qk G s=true:=h;simp[h']
 | x::ts,k,s,r,h=>by
  have hs:s≠[]:=fun e=>by
   rw[e,Iw,Vx] at h;cases h
  unfold pkR
  simp only
  rw[if_neg hs,Iy ts (k+1) _ _ h]
  simp;omega
theorem UH {G:List Ins}{ts:List Int}{k:Nat}{s:St}{r:Bool×Int}(h:s=[]\/ts=[]):pkR G ts k s r=(r.1 || Qk G s,if Qk G s=true then(k:Int) else r.2):=by
 unfold pkR;rcases h with h|h
 ·simp[h]
 ·subst h;simp
theorem iw {G:List Ins}{ts:List Int}{x:Int}{k:Nat}{s:St}{r:Bool×Int}(h:s≠[]):pkR G (x::ts) k s r=pkR G ts (k+1) (QZ G s x) (r.1 || Qk G s,if Qk G s=true then(k:Int) else r.2):=by
 conv=>lhs;unfold pkR
 simp[h]
end
section
open Go.RowKit
attribute [local go_sem ↓] Go.wp_at_zero Go.wp_at_succ
theorem QQ.zero {w:World}{base e size n c:Nat}{A:Option Addr}{xs:List Value}(h:QQ w base e size A n c xs):QQ w base e size A 0 c []:=by
 refine⟨by simp,?_⟩;rcases h.form with⟨rfl,rfl,rfl,rfl⟩|⟨g,cur,rfl,h1,h2,h3,h4,h5,h6⟩
 ·exact .inl ⟨rfl,rfl⟩
 ·exact .inr ⟨g,c,cur,rfl,h1,h2,Nat.zero_le _,h4,h5,by simp⟩
theorem xx (g:Nat):∀(vs:List Value) (o:Nat) (w:World),KpP (·=g) w (w.setCells g o vs)
 | [],_,w=>KpP.refl _ w
 | v::vs,o,w=>(KpP.set (x:=⟨g,o,none⟩) (KpP.refl (·=g) w) (.inl rfl) v).trans (xx g vs (o+1) (w.setCell ⟨g,o,none⟩ v))
theorem wJ (g T:Nat)(z:Value):∀(n o:Nat) (w:World) (cs:Array Value),Blk w g T cs->o+n<=cs.size->∃ds,Blk (w.setCells g o (List.replicate n z)) g T ds/\ds.size=cs.size/\(∀i,o<=i->i<o+n->ds[i]? = some z)/\∀i,i<o->ds[i]? = cs[i]?
 | 0,o,w,cs,h,_=>⟨cs,h,rfl,fun i h1 h2=>om,fun _ _=>rfl⟩
 | n+1,o,w,cs,h,hn=>by
  obtain⟨ds,h1,h2,h3,h4⟩:=wJ g T z n (o+1) (w.setCell ⟨g,o,none⟩ z) (cs.setIfInBounds o z) (h.set o z) (by simp;omega);refine⟨ds,h1,by rw[h2];simp,fun i i1 i2=>?_,fun i i1=>?_⟩
  ·by_cases e:i=o
   ·subst e;rw[h4 i om];simp[show i<cs.size by omega]
   ·exact h3 i om om
  ·rw[h4 i om];simp[Array.getElem?_setIfInBounds,show ¬o=i by omega]
theorem SeI.keep {p:PkP}{g3 g8 g9:Nat}{w w':World}{A:Option Addr}{c:Nat}{ths:List Th}{sn:List Nat}{mk:Int}{cl fd:Bool}{en:Int}(s:SeI p g3 g8 g9 w fd en)(h:PkI p w A c ths sn mk cl)(k:KpP (PQ p A) w w'):SeI p g3 g8 g9 w' fd en:=by
 obtain⟨s3,s9,⟨st,SA,n,sc,s8⟩,sl⟩:=s;refine⟨h.blk k s3 de de de de,k.blk s9 (fun hq=>?_),⟨st,SA,n,sc,h.blk k s8 de de de de⟩,sl⟩;obtain⟨ms,hM,_⟩:=h.ms;rcases hq with hq|hq|hq|hq
 ·exact Qq s9 hM de hq
 ·exact Qq s9 h.b10 de hq
 ·have:=h.lb.2;omega
 ·exact QK h.o s9 de hq
structure SeJ (p:PkP)(g3 g8 g9 g6:Nat)(w:World)(fd:Bool)(en:Int):Prop where
 s:SeI p g3 g8 g9 w fd en
 b6:Blk w g6 89 #[.int .i64 0,.int .i64 0,.slice none 0 0]
 ne:g6≠g8
theorem SeJ.ext {p:PkP}{g3 g8 g9 g6:Nat}{w w':World}{fd:Bool}{en:Int}(h:SeJ p g3 g8 g9 g6 w fd en)(x:Ext w w'):SeJ p g3 g8 g9 g6 w' fd en:=⟨h.s.ext x,h.b6.ext x,h.ne⟩
theorem SeJ.keep {p:PkP}{g3 g8 g9 g6:Nat}{w w':World}{A:Option Addr}{c:Nat}{ths:List Th}{sn:List Nat}{mk:Int}{cl fd:Bool}{en:Int}(s:SeJ p g3 g8 g9 g6 w fd en)(h:PkI p w A c ths sn mk cl)(k:KpP (PQ p A) w w'):SeJ p g3 g8 g9 g6 w' fd en:=
 ⟨s.s.keep h k,h.blk k s.b6 de de de de,s.ne⟩
theorem SeJ.see {p:PkP}{g3 g8 g9 g6:Nat}{w w':World}{fd fd':Bool}{en en':Int}(s:SeJ p g3 g8 g9 g6 w fd en)(k:KpP (SQ g8 g9) w w')(h:SeI p g3 g8 g9 w' fd' en'):SeJ p g3 g8 g9 g6 w' fd' en':=
 ⟨h,k.blk s.b6 (fun e=>by
  rcases e with e|e
  ·exact s.ne e
  ·exact Qq s.b6 s.s.b9 de e),s.ne⟩
theorem PkI.swap {p:PkP}{w:World}{A:Option Addr}{c:Nat}{ths:List Th}{sn:List Nat}{mk:Int}{cl:Bool}(h:PkI p w A c ths sn mk cl){S:Option Addr}{ks d:Nat}{xs:List Value}(hs:QQ w p.base 233 3 S ks d xs) :
 PkI p (w.setCell ⟨p.g10,0,none⟩ (.slice S 0 d)) S d [] [] (mk+1) cl:=by
 obtain⟨h1,h2,h3,h4,h5,h6,h7,h8,⟨ms,h9,h10,h10'⟩,h11,h12⟩:=h;have d2:=Qq h2 h6 de;have d3:=Qq h3 h6 de;have d4:=Qq h4 h6 de;have d5:=Qq h5 h6 de;have d9:=Qq h9 h6 de;have b10:Blk (w.setCell ⟨p.g10,0,none⟩ (.slice S 0 d)) p.g10 231 #[.slice S 0 d]:=by simpa using h6.set 0 (.slice S 0 d)
 refine⟨h1.setNew (by show p.w0.heap.size<=p.g10;omega) _,h2.far d2 _,h3.far d3 _,h4.far d4 _,h5.far d5 _,b10,QQ.far hs.zero (QK hs h6 de) _,by simp,⟨ms,h9.far d9 _,h10,fun i hi=>?_⟩,h11,h12⟩;have:=(h10' i hi).2;exact⟨⟨fun e=>om,by simp⟩,om⟩
theorem UI {p:PkP}(w:World)(A:Option Addr)(b:Bool):PT p A w A (w.setCell ⟨p.g13,0,none⟩ (.bool b)):=⟨KpP.set (x:=⟨p.g13,0,none⟩) (KpP.refl _ _) (.inl (.inr (.inr (.inl rfl)))) _,.inl rfl⟩
structure SpO (p:PkP)(w:World)(A S:Option Addr)(d:Nat)(ths:List Th):Prop where
 o:QQ w p.base 233 3 S ths.length d (KW p.n2 ths)
 rg:∀t∈ths,ZC w p.base p.n2 t.A t.c
 ap:∀b,S.map (·.block)=some b->A.map (·.block)≠some b
theorem SpO.ext {p:PkP}{w w':World}{A S:Option Addr}{d:Nat}{ths:List Th}(h:SpO p w A S d ths)(x:Ext w w'):SpO p w' A S d ths:=⟨QQ.ext h.o x,fun t ht=>(h.rg t ht).ext x,h.ap⟩
theorem SpO.keep {p:PkP}{w w':World}{A A' S:Option Addr}{d c:Nat}{ts ths:List Th}{sn:List Nat}{mk:Int}{cl:Bool}(s:SpO p w A S d ts)(h:PkI p w A c ths sn mk cl)(k:PT p A w A' w'):SpO p w' A' S d ts:=by
 obtain⟨ms,hM,_⟩:=h.ms;refine⟨QQ.kp s.o k.kp (fun b hb hq=>?_),fun t ht=>h.reg k.kp (s.rg t ht),fun b hb e=>?_⟩
 ·rcases hq with hq|hq|hq|hq
  ·subst hq;exact QK s.o hM de hb
  ·subst hq;exact QK s.o h.b10 de hb
  ·subst hq;exact QK s.o h.b13 de hb
  ·exact s.ap b hb hq
 ·rcases k.nw with e2|e2
  ·exact s.ap b hb (by rw[<-e2];exact e)
  ·have h1:=e2 b e;have h2:=(QQ.blt s.o hb).1;omega
theorem ZC.see {p:PkP}{g3 g8 g9:Nat}{w w':World}{fd:Bool}{en:Int}{base n2 c:Nat}{A:Option Addr}(h:ZC w base n2 A c)(s:SeI p g3 g8 g9 w fd en)(k:KpP (SQ g8 g9) w w'):ZC w' base n2 A c:=by
 obtain⟨_,s9,⟨st,SA,sn',sc,s8⟩,sl⟩:=s;refine h.kp k (fun b hb=>.inr fun cur e=>?_);rcases hb with rfl|rfl
 ·have e1:=s8.symm.trans e;injection e1 with e1;injection e1 with _ e1;exact absurd e1 de
 ·have e1:=s9.symm.trans e;injection e1 with e1;injection e1 with _ e1;exact absurd e1 de
theorem SpO.see {p:PkP}{g3 g8 g9:Nat}{w w':World}{fd:Bool}{en:Int}{A S:Option Addr}{d:Nat}{ths:List Th}(h:SpO p w A S d ths)(s:SeI p g3 g8 g9 w fd en)(k:KpP (SQ g8 g9) w w'):SpO p w' A S d ths:=by
 refine⟨QQ.kp h.o k (fun b hb e=>?_),fun t ht=>(h.rg t ht).see s k,h.ap⟩;obtain⟨_,s9,⟨st,SA,sn',sc,s8⟩,sl⟩:=s;rcases e with e|e
 ·subst e;exact QK h.o s8 de hb
 ·subst e;exact QK h.o s9 de hb
theorem Cq {p:PkP}{A S:Option Addr}{d:Nat}(w:World):KpP (PQ p A) w (w.setCell ⟨p.g10,0,none⟩ (.slice S 0 d)):=KpP.set (x:=⟨p.g10,0,none⟩) (KpP.refl _ _) (.inl (.inr (.inl rfl))) _
theorem SpO.swap {p:PkP}{w:World}{A S:Option Addr}{c d:Nat}{ths sp:List Th}{sn:List Nat}{mk:Int}{cl:Bool}(h:PkI p w A c ths sn mk cl)(hs:SpO p w A S d sp):SpO p (w.setCell ⟨p.g10,0,none⟩ (.slice S 0 d)) S A c ths:=
 ⟨QQ.far h.o (QK h.o h.b10 de) _,fun t ht=>h.reg (Cq w) (h.rg t ht),fun b hb e=>hs.ap b e hb⟩
theorem RI:∀args w,(callFunc 136 args).run Tryz.prog w=.ok (.enter 136 args) w:=enters_of Tryz.func136 kr rfl
end
