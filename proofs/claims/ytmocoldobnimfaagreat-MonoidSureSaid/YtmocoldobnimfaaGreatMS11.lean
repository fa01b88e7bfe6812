/- Texts of this proof: K15 Z1 J3 J4 J5. -/
import Derived.Test.YtmocoldobnimfaaGreatMS08
import Derived.Test.YtmocoldobnimfaaGreatMS09
set_option linter.all false
set_option maxRecDepth 100000
set_option maxHeartbeats 16000000
namespace Go.Proofs.YtmocoldobnimfaaGreat
section
open Go.RowKit
attribute [local go_sem ↓] Go.wp_at_zero Go.wp_at_succ
def WS (A:Option Addr)(c k:Nat):Option Addr:=if c=k then A else A.map (fun x=>x.add k)
theorem IL.dropN {w:World}{A:Option Addr}{c k:Nat}{xs:List Int}(h:IL w A c xs)(hk:k<=xs.length):IL w (WS A c k) (c-k) (xs.drop k):=by
 have h1:=h.le;have h2:=h.cap;refine⟨by rw[List.length_drop];omega,om,fun x hx=>h.rng x (List.mem_of_mem_drop hx),fun hn=>?_⟩;have hlt:k<xs.length:=by
  rcases Nat.lt_or_ge k xs.length with h3|h3
  ·exact h3
  ·exact absurd (List.drop_eq_nil_of_le h3) hn
 obtain⟨b,o,rfl,hc⟩:=h.at_ (by rintro rfl;simp at hlt);unfold WS;rw[if_neg om];refine⟨b,o+k,by rw[Option.map_some,Addr.add_lit],fun i hi=>?_⟩;rw[List.getElem_drop,Nat.add_assoc];exact hc (k+i) (by rw[List.length_drop] at hi;omega)
theorem AK:(Tryz.prog.info? 82).map (fun i=>(i.zero,i.size,i.bytes))=some (some (.agg #[.int .i64 0,.int .i64 0]),2,16):=by kernel_rfl
def qI (G:List Ins)(R:List St)(op:List Bool)(ts:List Int)(sure:Bool)(i:Nat):Bool:=
 decide (0<=(rrun G (QX G [0]) (ts.drop i) 0).2)&&(!sure || (decide (plc R (rrun G (QX G [0]) (ts.drop i) 0).1<0) || !op.getD (plc R (rrun G (QX G [0]) (ts.drop i) 0).1).toNat false))
def Vw (G:List Ins)(R:List St)(op:List Bool)(ts:List Int)(sure:Bool):Nat->List Sp
 | 0=>[]
 | i+1=>Vw G R op ts sure i++(if qI G R op ts sure i=true then[((i:Int),(i:Int)+(rrun G (QX G [0]) (ts.drop i) 0).2)] else[])
theorem DK (G:List Ins)(R:List St)(op:List Bool)(ts:List Int)(sure:Bool):∀i,(Vw G R op ts sure i).length<=i
 | 0=>Nat.le_refl _
 | i+1=>by
  have:=DK G R op ts sure i;rw[Vw,List.length_append]
  split<;>simp<;>omega
def ZQ (G:List Ins)(R:List St)(op:List Bool)(ts:List Int)(sure:Bool):List Sp:=Vw G R op ts sure (ts.length+1)
def ON (l:List Sp)(w:World)(e:Ending)(w':World):Prop:=∃(A:Option Addr) (c:Nat),e=.returned (.slice A l.length c)/\SL w' A c l/\Ext w w'
theorem SL.of_ownT {w:World}{base T c:Nat}{A:Option Addr}{l:List Sp}(h:QQ w base T 2 A l.length c (Qz l))(hr:∀s∈l,S64 s):SL w A c l:=by
 have hc:=QQ.caps h;refine⟨hc.1,by unfold maxLen;omega,hr,fun hn=>?_⟩;obtain⟨b,o,hA,hcell⟩:=QQ.cells h (by intro e;have:=Q1 l;rw[e] at this;simp at this;exact hn (List.length_eq_zero_iff.1 om));have one:∀(i:Nat) (v:Value),(Qz l)[i]? = some v->w.cell? ⟨b,o+i,none⟩=some v:=fun i v hv=>by
  obtain⟨l1,e1⟩:=List.getElem?_eq_some_iff.1 hv;rw[hcell i l1,e1]
 exact⟨b,o,hA,fun i hi=>⟨one _ _ (ZH l i hi).1,by rw[Nat.add_assoc];exact one _ _ (ZH l i hi).2⟩⟩
end
section
open Go.RowKit
def ZT (T:Nat):Prop:=T=257\/T=3\/T=65
instance (T:Nat):Decidable (ZT T):=by unfold ZT;infer_instance
def ZK (w w':World):Prop:=∃q:Nat->Prop,KpP q w w'/\∀b,q b->∀cur T,w.heap[b]? = some (.cells cur T (0,0))->ZT T
namespace ZK
variable {a b c w w':World}
theorem of_ext (x:Ext w w'):ZK w w':=⟨fun _=>False,KpP.of_ext x,fun _ h=>h.elim⟩
theorem blk {g T:Nat}{ds:Array Value}(k:ZK w w')(h:Blk w g T ds)(hT:¬ZT T):Blk w' g T ds:=by
 obtain⟨q,k,n⟩:=k;exact(k.block g h.lt (fun hq=>hT (n g hq _ _ h))).trans h
end ZK
def SH (p:Option Nat):Value:=.pointer (p.map (fun g=>⟨g,0,none⟩))
def Wx (kind:Int)(n:Nd)(k fr:Int)(p:Option Nat):Array Value:=
 #[.int .i64 kind,.int .i64 n.op,.slice n.A n.l.length n.c,.slice n.K n.ks.length n.kc,.int .i64 n.mn,.int .i64 n.mx,.int .i64 n.md,.int .i64 n.n,.bool n.neg,.int .i64 k,.int .i64 fr,SH p]
inductive Wv (bd:Nat) (w0 w:World) (kb:Int):Nat->Option Nat->Prop
 | nil:Wv bd w0 w kb 0 none
 | mk {n:Nat} {p:Option Nat} (g:Nat) (kind k fr:Int) (nd:Nd) (d:Nat):Blk w g 261 (Wx kind nd k fr p)->Qx bd (fun _=>True) w0 d nd.val->
  (kind=0\/(kind=1/\nd.op=4/\0<=k/\k<=kb)\/(kind=2/\nd.op=4/\0<=k/\k+1<=kb)\/kind=3)->I64 fr->Wv bd w0 w kb n p->Wv bd w0 w kb (n+1) (some g)
namespace Wv
variable {bd n:Nat} {w0 w w':World} {kb kb':Int} {p:Option Nat}
theorem mono (h:Wv bd w0 w kb n p)(hk:kb<=kb'):Wv bd w0 w kb' n p:=by
 induction h with
 | nil=>exact .nil
 | mk g kind k fr nd d h1 h2 h3 h4 _ ih=>exact .mk g kind k fr nd d h1 h2 om h4 ih
theorem zk (h:Wv bd w0 w kb n p)(k:ZK w w'):Wv bd w0 w' kb n p:=by
 induction h with
 | nil=>exact .nil
 | mk g kind k2 fr nd d h1 h2 h3 h4 _ ih=>exact .mk g kind k2 fr nd d (k.blk h1 de) h2 h3 h4 ih
theorem ext (h:Wv bd w0 w kb n p)(x:Ext w w'):Wv bd w0 w' kb n p:=h.zk (ZK.of_ext x)
end Wv
def KY (w:World)(A:Option Addr)(c:Nat)(l:List Sp):Prop:=SL w A c l/\∀b,A.map (·.block)=some b->∃cur,w.heap[b]? = some (.cells cur 82 (0,0))
theorem KY.zk {w w':World}{A:Option Addr}{c:Nat}{l:List Sp}(h:KY w A c l)(k:ZK w w'):KY w' A c l:=by
 obtain⟨q,k,n⟩:=k;have hn:∀b,A.map (·.block)=some b->¬q b:=fun b hb hq=>by
  obtain⟨cur,hh⟩:=h.2 b hb;exact absurd (n b hq cur _ hh) de
 refine⟨h.1.kpZ k (fun _ b hb=>hn b hb),fun b hb=>?_⟩;obtain⟨cur,hh⟩:=h.2 b hb;exact⟨cur,(k.block b (Array.getElem?_eq_some_iff.1 hh).1 (hn b hb)).trans hh⟩
theorem KY.ext {w w':World}{A:Option Addr}{c:Nat}{l:List Sp}(h:KY w A c l)(x:Ext w w'):KY w' A c l:=h.zk (ZK.of_ext x)
structure SrM (w:World)(base gs:Nat)(tA:Option Addr)(tn tc:Nat)(most fuel:Int)(st:Nat)(em:Bool)(ns:Nat):Prop where
 blk:∃(eA:Option Addr) (ec:Nat) (ends:List Int) (cA:Option Addr) (cc:Nat) (cps:List Value),
  Blk w gs 257 #[.slice tA tn tc,.int .i64 most,.int .i64 fuel,.int .i64 st,.bool em,.slice eA ends.length ec,.slice cA cps.length cc]/\
  WO w base 3 eA ec ends/\QQ w base 65 1 cA cps.length cc cps/\ends.length=ns/\cps.length=ns/\(∀x∈ends,I64 x)/\∀v∈cps,∃A n c,v=.slice A n c
 lo:base<=gs
theorem SrM.ext {w w':World}{base gs tn tc st ns:Nat}{tA:Option Addr}{most fuel:Int}{em:Bool}(h:SrM w base gs tA tn tc most fuel st em ns)(x:Ext w w'):SrM w' base gs tA tn tc most fuel st em ns:=by
 obtain⟨⟨eA,ec,ends,cA,cc,cps,h1,h2,h3,h4⟩,h5⟩:=h;exact⟨⟨eA,ec,ends,cA,cc,cps,h1.ext x,QQ.ext h2 x,QQ.ext h3 x,h4⟩,h5⟩
theorem SL.of_blkZ {w:World}{g T:Nat}(l:List Sp)(h:Blk w g T (Qz l).toArray)(hs:∀s∈l,-1000000<=s.1/\s.1<=1000000/\-1000000<=s.2/\s.2<=1000000)(hl:l.length<=1000):SL w (some ⟨g,0,none⟩) l.length l:=by
 refine⟨Nat.le_refl _,by unfold maxLen;omega,fun s hs2=>by have:=hs s hs2;unfold S64 I64;omega,fun _=>⟨g,0,rfl,fun i hi=>?_⟩⟩;obtain⟨h1,h2⟩:=ZH l i hi;rw[h.cell,h.cell];refine⟨?_,?_⟩
 ·rw[Nat.zero_add];simpa using h1
 ·rw[Nat.zero_add];simpa using h2
instance (l:List Sp):Decidable (Vv l):=by unfold Vv;infer_instance
def UU (gr:Nat):Array Value:=#[.slice (some ⟨gr+1,0,none⟩) 1 1,.slice (some ⟨gr+1+1,0,none⟩) 1 1,.slice (some ⟨gr+1+1+1,0,none⟩) 1 1,.slice (some ⟨gr+1+1+1+1,0,none⟩) 1 1,.slice (some ⟨gr+1+1+1+1+1,0,none⟩) 1 1,.slice (some ⟨gr+1+1+1+1+1+1,0,none⟩) 2 2,.slice (some ⟨gr+1+1+1+1+1+1+1,0,none⟩) 2 2,.slice (some ⟨gr+1+1+1+1+1+1+1+1,0,none⟩) 0 0]
def Yv (bd d:Nat)(w0:World)(gm:Nat)(A:Option Addr)(c:Nat)(ls:List Int)(uses B:Int)(w:World)(e:Ending)(w':World):Prop:=
 ∃v:Value,e=.returned v/\Qx bd (fun k=>w.heap.size<=k) w' d v/\MkM w' w0 gm A c ls uses B/\KpP (·=gm) w w'
theorem yZ (w0 w:World)(gm:Nat)(A:Option Addr)(c:Nat)(ls:List Int)(uses B:Int)(h:MkM w w0 gm A c ls uses B)(hB:B<=100000000) :
 Calls Tryz.prog 185 #[.pointer (some ⟨gm,0,none⟩)] w (Yv 3 1 w0 gm A c ls uses (B+1) w):=by
 have hgm:gm<w.heap.size:=by
  obtain⟨_,_,_,_,_,_,hb,_⟩:=h;exact hb.lt
 have H:=lh h;obtain⟨gr,hgr⟩:∃gr,w.heap.size=gr:=⟨_,rfl⟩;clear h;go_enter Tryz.func185,Tryz.ntmps185
 go_upto_region 2 with fail
 have E0:=Ext.alloc w (.cells #[.int .i64 0,.slice none 0 0,.slice none 0 0,.int .i64 0,.int .i64 0,.int .i64 0,.int .i64 0,.bool false] 26);have B0:=Blk.new w 26 #[.int .i64 0,.slice none 0 0,.slice none 0 0,.int .i64 0,.int .i64 0,.int .i64 0,.int .i64 0,.bool false];have S0:(w.alloc (.cells #[.int .i64 0,.slice none 0 0,.slice none 0 0,.int .i64 0,.int .i64 0,.int .i64 0,.int .i64 0,.bool false] 26)).heap.size=gr+1:=by rw[World.size_alloc,hgr]
 rw[hgr] at B0;generalize w.alloc (.cells #[.int .i64 0,.slice none 0 0,.slice none 0 0,.int .i64 0,.int .i64 0,.int .i64 0,.int .i64 0,.bool false] 26)=v0 at *;have E1:=Ext.alloc v0 (.cells #[.int .i64 97,.int .i64 97] 38);have B1:=Blk.new v0 38 #[.int .i64 97,.int .i64 97];have S1:(v0.alloc (.cells #[.int .i64 97,.int .i64 97] 38)).heap.size=gr+1+1:=by rw[World.size_alloc,S0]
 rw[S0] at B1;generalize v0.alloc (.cells #[.int .i64 97,.int .i64 97] 38)=v1 at *;have E2:=Ext.alloc v1 (.cells #[.int .i64 98,.int .i64 98] 38);have B2:=Blk.new v1 38 #[.int .i64 98,.int .i64 98];have S2:(v1.alloc (.cells #[.int .i64 98,.int .i64 98] 38)).heap.size=gr+1+1+1:=by rw[World.size_alloc,S1]
 rw[S1] at B2;generalize v1.alloc (.cells #[.int .i64 98,.int .i64 98] 38)=v2 at *;have E3:=Ext.alloc v2 (.cells #[.int .i64 97,.int .i64 98] 38);have B3:=Blk.new v2 38 #[.int .i64 97,.int .i64 98];have S3:(v2.alloc (.cells #[.int .i64 97,.int .i64 98] 38)).heap.size=gr+1+1+1+1:=by rw[World.size_alloc,S2]
 rw[S2] at B3;generalize v2.alloc (.cells #[.int .i64 97,.int .i64 98] 38)=v3 at *;have E4:=Ext.alloc v3 (.cells #[.int .i64 99,.int .i64 99] 38);have B4:=Blk.new v3 38 #[.int .i64 99,.int .i64 99];have S4:(v3.alloc (.cells #[.int .i64 99,.int .i64 99] 38)).heap.size=gr+1+1+1+1+1:=by rw[World.size_alloc,S3]
 rw[S3] at B4;generalize v3.alloc (.cells #[.int .i64 99,.int .i64 99] 38)=v4 at *;have E5:=Ext.alloc v4 (.cells #[.int .i64 97,.int .i64 99] 38);have B5:=Blk.new v4 38 #[.int .i64 97,.int .i64 99];have S5:(v4.alloc (.cells #[.int .i64 97,.int .i64 99] 38)).heap.size=gr+1+1+1+1+1+1:=by rw[World.size_alloc,S4]
 rw[S4] at B5;generalize v4.alloc (.cells #[.int .i64 97,.int .i64 99] 38)=v5 at *;have E6:=Ext.alloc v5 (.cells #[.int .i64 0,.int .i64 96,.int .i64 98,.int .i64 255] 38);have B6:=Blk.new v5 38 #[.int .i64 0,.int .i64 96,.int .i64 98,.int .i64 255];have S6:(v5.alloc (.cells #[.int .i64 0,.int .i64 96,.int .i64 98,.int .i64 255] 38)).heap.size=gr+1+1+1+1+1+1+1:=by rw[World.size_alloc,S5]
 rw[S5] at B6;generalize v5.alloc (.cells #[.int .i64 0,.int .i64 96,.int .i64 98,.int .i64 255] 38)=v6 at *;have E7:=Ext.alloc v6 (.cells #[.int .i64 10,.int .i64 10,.int .i64 97,.int .i64 97] 38);have B7:=Blk.new v6 38 #[.int .i64 10,.int .i64 10,.int .i64 97,.int .i64 97];have S7:(v6.alloc (.cells #[.int .i64 10,.int .i64 10,.int .i64 97,.int .i64 97] 38)).heap.size=gr+1+1+1+1+1+1+1+1:=by rw[World.size_alloc,S6]
 rw[S6] at B7;generalize v6.alloc (.cells #[.int .i64 10,.int .i64 10,.int .i64 97,.int .i64 97] 38)=v7 at *;have E8:=Ext.alloc v7 (.cells #[] 38);have B8:=Blk.new v7 38 #[];have S8:(v7.alloc (.cells #[] 38)).heap.size=gr+1+1+1+1+1+1+1+1+1:=by rw[World.size_alloc,S7]
 rw[S7] at B8;generalize v7.alloc (.cells #[] 38)=v8 at *;have E9:=Ext.alloc v8 (.cells #[.slice (some ⟨gr+1,0,none⟩) 1 1,.slice (some ⟨gr+1+1,0,none⟩) 1 1,.slice (some ⟨gr+1+1+1,0,none⟩) 1 1,.slice (some ⟨gr+1+1+1+1,0,none⟩) 1 1,.slice (some ⟨gr+1+1+1+1+1,0,none⟩) 1 1,.slice (some ⟨gr+1+1+1+1+1+1,0,none⟩) 2 2,.slice (some ⟨gr+1+1+1+1+1+1+1,0,none⟩) 2 2,.slice (some ⟨gr+1+1+1+1+1+1+1+1,0,none⟩) 0 0] 23);have B9:=Blk.new v8 23 #[.slice (some ⟨gr+1,0,none⟩) 1 1,.slice (some ⟨gr+1+1,0,none⟩) 1 1,.slice (some ⟨gr+1+1+1,0,none⟩) 1 1,.slice (some ⟨gr+1+1+1+1,0,none⟩) 1 1,.slice (some ⟨gr+1+1+1+1+1,0,none⟩) 1 1,.slice (some ⟨gr+1+1+1+1+1+1,0,none⟩) 2 2,.slice (some ⟨gr+1+1+1+1+1+1+1,0,none⟩) 2 2,.slice (some ⟨gr+1+1+1+1+1+1+1+1,0,none⟩) 0 0];have S9:(v8.alloc (.cells #[.slice (some ⟨gr+1,0,none⟩) 1 1,.slice (some ⟨gr+1+1,0,none⟩) 1 1,.slice (some ⟨gr+1+1+1,0,none⟩) 1 1,.slice (some ⟨gr+1+1+1+1,0,none⟩) 1 1,.slice (some ⟨gr+1+1+1+1+1,0,none⟩) 1 1,.slice (some ⟨gr+1+1+1+1+1+1,0,none⟩) 2 2,.slice (some ⟨gr+1+1+1+1+1+1+1,0,none⟩) 2 2,.slice (some ⟨gr+1+1+1+1+1+1+1+1,0,none⟩) 0 0] 23)).heap.size=gr+1+1+1+1+1+1+1+1+1+1:=by rw[World.size_alloc,S8]
 rw[S8] at B9;generalize v8.alloc (.cells #[.slice (some ⟨gr+1,0,none⟩) 1 1,.slice (some ⟨gr+1+1,0,none⟩) 1 1,.slice (some ⟨gr+1+1+1,0,none⟩) 1 1,.slice (some ⟨gr+1+1+1+1,0,none⟩) 1 1,.slice (some ⟨gr+1+1+1+1+1,0,none⟩) 1 1,.slice (some ⟨gr+1+1+1+1+1+1,0,none⟩) 2 2,.slice (some ⟨gr+1+1+1+1+1+1+1,0,none⟩) 2 2,.slice (some ⟨gr+1+1+1+1+1+1+1+1,0,none⟩) 0 0] 23)=v9 at *;replace B0:=(((((((((B0).ext E1).ext E2).ext E3).ext E4).ext E5).ext E6).ext E7).ext E8).ext E9;replace B1:=((((((((B1).ext E2).ext E3).ext E4).ext E5).ext E6).ext E7).ext E8).ext E9;replace B2:=(((((((B2).ext E3).ext E4).ext E5).ext E6).ext E7).ext E8).ext E9;replace B3:=((((((B3).ext E4).ext E5).ext E6).ext E7).ext E8).ext E9;replace B4:=(((((B4).ext E5).ext E6).ext E7).ext E8).ext E9;replace B5:=((((B5).ext E6).ext E7).ext E8).ext E9;replace B6:=(((B6).ext E7).ext E8).ext E9;replace B7:=((B7).ext E8).ext E9;replace B8:=(B8).ext E9;replace B9:=B9;have EX:Ext w v9:=(((((((((E0).trans E1).trans E2).trans E3).trans E4).trans E5).trans E6).trans E7).trans E8).trans E9;have HSL:∀k:Nat,k<8->∃(A:Option Addr) (c:Nat) (l:List Sp),(UU gr)[k]? = some (.slice A l.length c)/\SL v9 A c l/\Vv l/\∀b,A.map (·.block)=some b->gr+1<=b:=by
  intro k hk;have hk2:k=0\/k=1\/k=2\/k=3\/k=4\/k=5\/k=6\/k=7:=om;rcases hk2 with rfl|rfl|rfl|rfl|rfl|rfl|rfl|rfl
  ·exact⟨some ⟨gr+1,0,none⟩,1,[(97,97)],rfl,SL.of_blkZ [(97,97)] B1 de de,by decide,fun b hb=>by simp at hb;omega⟩
  ·exact⟨some ⟨gr+1+1,0,none⟩,1,[(98,98)],rfl,SL.of_blkZ [(98,98)] B2 de de,by decide,fun b hb=>by simp at hb;omega⟩
  ·exact⟨some ⟨gr+1+1+1,0,none⟩,1,[(97,98)],rfl,SL.of_blkZ [(97,98)] B3 de de,by decide,fun b hb=>by simp at hb;omega⟩
  ·exact⟨some ⟨gr+1+1+1+1,0,none⟩,1,[(99,99)],rfl,SL.of_blkZ [(99,99)] B4 de de,by decide,fun b hb=>by simp at hb;omega⟩
  ·exact⟨some ⟨gr+1+1+1+1+1,0,none⟩,1,[(97,99)],rfl,SL.of_blkZ [(97,99)] B5 de de,by decide,fun b hb=>by simp at hb;omega⟩
  ·exact⟨some ⟨gr+1+1+1+1+1+1,0,none⟩,2,[(0,96),(98,255)],rfl,SL.of_blkZ [(0,96),(98,255)] B6 de de,by decide,fun b hb=>by simp at hb;omega⟩
  ·exact⟨some ⟨gr+1+1+1+1+1+1+1,0,none⟩,2,[(10,10),(97,97)],rfl,SL.of_blkZ [(10,10),(97,97)] B7 de de,by decide,fun b hb=>by simp at hb;omega⟩
  ·exact⟨some ⟨gr+1+1+1+1+1+1+1+1,0,none⟩,0,[],rfl,SL.of_blkZ [] B8 de de,by decide,fun b hb=>by simp at hb;omega⟩
 have HM9:=lh (H.out.extW EX);have HB9:Hid (Blk v9 (gr+1+1+1+1+1+1+1+1+1) 23 (UU gr)):=lh B9;have HB0:=lh B0;have HSL9:=lh HSL;clear B0 B1 B2 B3 B4 B5 B6 B7 B8 B9 E0 E1 E2 E3 E4 E5 E6 E7 E8 E9 S0 S1 S2 S3 S4 S5 S6 S7 S8 S9 HSL
 go_wp2_with (go_at_call 184;refine(YG w0 v9 gm A c ls uses B 15 HM9.out hB om om).mono ?_;rintro e w10 ⟨x,rfl,hx0,hx1,M10,K10⟩;have hbk:=K10.blk HB9.out om;obtain⟨A5,c5,l5,e5,s5,o5,g5⟩:=HSL9.out (x / 2).toNat om;have cc:w10.cell? ⟨gr+1+1+1+1+1+1+1+1+1,(x / 2).toNat,none⟩=some (.slice A5 l5.length c5):=(hbk.cell _).trans e5;have b0:=K10.blk HB0.out om;obtain⟨f0,f1,f2,f3,f4,f5,f6,f7⟩:=Kj b0;have HB10:=lh b0;have z0:=b0.cell 0;have z1:=b0.cell 1;have z2:=b0.cell 2;have z3:=b0.cell 3;have z4:=b0.cell 4;have z5:=b0.cell 5;have z6:=b0.cell 6;have z7:=b0.cell 7;clear b0 hbk)
 have hb2:=ZI HB10.out ⟨1,A5,c5,l5,none,0,[],0,0,0,0,false⟩;have hgw:w.heap.size<=gr:=om;have hk2:=WV (p:=(·=gm)) ((KpP.of_ext EX).trans K10) (g:=gr) (.inr hgw) ⟨1,A5,c5,l5,none,0,[],0,0,0,0,false⟩;have K11:=WV (p:=(·=gr)) (KpP.refl _ w10) (g:=gr) (.inl rfl) ⟨1,A5,c5,l5,none,0,[],0,0,0,0,false⟩;change bodyPost _ _ _ _ _ (WW w10 gr ⟨1,A5,c5,l5,none,0,[],0,0,0,0,false⟩);generalize WW w10 gr ⟨1,A5,c5,l5,none,0,[],0,0,0,0,false⟩=w11 at *;obtain⟨r0,r1,r2,r3,r4,r5,r6,r7⟩:=Wk hb2;simp only[List.length_nil] at r2;have M11:=M10.kpR K11 om (by have:=H.out.ext.size;omega);refine bodyPost_ret (v:=Nd.val ⟨1,A5,c5,l5,none,0,[],0,0,0,0,false⟩) (by simp[results,Tryz.results185,go_sem,r0,r1,r2,r3,r4,r5,r6,r7,Nd.val]) rfl ⟨_,rfl,?_,M11,hk2⟩;rw[hgr];refine .mk _ ⟨.inr (.inl rfl),by simp,by simp,by simp,by simp,by simp,by simp,by simp,by simp,o5⟩ ?_ si si (fun h=>by simp at h) si (fun _ b hb=>by have:=g5 b hb;omega) si;exact(s5.kpZ K10 (fun _ b hb e=>by have:=g5 b hb;omega)).kpZ K11 (fun _ b hb e=>by have:=g5 b hb;omega)
def qL (w:World)(e:Ending)(w':World):Prop:=∃b:Bool,e=.returned (.bool b)/\Ext w w'
theorem YU {bd:Nat}{S:Nat->Prop}{w:World}{d:Nat}{K:Option Addr}{ks:List Value}(hc:QP w K (ks.flatMap Q8))(ht:∀u∈ks,Qx bd S w d u){i:Nat}(hi:i<ks.length) :
 ∃b o,K=some ⟨b,o,none⟩/\∃n:Nd,Qx bd S w d n.val/\w.cell? ⟨b,o+i*8,none⟩=some (.int .i64 n.op)/\w.cell? ⟨b,o+i*8+1,none⟩=some (.slice n.A n.l.length n.c)/\w.cell? ⟨b,o+i*8+2,none⟩=some (.slice n.K n.ks.length n.kc)/\
  w.cell? ⟨b,o+i*8+3,none⟩=some (.int .i64 n.mn)/\w.cell? ⟨b,o+i*8+4,none⟩=some (.int .i64 n.mx)/\w.cell? ⟨b,o+i*8+5,none⟩=some (.int .i64 n.md)/\w.cell? ⟨b,o+i*8+6,none⟩=some (.int .i64 n.n)/\w.cell? ⟨b,o+i*8+7,none⟩=some (.bool n.neg):=by
 obtain⟨b,o,hK,n,hn,hcl⟩:=OQ hc ht hi;exact⟨b,o,hK,n,hn▸ht _ (List.getElem_mem hi),hcl 0 om,hcl 1 om,hcl 2 om,hcl 3 om,hcl 4 om,hcl 5 om,hcl 6 om,hcl 7 om⟩
theorem eD {P:Prop} (h:P:=by
 go_wp2_with (go_at_call 107;refine(HCALL _ (by first|exact Ext.rfl' _|exact Ext.drewN _ _)).out.mono ?_;rintro e w3 ⟨b3,rfl,x3⟩)
 go_ret
 exact⟨_,rfl,E0.trans x3⟩):P:=h
theorem kL (bd:Nat)(S:Nat->Prop):∀(d:Nat) (w:World) (v:Value),Qx bd S w d v->Calls Tryz.prog 107 #[v] w (qL w):=by
 intro d;induction d with
 | zero=>intro w v h;obtain⟨e,he⟩:=h.pos;omega
 | succ d ih=>
  intro w v h;obtain⟨n,rfl,hok,hsl,hkl,hkc,hcl,hks⟩:=h.node;obtain⟨op,A,c,l,K,kc,ks,mn,mx,md,nn,neg⟩:=n;have hop:=hok.op
  simp only at hop hsl hkl hkc hcl hks
  unfold Nd.val
  simp only
  have HIH:=lh ih;have HOK:=lh hok;clear ih h hok;have B0:=Blk.new w 26 #[.int .i64 op,.slice A l.length c,.slice K ks.length kc,.int .i64 mn,.int .i64 mx,.int .i64 md,.int .i64 nn,.bool neg];have E0:=Ext.alloc w (.cells #[.int .i64 op,.slice A l.length c,.slice K ks.length kc,.int .i64 mn,.int .i64 mx,.int .i64 md,.int .i64 nn,.bool neg] 26);have HC:=lh (hcl.ext E0);have HK:=lh (fun u hu=>(hks u hu).ext E0);have HKL:ks.length<=kc/\kc<=9223372036854775807:=⟨hkl,by unfold maxLen at hkc;omega⟩;clear hcl hks hsl hkl hkc;go_enter Tryz.func107,Tryz.ntmps107
  go_upto_region 1 with fail
  obtain⟨gx,hgx⟩:∃gx,gx=w.heap.size:=⟨_,rfl⟩
  rw[<-hgx] at B0 ⊢;clear hgx;generalize w.alloc (.cells #[.int .i64 op,.slice A l.length c,.slice K ks.length kc,.int .i64 mn,.int .i64 mx,.int .i64 md,.int .i64 nn,.bool neg] 26)=wa at *;have z0:wa.cell? ⟨gx,0,none⟩=some (.int .i64 op):=B0.cell 0;have z2:wa.cell? ⟨gx,2,none⟩=some (.slice K ks.length kc):=B0.cell 2;have z3:wa.cell? ⟨gx,3,none⟩=some (.int .i64 mn):=B0.cell 3;by_cases h1:op=1
  ·subst h1
   go_wp2_with fail
   go_ret
   exact⟨_,rfl,E0⟩
  ·by_cases h2:op=2
   ·subst h2
    go_upto_region 6 with fail
    go_loopw [3] (fun v wr=>∃i:Nat,v=.int .i64 i/\i<=ks.length/\Ext wa wr) (fun v _=>ks.length-(intOf v).toNat)
    case atStart=>exact⟨0,rfl,om,Ext.rfl' _⟩
    case round=>
     obtain⟨i,rfl,hi,x1⟩:=hrel;have z2r:=x1.cell z2;by_cases hlt:i<ks.length
     ·have hiI:(i:Int)<ks.length:=om;obtain⟨b,o,hK,n,ht,k0,k1,k2,k3,k4,k5,k6,k7⟩:=YU (HC.out.ext x1) (fun u hu=>(HK.out u hu).ext x1) hlt;have hK':=hK;subst hK';have HT:=lh ht;clear ht
      go_wp2_with (go_at_call 107;refine(HIH.out wr _ HT.out).mono ?_;rintro e w3 ⟨b3,rfl,x3⟩;cases b3)
      ·go_ret
       exact⟨_,rfl,E0.trans (x1.trans x3)⟩
      ·go_roundw
       case rel=>exact⟨i+1,by go_num,om,x1.trans x3⟩
       case measure=>simp[intOf];omega
     ·have hiI:¬(i:Int)<ks.length:=om
      go_wp2_with fail
      go_ret
      exact⟨_,rfl,E0.trans x1⟩
   ·by_cases h3:op=3
    ·subst h3
     go_upto_region 14 with fail
     go_loopw [4] (fun v wr=>∃i:Nat,v=.int .i64 i/\i<=ks.length/\Ext wa wr) (fun v _=>ks.length-(intOf v).toNat)
     case atStart=>exact⟨0,rfl,om,Ext.rfl' _⟩
     case round=>
      obtain⟨i,rfl,hi,x1⟩:=hrel;have z2r:=x1.cell z2;by_cases hlt:i<ks.length
      ·have hiI:(i:Int)<ks.length:=om;obtain⟨b,o,hK,n,ht,k0,k1,k2,k3,k4,k5,k6,k7⟩:=YU (HC.out.ext x1) (fun u hu=>(HK.out u hu).ext x1) hlt;have hK':=hK;subst hK';have HT:=lh ht;clear ht
       go_wp2_with (go_at_call 107;refine(HIH.out wr _ HT.out).mono ?_;rintro e w3 ⟨b3,rfl,x3⟩;cases b3)
       ·go_roundw
        case rel=>exact⟨i+1,by go_num,om,x1.trans x3⟩
        case measure=>simp[intOf];omega
       ·go_ret
        exact⟨_,rfl,E0.trans (x1.trans x3)⟩
      ·have hiI:¬(i:Int)<ks.length:=om
       go_wp2_with fail
       go_ret
       exact⟨_,rfl,E0.trans x1⟩
    ·by_cases h45:op=4\/op=5
     ·have hk1:=HOK.out.one h45
      simp only at hk1
      have hk0:0<ks.length:=om;have hkI:(0:Int)<ks.length:=om;obtain⟨b,o,hK,n,ht,k0,k1,k2,k3,k4,k5,k6,k7⟩:=YU HC.out HK.out hk0;have hK':=hK;subst hK';simp only[Nat.zero_mul,Nat.add_zero] at k0 k1 k2 k3 k4 k5 k6 k7;have HT:=lh ht;have HCALL:=fun(w':World) (x:Ext wa w')=>lh (HIH.out w' _ (HT.out.ext x));clear ht;rcases h45 with h4|h5
      ·subst h4;by_cases hm:mn<=0
       ·have hm2:decide (mn<=0)=true:=by simp[hm]
        go_wp2_with fail
        go_ret
        exact⟨_,rfl,E0⟩
       ·have hm2:decide (mn<=0)=false:=by simp[hm]
        exact eD
      ·subst h5;exact eD
     ·have h06:op=0\/op=11:=om;rcases h06 with rfl|rfl
      ·go_wp2_with fail
       go_ret
       exact⟨_,rfl,E0⟩
      ·go_wp2_with fail
       go_ret
       exact⟨_,rfl,E0⟩
end
section
open Go.RowKit
attribute [local go_sem ↓] Go.wp_at_zero Go.wp_at_succ
def ZB:Nat->Int
 | 0=>5
 | d+1=>3*ZB d+10
theorem YK:∀d,5<=ZB d
 | 0=>by simp[ZB]
 | d+1=>by have:=YK d;simp only[ZB];omega
def reZ:Value:=.agg #[.int .i64 0,.slice none 0 0,.slice none 0 0,.int .i64 0,.int .i64 0,.int .i64 0,.int .i64 0,.bool false]
def KU (uses:Int):Prop:=Go.bits BinOp.and IntKind.i64 uses 1=0/\Go.bits BinOp.and IntKind.i64 uses 2=0/\Go.bits BinOp.and IntKind.i64 uses 4=0/\Go.bits BinOp.and IntKind.i64 uses 8=0/\Go.bits BinOp.and IntKind.i64 uses 32=0
theorem eE:(Tryz.prog.info? 26).map (fun i=>(i.zero,i.size,i.bytes))=some (some reZ,8,96):=by kernel_rfl
theorem Nd.one (n:Nd):∀u∈n.cs,u.oneCell'=true:=by
 intro u hu;simp only[Nd.cs,List.mem_cons,List.not_mem_nil,or_false] at hu;rcases hu with rfl|rfl|rfl|rfl|rfl|rfl|rfl|rfl<;>rfl
def bQ (d:Nat)(w0:World)(gm:Nat)(A:Option Addr)(c:Nat)(ls:List Int)(uses B:Int)(w:World)(e:Ending)(w':World):Prop:=
 ∃(K:Option Addr) (kc:Nat) (ks:List Value),e=.returned (.slice K ks.length kc)/\2<=ks.length/\ks.length<=3/\ks.length<=kc/\kc<=maxLen/\QP w' K (ks.flatMap Q8)/\(∀u∈ks,Qx 3 (fun k=>w.heap.size<=k) w' d u)/\
  (∀k,K.map (·.block)=some k->w.heap.size<=k)/\MkM w' w0 gm A c ls uses B/\KpP (·=gm) w w'
structure KdI (wr w:World)(d gm:Nat)(K:Option Addr)(kc:Nat)(ks:List Value):Prop where
 own:QQ wr w.heap.size 26 8 K ks.length kc (ks.flatMap Q8)
 tr:∀u∈ks,Qx 3 (fun k=>w.heap.size<=k/\K.map (·.block)≠some k) wr d u
 kp:KpP (·=gm) w wr
 gm:gm<w.heap.size
theorem MkM.kpq {w w' w0:World}{gm:Nat}{A:Option Addr}{c:Nat}{ls:List Int}{uses B:Int}{q:Nat->Prop}(h:MkM w w0 gm A c ls uses B)(k:KpP q w w')(hq:∀i,q i->i≠gm/\w0.heap.size<=i):MkM w' w0 gm A c ls uses B:=by
 obtain⟨h1,h2,h3,at_,left,caps,h4,h5⟩:=h;exact⟨h1.kp k (fun i hi=>(hq i hi).2),h2,h3,at_,left,caps,k.blk h4 (fun hi=>(hq gm hi).1 rfl),h5⟩
theorem KdI.start (w:World)(d gm:Nat)(h:gm<w.heap.size):KdI w w d gm none 0 []:=⟨QQ.nil _ _ _ _,by simp,KpP.refl _ _,h⟩
theorem KdI.gmk {wr wr' w:World}{d gm:Nat}{K:Option Addr}{kc:Nat}{ks:List Value}(h:KdI wr w d gm K kc ks)(k:KpP (·=gm) wr wr'):KdI wr' w d gm K kc ks:=by
 have hg:=h.gm;refine⟨QQ.kp h.own k (fun b hb e=>?_),fun u hu=>(h.tr u hu).kp k (fun i hi hs=>?_),h.kp.trans k,h.gm⟩
 ·have:=QQ.row h.own b hb;have e':b=gm:=e;omega
 ·have e':i=gm:=hi;omega
theorem KdI.push {w4 w8 w:World}{d gm:Nat}{K A8:Option Addr}{kc c8:Nat}{ks:List Value}{v:Value}(h:KdI w4 w d gm K kc ks)(hv:Qx 3 (fun k=>w.heap.size<=k/\K.map (·.block)≠some k) w4 d v){o:Obj}
 (hg:(w4.alloc o).grownBy w8 (K.map (·.block))) (ho:QQ w8 w.heap.size 26 8 A8 (ks.length+1) c8 (ks.flatMap Q8++Q8 v)) (hat:A8.map (·.block)=K.map (·.block)\/A8.map (·.block)=some (w4.alloc o).heap.size):KdI w8 w d gm A8 c8 (ks++[v]):=by
 have X:=Ext.alloc w4 o;have kk:=KpP.of_grown hg;have hlt:∀u,Qx 3 (fun k=>w.heap.size<=k/\K.map (·.block)≠some k) w4 d u->Qx 3 (fun k=>w.heap.size<=k/\A8.map (·.block)≠some k) w8 d u:=fun u hu=>by
  have h1:Qx 3 (fun k=>(w.heap.size<=k/\A8.map (·.block)≠some k)/\K.map (·.block)≠some k) (w4.alloc o) d u:=(hu.ext X).imp (fun k hk hs=>⟨⟨hk.1,fun e=>?_⟩,hk.2⟩)
  ·exact(h1.kp kk (fun i hi hs=>hs.2 hi)).imp (fun k hk _=>hk.1)
  ·rcases hat with e2|e2
   ·rw[e2] at e;exact hk.2 e
   ·rw[e2] at e;injection e with e;omega
 refine⟨?_,fun u hu=>?_,(h.kp.trans (KpP.of_ext X)).chain kk (fun i hi=>.inr (QQ.row h.own i hi)),h.gm⟩
 ·rw[List.length_append,List.flatMap_append]
  simpa using ho
 ·rcases List.mem_append.1 hu with hu|hu
  ·exact hlt u (h.tr u hu)
  ·have:u=v:=by simpa using hu
   subst this;exact hlt u hv
theorem DV (d:Nat)(w0:World)(gm:Nat)(A:Option Addr)(c:Nat)(ls:List Int)(uses:Int)(hd:d<=100)
 (IH:∀(w:World) (B:Int),MkM w w0 gm A c ls uses B->B+ZB d<=100000000->Calls Tryz.prog 149 #[.pointer (some ⟨gm,0,none⟩),.int .i64 d] w (Yv 3 (d+1) w0 gm A c ls uses (B+ZB d) w))
 (w:World) (B:Int) (h:MkM w w0 gm A c ls uses B) (hB:B+3*ZB d+4<=100000000) :
 Calls Tryz.prog 186 #[.pointer (some ⟨gm,0,none⟩),.int .i64 ((d:Int)+1)] w (bQ (d+1) w0 gm A c ls uses (B+3*ZB d+4) w):=by
 have hgm:gm<w.heap.size:=by
  obtain⟨_,_,_,_,_,_,hb,_⟩:=h;exact hb.lt
 have hT:=YK d;have HSW:=lh h.ext.size;generalize ZB d=T at *;have H0:=lh h;have HI0:=lh (KdI.start w (d+1) gm hgm);have HIH:=lh IH;clear IH h;obtain⟨iR,jR0,jR1,jR2,jR3⟩:=info_parts eE;have ewd:IntKind.i64.wrap ((d:Int)+1-1)=(d:Int):=wj;go_enter Tryz.func186,Tryz.ntmps186
 go_upto_region 3 with fail
 go_loopw [5,6] (fun v5 v6 wr=>∃(K:Option Addr) (kc:Nat) (ks:List Value),v6=.int .i64 ks.length/\v5=.slice K ks.length kc/\ks.length<=3/\Hid (KdI wr w (d+1) gm K kc ks)/\Hid (MkM wr w0 gm A c ls uses (B+(T+1)*ks.length))) (fun _ v _=>3-(intOf v).toNat)
 case atStart=>exact⟨none,0,[],rfl,rfl,by simp,HI0,lh (by have h:=H0.out;simpa using h)⟩
 case round=>
  obtain⟨K,kc,ks,rfl,rfl,hk3,HI,HM⟩:=hrel;clear H0 HI0;have hTm:(T+1)*(ks.length:Int)<=(T+1)*3:=Int.mul_le_mul_of_nonneg_left om om
  go_upto_region 5 with(go_at_call 184;refine(YG w0 wr gm A c ls uses _ 2 HM.out om om om).mono ?_;rintro e w3 ⟨x,rfl,hx0,hx1,M3,K3⟩)
  ·have hlt':(ks.length:Int)<2+x:=by first|assumption|simpa using ‹decide _=true›
   have hk2:ks.length<=2:=om;have HI3:=lh (HI.out.gmk K3);have HM3:=lh M3;have hTm2:(T+1)*(ks.length:Int)<=(T+1)*2:=Int.mul_le_mul_of_nonneg_left om om;clear HI HM M3 K3
   go_wp2_with (first|(go_at_call 149;refine(HIH.out w3 _ HM3.out om).mono ?_;rintro e w4 ⟨v,rfl,hv,M4,K4⟩;obtain⟨nd,hnd,_⟩:=hv.node;subst hnd;have HV:=lh hv;have HM4:=lh M4;have HI4:=lh (HI3.out.gmk K4);have HS4:w.heap.size<=w4.heap.size:=HI4.out.kp.size;clear hv M4;unfold Nd.val)|(at_builtin;refine Qv _ rfl _ _ _ rfl w.heap.size 26 iR reZ 8 96 Tryz.underlying24 jR0 jR1 jR2 jR3 rfl om K ks.length kc (ks.flatMap Q8) rfl (QQ.ext HI4.out.own (Ext.alloc _ _)) _ 1 1 nd.cs rfl rfl (QC (Blk.new _ _ _)) nd.one um om (Nat.le_trans HS4 (Ext.alloc _ _).size) ?_;intro A8 c8 w8 ho8 hg8 hat8))
   have HI8:=lh (HI4.out.push (HV.out.imp (fun k hk _=>⟨by have:=HI3.out.kp.size;omega,fun e=>by have:=(QQ.blt HI3.out.own e).1;omega⟩)) hg8 ho8 hat8);have HM8:=lh ((HM4.out.extW (Ext.alloc w4 _)).kpq (KpP.of_grown hg8) (fun i hi=>by have:=QQ.row HI4.out.own i hi;have:=HI4.out.gm;have:=HSW.out;omega));have e1:(ks++[nd.val]).length=ks.length+1:=by simp
   have hmul:(T+1)*((ks.length+1:Nat):Int)=(T+1)*(ks.length:Int)+(T+1):=by rw[Int.natCast_succ,Int.mul_add];omega
   go_roundw
   case rel=>exact⟨A8,c8,ks++[nd.val],by rw[e1];go_num,by rw[e1],om,HI8,by rw[e1,hmul];exact lh (HM8.out.mono om)⟩
   case measure=>simp[intOf];omega
  ·have hlt':¬(ks.length:Int)<2+x:=by first|assumption|omega|simpa using ‹¬decide _=true›
   go_ret
   refine⟨K,kc,ks,rfl,om,hk3,(QQ.caps HI.out.own).1,by have:=(QQ.caps HI.out.own).2;unfold maxLen;omega,?_,fun u hu=>?_,?_,M3.mono om,HI.out.kp.trans K3⟩
   ·exact QQ.cells (HI.out.gmk K3).own
   ·exact((HI.out.gmk K3).tr u hu).imp (fun k hk _=>hk.1)
   ·exact QQ.row HI.out.own
end
