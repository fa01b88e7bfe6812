/- Texts of this proof: P6 P9 Z1 J3 J4 Z2 Z3 C2 J5 J6 TX C1 C3 C5. -/
import Derived.Test.YtmocoldobnimfaaGreatU15
import Derived.Laws.BytesArg
import Derived.Laws.StructEq
set_option linter.all false
set_option maxRecDepth 100000
set_option maxHeartbeats 16000000
namespace Go.Proofs.YtmocoldobnimfaaGreat
section
open Go.RowKit
theorem bytes_beq (a b:ByteArray):(a == b)=decide (a=b):=by
 rw[beq_toListBytes,ByteArray.toList_eq,ByteArray.toList_eq];obtain⟨⟨x⟩⟩:=a;obtain⟨⟨y⟩⟩:=b;rw[Bool.eq_iff_iff]
 simp
theorem findNow_str (x:ByteArray):∀(es:List MapEntry) (ks:List ByteArray) (j:Nat),es.map (·.key)=ks.map Value.string→
 Instr.findNow .string (.string x) es j=some ((ks.findIdx? (fun y=>decide (y=x))).map fun i=>(j+i,((es[i]?).map (·.val)).getD undef))
 | [],[],_,_=>by simp[Instr.findNow]
 | [],_::_,_,h=>by simp at h
 | _::_,[],_,h=>by simp at h
 | e::es,y::ks,j,h=>by
  simp only[List.map_cons,List.cons.injEq] at h;simp only[Instr.findNow,h.1,Instr.sameNow,bytes_beq];have ih:=findNow_str x es ks (j+1) h.2;by_cases hxy:x=y
  ·subst hxy;simp[List.findIdx?_cons]
  ·have e2:¬y=x:=fun e=>hxy e.symm;simp only[hxy,decide_false,ih,List.findIdx?_cons,e2,Bool.false_eq_true,if_false,Option.map_map]
   congr 2
   funext i
   simp only[Function.comp,List.getElem?_cons_succ]
   congr 1;omega
theorem str_klaw {P:Program}{k:TypeId}(hk:P.underlying k=some .string):KLaw P k Value.string where
 check:=fun e x w=>by
  unfold Instr.checkKey;simp[Sem.run_bind,run_underlying hk]
 find:=fun x es ks h w=>by
  have e:(ks.findIdx? (fun y=>decide (y=x)))=ks.findIdx? (@BEq.beq ByteArray instBEqOfDecidableEq · x):=rfl;unfold Instr.findKey;simp only[Sem.run_bind,run_underlying hk,Result.andThen_ok,findNow_str x es ks 0 h,e]
  simp
 same:=fun x=>by simp[Instr.sameBits,bytes_beq]
def keyB (l:List Nat):List Int:=l.flatMap (fun i=>[((i / 256 % 256:Nat):Int),((i % 256:Nat):Int)])
theorem keyB_len (l:List Nat):(keyB l).length=2*l.length:=by
 induction l with
 | nil=>rfl
 | cons x l ih=>simp only[keyB,List.flatMap_cons,List.length_append] at *;simp only[List.length_cons,List.length_nil];omega
theorem keyB_u8 (l:List Nat):∀b∈keyB l,0≤b∧b<256:=by
 intro b hb;obtain⟨i,_,hb⟩:=List.mem_flatMap.1 hb;simp only[List.mem_cons,List.not_mem_nil,or_false] at hb;omega
theorem keyB_inj:∀{l m:List Nat},(∀i∈l,i<65536)→(∀i∈m,i<65536)→keyB l=keyB m→l=m
 | [],[],_,_,_=>rfl
 | [],y::m,_,_,h=>by simp[keyB] at h
 | x::l,[],_,_,h=>by simp[keyB] at h
 | x::l,y::m,hl,hm,h=>by
  have e1:keyB (x::l)=((x / 256 % 256:Nat):Int)::((x % 256:Nat):Int)::keyB l:=by simp[keyB]
  have e2:keyB (y::m)=((y / 256 % 256:Nat):Int)::((y % 256:Nat):Int)::keyB m:=by simp[keyB]
  rw[e1,e2,List.cons.injEq,List.cons.injEq] at h;obtain⟨h1,h2,h3⟩:=h;have hx:=hl x si;have hy:=hm y si;have:x=y:=om;rw[this,keyB_inj (fun i hi=>hl i (by simp[hi])) (fun i hi=>hm i (by simp[hi])) h3]
theorem strOf_inj {xs ys:List Int}(hx:∀b∈xs,0≤b∧b<256)(hy:∀b∈ys,0≤b∧b<256)(h:strOfNums xs=strOfNums ys):xs=ys:=by
 have h1:=congrArg (fun b=>b.data.toList) h;simp only[strOfNums_data] at h1;induction xs generalizing ys with
 | nil=>
  cases ys with
  | nil=>rfl
  | cons y ys=>simp at h1
 | cons x xs ih=>
  cases ys with
  | nil=>simp at h1
  | cons y ys=>
   simp only[List.map_cons,List.cons.injEq] at h1;have hx1:=hx x si;have hy1:=hy y si;have e:=congrArg UInt8.toNat h1.1;simp only[UInt8.toNat_ofNat'] at e;have e2:x=y:=om;rw[e2,ih (fun b hb=>hx b (by simp[hb])) (fun b hb=>hy b (by simp[hb])) (by simp[strOfNums,h1.2]) h1.2]
def keyS (l:List Nat):ByteArray:=strOfNums (keyB l)
theorem keyS_inj {l m:List Nat}(hl:∀i∈l,i<65536)(hm:∀i∈m,i<65536)(h:keyS l=keyS m):l=m:=
 keyB_inj hl hm (strOf_inj (keyB_u8 l) (keyB_u8 m) h)
theorem keyS_find {L:List (List Nat)}(hL:∀l∈L,∀i∈l,i<65536){l:List Nat}(hl:∀i∈l,i<65536) :
 (L.zipIdx.map (fun p=>(keyS p.1,(p.2:Int)))).find? (fun p=>decide (p.1=keyS l))=if l∈L then some (keyS l,(L.idxOf l:Int)) else none:=by
 have gen:∀(L:List (List Nat)) (j:Nat),(∀l∈L,∀i∈l,i<65536)→((L.zipIdx j).map (fun p=>(keyS p.1,(p.2:Int)))).find? (fun p=>decide (p.1=keyS l))=if l∈L then some (keyS l,((j+L.idxOf l:Nat):Int)) else none:=by
  intro L;induction L with
  | nil=>intro j _;rfl
  | cons m L ih=>
   intro j hL;rw[List.zipIdx_cons,List.map_cons,List.find?_cons];by_cases hml:m=l
   ·subst hml;simp[List.idxOf_cons]
   ·have h1:¬keyS m=keyS l:=fun e=>hml (keyS_inj (hL m si) hl e);simp only[h1,decide_false];rw[ih (j+1) (fun l hl=>hL l (by simp[hl]))];have h2:(m == l)=false:=by rw[beq_eq_false_iff_ne];exact hml
    have h3:¬l=m:=fun e=>hml e.symm;simp only[List.mem_cons,h3,false_or,List.idxOf_cons,h2,cond_false]
    split
    ·congr 2;omega
    ·rfl
 have:=gen L 0 hL
 simpa using this
end
section
def befR (nx:Nat→Nat→Int)(s k t:Nat):List Nat:=((List.range k).filter (fun j=>decide (nx s j=(t:Int)))).map (fun _=>s)
def bef (nx:Nat→Nat→Int)(m i t:Nat):List Nat:=(List.range i).flatMap (fun s=>befR nx s m t)
def befK (nx:Nat→Nat→Int)(m i k t:Nat):List Nat:=bef nx m i t++befR nx i k t
section
variable {nx:Nat→Nat→Int} {m i k t:Nat}
theorem befK_zero:befK nx m i 0 t=bef nx m i t:=by simp[befK,befR]
theorem befK_all:befK nx m i m t=bef nx m (i+1) t:=by simp[befK,bef,List.range_succ]
theorem befK_yes (h:nx i k=(t:Int)):befK nx m i (k+1) t=befK nx m i k t++[i]:=by
 simp[befK,befR,List.range_succ,List.filter_append,h]
theorem befK_no (h:nx i k≠(t:Int)):befK nx m i (k+1) t=befK nx m i k t:=by
 simp[befK,befR,List.range_succ,List.filter_append,h]
theorem befR_mem {p s:Nat}:p∈befR nx s k t↔p=s∧StpI nx k s t:=by
 unfold befR StpI;simp only[List.mem_map,List.mem_filter,List.mem_range,decide_eq_true_eq];constructor
 ·rintro⟨j,⟨h1,h2⟩,rfl⟩;exact⟨rfl,j,h1,h2⟩
 ·rintro⟨rfl,j,h1,h2⟩;exact⟨j,⟨h1,h2⟩,rfl⟩
theorem bef_mem {n p:Nat}:p∈bef nx m n t↔p<n∧StpI nx m p t:=by
 unfold bef;simp only[List.mem_flatMap,List.mem_range,befR_mem];constructor
 ·rintro⟨s,h1,rfl,h2⟩;exact⟨h1,h2⟩
 ·rintro⟨h1,h2⟩;exact⟨p,h1,rfl,h2⟩
theorem befR_len:∀k,(befR nx i k t).length≤k:=fun k=>by
 unfold befR;rw[List.length_map];exact Nat.le_trans (List.length_filter_le _ _) si
theorem bef_len:∀i,(bef nx m i t).length≤i*m
 | 0=>by simp[bef]
 | i+1=>by
  have h:=bef_len i;have h2:(bef nx m (i+1) t).length=(bef nx m i t).length+(befR nx i m t).length:=by simp[bef,List.range_succ]
  have h3:(befR nx i m t).length≤m:=befR_len m;rw[h2,Nat.succ_mul];omega
theorem befK_len:(befK nx m i k t).length≤i*m+k:=by
 unfold befK;have h:=bef_len (nx:=nx) (m:=m) (t:=t) i;have h3:(befR nx i k t).length≤k:=befR_len k;rw[List.length_append];omega
def befL (nx:Nat→Nat→Int)(m i k n:Nat):List (List Nat):=(List.range n).map (befK nx m i k)
theorem befL_len {n:Nat}:(befL nx m i k n).length=n:=by simp[befL]
theorem befL_get {n:Nat}(h:t<(befL nx m i k n).length):(befL nx m i k n)[t]=befK nx m i k t:=by simp[befL]
theorem befL_start {n:Nat}:befL nx m 0 0 n=List.replicate n []:=by
 refine List.ext_getElem (by simp[befL]) (fun j h1 h2=>?_);simp[befL,befK,bef,befR]
theorem befL_row {n:Nat}:befL nx m i m n=befL nx m (i+1) 0 n:=by
 unfold befL;refine List.map_congr_left (fun t _=>?_);rw[befK_all,befK_zero]
theorem befL_no {n:Nat}(h:nx i k<0):befL nx m i (k+1) n=befL nx m i k n:=by
 unfold befL;refine List.map_congr_left (fun t _=>?_);exact befK_no om
theorem befL_yes {n:Nat}(h:nx i k=(t:Int)):(befL nx m i k n).set t (befK nx m i k t++[i])=befL nx m i (k+1) n:=by
 refine List.ext_getElem (by simp[befL]) (fun j h1 h2=>?_);rw[List.getElem_set];by_cases e:t=j
 ·subst e;rw[if_pos rfl,befL_get,befK_yes h]
 ·rw[if_neg e,befL_get,befL_get,befK_no om]
end
def Mk1 (op:List Bool)(x:Nat):Prop:=op.getD x false=true
theorem Mk1.set {op:List Bool}{s:Nat}(hs:s<op.length)(x:Nat):Mk1 (op.set s true) x↔Mk1 op x∨x=s:=by
 unfold Mk1;simp only[List.getD_eq_getElem?_getD,List.getElem?_set];by_cases e:s=x
 ·subst e;simp[hs]
 ·have e2:¬x=s:=fun h=>e h.symm;simp[e,e2]
def cntF (op:List Bool):Nat:=(op.filter (fun b=>!b)).length
theorem cntF_set:∀{op:List Bool} {s:Nat} (hs:s<op.length),op[s]=false→cntF (op.set s true)+1=cntF op
 | b::r,0,_,h=>by
  have h':b=false:=h;subst h';simp[cntF]
 | b::r,s+1,hs,h=>by
  have h1:=cntF_set (op:=r) (s:=s) (by simpa using hs) (by simpa using h);unfold cntF at h1 ⊢
  cases b<;>simp at h1 ⊢<;>omega
theorem cntF_mono:∀{op op':List Bool},op.length=op'.length→(∀x,Mk1 op x→Mk1 op' x)→cntF op'≤cntF op
 | [],[],_,_=>Nat.le_refl _
 | [],_::_,h,_=>by simp at h
 | _::_,[],h,_=>by simp at h
 | b::r,b'::r',hl,h=>by
  have h1:=cntF_mono (op:=r) (op':=r') (by simpa using hl) (fun x hx=>by
   have:=h (x+1) (by simpa[Mk1] using hx)
   simpa[Mk1] using this)
  have h0:=h 0;simp[Mk1] at h0;unfold cntF at h1 ⊢
  cases b<;>cases b'<;>simp at h0 h1 ⊢<;>omega
end
section
open Go.RowKit
def ZT (T:Nat):Prop:=T=257∨T=3∨T=65
instance (T:Nat):Decidable (ZT T):=by unfold ZT;infer_instance
def ZK (w w':World):Prop:=∃q:Nat→Prop,KpP q w w'∧∀b,q b→∀cur T,w.heap[b]? = some (.cells cur T (0,0))→ZT T
namespace ZK
variable {a b c w w':World}
theorem of_ext (x:Ext w w'):ZK w w':=⟨fun _=>False,KpP.of_ext x,fun _ h=>h.elim⟩
theorem refl (w:World):ZK w w:=of_ext (Ext.rfl' w)
theorem size (h:ZK w w'):w.heap.size≤w'.heap.size:=by
 obtain⟨q,k,_⟩:=h;exact k.size
theorem trans (h:ZK a b)(k:ZK b c):ZK a c:=by
 obtain⟨q1,k1,n1⟩:=h;obtain⟨q2,k2,n2⟩:=k;refine⟨fun i=>q1 i∨(q2 i∧¬q1 i∧i<a.heap.size),KpP.chain (KpP.mono k1 (fun i hi=>.inl hi)) k2 (fun i hi=>?_),?_⟩
 ·by_cases h1:q1 i
  ·exact .inl (.inl h1)
  ·by_cases h2:i<a.heap.size
   ·exact .inl (.inr ⟨hi,h1,h2⟩)
   ·exact .inr om
 ·rintro i (hi|⟨h1,h2,h3⟩) cur T hh
  ·exact n1 i hi cur T hh
  ·exact n2 i h1 cur T ((k1.block i h3 h2).trans hh)
theorem ext (h:ZK a b)(x:Ext b c):ZK a c:=h.trans (of_ext x)
theorem blk {g T:Nat}{ds:Array Value}(k:ZK w w')(h:Blk w g T ds)(hT:¬ZT T):Blk w' g T ds:=by
 obtain⟨q,k,n⟩:=k;exact(k.block g h.lt (fun hq=>hT (n g hq _ _ h))).trans h
theorem set {g T i:Nat}{ds:Array Value}(h:Blk w g T ds)(hT:ZT T)(v:Value):ZK w (w.setCell ⟨g,i,none⟩ v):=
 ⟨(
  ·=g),KpP.set (p:=(·=g)) (x:=⟨g,i,none⟩) (KpP.refl _ _) (.inl rfl) v,fun b hb cur T2 hh=>by
  subst hb;unfold Blk at h;rw[h] at hh;injection hh with hh;injection hh with _ e _
  exact e▸hT⟩
theorem grown {base T s n c:Nat}{A:Option Addr}{xs:List Value}(h:OwnS w base T s A n c xs)(hT:ZT T){wa:World}(xa:Ext w wa)(hg:wa.grownBy w' (A.map (·.block))):ZK w w':=
 ⟨fun b=>A.map (·.block)=some b,KpP.trans (KpP.of_ext xa) (KpP.of_grown hg),fun b hb cur T2 hh=>by
  obtain⟨_,cur2,h2⟩:=OwnS.blt h hb;rw[h2] at hh;injection hh with hh;injection hh with _ e _
  exact e▸hT⟩
end ZK
def ptrO (p:Option Nat):Value:=.pointer (p.map (fun g=>⟨g,0,none⟩))
def goalC (kind:Int)(n:Nd)(k fr:Int)(p:Option Nat):Array Value:=
 #[.int .i64 kind,.int .i64 n.op,.slice n.A n.l.length n.c,.slice n.K n.ks.length n.kc,.int .i64 n.mn,.int .i64 n.mx,.int .i64 n.md,.int .i64 n.n,.bool n.neg,.int .i64 k,.int .i64 fr,ptrO p]
inductive GoalAt (bd:Nat) (w0 w:World) (kb:Int):Nat→Option Nat→Prop
 | nil:GoalAt bd w0 w kb 0 none
 | mk {n:Nat} {p:Option Nat} (g:Nat) (kind k fr:Int) (nd:Nd) (d:Nat):Blk w g 261 (goalC kind nd k fr p)→TreeAt bd (fun _=>True) w0 d nd.val→
  (kind=0∨(kind=1∧nd.op=4∧0≤k∧k≤kb)∨(kind=2∧nd.op=4∧0≤k∧k+1≤kb)∨kind=3)→I64 fr→GoalAt bd w0 w kb n p→GoalAt bd w0 w kb (n+1) (some g)
namespace GoalAt
variable {bd n:Nat} {w0 w w':World} {kb kb':Int} {p:Option Nat}
theorem mono (h:GoalAt bd w0 w kb n p)(hk:kb≤kb'):GoalAt bd w0 w kb' n p:=by
 induction h with
 | nil=>exact .nil
 | mk g kind k fr nd d h1 h2 h3 h4 _ ih=>exact .mk g kind k fr nd d h1 h2 om h4 ih
theorem zk (h:GoalAt bd w0 w kb n p)(k:ZK w w'):GoalAt bd w0 w' kb n p:=by
 induction h with
 | nil=>exact .nil
 | mk g kind k2 fr nd d h1 h2 h3 h4 _ ih=>exact .mk g kind k2 fr nd d (k.blk h1 de) h2 h3 h4 ih
theorem ext (h:GoalAt bd w0 w kb n p)(x:Ext w w'):GoalAt bd w0 w' kb n p:=h.zk (ZK.of_ext x)
end GoalAt
def CapAt (w:World)(A:Option Addr)(c:Nat)(l:List Sp):Prop:=SL w A c l∧∀b,A.map (·.block)=some b→∃cur,w.heap[b]? = some (.cells cur 82 (0,0))
theorem CapAt.zk {w w':World}{A:Option Addr}{c:Nat}{l:List Sp}(h:CapAt w A c l)(k:ZK w w'):CapAt w' A c l:=by
 obtain⟨q,k,n⟩:=k;have hn:∀b,A.map (·.block)=some b→¬q b:=fun b hb hq=>by
  obtain⟨cur,hh⟩:=h.2 b hb;exact absurd (n b hq cur _ hh) de
 refine⟨h.1.kpZ k (fun _ b hb=>hn b hb),fun b hb=>?_⟩;obtain⟨cur,hh⟩:=h.2 b hb;exact⟨cur,(k.block b (Array.getElem?_eq_some_iff.1 hh).1 (hn b hb)).trans hh⟩
theorem CapAt.ext {w w':World}{A:Option Addr}{c:Nat}{l:List Sp}(h:CapAt w A c l)(x:Ext w w'):CapAt w' A c l:=h.zk (ZK.of_ext x)
structure SrM (w:World)(base gs:Nat)(tA:Option Addr)(tn tc:Nat)(most fuel:Int)(st:Nat)(em:Bool)(ns:Nat):Prop where
 blk:∃(eA:Option Addr) (ec:Nat) (ends:List Int) (cA:Option Addr) (cc:Nat) (cps:List Value),
  Blk w gs 257 #[.slice tA tn tc,.int .i64 most,.int .i64 fuel,.int .i64 st,.bool em,.slice eA ends.length ec,.slice cA cps.length cc]∧
  OwnI w base 3 eA ec ends∧OwnS w base 65 1 cA cps.length cc cps∧ends.length=ns∧cps.length=ns∧(∀x∈ends,I64 x)∧∀v∈cps,∃A n c,v=.slice A n c
 lo:base≤gs
theorem SrM.ext {w w':World}{base gs tn tc st ns:Nat}{tA:Option Addr}{most fuel:Int}{em:Bool}(h:SrM w base gs tA tn tc most fuel st em ns)(x:Ext w w'):SrM w' base gs tA tn tc most fuel st em ns:=by
 obtain⟨⟨eA,ec,ends,cA,cc,cps,h1,h2,h3,h4⟩,h5⟩:=h;exact⟨⟨eA,ec,ends,cA,cc,cps,h1.ext x,OwnS.ext h2 x,OwnS.ext h3 x,h4⟩,h5⟩
end
section
open Go.RowKit
theorem SL.of_blkZ {w:World}{g T:Nat}(l:List Sp)(h:Blk w g T (flatS l).toArray)(hs:∀s∈l,-1000000≤s.1∧s.1≤1000000∧-1000000≤s.2∧s.2≤1000000)(hl:l.length≤1000):SL w (some ⟨g,0,none⟩) l.length l:=by
 refine⟨Nat.le_refl _,by unfold maxLen;omega,fun s hs2=>by have:=hs s hs2;unfold S64 I64;omega,fun _=>⟨g,0,rfl,fun i hi=>?_⟩⟩;obtain⟨h1,h2⟩:=flatS_get l i hi;rw[h.cell,h.cell];refine⟨?_,?_⟩
 ·rw[Nat.zero_add];simpa using h1
 ·rw[Nat.zero_add];simpa using h2
instance (l:List Sp):Decidable (SetOk l):=by unfold SetOk;infer_instance
def setsY (gr:Nat):Array Value:=#[.slice (some ⟨gr+1,0,none⟩) 1 1,.slice (some ⟨gr+1+1,0,none⟩) 1 1,.slice (some ⟨gr+1+1+1,0,none⟩) 1 1,.slice (some ⟨gr+1+1+1+1,0,none⟩) 1 1,.slice (some ⟨gr+1+1+1+1+1,0,none⟩) 1 1,.slice (some ⟨gr+1+1+1+1+1+1,0,none⟩) 2 2,.slice (some ⟨gr+1+1+1+1+1+1+1,0,none⟩) 2 2,.slice (some ⟨gr+1+1+1+1+1+1+1+1,0,none⟩) 0 0]
def RetNd (bd d:Nat)(w0:World)(gm:Nat)(A:Option Addr)(c:Nat)(ls:List Int)(uses B:Int)(w:World)(e:Ending)(w':World):Prop:=
 ∃v:Value,e=.returned v∧TreeAt bd (fun k=>w.heap.size≤k) w' d v∧MkM w' w0 gm A c ls uses B∧KpP (·=gm) w w'
theorem yset_any (w0 w:World)(gm:Nat)(A:Option Addr)(c:Nat)(ls:List Int)(uses B:Int)(h:MkM w w0 gm A c ls uses B)(hB:B≤100000000) :
 Calls Tryz.prog 185 #[.pointer (some ⟨gm,0,none⟩)] w (RetNd 3 1 w0 gm A c ls uses (B+1) w):=by
 have hgm:gm<w.heap.size:=by
  obtain⟨_,_,_,_,_,_,hb,_⟩:=h;exact hb.lt
 have H:=lh h;obtain⟨gr,hgr⟩:∃gr,w.heap.size=gr:=⟨_,rfl⟩;clear h;go_enter Tryz.func185,Tryz.ntmps185
 go_upto_region 2 with fail
 have E0:=Ext.alloc w (.cells #[.int .i64 0,.slice none 0 0,.slice none 0 0,.int .i64 0,.int .i64 0,.int .i64 0,.int .i64 0,.bool false] 26);have B0:=Blk.new w 26 #[.int .i64 0,.slice none 0 0,.slice none 0 0,.int .i64 0,.int .i64 0,.int .i64 0,.int .i64 0,.bool false];have S0:(w.alloc (.cells #[.int .i64 0,.slice none 0 0,.slice none 0 0,.int .i64 0,.int .i64 0,.int .i64 0,.int .i64 0,.bool false] 26)).heap.size=gr+1:=by rw[World.size_alloc,hgr]
 rw[hgr] at B0;generalize w.alloc (.cells #[.int .i64 0,.slice none 0 0,.slice none 0 0,.int .i64 0,.int .i64 0,.int .i64 0,.int .i64 0,.bool false] 26)=v0 at *;have E1:=Ext.alloc v0 (.cells #[.int .i64 97,.int .i64 97] 38);have B1:=Blk.new v0 38 #[.int .i64 97,.int .i64 97];have S1:(v0.alloc (.cells #[.int .i64 97,.int .i64 97] 38)).heap.size=gr+1+1:=by rw[World.size_alloc,S0]
 rw[S0] at B1;generalize v0.alloc (.cells #[.int .i64 97,.int .i64 97] 38)=v1 at *;have E2:=Ext.alloc v1 (.cells #[.int .i64 98,.int .i64 98] 38);have B2:=Blk.new v1 38 #[.int .i64 98,.int .i64 98];have S2:(v1.alloc (.cells #[.int .i64 98,.int .i64 98] 38)).heap.size=gr+1+1+1:=by rw[World.size_alloc,S1]
 rw[S1] at B2;generalize v1.alloc (.cells #[.int .i64 98,.int .i64 98] 38)=v2 at *;have E3:=Ext.alloc v2 (.cells #[.int .i64 97,.int .i64 98] 38);have B3:=Blk.new v2 38 #[.int .i64 97,.int .i64 98];have S3:(v2.alloc (.cells #[.int .i64 97,.int .i64 98] 38)).heap.size=gr+1+1+1+1:=by rw[World.size_alloc,S2]
 rw[S2] at B3;generalize v2.alloc (.cells #[.int .i64 97,.int .i64 98] 38)=v3 at *;have E4:=Ext.alloc v3 (.cells #[.int .i64 99,.int .i64 99] 38);have B4:=Blk.new v3 38 #[.int .i64 99,.int .i64 99];have S4:(v3.alloc (.cells #[.int .i64 99,.int .i64 99] 38)).heap.size=gr+1+1+1+1+1:=by rw[World.size_alloc,S3]
 rw[S3] at B4;generalize v3.alloc (.cells #[.int .i64 99,.int .i64 99] 38)=v4 at *;have E5:=Ext.alloc v4 (.cells #[.int .i64 97,.int .i64 99] 38);have B5:=Blk.new v4 38 #[.int .i64 97,.int .i64 99];have S5:(v4.alloc (.cells #[.int .i64 97,.int .i64 99] 38)).heap.size=gr+1+1+1+1+1+1:=by rw[World.size_alloc,S4]
 rw[S4] at B5;generalize v4.alloc (.cells #[.int .i64 97,.int .i64 99] 38)=v5 at *;have E6:=Ext.alloc v5 (.cells #[.int .i64 0,.int .i64 96,.int .i64 98,.int .i64 255] 38);have B6:=Blk.new v5 38 #[.int .i64 0,.int .i64 96,.int .i64 98,.int .i64 255];have S6:(v5.alloc (.cells #[.int .i64 0,.int .i64 96,.int .i64 98,.int .i64 255] 38)).heap.size=gr+1+1+1+1+1+1+1:=by rw[World.size_alloc,S5]
 rw[S5] at B6;generalize v5.alloc (.cells #[.int .i64 0,.int .i64 96,.int .i64 98,.int .i64 255] 38)=v6 at *;have E7:=Ext.alloc v6 (.cells #[.int .i64 10,.int .i64 10,.int .i64 97,.int .i64 97] 38);have B7:=Blk.new v6 38 #[.int .i64 10,.int .i64 10,.int .i64 97,.int .i64 97];have S7:(v6.alloc (.cells #[.int .i64 10,.int .i64 10,.int .i64 97,.int .i64 97] 38)).heap.size=gr+1+1+1+1+1+1+1+1:=by rw[World.size_alloc,S6]
 rw[S6] at B7;generalize v6.alloc (.cells #[.int .i64 10,.int .i64 10,.int .i64 97,.int .i64 97] 38)=v7 at *;have E8:=Ext.alloc v7 (.cells #[] 38);have B8:=Blk.new v7 38 #[];have S8:(v7.alloc (.cells #[] 38)).heap.size=gr+1+1+1+1+1+1+1+1+1:=by rw[World.size_alloc,S7]
 rw[S7] at B8;generalize v7.alloc (.cells #[] 38)=v8 at *;have E9:=Ext.alloc v8 (.cells #[.slice (some ⟨gr+1,0,none⟩) 1 1,.slice (some ⟨gr+1+1,0,none⟩) 1 1,.slice (some ⟨gr+1+1+1,0,none⟩) 1 1,.slice (some ⟨gr+1+1+1+1,0,none⟩) 1 1,.slice (some ⟨gr+1+1+1+1+1,0,none⟩) 1 1,.slice (some ⟨gr+1+1+1+1+1+1,0,none⟩) 2 2,.slice (some ⟨gr+1+1+1+1+1+1+1,0,none⟩) 2 2,.slice (some ⟨gr+1+1+1+1+1+1+1+1,0,none⟩) 0 0] 23);have B9:=Blk.new v8 23 #[.slice (some ⟨gr+1,0,none⟩) 1 1,.slice (some ⟨gr+1+1,0,none⟩) 1 1,.slice (some ⟨gr+1+1+1,0,none⟩) 1 1,.slice (some ⟨gr+1+1+1+1,0,none⟩) 1 1,.slice (some ⟨gr+1+1+1+1+1,0,none⟩) 1 1,.slice (some ⟨gr+1+1+1+1+1+1,0,none⟩) 2 2,.slice (some ⟨gr+1+1+1+1+1+1+1,0,none⟩) 2 2,.slice (some ⟨gr+1+1+1+1+1+1+1+1,0,none⟩) 0 0];have S9:(v8.alloc (.cells #[.slice (some ⟨gr+1,0,none⟩) 1 1,.slice (some ⟨gr+1+1,0,none⟩) 1 1,.slice (some ⟨gr+1+1+1,0,none⟩) 1 1,.slice (some ⟨gr+1+1+1+1,0,none⟩) 1 1,.slice (some ⟨gr+1+1+1+1+1,0,none⟩) 1 1,.slice (some ⟨gr+1+1+1+1+1+1,0,none⟩) 2 2,.slice (some ⟨gr+1+1+1+1+1+1+1,0,none⟩) 2 2,.slice (some ⟨gr+1+1+1+1+1+1+1+1,0,none⟩) 0 0] 23)).heap.size=gr+1+1+1+1+1+1+1+1+1+1:=by rw[World.size_alloc,S8]
 rw[S8] at B9;generalize v8.alloc (.cells #[.slice (some ⟨gr+1,0,none⟩) 1 1,.slice (some ⟨gr+1+1,0,none⟩) 1 1,.slice (some ⟨gr+1+1+1,0,none⟩) 1 1,.slice (some ⟨gr+1+1+1+1,0,none⟩) 1 1,.slice (some ⟨gr+1+1+1+1+1,0,none⟩) 1 1,.slice (some ⟨gr+1+1+1+1+1+1,0,none⟩) 2 2,.slice (some ⟨gr+1+1+1+1+1+1+1,0,none⟩) 2 2,.slice (some ⟨gr+1+1+1+1+1+1+1+1,0,none⟩) 0 0] 23)=v9 at *;replace B0:=(((((((((B0).ext E1).ext E2).ext E3).ext E4).ext E5).ext E6).ext E7).ext E8).ext E9;replace B1:=((((((((B1).ext E2).ext E3).ext E4).ext E5).ext E6).ext E7).ext E8).ext E9;replace B2:=(((((((B2).ext E3).ext E4).ext E5).ext E6).ext E7).ext E8).ext E9;replace B3:=((((((B3).ext E4).ext E5).ext E6).ext E7).ext E8).ext E9;replace B4:=(((((B4).ext E5).ext E6).ext E7).ext E8).ext E9;replace B5:=((((B5).ext E6).ext E7).ext E8).ext E9;replace B6:=(((B6).ext E7).ext E8).ext E9;replace B7:=((B7).ext E8).ext E9;replace B8:=(B8).ext E9;replace B9:=B9;have EX:Ext w v9:=(((((((((E0).trans E1).trans E2).trans E3).trans E4).trans E5).trans E6).trans E7).trans E8).trans E9;have HSL:∀k:Nat,k<8→∃(A:Option Addr) (c:Nat) (l:List Sp),(setsY gr)[k]? = some (.slice A l.length c)∧SL v9 A c l∧SetOk l∧∀b,A.map (·.block)=some b→gr+1≤b:=by
  intro k hk;have hk2:k=0∨k=1∨k=2∨k=3∨k=4∨k=5∨k=6∨k=7:=om;rcases hk2 with rfl|rfl|rfl|rfl|rfl|rfl|rfl|rfl
  ·exact⟨some ⟨gr+1,0,none⟩,1,[(97,97)],rfl,SL.of_blkZ [(97,97)] B1 de de,by decide,fun b hb=>by simp at hb;omega⟩
  ·exact⟨some ⟨gr+1+1,0,none⟩,1,[(98,98)],rfl,SL.of_blkZ [(98,98)] B2 de de,by decide,fun b hb=>by simp at hb;omega⟩
  ·exact⟨some ⟨gr+1+1+1,0,none⟩,1,[(97,98)],rfl,SL.of_blkZ [(97,98)] B3 de de,by decide,fun b hb=>by simp at hb;omega⟩
  ·exact⟨some ⟨gr+1+1+1+1,0,none⟩,1,[(99,99)],rfl,SL.of_blkZ [(99,99)] B4 de de,by decide,fun b hb=>by simp at hb;omega⟩
  ·exact⟨some ⟨gr+1+1+1+1+1,0,none⟩,1,[(97,99)],rfl,SL.of_blkZ [(97,99)] B5 de de,by decide,fun b hb=>by simp at hb;omega⟩
  ·exact⟨some ⟨gr+1+1+1+1+1+1,0,none⟩,2,[(0,96),(98,255)],rfl,SL.of_blkZ [(0,96),(98,255)] B6 de de,by decide,fun b hb=>by simp at hb;omega⟩
  ·exact⟨some ⟨gr+1+1+1+1+1+1+1,0,none⟩,2,[(10,10),(97,97)],rfl,SL.of_blkZ [(10,10),(97,97)] B7 de de,by decide,fun b hb=>by simp at hb;omega⟩
  ·exact⟨some ⟨gr+1+1+1+1+1+1+1+1,0,none⟩,0,[],rfl,SL.of_blkZ [] B8 de de,by decide,fun b hb=>by simp at hb;omega⟩
 have HM9:=lh (H.out.extW EX);have HB9:Hid (Blk v9 (gr+1+1+1+1+1+1+1+1+1) 23 (setsY gr)):=lh B9;have HB0:=lh B0;have HSL9:=lh HSL;clear B0 B1 B2 B3 B4 B5 B6 B7 B8 B9 E0 E1 E2 E3 E4 E5 E6 E7 E8 E9 S0 S1 S2 S3 S4 S5 S6 S7 S8 S9 HSL
 go_wp2_with (go_at_call 184;refine(ynext_any w0 v9 gm A c ls uses B 15 HM9.out hB om om).mono ?_;rintro e w10 ⟨x,rfl,hx0,hx1,M10,K10⟩;have hbk:=K10.blk HB9.out om;obtain⟨A5,c5,l5,e5,s5,o5,g5⟩:=HSL9.out (x / 2).toNat om;have cc:w10.cell? ⟨gr+1+1+1+1+1+1+1+1+1,(x / 2).toNat,none⟩=some (.slice A5 l5.length c5):=(hbk.cell _).trans e5;have b0:=K10.blk HB0.out om;obtain⟨f0,f1,f2,f3,f4,f5,f6,f7⟩:=nd_frz b0;have HB10:=lh b0;have z0:=b0.cell 0;have z1:=b0.cell 1;have z2:=b0.cell 2;have z3:=b0.cell 3;have z4:=b0.cell 4;have z5:=b0.cell 5;have z6:=b0.cell 6;have z7:=b0.cell 7;clear b0 hbk)
 have hb2:=setRe_blk HB10.out ⟨1,A5,c5,l5,none,0,[],0,0,0,0,false⟩;have hgw:w.heap.size≤gr:=om;have hk2:=setRe_kp (p:=(·=gm)) ((KpP.of_ext EX).trans K10) (g:=gr) (.inr hgw) ⟨1,A5,c5,l5,none,0,[],0,0,0,0,false⟩;have K11:=setRe_kp (p:=(·=gr)) (KpP.refl _ w10) (g:=gr) (.inl rfl) ⟨1,A5,c5,l5,none,0,[],0,0,0,0,false⟩;change bodyPost _ _ _ _ _ (setRe w10 gr ⟨1,A5,c5,l5,none,0,[],0,0,0,0,false⟩);generalize setRe w10 gr ⟨1,A5,c5,l5,none,0,[],0,0,0,0,false⟩=w11 at *;obtain⟨r0,r1,r2,r3,r4,r5,r6,r7⟩:=nd_cells hb2;simp only[List.length_nil] at r2;have M11:=M10.kpR K11 om (by have:=H.out.ext.size;omega);refine bodyPost_ret (v:=Nd.val ⟨1,A5,c5,l5,none,0,[],0,0,0,0,false⟩) (by simp[results,Tryz.results185,go_sem,r0,r1,r2,r3,r4,r5,r6,r7,Nd.val]) rfl ⟨_,rfl,?_,M11,hk2⟩;rw[hgr];refine .mk _ ⟨.inr (.inl rfl),by simp,by simp,by simp,by simp,by simp,by simp,by simp,by simp,o5⟩ ?_ si si (fun h=>by simp at h) si (fun _ b hb=>by have:=g5 b hb;omega) si;exact(s5.kpZ K10 (fun _ b hb e=>by have:=g5 b hb;omega)).kpZ K11 (fun _ b hb e=>by have:=g5 b hb;omega)
end
section
open Go.RowKit
def RetB (w:World)(e:Ending)(w':World):Prop:=∃b:Bool,e=.returned (.bool b)∧Ext w w'
theorem kid8 {bd:Nat}{S:Nat→Prop}{w:World}{d:Nat}{K:Option Addr}{ks:List Value}(hc:CellsAt w K (ks.flatMap cellsOf))(ht:∀u∈ks,TreeAt bd S w d u){i:Nat}(hi:i<ks.length) :
 ∃b o,K=some ⟨b,o,none⟩∧∃n:Nd,TreeAt bd S w d n.val∧w.cell? ⟨b,o+i*8,none⟩=some (.int .i64 n.op)∧w.cell? ⟨b,o+i*8+1,none⟩=some (.slice n.A n.l.length n.c)∧w.cell? ⟨b,o+i*8+2,none⟩=some (.slice n.K n.ks.length n.kc)∧
  w.cell? ⟨b,o+i*8+3,none⟩=some (.int .i64 n.mn)∧w.cell? ⟨b,o+i*8+4,none⟩=some (.int .i64 n.mx)∧w.cell? ⟨b,o+i*8+5,none⟩=some (.int .i64 n.md)∧w.cell? ⟨b,o+i*8+6,none⟩=some (.int .i64 n.n)∧w.cell? ⟨b,o+i*8+7,none⟩=some (.bool n.neg):=by
 obtain⟨b,o,hK,n,hn,hcl⟩:=kid_cells hc ht hi;exact⟨b,o,hK,n,hn▸ht _ (List.getElem_mem hi),hcl 0 om,hcl 1 om,hcl 2 om,hcl 3 om,hcl 4 om,hcl 5 om,hcl 6 om,hcl 7 om⟩
theorem J4z1 {P:Prop} (h:P:=by
 go_wp2_with (go_at_call 107;refine(HCALL _ (by first|exact Ext.rfl' _|exact Ext.drewN _ _)).out.mono ?_;rintro e w3 ⟨b3,rfl,x3⟩)
 go_ret
 exact⟨_,rfl,E0.trans x3⟩):P:=h
theorem ynullable_any (bd:Nat)(S:Nat→Prop):∀(d:Nat) (w:World) (v:Value),TreeAt bd S w d v→Calls Tryz.prog 107 #[v] w (RetB w):=by
 intro d;induction d with
 | zero=>intro w v h;obtain⟨e,he⟩:=h.pos;omega
 | succ d ih=>
  intro w v h;obtain⟨n,rfl,hok,hsl,hkl,hkc,hcl,hks⟩:=h.node;obtain⟨op,A,c,l,K,kc,ks,mn,mx,md,nn,neg⟩:=n;have hop:=hok.op
  simp only at hop hsl hkl hkc hcl hks
  unfold Nd.val
  simp only
  have HIH:=lh ih;have HOK:=lh hok;clear ih h hok;have B0:=Blk.new w 26 #[.int .i64 op,.slice A l.length c,.slice K ks.length kc,.int .i64 mn,.int .i64 mx,.int .i64 md,.int .i64 nn,.bool neg];have E0:=Ext.alloc w (.cells #[.int .i64 op,.slice A l.length c,.slice K ks.length kc,.int .i64 mn,.int .i64 mx,.int .i64 md,.int .i64 nn,.bool neg] 26);have HC:=lh (hcl.ext E0);have HK:=lh (fun u hu=>(hks u hu).ext E0);have HKL:ks.length≤kc∧kc≤9223372036854775807:=⟨hkl,by unfold maxLen at hkc;omega⟩;clear hcl hks hsl hkl hkc;go_enter Tryz.func107,Tryz.ntmps107
  go_upto_region 1 with fail
  obtain⟨gx,hgx⟩:∃gx,gx=w.heap.size:=⟨_,rfl⟩
  rw[←hgx] at B0 ⊢;clear hgx;generalize w.alloc (.cells #[.int .i64 op,.slice A l.length c,.slice K ks.length kc,.int .i64 mn,.int .i64 mx,.int .i64 md,.int .i64 nn,.bool neg] 26)=wa at *;have z0:wa.cell? ⟨gx,0,none⟩=some (.int .i64 op):=B0.cell 0;have z2:wa.cell? ⟨gx,2,none⟩=some (.slice K ks.length kc):=B0.cell 2;have z3:wa.cell? ⟨gx,3,none⟩=some (.int .i64 mn):=B0.cell 3;by_cases h1:op=1
  ·subst h1
   go_wp2_with fail
   go_ret
   exact⟨_,rfl,E0⟩
  ·by_cases h2:op=2
   ·subst h2
    go_upto_region 6 with fail
    go_loopw [3] (fun v wr=>∃i:Nat,v=.int .i64 i∧i≤ks.length∧Ext wa wr) (fun v _=>ks.length-(intOf v).toNat)
    case atStart=>exact⟨0,rfl,om,Ext.rfl' _⟩
    case round=>
     obtain⟨i,rfl,hi,x1⟩:=hrel;have z2r:=x1.cell z2;by_cases hlt:i<ks.length
     ·have hiI:(i:Int)<ks.length:=om;obtain⟨b,o,hK,n,ht,k0,k1,k2,k3,k4,k5,k6,k7⟩:=kid8 (HC.out.ext x1) (fun u hu=>(HK.out u hu).ext x1) hlt;have hK':=hK;subst hK';have HT:=lh ht;clear ht
      go_wp2_with (go_at_call 107;refine(HIH.out wr _ HT.out).mono ?_;rintro e w3 ⟨b3,rfl,x3⟩;cases b3)
      ·go_ret
       exact⟨_,rfl,E0.trans (x1.trans x3)⟩
      ·go_roundw
       case rel=>exact⟨i+1,by go_num,om,x1.trans x3⟩
       case measure=>simp[intOf];omega
     ·have hiI:¬(i:Int)<ks.length:=om
      go_wp2_with fail
      go_ret
      exact⟨_,rfl,E0.trans x1⟩
   ·by_cases h3:op=3
    ·subst h3
     go_upto_region 14 with fail
     go_loopw [4] (fun v wr=>∃i:Nat,v=.int .i64 i∧i≤ks.length∧Ext wa wr) (fun v _=>ks.length-(intOf v).toNat)
     case atStart=>exact⟨0,rfl,om,Ext.rfl' _⟩
     case round=>
      obtain⟨i,rfl,hi,x1⟩:=hrel;have z2r:=x1.cell z2;by_cases hlt:i<ks.length
      ·have hiI:(i:Int)<ks.length:=om;obtain⟨b,o,hK,n,ht,k0,k1,k2,k3,k4,k5,k6,k7⟩:=kid8 (HC.out.ext x1) (fun u hu=>(HK.out u hu).ext x1) hlt;have hK':=hK;subst hK';have HT:=lh ht;clear ht
       go_wp2_with (go_at_call 107;refine(HIH.out wr _ HT.out).mono ?_;rintro e w3 ⟨b3,rfl,x3⟩;cases b3)
       ·go_roundw
        case rel=>exact⟨i+1,by go_num,om,x1.trans x3⟩
        case measure=>simp[intOf];omega
       ·go_ret
        exact⟨_,rfl,E0.trans (x1.trans x3)⟩
      ·have hiI:¬(i:Int)<ks.length:=om
       go_wp2_with fail
       go_ret
       exact⟨_,rfl,E0.trans x1⟩
    ·by_cases h45:op=4∨op=5
     ·have hk1:=HOK.out.one h45
      simp only at hk1
      have hk0:0<ks.length:=om;have hkI:(0:Int)<ks.length:=om;obtain⟨b,o,hK,n,ht,k0,k1,k2,k3,k4,k5,k6,k7⟩:=kid8 HC.out HK.out hk0;have hK':=hK;subst hK';simp only[Nat.zero_mul,Nat.add_zero] at k0 k1 k2 k3 k4 k5 k6 k7;have HT:=lh ht;have HCALL:=fun(w':World) (x:Ext wa w')=>lh (HIH.out w' _ (HT.out.ext x));clear ht;rcases h45 with h4|h5
      ·subst h4;by_cases hm:mn≤0
       ·have hm2:decide (mn≤0)=true:=by simp[hm]
        go_wp2_with fail
        go_ret
        exact⟨_,rfl,E0⟩
       ·have hm2:decide (mn≤0)=false:=by simp[hm]
        exact J4z1
      ·subst h5;exact J4z1
     ·have h06:op=0∨op=11:=om;rcases h06 with rfl|rfl
      ·go_wp2_with fail
       go_ret
       exact⟨_,rfl,E0⟩
      ·go_wp2_with fail
       go_ret
       exact⟨_,rfl,E0⟩
end
section
open Go.RowKit
attribute [local go_sem ↓] Go.wp_at_zero Go.wp_at_succ
theorem zword_any (x:Int)(w:World):Calls Tryz.prog 229 #[.int .i64 x] w (RetB w):=by
 go_enter Tryz.func229,Tryz.ntmps229
 go_wp2
 all_goals
  go_ret
  exact⟨_,rfl,Ext.rfl' _⟩
theorem zin_any (A:Option Addr)(c:Nat)(l:List Sp)(x:Int)(w:World)(hs:SL w A c l):Calls Tryz.prog 212 #[.slice A l.length c,.int .i64 x] w (RetB w):=by
 have hll:=hs.len;have HS:=lh hs;clear hs;go_enter Tryz.func212,Tryz.ntmps212
 go_wp2
 go_loopw [5] (fun i wr=>∃k:Nat,k≤l.length∧i=.int .i64 k∧Ext w wr) (fun i _=>l.length-(intOf i).toNat)
 case atStart=>exact⟨0,Nat.zero_le _,rfl,Ext.rfl' _⟩
 case round=>
  obtain⟨k,hk,rfl,x1⟩:=hrel;by_cases hlt:k<l.length
  ·obtain⟨p1,o1,rfl,g1,g2⟩:=(HS.out.ext x1).get hlt;have hlt2:(k:Int)<l.length:=om
   go_wp2_with fail
   all_goals first
    | (go_ret;exact⟨_,rfl,x1⟩)
    | (
     go_roundw
     case rel=>exact⟨k+1,om,by go_num,x1⟩
     case measure=>simp[intOf];omega)
  ·have hlt2:¬(k:Int)<l.length:=om
   go_wp2_with fail
   go_ret
   exact⟨_,rfl,x1⟩
theorem zholds_any (n:Int)(T:Option Addr)(tc:Nat)(ts:List Int)(i:Nat)(w:World)(hT:IL w T tc ts)(hi:i≤ts.length) :
 Calls Tryz.prog 215 #[.int .i64 n,.slice T ts.length tc,.int .i64 i] w (RetB w):=by
 have hll:=hT.len;have HW:=fun(x:Int) (w':World)=>lh (zword_any x w');have X0:=Ext.rfl' w;by_cases h0:i=0
 ·subst h0;by_cases hl:ts.length=0
  ·have hlI:¬(0:Int)<(ts.length:Int):=om;clear hT;generalize ts.length=tn at *;subst hl;go_enter Tryz.func215,Tryz.ntmps215
   go_wp2_with (go_at_call 229;refine(HW _ _).out.mono ?_;rintro e w2 ⟨b2,rfl,x2⟩;have X2:=Ext.trans (by assumption:Ext w _) x2)
   all_goals
    go_ret
    exact⟨_,rfl,by assumption⟩
  ·have hlI:(0:Int)<(ts.length:Int):=om;obtain⟨b,o,rfl,cb⟩:=hT.get (k:=0) om;simp only[Nat.add_zero] at cb;generalize ts[0]'om=y at *;have HB:=fun(w':World) (x:Ext w w')=>x.cell cb;have hne:((0:Int) == (ts.length:Int))=false:=by simp;omega
   clear hT;generalize ts.length=tn at *;go_enter Tryz.func215,Tryz.ntmps215
   go_wp2_with (go_at_call 229;refine(HW _ _).out.mono ?_;rintro e w2 ⟨b2,rfl,x2⟩;have X2:=Ext.trans (by assumption:Ext w _) x2;have cb2:=HB _ X2)
   all_goals
    go_ret
    exact⟨_,rfl,by assumption⟩
 ·obtain⟨j,rfl⟩:∃j,i=j+1:=⟨i-1,om⟩;have hjl:j<ts.length:=om;obtain⟨b,o,rfl,ca⟩:=hT.get hjl;have HA:=fun(w':World) (x:Ext w w')=>x.cell ca;have ewj:IntKind.i64.wrap ((j:Int)+1-1)=(j:Int):=wj;have hjI:(j:Int)<(ts.length:Int):=om;have hj0:(0:Int)<(j:Int)+1:=om;have hjn:((j:Int)+1 == 0)=false:=by simp;omega
  have ecast:((j+1:Nat):Int)=(j:Int)+1:=om;rw[ecast];by_cases hl:j+1=ts.length
  ·have hlI:¬(j:Int)+1<(ts.length:Int):=om;have heq:((j:Int)+1 == (ts.length:Int))=true:=by simp;omega
   clear hT;generalize ts[j]=y at *;generalize ts.length=tn at *;go_enter Tryz.func215,Tryz.ntmps215
   go_wp2_with (go_at_call 229;refine(HW _ _).out.mono ?_;rintro e w2 ⟨b2,rfl,x2⟩;have X2:=Ext.trans (by assumption:Ext w _) x2;have ca2:=HA _ X2)
   all_goals
    go_ret
    exact⟨_,rfl,by assumption⟩
  ·have hlI:(j:Int)+1<(ts.length:Int):=om;have heq:((j:Int)+1 == (ts.length:Int))=false:=by simp;omega
   obtain⟨b',o',e1,cb⟩:=hT.get (k:=j+1) om;injection e1 with e1;injection e1 with e1 e2 _
   subst e1;subst e2;have HB:=fun(w':World) (x:Ext w w')=>x.cell cb;clear hT;generalize ts[j]=y at *;generalize ts[j+1]'om=z at *;generalize ts.length=tn at *;go_enter Tryz.func215,Tryz.ntmps215
   go_wp2_with (go_at_call 229;refine(HW _ _).out.mono ?_;rintro e w2 ⟨b2,rfl,x2⟩;have X2:=Ext.trans (by assumption:Ext w _) x2;have ca2:=HA _ X2;have cb2:=HB _ X2)
   all_goals
    go_ret
    exact⟨_,rfl,by assumption⟩
def ptB (v:Option Value):List Nat:=match v with|some (.slice (some A) _ _)=>[A.block]|_=>[]
def zL (w:World)(gs:Nat):List Nat:=gs::(ptB (w.cell? ⟨gs,5,none⟩)++ptB (w.cell? ⟨gs,6,none⟩))
theorem mem_ptB {A:Option Addr}{n c:Nat}{x:Nat}:x∈ptB (some (.slice A n c))↔A.map (·.block)=some x:=by
 cases A with
 | none=>simp[ptB]
 | some a=>simp[ptB,eq_comm]
structure ZF (gs:Nat)(a b:World):Prop where
 kp:Kp (zL a gs) a b
 old:∀x∈zL b gs,x∈zL a gs∨a.heap.size≤x
theorem zL_ext {gs:Nat}{a b:World}(x:Ext a b)(h:gs<a.heap.size):zL b gs=zL a gs:=by
 unfold zL;rw[x.cells.1 gs 5 h,x.cells.1 gs 6 h]
namespace ZF
variable {gs:Nat} {a b c w w':World}
theorem of_ext (x:Ext a b)(h:gs<a.heap.size):ZF gs a b:=⟨Kp.of_ext x,fun y hy=>.inl (by rw[zL_ext x h] at hy;exact hy)⟩
theorem refl (w:World)(h:gs<w.heap.size):ZF gs w w:=of_ext (Ext.rfl' w) h
theorem size (h:ZF gs a b):a.heap.size≤b.heap.size:=h.kp.size
theorem trans (h:ZF gs a b)(k:ZF gs b c):ZF gs a c:=
 ⟨⟨k.kp.os.trans h.kp.os,k.kp.tape.trans h.kp.tape,k.kp.output.trans h.kp.output,Nat.le_trans h.size k.size,fun i hi hn=>(k.kp.block i (Nat.lt_of_lt_of_le hi h.size) (fun hm=>by
  rcases h.old i hm with h1|h1
  ·exact hn h1
  ·omega)).trans (h.kp.block i hi hn)⟩,
  fun x hx=>by
   rcases k.old x hx with h1|h1
   ·exact h.old x h1
   ·exact .inr (Nat.le_trans h.size h1)⟩
theorem ext (h:ZF gs a b)(x:Ext b c)(hg:gs<a.heap.size):ZF gs a c:=h.trans (of_ext x (Nat.lt_of_lt_of_le hg h.size))
theorem mk2 {cs:Array Value}{eA cA:Option Addr}{en ec cn cc:Nat}(k:Kp (zL a gs) a b)(h:Blk b gs 257 cs)(h5:cs[5]? = some (.slice eA en ec))(h6:cs[6]? = some (.slice cA cn cc))
 (he:∀x,eA.map (·.block)=some x→x∈zL a gs∨a.heap.size≤x) (hc:∀x,cA.map (·.block)=some x→x∈zL a gs∨a.heap.size≤x):ZF gs a b:=
 ⟨k,fun x hx=>by
  unfold zL at hx;rw[h.cell 5,h.cell 6,h5,h6] at hx;rcases List.mem_cons.1 hx with rfl|hx
  ·exact .inl List.mem_cons_self
  rcases List.mem_append.1 hx with hx|hx
  ·exact he x (mem_ptB.1 hx)
  ·exact hc x (mem_ptB.1 hx)⟩
end ZF
section
variable {w w':World} {base gs tn tc st ns:Nat} {tA:Option Addr} {most fuel:Int} {em:Bool}
theorem SrM.typ (h:SrM w base gs tA tn tc most fuel st em ns){x:Nat}(hx:x∈zL w gs):base≤x∧∃cur T,w.heap[x]? = some (.cells cur T (0,0))∧ZT T:=by
 obtain⟨⟨eA,ec,ends,cA,cc,cps,h1,h2,h3,_⟩,hlo⟩:=h;unfold zL at hx;rw[h1.cell 5,h1.cell 6] at hx;rcases List.mem_cons.1 hx with rfl|hx
 ·exact⟨hlo,_,_,h1,.inl rfl⟩
 rcases List.mem_append.1 hx with hx|hx
 ·have hx:=mem_ptB.1 hx;obtain⟨_,cur,e⟩:=OwnS.blt h2 hx;exact⟨OwnS.row h2 _ hx,cur,_,e,.inr (.inl rfl)⟩
 ·have hx:=mem_ptB.1 hx;obtain⟨_,cur,e⟩:=OwnS.blt h3 hx;exact⟨OwnS.row h3 _ hx,cur,_,e,.inr (.inr rfl)⟩
theorem SrM.gs_lt (h:SrM w base gs tA tn tc most fuel st em ns):gs<w.heap.size:=by
 obtain⟨⟨_,_,_,_,_,_,h1,_⟩,_⟩:=h;exact h1.lt
theorem ZF.blk {g T:Nat}{ds:Array Value}(k:ZF gs w w')(h:SrM w base gs tA tn tc most fuel st em ns)(hb:Blk w g T ds)(hT:¬ZT T):Blk w' g T ds:=
 (k.kp.block g hb.lt (fun hm=>by
  obtain⟨_,cur,T2,e,h2⟩:=h.typ hm;have e2:=hb.symm.trans e;injection e2 with e2;injection e2 with _ e2 _
  exact hT (e2▸h2))).trans hb
variable {bd n:Nat} {w0:World} {kb kb':Int} {p:Option Nat}
theorem GoalAt.zf (h:GoalAt bd w0 w kb n p)(hs:SrM w base gs tA tn tc most fuel st em ns)(k:ZF gs w w'):GoalAt bd w0 w' kb n p:=by
 induction h with
 | nil=>exact .nil
 | mk g kind k2 fr nd d h1 h2 h3 h4 _ ih=>exact .mk g kind k2 fr nd d (k.blk hs h1 de) h2 h3 h4 ih
theorem CapAt.zf {A:Option Addr}{c:Nat}{l:List Sp}(h:CapAt w A c l)(hs:SrM w base gs tA tn tc most fuel st em ns)(k:ZF gs w w'):CapAt w' A c l:=by
 have hn:∀b,A.map (·.block)=some b→¬b∈zL w gs:=fun b hb hq=>by
  obtain⟨cur,hh⟩:=h.2 b hb;obtain⟨_,cur2,T2,e,h2⟩:=hs.typ hq;have e2:=hh.symm.trans e;injection e2 with e2;injection e2 with _ e2 _
  exact absurd (e2▸h2:ZT 82) de
 have kk:KpP (·∈zL w gs) w w':=⟨k.kp.os,k.kp.tape,k.kp.output,k.kp.size,k.kp.block⟩;refine⟨h.1.kpZ kk (fun _ b hb=>hn b hb),fun b hb=>?_⟩;obtain⟨cur,hh⟩:=h.2 b hb;exact⟨cur,(k.kp.block b (Array.getElem?_eq_some_iff.1 hh).1 (hn b hb)).trans hh⟩
end
def RetF (w0:World)(gs:Nat)(tA:Option Addr)(tn tc:Nat)(most:Int)(fuel:Nat)(st ns:Nat)(w:World)(e:Ending)(w':World):Prop:=
 ∃(b:Bool) (st':Nat) (em:Bool) (ns':Nat),e=.returned (.bool b)∧SrM w' w0.heap.size gs tA tn tc most fuel st' em ns'∧Ext w0 w'∧ZF gs w w'∧st≤st'∧ns≤ns'∧ns'≤ns+3*(st'-st)+1∧
  ((em=false∧st'≤fuel)∨(em=true∧b=true∧st'=fuel+1))
def RetStp (w0:World)(gs:Nat)(tA:Option Addr)(tn tc:Nat)(most:Int)(fuel:Nat)(st ns:Nat)(w:World)(e:Ending)(w':World):Prop:=
 e=.returned (.bool (decide (st+1≤fuel)))∧SrM w' w0.heap.size gs tA tn tc most fuel (st+1) (!decide (st+1≤fuel)) ns∧Ext w0 w'∧ZF gs w w'
theorem zL_mem {w:World}{gs T:Nat}{cs:Array Value}{eA cA:Option Addr}{en ec cn cc:Nat}(h:Blk w gs T cs)(h5:cs[5]? = some (.slice eA en ec))(h6:cs[6]? = some (.slice cA cn cc)) :
 (∀x,eA.map (·.block)=some x→x∈zL w gs)∧(∀x,cA.map (·.block)=some x→x∈zL w gs):=by
 unfold zL;rw[h.cell 5,h.cell 6,h5,h6];exact⟨fun x hx=>List.mem_cons_of_mem _ (List.mem_append.2 (.inl (mem_ptB.2 hx))),fun x hx=>List.mem_cons_of_mem _ (List.mem_append.2 (.inr (mem_ptB.2 hx)))⟩
theorem SrM.put {w:World}{base gs:Nat}{eA cA:Option Addr}{ec cc:Nat}{ends:List Int}{cps:List Value}{i:Nat}{v:Value}{cs:Array Value}
 (hb:Blk w gs 257 cs) (h5:cs[5]? = some (.slice eA ends.length ec)) (h6:cs[6]? = some (.slice cA cps.length cc)) (hi:i≠5∧i≠6)
 (he:OwnI w base 3 eA ec ends) (hc:OwnS w base 65 1 cA cps.length cc cps) :
 OwnI (w.setCell ⟨gs,i,none⟩ v) base 3 eA ec ends∧OwnS (w.setCell ⟨gs,i,none⟩ v) base 65 1 cA cps.length cc cps∧ZF gs w (w.setCell ⟨gs,i,none⟩ v):=by
 have hm:=zL_mem hb h5 h6;refine⟨OwnS.far he (p:=⟨gs,i,none⟩) (own_blk he hb de) v,OwnS.far hc (p:=⟨gs,i,none⟩) (own_blk hc hb de) v,?_⟩;refine ZF.mk2 (Kp.set (Kp.refl _ _) (p:=⟨gs,i,none⟩) (.inl List.mem_cons_self) v) (hb.set i v) (eA:=eA) (en:=ends.length) (ec:=ec) (cA:=cA) (cn:=cps.length) (cc:=cc) ?_ ?_ (fun x hx=>.inl (hm.1 x hx)) (fun x hx=>.inl (hm.2 x hx))
 ·rw[Array.getElem?_setIfInBounds,if_neg hi.1];exact h5
 ·rw[Array.getElem?_setIfInBounds,if_neg hi.2];exact h6
theorem zstep_any (w0 w:World)(gs:Nat)(tA:Option Addr)(tn tc:Nat)(most:Int)(fuel st ns:Nat)(h:SrM w w0.heap.size gs tA tn tc most fuel st false ns)(x0:Ext w0 w)(hst:st≤fuel)(hf:fuel≤1000000000000) :
 Calls Tryz.prog 211 #[.pointer (some ⟨gs,0,none⟩)] w (RetStp w0 gs tA tn tc most fuel st ns w):=by
 obtain⟨⟨eA,ec,ends,cA,cc,cps,hb,he,hc,h1,h2,h3,h4⟩,hlo⟩:=h;obtain⟨he1,hc1,z1⟩:=SrM.put (i:=3) (v:=.int .i64 ((st:Int)+1)) hb rfl rfl om he hc;have hb1:=hb.set 3 (.int .i64 ((st:Int)+1));have x1:Ext w0 (w.setCell ⟨gs,3,none⟩ (.int .i64 ((st:Int)+1))):=x0.setNew (p:=⟨gs,3,none⟩) hlo _;have c3:w.cell? ⟨gs,3,none⟩=some (.int .i64 st):=hb.cell 3;have f3:=hb.frz 3;have ewp:IntKind.i64.wrap ((st:Int)+1)=(st:Int)+1:=wj;have HE:=lh h1;have HC:=lh h2;have H3:=lh h3;have H4:=lh h4;have HX1:=lh x1;have HE1:=lh he1;have HC1:=lh hc1;have HZ1:=lh z1;have HGL:=lh hb.lt;have HB1:Hid (Blk (w.setCell ⟨gs,3,none⟩ (.int .i64 ((st:Int)+1))) gs 257 #[.slice tA tn tc,.int .i64 most,.int .i64 fuel,.int .i64 ((st:Int)+1),.bool false,.slice eA ends.length ec,.slice cA cps.length cc]):=lh (by simpa using hb1);clear h1 h2 h3 h4 x1 he1 hc1 z1 he hc hb hb1;go_enter Tryz.func211,Tryz.ntmps211
 go_upto_region 2 with fail
 generalize w.setCell ⟨gs,3,none⟩ (.int .i64 ((st:Int)+1))=wa at *;clear c3 f3;have c2:wa.cell? ⟨gs,2,none⟩=some (.int .i64 fuel):=HB1.out.cell 2;have c3:wa.cell? ⟨gs,3,none⟩=some (.int .i64 ((st:Int)+1)):=HB1.out.cell 3;have c4:wa.cell? ⟨gs,4,none⟩=some (.bool false):=HB1.out.cell 4;have f4:=HB1.out.frz 4;by_cases hlt:st+1≤fuel
 ·have hgt:¬((fuel:Int)<(st:Int)+1):=om
  go_wp2_with (go_quiet (fail))
  go_ret
  have xd:=Ext.drewN wa nq;refine⟨by simp[hlt],⟨⟨eA,ec,ends,cA,cc,cps,?_,OwnS.ext HE1.out xd,OwnS.ext HC1.out xd,HE.out,HC.out,H3.out,H4.out⟩,hlo⟩,HX1.out.trans xd,HZ1.out.ext xd HGL.out⟩;have b:=HB1.out.ext xd
  simpa[hlt] using b
 ·have hgt:(fuel:Int)<(st:Int)+1:=om
  go_upto_region 3 with(go_quiet (fail))
  have xd:=Ext.drewN wa nq;have HB2:=lh (HB1.out.ext xd);have HX2:=lh (HX1.out.trans xd);have HE2:=lh (OwnS.ext HE1.out xd);have HC2:=lh (OwnS.ext HC1.out xd);have HZ2:=lh (HZ1.out.ext xd HGL.out);clear xd c2 c3 c4 f4 HB1 HX1 HE1 HC1 HZ1;generalize wa.drewN nq=wb at *;have f4:=HB2.out.frz 4;have c4:wb.cell? ⟨gs,4,none⟩=some (.bool false):=HB2.out.cell 4;obtain⟨he3,hc3,z3⟩:=SrM.put (i:=4) (v:=.bool true) HB2.out rfl rfl om HE2.out HC2.out;have hb3:=HB2.out.set 4 (.bool true);have x3:Ext w0 (wb.setCell ⟨gs,4,none⟩ (.bool true)):=HX2.out.setNew (p:=⟨gs,4,none⟩) hlo _
  go_wp2_with fail
  go_ret
  refine⟨by simp[hlt],⟨⟨eA,ec,ends,cA,cc,cps,?_,he3,hc3,HE.out,HC.out,H3.out,H4.out⟩,hlo⟩,x3,HZ2.out.trans z3⟩
  simpa[hlt] using hb3
def RetWi (n:Nat)(w:World)(e:Ending)(w':World):Prop:=∃(A:Option Addr) (c:Nat) (l:List Sp),e=.returned (.slice A l.length c)∧l.length=n∧CapAt w' A c l∧Ext w w'
theorem flatS_set2:∀(l:List Sp) (m:Nat) (p q:Int),m<l.length→((flatS l).set (m*2) (.int .i64 p)).set (m*2+1) (.int .i64 q)=flatS (l.set m (p,q))
 | [],m,p,q,h=>by simp at h
 | s::l,0,p,q,_=>by simp[flatS]
 | s::l,m+1,p,q,h=>by
  have ih:=flatS_set2 l m p q (by simpa using h);have e:(m+1)*2=m*2+1+1:=om;rw[e];have e2:flatS (s::l)=.int .i64 s.1::.int .i64 s.2::flatS l:=by simp[flatS]
  rw[e2];simp only[List.set_cons_succ];rw[ih];simp[flatS]
theorem cap_of_own {w:World}{base c:Nat}{A:Option Addr}{l:List Sp}(h:OwnS w base 82 2 A l.length c (flatS l))(hr:∀s∈l,S64 s):CapAt w A c l:=
 ⟨SL.of_ownT h hr,fun b hb=>(OwnS.blt h hb).2⟩
theorem zwith_any (w:World)(A:Option Addr)(c:Nat)(l:List Sp)(n p q:Int)(hC:CapAt w A c l)(hl:l.length≤1000)(hn:I64 n)(hp:I64 p)(hq:I64 q) :
 Calls Tryz.prog 190 #[.slice A l.length c,.int .i64 n,.int .i64 p,.int .i64 q] w (RetWi l.length w):=by
 obtain⟨iA,jA0,jA1,jA2,jA3⟩:=info_parts infoA2;have hll:=hC.1.len;have E0:=Ext.alloc w (.cells #[] 82);have HO:Hid (OwnS (w.alloc (.cells #[] 82)) w.heap.size 82 2 (some ⟨w.heap.size,0,none⟩) 0 0 []):=lh (OwnS.of_blk (n:=0) (c:=0) (Blk.new w 82 #[]) (Nat.le_refl _) si si um);have HCL:=lh (hC.1.ext E0).cells;have HR:=lh hC.1.rng;have HN:=lh hn;have HPQ:=lh (show S64 (p,q) from⟨hp,hq⟩);clear hC hp hq hn;go_enter Tryz.func190,Tryz.ntmps190
 go_upto_region 2 with(at_builtin;refine wpList_app _ rfl _ _ _ rfl w.heap.size 82 iA _ 2 16 Tryz.underlying65 jA0 jA1 jA2 jA3 rfl om _ 0 0 [] rfl HO.out _ l.length c (flatS l) rfl (flatS_len l) HCL.out (flatS_one _) um om si ?_;intro A2 c2 w2 ho2 hg2 hat2)
 have x2:=E0.app HO.out hg2;simp only[Nat.zero_add,List.nil_append] at ho2 ⊢;have hc2:=OwnS.caps ho2;have HO2:=lh ho2;clear E0 HO HCL hg2 hat2 ho2;by_cases h1:1≤n
 ·by_cases h2:n≤l.length
  ·obtain⟨m,rfl⟩:∃m:Nat,n=(m:Int)+1:=⟨(n-1).toNat,om⟩;have hm:m<l.length:=om;have ewp:IntKind.i64.wrap ((m:Int)+1-1)=(m:Int):=by have:=HN.out;unfold I64 at this;rw[IntKind.wrap_i64];omega
   have hmI:(m:Int)<l.length:=om;have hfl:m*2<(flatS l).length:=by rw[flatS_len];omega
   obtain⟨g,rfl,hbg,g1,gf,glt,gst⟩:=OwnS.store HO2.out hfl;have ho3:=gst (.int .i64 p);have hfl2:m*2+1<((flatS l).set (m*2) (.int .i64 p)).length:=by rw[List.length_set,flatS_len];omega
   obtain⟨g',he,_,k1,kf,klt,kst⟩:=OwnS.store ho3 hfl2;injection he with he;injection he with he _ _
   subst he;have ho4:=kst (.int .i64 q);rw[flatS_set2 _ _ _ _ hm] at ho4;have x4:Ext w ((w2.setCell ⟨g,m*2,none⟩ (.int .i64 p)).setCell ⟨g,m*2+1,none⟩ (.int .i64 q)):=(x2.setNew (p:=⟨g,m*2,none⟩) hbg _).setNew (p:=⟨g,m*2+1,none⟩) hbg _;obtain⟨z,k0⟩:∃z,w2.cell? ⟨g,m*2+1,none⟩=some z:=by
    have hfl3:m*2+1<(flatS l).length:=by rw[flatS_len];omega
    obtain⟨g',he,_,k1,_⟩:=OwnS.store HO2.out hfl3;injection he with he;injection he with he _ _
    subst he;exact⟨_,k1⟩
   have kf0:w2.frozen? ⟨g,m*2+1,none⟩=false:=by
    have hfl3:m*2+1<(flatS l).length:=by rw[flatS_len];omega
    obtain⟨g',he,_,_,k1,_⟩:=OwnS.store HO2.out hfl3;injection he with he;injection he with he _ _
    subst he;exact k1
   have HO4:=lh ho4;have HX4:=lh x4;clear ho3 ho4 x4 gst kst k1 kf klt
   go_wp2_with fail
   go_ret
   refine⟨some ⟨g,0,none⟩,c2,l.set m (p,q),by simp,by simp,?_,HX4.out⟩;have ho:=HO4.out;rw[show l.length=(l.set m (p,q)).length from by simp] at ho;exact cap_of_own ho (fun s hs=>by
    rcases List.mem_or_eq_of_mem_set hs with h|h
    ·exact HR.out s h
    ·exact h▸HPQ.out)
  ·go_wp2_with fail
   go_ret
   exact⟨_,_,l,rfl,rfl,cap_of_own HO2.out HR.out,x2⟩
 ·go_wp2_with fail
  go_ret
  exact⟨_,_,l,rfl,rfl,cap_of_own HO2.out HR.out,x2⟩
end
section
open Go.RowKit
attribute [local go_sem ↓] Go.wp_at_zero Go.wp_at_succ
theorem infoC2:(Tryz.prog.info? 65).map (fun i=>(i.zero,i.size,i.bytes))=some (some (.slice none 0 0),1,24):=by kernel_rfl
theorem slices_one {l:List Value}(h:∀v∈l,∃A n c,v=.slice A n c):∀u∈l,u.oneCell'=true:=fun u hu=>by
 obtain⟨A,n,c,rfl⟩:=h u hu
 rfl
theorem own_apart {w:World}{b1 b2 e1 e2 s1 s2 n1 n2 c1 c2:Nat}{A B:Option Addr}{xs ys:List Value}(h:OwnS w b1 e1 s1 A n1 c1 xs)(k:OwnS w b2 e2 s2 B n2 c2 ys)(hne:e1≠e2):∀b,A.map (·.block)=some b→B.map (·.block)=some b→False:=fun b h1 h2=>by
 obtain⟨_,cur,q⟩:=OwnS.blt h h1;obtain⟨_,cur2,q2⟩:=OwnS.blt k h2;have e:=q.symm.trans q2;injection e with e;injection e with _ e _
 exact hne e
theorem zint_len {l:List Int}{n:Nat}(h:l.length=n)(x:Int):∃ys,Hid (ys=l++[x])∧Hid (ys.length=n+1):=⟨_,lh rfl,lh (by simp[h])⟩
theorem zrun_nil (w0 w:World)(gs:Nat)(tA:Option Addr)(tn tc:Nat)(most:Int)(fuel st ns i:Nat)(cA:Option Addr)(cc:Nat)(cl:List Sp)(x0:Ext w0 w)(hs:SrM w w0.heap.size gs tA tn tc most fuel st false ns)(hst:st≤fuel)(hns:ns≤1000000000)(hi:i≤1000000000) :
 Calls Tryz.prog 151 #[.pointer (some ⟨gs,0,none⟩),.pointer none,.int .i64 i,.slice cA cl.length cc] w (RetF w0 gs tA tn tc most fuel st ns w):=by
 obtain⟨⟨eA,ec,ends,kA,kc,cps,hb,he,hk,h1,h2,h3,h4⟩,hlo⟩:=hs;obtain⟨iC,jC0,jC1,jC2,jC3⟩:=info_parts infoC2;obtain⟨ys,HY,HYL⟩:=zint_len h1 (i:Int);have hcE:=OwnS.caps he;have hcK:=OwnS.caps hk;have c5:w.cell? ⟨gs,5,none⟩=some (.slice eA ends.length ec):=hb.cell 5;have f5:=hb.frz 5;have HB:=lh hb;have HE:=lh he;have HK:=lh hk;have H1:=lh h1;have H2:=lh h2;have H3:=lh h3;have H4:=lh h4;have HX:=lh x0;have HM:=lh (zL_mem hb (eA:=eA) (en:=ends.length) (ec:=ec) (cA:=kA) (cn:=cps.length) (cc:=kc) rfl rfl);have hel:ends.length≤1000000000:=om;have hkl:cps.length≤1000000000:=om;have hgE:=own_blk he hb de;have hgK:=own_blk hk hb de;have HEK:=lh (own_apart he hk de);have HGL:=lh hb.lt;clear hb he hk h1 h2 h3 h4 x0;go_enter Tryz.func151,Tryz.ntmps151
 go_upto_region 3 with(at_builtin;refine wpList_app1I (w1:=w) rfl _ _ _ rfl 3 infoInt Tryz.underlying22 w0 HX.out i rfl eA ec ends rfl HE.out rfl om ys HY.out ?_;intro A2 c2 w2 ho2 x2 hg2 hat2;have hb2:=(KpP.of_grown hg2).blk HB.out hgE;have hk2:=OwnS.kp HK.out (KpP.of_grown hg2) (fun b h1 h2=>HEK.out b h2 h1);have HB2:=lh hb2;have HK2:=lh hk2;have HO2:=lh ho2;have HG2:=lh hg2;have HX2:=lh x2;have HAT:=lh hat2;have c5b:w2.cell? ⟨gs,5,none⟩=some (.slice eA ends.length ec):=hb2.cell 5;have f5b:=hb2.frz 5;clear ho2 x2 hg2 hat2 hb2 hk2)
 have hg5:=HM.out.1;have B3:Blk (w2.setCell ⟨gs,5,none⟩ (.slice A2 ys.length c2)) gs 257 #[.slice tA tn tc,.int .i64 most,.int .i64 fuel,.int .i64 st,.bool false,.slice A2 ys.length c2,.slice kA cps.length kc]:=by simpa using HB2.out.set 5 (.slice A2 ys.length c2)
 have HE3:=lh (OwnS.far HO2.out (p:=⟨gs,5,none⟩) (own_blk HO2.out HB2.out de) (.slice A2 ys.length c2));have HK3:=lh (OwnS.far HK2.out (p:=⟨gs,5,none⟩) (own_blk HK2.out HB2.out de) (.slice A2 ys.length c2));have HX3:=lh (HX2.out.setNew (p:=⟨gs,5,none⟩) hlo (.slice A2 ys.length c2));have HZ3:Hid (ZF gs w (w2.setCell ⟨gs,5,none⟩ (.slice A2 ys.length c2))):=lh (by
  have k2:Kp (zL w gs) w w2:=(Kp.refl _ w).kpP (KpP.of_grown HG2.out) (fun i hi=>HM.out.1 i hi);refine ZF.mk2 (k2.set (p:=⟨gs,5,none⟩) (.inl List.mem_cons_self) _) B3 (eA:=A2) (en:=ys.length) (ec:=c2) (cA:=kA) (cn:=cps.length) (cc:=kc) rfl rfl (fun x hx=>?_) (fun x hx=>.inl (HM.out.2 x hx));rcases HAT.out with h|h
  ·exact .inl (HM.out.1 x (h▸hx))
  ·rw[h] at hx;injection hx with hx;exact .inr om)
 generalize w2.setCell ⟨gs,5,none⟩ (.slice A2 ys.length c2)=w3 at *;have c6:w3.cell? ⟨gs,6,none⟩=some (.slice kA cps.length kc):=B3.cell 6;have HB3:=lh B3;have f6:=B3.frz 6;have hgK3:=own_blk HK3.out B3 de;have HGL3:=lh B3.lt;have hx3:=HX3.out.size;clear c5b f5b HB2 HK2 HO2 HG2 HX2 HAT B3 hg5 c5 f5 HB HE HK HX HEK hgE hgK
 go_upto_region 4 with(at_builtin;refine wpList_app _ rfl _ _ _ rfl w0.heap.size 65 iC _ 1 24 Tryz.underlying255 jC0 jC1 jC2 jC3 rfl om kA cps.length kc cps rfl (OwnS.ext HK3.out (Ext.alloc _ _)) _ 1 1 [.slice cA cl.length cc] rfl rfl (blk_cells (Blk.new _ _ _)) (slices_one si) um om (by rw[World.size_alloc];omega) ?_;intro A4 c4 w4 ho4 hg4 hat4;have E3:=Ext.alloc w3 (.cells #[.slice cA cl.length cc] 65);have hb4:=(KpP.of_grown hg4).blk (HB3.out.ext E3) hgK3;have he4:=OwnS.kp (OwnS.ext HE3.out E3) (KpP.of_grown hg4) (fun b h1 h2=>own_apart HE3.out HK3.out de b h1 h2);have HB4:=lh hb4;have HE4:=lh he4;have HO4:=lh ho4;have HX4:=lh (Ext.app (HX3.out.trans E3) (OwnS.ext HK3.out E3) hg4);have HK4:=lh (((Kp.of_ext E3:Kp (zL w3 gs) w3 _).kpP (KpP.of_grown hg4) (fun i hi=>(zL_mem HB3.out (eA:=A2) (en:=ys.length) (ec:=c2) (cA:=kA) (cn:=cps.length) (cc:=kc) rfl rfl).2 i hi)));have HAT:=lh hat4;have c6b:w4.cell? ⟨gs,6,none⟩=some (.slice kA cps.length kc):=hb4.cell 6;have f6b:=hb4.frz 6;clear ho4 hg4 hat4 hb4 he4 E3)
 obtain⟨zs,HZS,HZL⟩:∃zs:List Value,Hid (zs=cps++[.slice cA cl.length cc])∧Hid (zs.length=cps.length+1):=⟨_,lh rfl,lh si⟩;have B5:Blk (w4.setCell ⟨gs,6,none⟩ (.slice A4 (cps.length+1) c4)) gs 257 #[.slice tA tn tc,.int .i64 most,.int .i64 fuel,.int .i64 st,.bool false,.slice A2 ys.length c2,.slice A4 (cps.length+1) c4]:=by simpa using HB4.out.set 6 (.slice A4 (cps.length+1) c4)
 have HE5:=lh (OwnS.far HE4.out (p:=⟨gs,6,none⟩) (own_blk HE4.out HB4.out de) (.slice A4 (cps.length+1) c4));have HO5:=lh (OwnS.far HO4.out (p:=⟨gs,6,none⟩) (own_blk HO4.out HB4.out de) (.slice A4 (cps.length+1) c4));have HX5:=lh (HX4.out.setNew (p:=⟨gs,6,none⟩) hlo (.slice A4 (cps.length+1) c4));have HZ5:Hid (ZF gs w (w4.setCell ⟨gs,6,none⟩ (.slice A4 (cps.length+1) c4))):=lh (by
  refine HZ3.out.trans ?_;have hm3:=zL_mem HB3.out (eA:=A2) (en:=ys.length) (ec:=c2) (cA:=kA) (cn:=cps.length) (cc:=kc) rfl rfl;refine ZF.mk2 (HK4.out.set (p:=⟨gs,6,none⟩) (.inl List.mem_cons_self) _) B5 (eA:=A2) (en:=ys.length) (ec:=c2) (cA:=A4) (cn:=cps.length+1) (cc:=c4) rfl rfl (fun x hx=>.inl (hm3.1 x hx)) (fun x hx=>?_);rcases HAT.out with h|h
  ·exact .inl (hm3.2 x (h▸hx))
  ·rw[h] at hx;injection hx with hx;rw[World.size_alloc] at hx;exact .inr om)
 have HB5:=lh B5;have HGL5:=lh B5.lt;clear c6 f6 c6b f6b HB4 HE4 HO4 HX4 HK4 HAT HB3 HE3 HK3 HX3 HZ3 hgK3 B5 hx3;generalize w4.setCell ⟨gs,6,none⟩ (.slice A4 (cps.length+1) c4)=w5 at *;have c1:w5.cell? ⟨gs,1,none⟩=some (.int .i64 most):=HB5.out.cell 1;have c5:w5.cell? ⟨gs,5,none⟩=some (.slice A2 ys.length c2):=HB5.out.cell 5;have HC2:=OwnS.caps HE5.out;have fin:∀b:Bool,∀m,RetF w0 gs tA tn tc most fuel st ns w (.returned (.bool b)) (w5.drewN m):=fun b m=>by
  have xd:=Ext.drewN w5 m;refine⟨b,st,false,ns+1,rfl,⟨⟨A2,c2,ys,A4,c4,zs,?_,OwnS.ext HE5.out xd,?_,by rw[HYL.out],by rw[HZL.out,H2.out],?_,?_⟩,hlo⟩,HX5.out.trans xd,HZ5.out.ext xd HGL.out,om,om,om,.inl ⟨rfl,hst⟩⟩
  ·rw[HZL.out];exact HB5.out.ext xd
  ·rw[HZL.out,HZS.out];exact OwnS.ext HO5.out xd
  ·rw[HY.out];intro x hx;rcases List.mem_append.1 hx with h|h
   ·exact H3.out x h
   ·obtain rfl:=List.mem_singleton.1 h;unfold I64;omega
  ·rw[HZS.out];intro x hx;rcases List.mem_append.1 hx with h|h
   ·exact H4.out x h
   ·obtain rfl:=List.mem_singleton.1 h;exact⟨_,_,_,rfl⟩
 have HF:=lh fin;clear fin HB5 HE5 HO5 HX5 HZ5;by_cases hm:0≤most
 ·go_wp2_with (go_quiet (fail))
  go_ret
  exact HF.out _ _
 ·go_wp2_with (go_quiet (fail))
  go_ret
  exact HF.out _ _
end
section
open Go.RowKit
attribute [local go_sem ↓] Go.wp_at_zero Go.wp_at_succ
theorem infoIn:(Tryz.prog.info? 123).map (fun i=>(i.zero,i.size,i.bytes))=some (some (.agg #[.int .i64 0,.int .i64 0,.int .i64 0,.int .i64 0,.slice none 0 0]),5,56):=by kernel_rfl
def CodeAll (bd:Nat)(S:Nat→Prop)(w0:World)(d B:Nat):Prop:=
 ∀(w:World) (v:Value),Ext w0 w→TreeAt bd S w0 d v→∀fm:Int,0≤fm→fm+B≤1000000→Calls Tryz.prog 65 #[v,.int .i64 fm] w (RetCd 123 w0 B w)
theorem kid8x {bd:Nat}{S:Nat→Prop}{w w0:World}{d:Nat}{K:Option Addr}{ks:List Value}(x:Ext w0 w)(hc:CellsAt w0 K (ks.flatMap cellsOf))(ht:∀u∈ks,TreeAt bd S w0 d u){i:Nat}(hi:i<ks.length) :
 ∃b o,K=some ⟨b,o,none⟩∧∃n:Nd,TreeAt bd S w0 d n.val∧w.cell? ⟨b,o+i*8,none⟩=some (.int .i64 n.op)∧w.cell? ⟨b,o+i*8+1,none⟩=some (.slice n.A n.l.length n.c)∧w.cell? ⟨b,o+i*8+2,none⟩=some (.slice n.K n.ks.length n.kc)∧
  w.cell? ⟨b,o+i*8+3,none⟩=some (.int .i64 n.mn)∧w.cell? ⟨b,o+i*8+4,none⟩=some (.int .i64 n.mx)∧w.cell? ⟨b,o+i*8+5,none⟩=some (.int .i64 n.md)∧w.cell? ⟨b,o+i*8+6,none⟩=some (.int .i64 n.n)∧w.cell? ⟨b,o+i*8+7,none⟩=some (.bool n.neg):=by
 obtain⟨b,o,hK,n,h,k0,k1,k2,k3,k4,k5,k6,k7⟩:=kid8 hc ht hi;exact⟨b,o,hK,n,h,x.cell k0,x.cell k1,x.cell k2,x.cell k3,x.cell k4,x.cell k5,x.cell k6,x.cell k7⟩
theorem xcode_1 (w0 w:World)(x0:Ext w0 w)(A:Option Addr)(c:Nat)(l:List Sp)(K:Option Addr)(kc:Nat)(ks:List Value)(mn mx md nn:Int)(neg:Bool)(fm:Int)(hsl:SL w0 A c l)(hset:SetOk l) :
 Calls Tryz.prog 65 #[.agg #[.int .i64 1,.slice A l.length c,.slice K ks.length kc,.int .i64 mn,.int .i64 mx,.int .i64 md,.int .i64 nn,.bool neg],.int .i64 fm] w (RetCd 123 w0 3 w):=by
 have B0:=Blk.new w 26 #[.int .i64 1,.slice A l.length c,.slice K ks.length kc,.int .i64 mn,.int .i64 mx,.int .i64 md,.int .i64 nn,.bool neg];have E0:=Ext.alloc w (.cells #[.int .i64 1,.slice A l.length c,.slice K ks.length kc,.int .i64 mn,.int .i64 mx,.int .i64 md,.int .i64 nn,.bool neg] 26);have HS:=lh hsl;have hll:=hsl.len;clear hsl;go_enter Tryz.func65,Tryz.ntmps65
 go_upto_region 1 with fail
 obtain⟨gx,hgx⟩:∃gx,gx=w.heap.size:=⟨_,rfl⟩
 rw[←hgx] at B0 ⊢;clear hgx;generalize w.alloc (.cells #[.int .i64 1,.slice A l.length c,.slice K ks.length kc,.int .i64 mn,.int .i64 mx,.int .i64 md,.int .i64 nn,.bool neg] 26)=wa at *;have z0:wa.cell? ⟨gx,0,none⟩=some (.int .i64 1):=B0.cell 0;have z1:wa.cell? ⟨gx,1,none⟩=some (.slice A l.length c):=B0.cell 1;have z2:wa.cell? ⟨gx,2,none⟩=some (.slice K ks.length kc):=B0.cell 2;have z6:wa.cell? ⟨gx,6,none⟩=some (.int .i64 nn):=B0.cell 6
 go_wp2_with fail
 go_ret
 exact⟨_,1,[⟨1,0,0,0,A,c,l⟩],rfl,by simp,cd_one (h:=⟨1,0,0,0,A,c,l⟩) (Blk.new wa _ _) E0.size (E0.trans (Ext.alloc _ _)) ⟨by simp[Hin.wf,I64],HS.out,setE_of hset⟩⟩
theorem xcode_11 (w0 w:World)(x0:Ext w0 w)(A:Option Addr)(c:Nat)(l:List Sp)(K:Option Addr)(kc:Nat)(ks:List Value)(mn mx md nn:Int)(neg:Bool)(fm:Int)(hn:0≤nn∧nn≤9) :
 Calls Tryz.prog 65 #[.agg #[.int .i64 11,.slice A l.length c,.slice K ks.length kc,.int .i64 mn,.int .i64 mx,.int .i64 md,.int .i64 nn,.bool neg],.int .i64 fm] w (RetCd 123 w0 3 w):=by
 have B0:=Blk.new w 26 #[.int .i64 11,.slice A l.length c,.slice K ks.length kc,.int .i64 mn,.int .i64 mx,.int .i64 md,.int .i64 nn,.bool neg];have E0:=Ext.alloc w (.cells #[.int .i64 11,.slice A l.length c,.slice K ks.length kc,.int .i64 mn,.int .i64 mx,.int .i64 md,.int .i64 nn,.bool neg] 26);go_enter Tryz.func65,Tryz.ntmps65
 go_upto_region 1 with fail
 obtain⟨gx,hgx⟩:∃gx,gx=w.heap.size:=⟨_,rfl⟩
 rw[←hgx] at B0 ⊢;clear hgx;generalize w.alloc (.cells #[.int .i64 11,.slice A l.length c,.slice K ks.length kc,.int .i64 mn,.int .i64 mx,.int .i64 md,.int .i64 nn,.bool neg] 26)=wa at *;have z0:wa.cell? ⟨gx,0,none⟩=some (.int .i64 11):=B0.cell 0;have z1:wa.cell? ⟨gx,1,none⟩=some (.slice A l.length c):=B0.cell 1;have z2:wa.cell? ⟨gx,2,none⟩=some (.slice K ks.length kc):=B0.cell 2;have z6:wa.cell? ⟨gx,6,none⟩=some (.int .i64 nn):=B0.cell 6
 go_wp2_with fail
 go_ret
 exact⟨_,1,[⟨5,0,0,nn,none,0,[]⟩],rfl,by simp,cd_one (h:=⟨5,0,0,nn,none,0,[]⟩) (Blk.new wa _ _) E0.size (E0.trans (Ext.alloc _ _)) (HinOk.plain _ (by simp[I64];omega))⟩
theorem xcode_0 (w0 w:World)(x0:Ext w0 w)(A:Option Addr)(c:Nat)(l:List Sp)(K:Option Addr)(kc:Nat)(ks:List Value)(mn mx md nn:Int)(neg:Bool)(fm:Int) :
 Calls Tryz.prog 65 #[.agg #[.int .i64 0,.slice A l.length c,.slice K ks.length kc,.int .i64 mn,.int .i64 mx,.int .i64 md,.int .i64 nn,.bool neg],.int .i64 fm] w (RetCd 123 w0 3 w):=by
 have B0:=Blk.new w 26 #[.int .i64 0,.slice A l.length c,.slice K ks.length kc,.int .i64 mn,.int .i64 mx,.int .i64 md,.int .i64 nn,.bool neg];have E0:=Ext.alloc w (.cells #[.int .i64 0,.slice A l.length c,.slice K ks.length kc,.int .i64 mn,.int .i64 mx,.int .i64 md,.int .i64 nn,.bool neg] 26);go_enter Tryz.func65,Tryz.ntmps65
 go_upto_region 1 with fail
 obtain⟨gx,hgx⟩:∃gx,gx=w.heap.size:=⟨_,rfl⟩
 rw[←hgx] at B0 ⊢;clear hgx;generalize w.alloc (.cells #[.int .i64 0,.slice A l.length c,.slice K ks.length kc,.int .i64 mn,.int .i64 mx,.int .i64 md,.int .i64 nn,.bool neg] 26)=wa at *;have z0:wa.cell? ⟨gx,0,none⟩=some (.int .i64 0):=B0.cell 0;have z1:wa.cell? ⟨gx,1,none⟩=some (.slice A l.length c):=B0.cell 1;have z2:wa.cell? ⟨gx,2,none⟩=some (.slice K ks.length kc):=B0.cell 2;have z6:wa.cell? ⟨gx,6,none⟩=some (.int .i64 nn):=B0.cell 6
 go_wp2_with fail
 go_ret
 exact⟨none,0,[],rfl,by simp,CdI.nil E0⟩
theorem xcode_2 (w0 w:World)(x0:Ext w0 w)(A:Option Addr)(c:Nat)(l:List Sp)(K:Option Addr)(kc:Nat)(ks:List Value)(mn mx md nn:Int)(neg:Bool)(fm:Int)(bd:Nat)(S:Nat→Prop)(d B:Nat)(IH:CodeAll bd S w0 d B)(hB:2≤B)(hkl:ks.length≤kc∧kc≤maxLen)(hcl:CellsAt w0 K (ks.flatMap cellsOf))(hks:∀u∈ks,TreeAt bd S w0 d u)(hf:0≤fm)(hfB:fm+(B*ks.length:Nat)≤1000000) :
 Calls Tryz.prog 65 #[.agg #[.int .i64 2,.slice A l.length c,.slice K ks.length kc,.int .i64 mn,.int .i64 mx,.int .i64 md,.int .i64 nn,.bool neg],.int .i64 fm] w (RetCd 123 w0 (B*ks.length+(2-2*ks.length)) w):=by
 have B0:=Blk.new w 26 #[.int .i64 2,.slice A l.length c,.slice K ks.length kc,.int .i64 mn,.int .i64 mx,.int .i64 md,.int .i64 nn,.bool neg];have E0:=Ext.alloc w (.cells #[.int .i64 2,.slice A l.length c,.slice K ks.length kc,.int .i64 mn,.int .i64 mx,.int .i64 md,.int .i64 nn,.bool neg] 26);obtain⟨iI,jI0,jI1,jI2,jI3⟩:=info_parts infoIn;have HIH:=lh IH;have HC:=lh hcl;have HK:=lh hks;have HKL:ks.length≤kc∧kc≤9223372036854775807:=⟨hkl.1,by have:=hkl.2;unfold maxLen at this;omega⟩;clear IH hcl hks hkl;go_enter Tryz.func65,Tryz.ntmps65
 go_upto_region 1 with fail
 obtain⟨gx,hgx⟩:∃gx,gx=w.heap.size:=⟨_,rfl⟩
 rw[←hgx] at B0 ⊢;clear hgx;generalize w.alloc (.cells #[.int .i64 2,.slice A l.length c,.slice K ks.length kc,.int .i64 mn,.int .i64 mx,.int .i64 md,.int .i64 nn,.bool neg] 26)=wa at *;have z0:wa.cell? ⟨gx,0,none⟩=some (.int .i64 2):=B0.cell 0;have z1:wa.cell? ⟨gx,1,none⟩=some (.slice A l.length c):=B0.cell 1;have z2:wa.cell? ⟨gx,2,none⟩=some (.slice K ks.length kc):=B0.cell 2;have z6:wa.cell? ⟨gx,6,none⟩=some (.int .i64 nn):=B0.cell 6;have X0:=x0.trans E0
 go_upto_region 9 with fail
 go_loopw [6,5] (fun v6 v5 wr=>∃(i:Nat) (A5:Option Addr) (c5:Nat) (hs:List Hin),v6=.int .i64 i∧v5=.slice A5 hs.length c5∧i≤ks.length∧hs.length+2*i≤B*i∧Ext wa wr∧Hid (CdI w0 wa wr 123 A5 c5 hs)) (fun v _ _=>ks.length-(intOf v).toNat)
 case atStart=>exact⟨0,none,0,[],rfl,rfl,om,by simp,Ext.rfl' _,lh (CdI.nil (Ext.rfl' wa))⟩
 case round=>
  obtain⟨i,A5,c5,hs,rfl,rfl,hi,hlen,x1,HI⟩:=hrel;have hcaps:=HI.out.len;have z2r:=x1.cell z2;by_cases hlt:i<ks.length
  ·have hiI:(i:Int)<ks.length:=om;have hm1:=mul_step B i;have hm2:B*(i+1)≤B*ks.length:=mul_le2 hlt;obtain⟨b,o,hK,n,ht,k0,k1,k2,k3,k4,k5,k6,k7⟩:=kid8x (X0.trans x1) HC.out HK.out hlt;have hK':=hK;subst hK';have HT:=lh ht;have XR:=lh (X0.trans x1);have ewp:IntKind.i64.wrap (fm+(hs.length:Int))=fm+(hs.length:Int):=wj;clear ht
   go_wp2_with (first|(go_at_call 65;refine(HIH.out wr _ XR.out HT.out (fm+(hs.length:Int)) om om).mono ?_;rintro e w3 ⟨A3,c3,hs3,rfl,hl3,h3⟩;have H3:=lh h3;have hc3:=h3.len;have x3:=h3.ext;clear h3)|(at_builtin;obtain⟨ys,HY⟩:∃ys,Hid (ys=hs++hs3):=⟨_,lh rfl⟩;refine wpList_appN rfl _ _ _ rfl iI Tryz.underlying31 jI0 jI1 jI2 jI3 A5 c5 hs rfl (HI.out.up x3) A3 c3 hs3 rfl (OwnS.cells H3.out.own) H3.out.ok om ys HY.out ?_;intro A8 c8 w8 h8 x8 hr8 hg8;have H8:=lh h8;have HG8:=lh hg8;have HR8:=lh hr8;clear h8 hg8 hr8))
   have hyl:ys.length=hs.length+hs3.length:=by rw[HY.out];simp
   go_roundw
   case rel=>exact⟨i+1,A8,c8,ys,by go_num,rfl,om,om,(x1.trans x3).grown HG8.out (fun k hk=>by exact HR8.out k hk),H8⟩
   case measure=>simp[intOf];omega
  ·have hiI:¬(i:Int)<ks.length:=om;have e:i=ks.length:=om;subst e
   go_wp2_with fail
   go_ret
   exact⟨A5,c5,hs,rfl,om,HI.out.low E0⟩
end
section
open Go.RowKit
attribute [local go_sem ↓] Go.wp_at_zero Go.wp_at_succ
def numT:Nat→Int
 | 0=>5
 | d+1=>3*numT d+10
theorem numT_pos:∀d,5≤numT d
 | 0=>by simp[numT]
 | d+1=>by have:=numT_pos d;simp only[numT];omega
def reZ:Value:=.agg #[.int .i64 0,.slice none 0 0,.slice none 0 0,.int .i64 0,.int .i64 0,.int .i64 0,.int .i64 0,.bool false]
def UsesOk (uses:Int):Prop:=Go.bits BinOp.and IntKind.i64 uses 1=0∧Go.bits BinOp.and IntKind.i64 uses 2=0∧Go.bits BinOp.and IntKind.i64 uses 4=0∧Go.bits BinOp.and IntKind.i64 uses 8=0∧Go.bits BinOp.and IntKind.i64 uses 32=0
theorem infoRe:(Tryz.prog.info? 26).map (fun i=>(i.zero,i.size,i.bytes))=some (some reZ,8,96):=by kernel_rfl
theorem Nd.one (n:Nd):∀u∈n.cs,u.oneCell'=true:=by
 intro u hu;simp only[Nd.cs,List.mem_cons,List.not_mem_nil,or_false] at hu;rcases hu with rfl|rfl|rfl|rfl|rfl|rfl|rfl|rfl<;>rfl
def RetKids (d:Nat)(w0:World)(gm:Nat)(A:Option Addr)(c:Nat)(ls:List Int)(uses B:Int)(w:World)(e:Ending)(w':World):Prop:=
 ∃(K:Option Addr) (kc:Nat) (ks:List Value),e=.returned (.slice K ks.length kc)∧2≤ks.length∧ks.length≤3∧ks.length≤kc∧kc≤maxLen∧CellsAt w' K (ks.flatMap cellsOf)∧(∀u∈ks,TreeAt 3 (fun k=>w.heap.size≤k) w' d u)∧
  (∀k,K.map (·.block)=some k→w.heap.size≤k)∧MkM w' w0 gm A c ls uses B∧KpP (·=gm) w w'
structure KdI (wr w:World)(d gm:Nat)(K:Option Addr)(kc:Nat)(ks:List Value):Prop where
 own:OwnS wr w.heap.size 26 8 K ks.length kc (ks.flatMap cellsOf)
 tr:∀u∈ks,TreeAt 3 (fun k=>w.heap.size≤k∧K.map (·.block)≠some k) wr d u
 kp:KpP (·=gm) w wr
 gm:gm<w.heap.size
theorem MkM.kpq {w w' w0:World}{gm:Nat}{A:Option Addr}{c:Nat}{ls:List Int}{uses B:Int}{q:Nat→Prop}(h:MkM w w0 gm A c ls uses B)(k:KpP q w w')(hq:∀i,q i→i≠gm∧w0.heap.size≤i):MkM w' w0 gm A c ls uses B:=by
 obtain⟨h1,h2,h3,at_,left,caps,h4,h5⟩:=h;exact⟨h1.kp k (fun i hi=>(hq i hi).2),h2,h3,at_,left,caps,k.blk h4 (fun hi=>(hq gm hi).1 rfl),h5⟩
theorem KdI.start (w:World)(d gm:Nat)(h:gm<w.heap.size):KdI w w d gm none 0 []:=⟨OwnS.nil _ _ _ _,by simp,KpP.refl _ _,h⟩
theorem KdI.gmk {wr wr' w:World}{d gm:Nat}{K:Option Addr}{kc:Nat}{ks:List Value}(h:KdI wr w d gm K kc ks)(k:KpP (·=gm) wr wr'):KdI wr' w d gm K kc ks:=by
 have hg:=h.gm;refine⟨OwnS.kp h.own k (fun b hb e=>?_),fun u hu=>(h.tr u hu).kp k (fun i hi hs=>?_),h.kp.trans k,h.gm⟩
 ·have:=OwnS.row h.own b hb;have e':b=gm:=e;omega
 ·have e':i=gm:=hi;omega
theorem KdI.push {w4 w8 w:World}{d gm:Nat}{K A8:Option Addr}{kc c8:Nat}{ks:List Value}{v:Value}(h:KdI w4 w d gm K kc ks)(hv:TreeAt 3 (fun k=>w.heap.size≤k∧K.map (·.block)≠some k) w4 d v){o:Obj}
 (hg:(w4.alloc o).grownBy w8 (K.map (·.block))) (ho:OwnS w8 w.heap.size 26 8 A8 (ks.length+1) c8 (ks.flatMap cellsOf++cellsOf v)) (hat:A8.map (·.block)=K.map (·.block)∨A8.map (·.block)=some (w4.alloc o).heap.size):KdI w8 w d gm A8 c8 (ks++[v]):=by
 have X:=Ext.alloc w4 o;have kk:=KpP.of_grown hg;have hlt:∀u,TreeAt 3 (fun k=>w.heap.size≤k∧K.map (·.block)≠some k) w4 d u→TreeAt 3 (fun k=>w.heap.size≤k∧A8.map (·.block)≠some k) w8 d u:=fun u hu=>by
  have h1:TreeAt 3 (fun k=>(w.heap.size≤k∧A8.map (·.block)≠some k)∧K.map (·.block)≠some k) (w4.alloc o) d u:=(hu.ext X).imp (fun k hk hs=>⟨⟨hk.1,fun e=>?_⟩,hk.2⟩)
  ·exact(h1.kp kk (fun i hi hs=>hs.2 hi)).imp (fun k hk _=>hk.1)
  ·rcases hat with e2|e2
   ·rw[e2] at e;exact hk.2 e
   ·rw[e2] at e;injection e with e;omega
 refine⟨?_,fun u hu=>?_,(h.kp.trans (KpP.of_ext X)).chain kk (fun i hi=>.inr (OwnS.row h.own i hi)),h.gm⟩
 ·rw[List.length_append,List.flatMap_append]
  simpa using ho
 ·rcases List.mem_append.1 hu with hu|hu
  ·exact hlt u (h.tr u hu)
  ·have:u=v:=by simpa using hu
   subst this;exact hlt u hv
theorem ykids_any (d:Nat)(w0:World)(gm:Nat)(A:Option Addr)(c:Nat)(ls:List Int)(uses:Int)(hd:d≤100)
 (IH:∀(w:World) (B:Int),MkM w w0 gm A c ls uses B→B+numT d≤100000000→Calls Tryz.prog 149 #[.pointer (some ⟨gm,0,none⟩),.int .i64 d] w (RetNd 3 (d+1) w0 gm A c ls uses (B+numT d) w))
 (w:World) (B:Int) (h:MkM w w0 gm A c ls uses B) (hB:B+3*numT d+4≤100000000) :
 Calls Tryz.prog 186 #[.pointer (some ⟨gm,0,none⟩),.int .i64 ((d:Int)+1)] w (RetKids (d+1) w0 gm A c ls uses (B+3*numT d+4) w):=by
 have hgm:gm<w.heap.size:=by
  obtain⟨_,_,_,_,_,_,hb,_⟩:=h;exact hb.lt
 have hT:=numT_pos d;have HSW:=lh h.ext.size;generalize numT d=T at *;have H0:=lh h;have HI0:=lh (KdI.start w (d+1) gm hgm);have HIH:=lh IH;clear IH h;obtain⟨iR,jR0,jR1,jR2,jR3⟩:=info_parts infoRe;have ewd:IntKind.i64.wrap ((d:Int)+1-1)=(d:Int):=wj;go_enter Tryz.func186,Tryz.ntmps186
 go_upto_region 3 with fail
 go_loopw [5,6] (fun v5 v6 wr=>∃(K:Option Addr) (kc:Nat) (ks:List Value),v6=.int .i64 ks.length∧v5=.slice K ks.length kc∧ks.length≤3∧Hid (KdI wr w (d+1) gm K kc ks)∧Hid (MkM wr w0 gm A c ls uses (B+(T+1)*ks.length))) (fun _ v _=>3-(intOf v).toNat)
 case atStart=>exact⟨none,0,[],rfl,rfl,by simp,HI0,lh (by have h:=H0.out;simpa using h)⟩
 case round=>
  obtain⟨K,kc,ks,rfl,rfl,hk3,HI,HM⟩:=hrel;clear H0 HI0;have hTm:(T+1)*(ks.length:Int)≤(T+1)*3:=Int.mul_le_mul_of_nonneg_left om om
  go_upto_region 5 with(go_at_call 184;refine(ynext_any w0 wr gm A c ls uses _ 2 HM.out om om om).mono ?_;rintro e w3 ⟨x,rfl,hx0,hx1,M3,K3⟩)
  ·have hlt':(ks.length:Int)<2+x:=by first|assumption|simpa using ‹decide _=true›
   have hk2:ks.length≤2:=om;have HI3:=lh (HI.out.gmk K3);have HM3:=lh M3;have hTm2:(T+1)*(ks.length:Int)≤(T+1)*2:=Int.mul_le_mul_of_nonneg_left om om;clear HI HM M3 K3
   go_wp2_with (first|(go_at_call 149;refine(HIH.out w3 _ HM3.out om).mono ?_;rintro e w4 ⟨v,rfl,hv,M4,K4⟩;obtain⟨nd,hnd,_⟩:=hv.node;subst hnd;have HV:=lh hv;have HM4:=lh M4;have HI4:=lh (HI3.out.gmk K4);have HS4:w.heap.size≤w4.heap.size:=HI4.out.kp.size;clear hv M4;unfold Nd.val)|(at_builtin;refine wpList_app _ rfl _ _ _ rfl w.heap.size 26 iR reZ 8 96 Tryz.underlying24 jR0 jR1 jR2 jR3 rfl om K ks.length kc (ks.flatMap cellsOf) rfl (OwnS.ext HI4.out.own (Ext.alloc _ _)) _ 1 1 nd.cs rfl rfl (blk_cells (Blk.new _ _ _)) nd.one um om (Nat.le_trans HS4 (Ext.alloc _ _).size) ?_;intro A8 c8 w8 ho8 hg8 hat8))
   have HI8:=lh (HI4.out.push (HV.out.imp (fun k hk _=>⟨by have:=HI3.out.kp.size;omega,fun e=>by have:=(OwnS.blt HI3.out.own e).1;omega⟩)) hg8 ho8 hat8);have HM8:=lh ((HM4.out.extW (Ext.alloc w4 _)).kpq (KpP.of_grown hg8) (fun i hi=>by have:=OwnS.row HI4.out.own i hi;have:=HI4.out.gm;have:=HSW.out;omega));have e1:(ks++[nd.val]).length=ks.length+1:=by simp
   have hmul:(T+1)*((ks.length+1:Nat):Int)=(T+1)*(ks.length:Int)+(T+1):=by rw[Int.natCast_succ,Int.mul_add];omega
   go_roundw
   case rel=>exact⟨A8,c8,ks++[nd.val],by rw[e1];go_num,by rw[e1],om,HI8,by rw[e1,hmul];exact lh (HM8.out.mono om)⟩
   case measure=>simp[intOf];omega
  ·have hlt':¬(ks.length:Int)<2+x:=by first|assumption|omega|simpa using ‹¬decide _=true›
   go_ret
   refine⟨K,kc,ks,rfl,om,hk3,(OwnS.caps HI.out.own).1,by have:=(OwnS.caps HI.out.own).2;unfold maxLen;omega,?_,fun u hu=>?_,?_,M3.mono om,HI.out.kp.trans K3⟩
   ·exact OwnS.cells (HI.out.gmk K3).own
   ·exact((HI.out.gmk K3).tr u hu).imp (fun k hk _=>hk.1)
   ·exact OwnS.row HI.out.own
end
section
open Go.RowKit
attribute [local go_sem ↓] Go.wp_at_zero Go.wp_at_succ
theorem MkM.put4 {w w0:World}{gm:Nat}{A:Option Addr}{c:Nat}{ls:List Int}{uses B left caps:Int}(x:Ext w0 w)(il:IL w0 A c ls)(lo:w0.heap.size≤gm)(at_:Nat)(hb:Blk w gm 251 (mkC A ls.length c (at_:Int) uses left caps))(h5:(at_:Int)≤B)(h6 : -B≤left)(h7:left≤1000)(v:Int)(h0:0≤v)(h1:v≤4) :
 MkM (w.setCell ⟨gm,4,none⟩ (.int .i64 v)) w0 gm A c ls uses B:=by
 refine⟨x.setNew (p:=⟨gm,4,none⟩) lo _,il,lo,at_,left,v,?_,h5,h6,h7,h0,h1⟩;have b:=hb.set 4 (.int .i64 v)
 simpa[mkC] using b
theorem fin_node {bd d:Nat}{w w5:World}{gr:Nat}(n:Nd)(hok:NdOk bd n)(hsl:SL w5 n.A n.c n.l)(hle:n.ks.length≤n.kc)(hcap:n.kc≤maxLen)(hc:CellsAt w5 n.K (n.ks.flatMap cellsOf))(ht:∀u∈n.ks,TreeAt bd (fun k=>w.heap.size≤k∧k≠gr) w5 d u)
 (hA:n.l≠[]→∀k,n.A.map (·.block)=some k→w.heap.size≤k∧k≠gr) (hK:n.ks≠[]→∀k,n.K.map (·.block)=some k→w.heap.size≤k∧k≠gr):TreeAt bd (fun k=>w.heap.size≤k) (setRe w5 gr n) (d+1) n.val:=by
 have k:=setRe_kp (p:=(·=gr)) (KpP.refl _ w5) (g:=gr) (.inl rfl) n;refine .mk n hok (hsl.kpZ k (fun hn b hb e=>(hA hn b hb).2 e)) hle hcap ?_ (fun u hu=>((ht u hu).kp k (fun i hi hs=>hs.2 hi)).imp (fun k hk _=>hk.1)) (fun hn b hb=>(hA hn b hb).1) (fun hn b hb=>(hK hn b hb).1);intro hx;have hn:n.ks≠[]:=by intro e;rw[e] at hx;exact hx rfl
 exact(hc.kpZ k (fun b hb e=>(hK hn b hb).2 e)) hx
theorem J6z1 {P:Prop} (h:P:=by
 clear cb4 fb4
 go_wp2_with (go_at_call 149;refine(HIH.out wc _ HM5.out om).mono ?_;rintro e w4 ⟨v,rfl,hv,M4,K4⟩;obtain⟨nd,hnd,_⟩:=hv.node;subst hnd;have HV:=lh hv;have HM4:=lh M4;have HK4:=lh (HK5.out.trans K4);have hr4:=K4.blk HR5.out hgne.symm;obtain⟨f0,f1,f2,f3,f4,f5,f6,f7⟩:=nd_frz (hr4.ext (Ext.alloc w4 (.cells #[.int .i64 nd.op,.slice nd.A nd.l.length nd.c,.slice nd.K nd.ks.length nd.kc,.int .i64 nd.mn,.int .i64 nd.mx,.int .i64 nd.md,.int .i64 nd.n,.bool nd.neg] 26)));have HR4:=lh hr4;have z0:=(hr4.ext (Ext.alloc w4 (.cells #[.int .i64 nd.op,.slice nd.A nd.l.length nd.c,.slice nd.K nd.ks.length nd.kc,.int .i64 nd.mn,.int .i64 nd.mx,.int .i64 nd.md,.int .i64 nd.n,.bool nd.neg] 26))).cell 0;have z1:=(hr4.ext (Ext.alloc w4 (.cells #[.int .i64 nd.op,.slice nd.A nd.l.length nd.c,.slice nd.K nd.ks.length nd.kc,.int .i64 nd.mn,.int .i64 nd.mx,.int .i64 nd.md,.int .i64 nd.n,.bool nd.neg] 26))).cell 1;have z2:=(hr4.ext (Ext.alloc w4 (.cells #[.int .i64 nd.op,.slice nd.A nd.l.length nd.c,.slice nd.K nd.ks.length nd.kc,.int .i64 nd.mn,.int .i64 nd.mx,.int .i64 nd.md,.int .i64 nd.n,.bool nd.neg] 26))).cell 2;have z3:=(hr4.ext (Ext.alloc w4 (.cells #[.int .i64 nd.op,.slice nd.A nd.l.length nd.c,.slice nd.K nd.ks.length nd.kc,.int .i64 nd.mn,.int .i64 nd.mx,.int .i64 nd.md,.int .i64 nd.n,.bool nd.neg] 26))).cell 3;have z4:=(hr4.ext (Ext.alloc w4 (.cells #[.int .i64 nd.op,.slice nd.A nd.l.length nd.c,.slice nd.K nd.ks.length nd.kc,.int .i64 nd.mn,.int .i64 nd.mx,.int .i64 nd.md,.int .i64 nd.n,.bool nd.neg] 26))).cell 4;have z5:=(hr4.ext (Ext.alloc w4 (.cells #[.int .i64 nd.op,.slice nd.A nd.l.length nd.c,.slice nd.K nd.ks.length nd.kc,.int .i64 nd.mn,.int .i64 nd.mx,.int .i64 nd.md,.int .i64 nd.n,.bool nd.neg] 26))).cell 5;have z6:=(hr4.ext (Ext.alloc w4 (.cells #[.int .i64 nd.op,.slice nd.A nd.l.length nd.c,.slice nd.K nd.ks.length nd.kc,.int .i64 nd.mn,.int .i64 nd.mx,.int .i64 nd.md,.int .i64 nd.n,.bool nd.neg] 26))).cell 6;have z7:=(hr4.ext (Ext.alloc w4 (.cells #[.int .i64 nd.op,.slice nd.A nd.l.length nd.c,.slice nd.K nd.ks.length nd.kc,.int .i64 nd.mn,.int .i64 nd.mx,.int .i64 nd.md,.int .i64 nd.n,.bool nd.neg] 26))).cell 7;clear hv M4 hr4;unfold Nd.val)
 have HB5:Hid (Blk (w4.alloc (.cells #[.int .i64 nd.op,.slice nd.A nd.l.length nd.c,.slice nd.K nd.ks.length nd.kc,.int .i64 nd.mn,.int .i64 nd.mx,.int .i64 nd.md,.int .i64 nd.n,.bool nd.neg] 26)) w4.heap.size 26 nd.cs.toArray):=lh (Blk.new w4 26 #[.int .i64 nd.op,.slice nd.A nd.l.length nd.c,.slice nd.K nd.ks.length nd.kc,.int .i64 nd.mn,.int .i64 nd.mx,.int .i64 nd.md,.int .i64 nd.n,.bool nd.neg]);have E5:=Ext.alloc w4 (.cells #[.int .i64 nd.op,.slice nd.A nd.l.length nd.c,.slice nd.K nd.ks.length nd.kc,.int .i64 nd.mn,.int .i64 nd.mx,.int .i64 nd.md,.int .i64 nd.n,.bool nd.neg] 26);have hgr4:gr<w4.heap.size:=HR4.out.lt;have hgc4:gr<wc.heap.size:=HR5.out.lt;have hsw4:=HK4.out.size;generalize w4.alloc (.cells #[.int .i64 nd.op,.slice nd.A nd.l.length nd.c,.slice nd.K nd.ks.length nd.kc,.int .i64 nd.mn,.int .i64 nd.mx,.int .i64 nd.md,.int .i64 nd.n,.bool nd.neg] 26)=w5 at *;have HT9:Hid (TreeAt 3 (fun k=>w.heap.size≤k) (setRe w5 gr ⟨5,none,0,[],some ⟨w4.heap.size,0,none⟩,1,[nd.val],0,0,0,nv,false⟩) (d+2) (Nd.val ⟨5,none,0,[],some ⟨w4.heap.size,0,none⟩,1,[nd.val],0,0,0,nv,false⟩)):=lh (by
  refine fin_node _ ⟨by simp,by simp,by simp,by simp,by simp,by simp,by simp,by simp,⟨by simp only;omega,by simp only;omega⟩,by simp[SetOk]⟩ (SL.nil _) si (by show 1≤maxLen;unfold maxLen;omega) ?_ (fun u hu=>?_) si (fun _ k hk=>?_)
  ·simp only[List.flatMap_cons,List.flatMap_nil,List.append_nil];exact blk_cells HB5.out
  ·obtain rfl:u=nd.val:=by simpa using hu
   exact(HV.out.ext E5).imp (fun k hk _=>by have:=HK5.out.size;omega)
  ·have:w4.heap.size=k:=by simpa using hk
   omega)
 have hb9:=setRe_blk (HR4.out.ext E5) ⟨5,none,0,[],some ⟨w4.heap.size,0,none⟩,1,[nd.val],0,0,0,nv,false⟩;have hk9:=setRe_kp (p:=(·=gm)) (HK4.out.trans (KpP.of_ext E5)) (g:=gr) (.inr hgw) ⟨5,none,0,[],some ⟨w4.heap.size,0,none⟩,1,[nd.val],0,0,0,nv,false⟩;have M9:=(HM4.out.extW E5).kpR (setRe_kp (p:=(·=gr)) (KpP.refl _ w5) (g:=gr) (.inl rfl) ⟨5,none,0,[],some ⟨w4.heap.size,0,none⟩,1,[nd.val],0,0,0,nv,false⟩) hgne (by have:=HSW.out;omega);change bodyPost _ _ _ _ _ (setRe w5 gr ⟨5,none,0,[],some ⟨w4.heap.size,0,none⟩,1,[nd.val],0,0,0,nv,false⟩);generalize setRe w5 gr ⟨5,none,0,[],some ⟨w4.heap.size,0,none⟩,1,[nd.val],0,0,0,nv,false⟩=w9 at *;obtain⟨r0,r1,r2,r3,r4,r5,r6,r7⟩:=nd_cells hb9;simp only[List.length_nil,List.length_cons,Nat.zero_add] at r1 r2;clear f0 f1 f2 f3 f4 f5 f6 f7 z0 z1 z2 z3 z4 z5 z6 z7;refine bodyPost_ret (v:=Nd.val ⟨5,none,0,[],some ⟨w4.heap.size,0,none⟩,1,[nd.val],0,0,0,nv,false⟩) (by simp[results,Tryz.results188,go_sem,r0,r1,r2,r3,r4,r5,r6,r7,Nd.val]) rfl ⟨_,rfl,HT9.out,M9.mono om,hk9⟩):P:=h
theorem J6z2 {P:Prop} (h:P:=by
 have HK5:Hid (KpP (·=gm) w (wb.setCell ⟨gm,4,none⟩ (.int .i64 caps))):=lh (KpP.set (p:=(·=gm)) (x:=⟨gm,4,none⟩) HKb.out (.inl rfl) _);have HR5:=lh (HRb.out.far (p:=⟨gm,4,none⟩) hgne.symm (.int .i64 caps));generalize wb.setCell ⟨gm,4,none⟩ (.int .i64 caps)=wc at *;exact J6z1):P:=h
theorem ycap_any (d:Nat)(w0:World)(gm:Nat)(A:Option Addr)(c:Nat)(ls:List Int)(uses:Int)(hd:d≤100)
 (IH:∀(w:World) (B:Int),MkM w w0 gm A c ls uses B→B+numT d≤100000000→Calls Tryz.prog 149 #[.pointer (some ⟨gm,0,none⟩),.int .i64 d] w (RetNd 3 (d+1) w0 gm A c ls uses (B+numT d) w))
 (w:World) (B:Int) (h:MkM w w0 gm A c ls uses B) (hB:B+numT d+2≤100000000) :
 Calls Tryz.prog 188 #[.pointer (some ⟨gm,0,none⟩),.int .i64 ((d:Int)+1)] w (RetNd 3 (d+2) w0 gm A c ls uses (B+numT d+2) w):=by
 obtain⟨x0,il,lo,at_,left,caps,hb,hat,hl1,hl2,hc1,hc2⟩:=h;have hgm:=hb.lt;have HSW:=lh x0.size;have hT:=numT_pos d;generalize numT d=T at *;have HIH:=lh IH;have ewd:IntKind.i64.wrap ((d:Int)+1-1)=(d:Int):=wj;have EX:=Ext.alloc w (.cells #[.int .i64 0,.slice none 0 0,.slice none 0 0,.int .i64 0,.int .i64 0,.int .i64 0,.int .i64 0,.bool false] 26);have HR:=lh (Blk.new w 26 #[.int .i64 0,.slice none 0 0,.slice none 0 0,.int .i64 0,.int .i64 0,.int .i64 0,.int .i64 0,.bool false]);have hba:=hb.ext EX;have xa:=x0.trans EX;clear IH hb;go_enter Tryz.func188,Tryz.ntmps188
 go_upto_region 1 with fail
 obtain⟨gr,hgr⟩:∃gr,gr=w.heap.size:=⟨_,rfl⟩
 rw[←hgr] at HR ⊢;have hgw:w.heap.size≤gr:=om;have hgne:gm≠gr:=om;clear hgr;generalize w.alloc (.cells #[.int .i64 0,.slice none 0 0,.slice none 0 0,.int .i64 0,.int .i64 0,.int .i64 0,.int .i64 0,.bool false] 26)=wa at *;have HKa:Hid (KpP (·=gm) w wa):=lh (KpP.of_ext EX);have ca4:wa.cell? ⟨gm,4,none⟩=some (.int .i64 caps):=hba.cell 4;clear EX
 go_upto_region 2 with fail
 have hcw:IntKind.i64.wrap (caps+1)=caps+1:=wj;by_cases h4:4<caps+1
 ·have h4t:decide (4<caps+1)=true:=by simp[h4]
  go_upto_region 3 with fail
  go_upto_region 4 with(go_at_call 184;refine(ynext_at w0 _ gm A c ls uses caps xa il lo at_ left caps (by simpa using hba) om om om).mono ?_;rintro e wb ⟨rfl,Hbb,Xb,Kb⟩;have hy:=pick_bd ls at_ caps om;generalize pick ls at_ caps=y at *;have ewy:IntKind.i64.wrap (1+y)=1+y:=(by rw[IntKind.wrap_i64];omega))
  have HKb:=lh (HKa.out.trans Kb);have HRb:=lh (Kb.blk HR.out hgne.symm);obtain⟨nv,hnv⟩:∃nv:Int,nv=1+y:=⟨_,rfl⟩
  rw[←hnv];have hn0:1≤nv∧nv≤4:=om;have hq:nv≤caps:=om;clear hnv;have cb4:wb.cell? ⟨gm,4,none⟩=some (.int .i64 caps):=(show Blk wb gm 251 (mkC A ls.length c ((at_+1:Nat):Int) uses left caps) by simpa using Hbb).cell 4;have fb4:=(show Blk wb gm 251 (mkC A ls.length c ((at_+1:Nat):Int) uses left caps) by simpa using Hbb).frz 4
  go_upto_region 5 with fail
  have HM5:=lh (MkM.put4 Xb il lo (at_+1) (show Blk wb gm 251 (mkC A ls.length c ((at_+1:Nat):Int) uses left caps) by simpa using Hbb) (B:=B+2) om om hl2 caps om om);exact J6z2
 ·have h4f:decide (4<caps+1)=false:=by simp;omega
  by_cases hc0:0<caps
  ·have hct:decide (0<caps)=true:=by simp[hc0]
   have hx:=pick_bd ls at_ 9 om;have HC9:=lh (ynext_at w0 wa gm A c ls uses 9 xa il lo at_ left caps hba om om om);by_cases hx0:pick ls at_ 9=0
   ·rw[hx0] at HC9;clear hx0 hx
    go_upto_region 3 with(go_at_call 184;refine HC9.out.mono ?_;rintro e w3 ⟨rfl,Hb3,X3,K3⟩)
    have HK3:=lh (HKa.out.trans K3);have HR3:=lh (K3.blk HR.out hgne.symm);have cc4:w3.cell? ⟨gm,4,none⟩=some (.int .i64 caps):=Hb3.cell 4;obtain⟨a3,ha3⟩:∃a3:Nat,a3=at_+1:=⟨_,rfl⟩;have Hb3':Blk w3 gm 251 (mkC A ls.length c (a3:Int) uses left caps):=by rw[ha3];simpa using Hb3
    have ha4:(a3:Int)≤100000000∧(a3:Int)+1≤B+2:=om;clear ca4 Hb3 ha3 hba;by_cases hm1:caps≤1
    ·obtain rfl:caps=1:=om
     go_upto_region 4 with(go_at_call 184;refine(ynext_at w0 _ gm A c ls uses 1 X3 il lo a3 left 1 (by simpa using Hb3') om om om).mono ?_;rintro e wb ⟨rfl,Hbb,Xb,Kb⟩;have hy:=pick_bd ls a3 1 om;generalize pick ls a3 1=y at *;have ewy:IntKind.i64.wrap (1+y)=1+y:=(by rw[IntKind.wrap_i64];omega))
     have HKb:=lh (HK3.out.trans Kb);have HRb:=lh (Kb.blk HR3.out hgne.symm);obtain⟨nv,hnv⟩:∃nv:Int,nv=1+y:=⟨_,rfl⟩
     rw[←hnv];have hn0:1≤nv∧nv≤4:=om;have hq:nv≤1:=om;clear hnv;have cb4:wb.cell? ⟨gm,4,none⟩=some (.int .i64 1):=(show Blk wb gm 251 (mkC A ls.length c ((a3+1:Nat):Int) uses left 1) by simpa using Hbb).cell 4;have fb4:=(show Blk wb gm 251 (mkC A ls.length c ((a3+1:Nat):Int) uses left 1) by simpa using Hbb).frz 4
     go_upto_region 5 with fail
     have HM5:=lh (MkM.put4 Xb il lo (a3+1) (show Blk wb gm 251 (mkC A ls.length c ((a3+1:Nat):Int) uses left 1) by simpa using Hbb) (B:=B+2) om om hl2 1 om om);have HK5:Hid (KpP (·=gm) w (wb.setCell ⟨gm,4,none⟩ (.int .i64 1))):=lh (KpP.set (p:=(·=gm)) (x:=⟨gm,4,none⟩) HKb.out (.inl rfl) _);have HR5:=lh (HRb.out.far (p:=⟨gm,4,none⟩) hgne.symm (.int .i64 1));generalize wb.setCell ⟨gm,4,none⟩ (.int .i64 1)=wc at *;exact J6z1
    ·skip
     go_upto_region 4 with(go_at_call 184;refine(ynext_at w0 _ gm A c ls uses caps X3 il lo a3 left caps (by simpa using Hb3') om om om).mono ?_;rintro e wb ⟨rfl,Hbb,Xb,Kb⟩;have hy:=pick_bd ls a3 caps om;generalize pick ls a3 caps=y at *;have ewy:IntKind.i64.wrap (1+y)=1+y:=(by rw[IntKind.wrap_i64];omega))
     have HKb:=lh (HK3.out.trans Kb);have HRb:=lh (Kb.blk HR3.out hgne.symm);obtain⟨nv,hnv⟩:∃nv:Int,nv=1+y:=⟨_,rfl⟩
     rw[←hnv];have hn0:1≤nv∧nv≤4:=om;have hq:nv≤caps:=om;clear hnv;have cb4:wb.cell? ⟨gm,4,none⟩=some (.int .i64 caps):=(show Blk wb gm 251 (mkC A ls.length c ((a3+1:Nat):Int) uses left caps) by simpa using Hbb).cell 4;have fb4:=(show Blk wb gm 251 (mkC A ls.length c ((a3+1:Nat):Int) uses left caps) by simpa using Hbb).frz 4
     go_upto_region 5 with fail
     have HM5:=lh (MkM.put4 Xb il lo (a3+1) (show Blk wb gm 251 (mkC A ls.length c ((a3+1:Nat):Int) uses left caps) by simpa using Hbb) (B:=B+2) om om hl2 caps om om);exact J6z2
   ·generalize pick ls at_ 9=x at *;have hxf:(x == 0)=false:=by simp[hx0]
    go_upto_region 4 with(go_at_call 184;refine HC9.out.mono ?_;rintro e w3 ⟨rfl,Hb3,X3,K3⟩)
    have HK3:=lh (HKa.out.trans K3);have HR3:=lh (K3.blk HR.out hgne.symm);obtain⟨nv,hnv⟩:∃nv:Int,nv=caps+1:=⟨_,rfl⟩
    rw[←hnv];have hn0:1≤nv∧nv≤4:=om;clear ca4;have hq:¬nv≤caps:=om;clear hnv;have cb4:w3.cell? ⟨gm,4,none⟩=some (.int .i64 caps):=(show Blk w3 gm 251 (mkC A ls.length c ((at_+1:Nat):Int) uses left caps) by simpa using Hb3).cell 4;have fb4:=(show Blk w3 gm 251 (mkC A ls.length c ((at_+1:Nat):Int) uses left caps) by simpa using Hb3).frz 4
    go_upto_region 5 with fail
    have HM5:=lh (MkM.put4 X3 il lo (at_+1) (show Blk w3 gm 251 (mkC A ls.length c ((at_+1:Nat):Int) uses left caps) by simpa using Hb3) (B:=B+2) om om hl2 nv om om);have HK5:Hid (KpP (·=gm) w (w3.setCell ⟨gm,4,none⟩ (.int .i64 nv))):=lh (KpP.set (p:=(·=gm)) (x:=⟨gm,4,none⟩) HK3.out (.inl rfl) _);have HR5:=lh (HR3.out.far (p:=⟨gm,4,none⟩) hgne.symm (.int .i64 nv));generalize w3.setCell ⟨gm,4,none⟩ (.int .i64 nv)=wc at *;exact J6z1
  ·have hcf:decide (0<caps)=false:=by simp[hc0]
   go_upto_region 4 with fail
   obtain⟨nv,hnv⟩:∃nv:Int,nv=caps+1:=⟨_,rfl⟩
   rw[←hnv];have hn0:1≤nv∧nv≤4:=om;clear ca4;have hq:¬nv≤caps:=om;clear hnv;have cb4:wa.cell? ⟨gm,4,none⟩=some (.int .i64 caps):=hba.cell 4;have fb4:=hba.frz 4
   go_upto_region 5 with fail
   have HM5:=lh (MkM.put4 xa il lo at_ hba (B:=B+2) om om hl2 nv om om);have HK5:Hid (KpP (·=gm) w (wa.setCell ⟨gm,4,none⟩ (.int .i64 nv))):=lh (KpP.set (p:=(·=gm)) (x:=⟨gm,4,none⟩) HKa.out (.inl rfl) _);have HR5:=lh (HR.out.far (p:=⟨gm,4,none⟩) hgne.symm (.int .i64 nv));generalize wa.setCell ⟨gm,4,none⟩ (.int .i64 nv)=wc at *;exact J6z1
end
section
open Go.RowKit
def tab12:List Int:=[97,97,97,98,98,99,97,98,10,32,65,200]
def sym12 (x:Int):Int:=tab12.getD (around x 12).toNat 0
def rtext (l:List Int)(m:Nat):List Int:=(l.take m).map sym12
theorem tab12_bd:∀p,p<12→0≤tab12.getD p 0∧tab12.getD p 0≤200:=by decide
theorem sym12_bd (x:Int):0≤sym12 x∧sym12 x≤200:=by
 have h:=around_bd x 12 om;exact tab12_bd _ om
theorem rtext_bd (l:List Int)(m:Nat):∀x∈rtext l m,0≤x∧x≤200:=by
 intro x hx;obtain⟨y,_,rfl⟩:=List.mem_map.1 hx;exact sym12_bd y
theorem rtext_len (l:List Int)(m:Nat):(rtext l m).length≤m:=by simp[rtext];omega
theorem rtext_succ (l:List Int)(k:Nat)(h:k<l.length):rtext l (k+1)=rtext l k++[sym12 l[k]]:=by
 unfold rtext;rw[List.take_succ_eq_append_getElem h,List.map_append];rfl
theorem I64_of {x:Int}(h : -1000000000000≤x∧x≤1000000000000):I64 x:=by unfold I64;omega
theorem rText_any (A:Option Addr)(c:Nat)(l:List Int)(m:Nat)(w:World)(hl:IL w A c l)(hm:m≤1000000) :
 Calls Tryz.prog 25 #[.slice A l.length c,.int .i64 m] w (RetIL (rtext l m) w):=by
 obtain⟨i0,hi0,hz0,hz1,hz2⟩:=info_parts infoInt;obtain⟨a1,a2⟩:=hl.len;go_enter Tryz.func25,Tryz.ntmps25
 go_wp2
 go_loopw [5,6] (fun v i wr=>∃(k:Nat) (A':Option Addr) (c':Nat),k≤l.length∧k≤m∧i=.int .i64 k∧v=.slice A' (rtext l k).length c'∧OwnI wr w.heap.size 3 A' c' (rtext l k)∧Ext w wr) (fun _ i _=>l.length-(intOf i).toNat)
 case atStart=>exact⟨0,none,0,Nat.zero_le _,Nat.zero_le _,rfl,rfl,OwnS.nil _ _ _ _,Ext.rfl' _⟩
 case round=>
  obtain⟨k,A',c',hk,hkm,rfl,rfl,hown,hext⟩:=hrel;have hlr:=rtext_len l k;by_cases hlt:k<l.length
  ·by_cases hlm:k<m
   ·have e1:=Ext.alloc wr (.cells (tab12.map (Value.int .i64)).toArray 3);have hB:=(Blk.new wr 3 (tab12.map (Value.int .i64)).toArray);have hs:=rtext_succ l k hlt;have hp:=around_bd l[k] 12 om;have hpk:pick l k 12=around l[k] 12:=by simp[pick,hlt]
    obtain⟨p,hp12,hpp⟩:∃p:Nat,p<12∧around l[k] 12=(p:Int):=⟨(around l[k] 12).toNat,om,om⟩;have hsy:sym12 l[k]=tab12.getD p 0:=by unfold sym12;rw[hpp];rfl
    rw[hsy] at hs;rw[hpp] at hpk;have HS:=lh hs;have HP:=lh hpk;clear hs hpk hsy hpp hp
    go_wp2_with fail
    refine(pick_any A c l k 12 _ (hl.ext (hext.trans e1)) om om om).mono ?_;rintro e w1 h1;obtain⟨rfl,hx1⟩:=h1.v;rw[HP.out];have hcell:=(hB.ext hx1).cell p;rw[show((tab12.map (Value.int .i64)).toArray)[p]? = some (.int .i64 (tab12.getD p 0)) by
     simp[List.getD,List.getElem?_eq_getElem (show p<tab12.length from hp12)]] at hcell
    have hE:=hext.trans (e1.trans hx1);have hown1:=OwnS.ext hown (e1.trans hx1);have hlt1:=(hB.ext hx1).lt;clear hB;have hp0:(p:Int)<12:=om;have HT:=lh (tab12_bd p hp12);generalize tab12.getD p 0=s at *
    go_wp2_with ((at_builtin;refine wpList_app1I (w1:=w1) rfl _ _ _ rfl 3 infoInt Tryz.underlying22 w hE s rfl A' c' (rtext l k) rfl hown1 rfl om (rtext l (k+1)) HS.out ?_;intro A2 c2 w2 hown2 hext2 _ _))
    go_roundw
    case rel=>exact⟨k+1,A2,c2,om,om,by go_num,rfl,hown2,hext2⟩
    case measure=>simp[intOf];omega
   ·have hk':k=m:=om;subst hk'
    go_wp2
    go_ret
    exact⟨A',c',rfl,IL.of_own hown (fun x hx=>I64_of (by have:=rtext_bd l k x hx;omega)),hext,OwnS.row hown⟩
  ·have hk':rtext l k=rtext l m:=by
    unfold rtext;rw[List.take_of_length_le om,List.take_of_length_le om]
   rw[hk'] at hown;have HK:=lh hk';clear hk'
   go_wp2
   go_ret
   rw[←HK.out] at hown ⊢;exact⟨A',c',rfl,IL.of_own hown (fun x hx=>I64_of (by have:=rtext_bd l k x hx;omega)),hext,OwnS.row hown⟩
end
section
open Go.RowKit
attribute [local go_sem ↓] Go.wp_at_zero Go.wp_at_succ
theorem C1z2 {P:Prop} (h:P:=by
 go_roundw
 case rel=>exact⟨i+1,by go_num,om,x1.trans x3⟩
 case measure=>simp[intOf];omega):P:=h
theorem C1z1 {P:Prop} (h:P:=by
 go_upto_region 12 with fail
 go_loopw [7] (fun v wr=>∃i:Nat,v=.int .i64 i∧i≤ks.length∧Ext wa wr) (fun v _=>ks.length-(intOf v).toNat)
 case atStart=>exact⟨0,rfl,om,Ext.rfl' _⟩
 case round=>
  obtain⟨i,rfl,hi,x1⟩:=hrel;have z2r:=x1.cell z2;by_cases hlt:i<ks.length
  ·have hiI:(i:Int)<ks.length:=om;obtain⟨b,o,hK,n,ht,k0,k1,k2,k3,k4,k5,k6,k7⟩:=kid8 (HC.out.ext (XR.trans x1)) (fun u hu=>(HK.out u hu).ext (XR.trans x1)) hlt;have hK':=hK;subst hK';have HT:=lh ht;clear ht
   go_wp2_with (go_at_call 62;refine(HIH.out wr _ HT.out R rc xs (HI.out.ext x1) om).mono ?_;rintro e w3 ⟨b3,rfl,x3⟩;cases b3)
   ·go_ret
    exact⟨_,rfl,E0.trans (x1.trans x3)⟩
   ·exact C1z2
  ·have hiI:¬(i:Int)<ks.length:=om
   go_wp2_with fail
   go_ret
   exact⟨_,rfl,E0.trans x1⟩):P:=h
theorem xcompiles_any (bd:Nat)(S:Nat→Prop):∀(d:Nat) (w:World) (v:Value),TreeAt bd S w d v→∀(R:Option Addr) (rc:Nat) (xs:List Int),IL w R rc xs→xs.length+d≤1000→Calls Tryz.prog 62 #[v,.slice R xs.length rc] w (RetB w):=by
 intro d;induction d with
 | zero=>intro w v h;obtain⟨e,he⟩:=h.pos;omega
 | succ d ih=>
  intro w v h R rc xs hI hlen;obtain⟨n,rfl,hok,hsl,hkl,hkc,hcl,hks⟩:=h.node;obtain⟨op,A,c,l,K,kc,ks,mn,mx,md,nn,neg⟩:=n;have hop:=hok.op;have hone:=hok.one;have hmd:=hok.md;have hn:=hok.n
  simp only at hop hone hmd hn hsl hkl hkc hcl hks
  unfold Nd.val
  simp only
  have HIH:=lh ih;clear ih h hok;have hrl:=hI.len;have B0:=Blk.new w 26 #[.int .i64 op,.slice A l.length c,.slice K ks.length kc,.int .i64 mn,.int .i64 mx,.int .i64 md,.int .i64 nn,.bool neg];have E0:=Ext.alloc w (.cells #[.int .i64 op,.slice A l.length c,.slice K ks.length kc,.int .i64 mn,.int .i64 mx,.int .i64 md,.int .i64 nn,.bool neg] 26);have HC:=lh (hcl.ext E0);have HK:=lh (fun u hu=>(hks u hu).ext E0);have HKL:ks.length≤kc∧kc≤9223372036854775807:=⟨hkl,by unfold maxLen at hkc;omega⟩;have HI:=lh (hI.ext E0);clear hcl hks hsl hkl hkc hI;go_enter Tryz.func62,Tryz.ntmps62
  go_upto_region 1 with fail
  obtain⟨gx,hgx⟩:∃gx,gx=w.heap.size:=⟨_,rfl⟩
  rw[←hgx] at B0 ⊢;clear hgx;generalize w.alloc (.cells #[.int .i64 op,.slice A l.length c,.slice K ks.length kc,.int .i64 mn,.int .i64 mx,.int .i64 md,.int .i64 nn,.bool neg] 26)=wa at *;have z0:wa.cell? ⟨gx,0,none⟩=some (.int .i64 op):=B0.cell 0;have z2:wa.cell? ⟨gx,2,none⟩=some (.slice K ks.length kc):=B0.cell 2;have z5:wa.cell? ⟨gx,5,none⟩=some (.int .i64 md):=B0.cell 5;have z6:wa.cell? ⟨gx,6,none⟩=some (.int .i64 nn):=B0.cell 6;have XR:=Ext.rfl' wa;by_cases h4:op=4
  ·subst h4;have hlt0:0<ks.length:=by have:=hone (.inl rfl);omega
   have hlt0I:(0:Int)<ks.length:=om;have hm2:(md == 2)=false:=by simp;omega
   obtain⟨b,o,hK,n,ht,k0,k1,k2,k3,k4,k5,k6,k7⟩:=kid8 HC.out HK.out hlt0;have hK':=hK;subst hK';simp only[Nat.zero_mul,Nat.add_zero] at k0 k1 k2 k3 k4 k5 k6 k7;have HN:=lh (ynullable_any bd S d wa _ ht);unfold Nd.val at HN;clear ht
   go_upto_region 12 with(go_at_call 107;refine HN.out.mono ?_;rintro e w3 ⟨b3,rfl,x3⟩;have z03:=x3.cell z0;have z23:=x3.cell z2;have HX3:=lh x3;cases b3)
   ·have x3:=HX3.out
    go_loopw [7] (fun v wr=>∃i:Nat,v=.int .i64 i∧i≤ks.length∧Ext w3 wr) (fun v _=>ks.length-(intOf v).toNat)
    case atStart=>exact⟨0,rfl,om,Ext.rfl' _⟩
    case round=>
     obtain⟨i,rfl,hi,x1⟩:=hrel;have z2r:=x1.cell z23;by_cases hlt:i<ks.length
     ·have hiI:(i:Int)<ks.length:=om;obtain⟨b,o,hK,n,ht,k0,k1,k2,k3,k4,k5,k6,k7⟩:=kid8 (HC.out.ext (x3.trans x1)) (fun u hu=>(HK.out u hu).ext (x3.trans x1)) hlt;injection hK with hK;injection hK with e1 e2 _
      subst e1;subst e2;have HT:=lh ht;clear ht
      go_wp2_with (go_at_call 62;refine(HIH.out wr _ HT.out R rc xs ((HI.out.ext x3).ext x1) om).mono ?_;rintro e w3 ⟨b3,rfl,x3⟩;cases b3)
      ·go_ret
       exact⟨_,rfl,(E0.trans HX3.out).trans (x1.trans x3)⟩
      ·exact C1z2
     ·have hiI:¬(i:Int)<ks.length:=om
      go_wp2_with fail
      go_ret
      exact⟨_,rfl,(E0.trans HX3.out).trans x1⟩
   ·go_ret
    exact⟨_,rfl,E0.trans HX3.out⟩
  ·by_cases h5:op=5
   ·subst h5;have HH:=lh (has_any R rc xs nn wa HI.out);generalize decide (nn∈xs)=hb at HH
    go_upto_region 5 with(go_at_call 108;refine HH.out.mono ?_;rintro e w3 ⟨rfl,nq3,rfl⟩)
    have x3:=Ext.drewN wa nq3;have HI3:=lh (HI.out.ext x3);have z03:=x3.cell z0;have z23:=x3.cell z2;have z63:=x3.cell z6;have HX3:=lh x3;have HZ3:=lh (⟨x3.cell z0,x3.cell z2⟩:(wa.drewN nq3).cell? ⟨gx,0,none⟩=_∧(wa.drewN nq3).cell? ⟨gx,2,none⟩=_);generalize wa.drewN nq3=wb at *;cases hb
    ·go_upto_region 8 with fail
     obtain⟨i0,hi0,hz0,hz1,hz2⟩:=info_parts infoInt;have k6:=kc0 z63;have HON:Hid (∀w':World,OwnS w' wb.heap.size 3 1 none 0 0 []):=lh (fun w'=>OwnS.nil _ _ _ _);refine Xr.start [] kr ?_;refine Xtk 0 ?_;refine Xtn ?_;refine Xtk 3 ?_;refine Xtn ?_;refine Xr.lazy 5 36 6 (fun g=>.slice (some ⟨g,0,none⟩) 1 1) 3 #[.int .i64 nn] rfl si dK si (fun w'=>by go_simp) ?_;refine Xcl 2 fun w4 hE4 hK4 K hKK=>?_;have x4:Ext wb w4:=hK4.nil;refine wp_app _ _ _ _ rfl wb.heap.size 3 i0 (.int .i64 0) 1 8 Tryz.underlying22 hi0 hz0 hz1 hz2 rfl om none 0 0 [] rfl (HON.out w4) _ xs.length rc (xs.map (Value.int .i64)) rfl si (HI3.out.ext x4).cells (ints_one _) um om x4.size ?_;intro A5 c5 w5 ho5 hg5 hat5;have x5:=Ext.app x4 (HON.out w4) hg5;simp only[Nat.zero_add,List.nil_append] at ho5 ⊢;have x45:Ext w4 w5:=(Ext.rfl' w4).grown hg5 si;refine hKK _ _ x45 ?_;clear hKK;refine ptm ?_;refine Xr.stepZ rfl dK (fun _=>by rfl) (fun w6 g6 hE6 hK6 hg6 hB6 hno K hKK=>?_);have ho6:=OwnS.ext ho5 hE6;refine wp_app _ _ _ _ rfl wb.heap.size 3 i0 (.int .i64 0) 1 8 Tryz.underlying22 hi0 hz0 hz1 hz2 rfl om A5 xs.length c5 (xs.map (Value.int .i64)) rfl ho6 _ 1 1 [.int .i64 nn] rfl rfl (blk_cells hB6) (ints_one [nn]) um om (by have:=hK6.size;omega) ?_;intro A9 c9 w9 ho9 hg9 hat9;have xb9:Ext wb w9:=Ext.app hK6.nil ho6 hg9;refine hKK _ _ (WI_grown hg9 (fun i hi=>.inr ⟨(w4.heap.size,w5.heap.size),by simp,by rcases hat5 with h|h<;>rw[h] at hi<;>simp at hi;omega,(OwnS.blt ho5 hi).1⟩)) (Kp.of_ext xb9) ?_;clear hKK;refine ptm ?_
     refine Xtk 7 ?_;refine Xdn fun w10 hE10 hK10=>?_;obtain⟨ys,HYS⟩:∃ys,Hid (ys=xs++[nn]):=⟨_,lh rfl⟩;have hyl:xs.length+1=ys.length:=by rw[HYS.out];simp
     have HI10:Hid (IL w10 A9 c9 ys):=lh (by
      have h:=OwnS.ext ho9 hE10;refine IL.of_own (base:=wb.heap.size) (e:=3) ?_ ?_
      ·unfold OwnI
       rw[←hyl,HYS.out]
       simpa using h
      ·rw[HYS.out];intro x hx;rcases List.mem_append.1 hx with hx|hx
       ·exact HI.out.rng x hx
       ·rw[List.mem_singleton.1 hx];unfold I64;omega)
     have z0t:=(xb9.trans hE10).cell z03;have z2t:=(xb9.trans hE10).cell z23;have HX10:=lh (HX3.out.trans (xb9.trans hE10));have hyl2:ys.length+d≤1000:=om;rw[hyl];clear ho9 hg9 hat9 ho6 xb9 hK10 hE10 hK6 hB6 hno hE6 ho5 hg5 hat5 x5 x45 x4 hK4 hE4 hyl z03 z23 z63 HZ3
     go_upto_region 12 with fail
     have hyc:=HI10.out.len
     go_loopw [7] (fun v wr=>∃i:Nat,v=.int .i64 i∧i≤ks.length∧Ext w10 wr) (fun v _=>ks.length-(intOf v).toNat)
     case atStart=>exact⟨0,rfl,om,Ext.rfl' _⟩
     case round=>
      obtain⟨i,rfl,hi,x1⟩:=hrel;have z2r:=x1.cell z2t;by_cases hlt:i<ks.length
      ·have hiI:(i:Int)<ks.length:=om;obtain⟨b,o,hK,n,ht,k0,k1,k2,k3,k4,k5,k6,k7⟩:=kid8 (HC.out.ext (HX10.out.trans x1)) (fun u hu=>(HK.out u hu).ext (HX10.out.trans x1)) hlt;have hK':=hK;subst hK';have HT:=lh ht;clear ht
       go_wp2_with (go_at_call 62;refine(HIH.out wr _ HT.out A9 c9 ys (HI10.out.ext x1) om).mono ?_;rintro e w3 ⟨b3,rfl,x3⟩;cases b3)
       ·go_ret
        exact⟨_,rfl,(E0.trans HX10.out).trans (x1.trans x3)⟩
       ·exact C1z2
      ·have hiI:¬(i:Int)<ks.length:=om
       go_wp2_with fail
       go_ret
       exact⟨_,rfl,(E0.trans HX10.out).trans x1⟩
    ·go_wp2_with fail
     go_ret
     exact⟨_,rfl,E0.trans HX3.out⟩
   ·by_cases h11:op=11
    ·subst h11;exact C1z1
    ·have hf4:(op == 4)=false:=by simp[h4]
     have hf5:(op == 5)=false:=by simp[h5]
     have hle:¬5<op:=om;exact C1z1
end
section
open Go.RowKit
attribute [local go_sem ↓] Go.wp_at_zero Go.wp_at_succ
theorem cells_tail {bd:Nat}{S:Nat→Prop}{w:World}{d b o:Nat}{ks kt:List Value}(hc:CellsAt w (some ⟨b,o,none⟩) (ks.flatMap cellsOf))(ht:∀u∈ks,TreeAt bd S w d u)(hk:kt=ks.tail)(hn:ks≠[]):CellsAt w (some ⟨b,o+8,none⟩) (kt.flatMap cellsOf):=by
 subst hk
 cases ks with
 | nil=>exact absurd rfl hn
 | cons k1 kt=>
  simp only[List.tail_cons];have h8:=(ht k1 si).len8;intro hne;obtain⟨b2,o2,e,hcell⟩:=hc (by rw[List.flatMap_cons];intro e;exact hne (List.append_eq_nil_iff.1 e).2);injection e with e;injection e with e1 e2 _
  subst e1;subst e2;refine⟨b,o+8,rfl,fun i hi=>?_⟩;have h:=hcell (8+i) (by rw[List.flatMap_cons,List.length_append];omega);have e:o+(8+i)=o+8+i:=om;rw[e] at h;rw[h];simp only[List.flatMap_cons];rw[List.getElem_append_right om];simp[h8]
theorem xcode_3 (w0:World)(bd:Nat)(S:Nat→Prop)(d B:Nat)(IH:CodeAll bd S w0 d B)(hB:2≤B):∀(m:Nat) (w:World) (x0:Ext w0 w) (A:Option Addr) (c:Nat) (l:List Sp) (K:Option Addr) (kc:Nat) (ks:List Value) (mn mx md nn:Int) (neg:Bool) (fm:Int)
 (hm:ks.length=m+2) (hkl:ks.length≤kc∧kc≤maxLen) (hcl:CellsAt w0 K (ks.flatMap cellsOf)) (hks:∀u∈ks,TreeAt bd S w0 d u) (hf:0≤fm) (hfB:fm+(B*ks.length:Nat)≤1000000),
 Calls Tryz.prog 65 #[.agg #[.int .i64 3,.slice A l.length c,.slice K ks.length kc,.int .i64 mn,.int .i64 mx,.int .i64 md,.int .i64 nn,.bool neg],.int .i64 fm] w (RetCd 123 w0 (B*ks.length) w):=by
 intro m;induction m with
 | zero=>
  intro w x0 A c l K kc ks mn mx md nn neg fm hm hkl hcl hks hf hfB;obtain⟨iI,jI0,jI1,jI2,jI3⟩:=info_parts infoIn;have B0:=Blk.new w 26 #[.int .i64 3,.slice A l.length c,.slice K ks.length kc,.int .i64 mn,.int .i64 mx,.int .i64 md,.int .i64 nn,.bool neg];have E0:=Ext.alloc w (.cells #[.int .i64 3,.slice A l.length c,.slice K ks.length kc,.int .i64 mn,.int .i64 mx,.int .i64 md,.int .i64 nn,.bool neg] 26);have HIH:=lh IH;have HC:=lh hcl;have HK:=lh hks;have HKL:ks.length≤kc∧kc≤9223372036854775807:=⟨hkl.1,by have:=hkl.2;unfold maxLen at this;omega⟩;have hm0:B*1≤B*ks.length:=mul_le2 om;have hm2:B*2≤B*ks.length:=mul_le2 om;have hlt0:(0:Int)<ks.length:=om;have hlt1:(1:Int)<ks.length:=om;have hlt0n:0<ks.length:=om;have hlt1n:1<ks.length:=om;have HM:=lh hm;clear hm;obtain⟨b,o,hK,n,ht,k0,k1,k2,k3,k4,k5,k6,k7⟩:=kid8x (x0.trans E0) hcl hks hlt0n;obtain⟨b',o',hK',n',ht',j0,j1,j2,j3,j4,j5,j6,j7⟩:=kid8x (x0.trans E0) hcl hks hlt1n;subst hK;injection hK' with hK';injection hK' with e1 e2 _
  subst e1;subst e2;simp only[Nat.zero_mul,Nat.add_zero] at k0 k1 k2 k3 k4 k5 k6 k7;simp only[Nat.one_mul] at j0 j1 j2 j3 j4 j5 j6 j7;have HT:=lh ht;have HT':=lh ht';have ewp:IntKind.i64.wrap (fm+1)=fm+1:=wj;clear hcl hks hkl ht ht';go_enter Tryz.func65,Tryz.ntmps65
  go_upto_region 1 with fail
  obtain⟨gx,hgx⟩:∃gx,gx=w.heap.size:=⟨_,rfl⟩
  rw[←hgx] at B0 ⊢;clear hgx;generalize w.alloc (.cells #[.int .i64 3,.slice A l.length c,.slice (some ⟨b,o,none⟩) ks.length kc,.int .i64 mn,.int .i64 mx,.int .i64 md,.int .i64 nn,.bool neg] 26)=wa at *;have z0:wa.cell? ⟨gx,0,none⟩=some (.int .i64 3):=B0.cell 0;have z2:wa.cell? ⟨gx,2,none⟩=some (.slice (some ⟨b,o,none⟩) ks.length kc):=B0.cell 2;have X0:=x0.trans E0
  go_upto_region 14 with(go_at_call 65;refine(HIH.out wa _ X0 HT.out (fm+1) om om).mono ?_;rintro e w3 ⟨A3,c3,hs3,rfl,hl3,h3⟩)
  have x3:=h3.ext;have HX3:=lh (X0.trans x3);have H3:=lh h3;have hc3:=h3.len;have z23:=x3.cell z2;have j03:=x3.cell j0;have j13:=x3.cell j1;have j23:=x3.cell j2;have j33:=x3.cell j3;have j43:=x3.cell j4;have j53:=x3.cell j5;have j63:=x3.cell j6;have j73:=x3.cell j7;clear h3 k0 k1 k2 k3 k4 k5 k6 k7 j0 j1 j2 j3 j4 j5 j6 j7
  go_upto_region 15 with fail
  have hgt:¬(2:Int)<(ks.length:Int):=by have:=HM.out;omega
  have E8:=Ext.alloc w3 (.cells #[.int .i64 n'.op,.slice n'.A n'.l.length n'.c,.slice n'.K n'.ks.length n'.kc,.int .i64 n'.mn,.int .i64 n'.mx,.int .i64 n'.md,.int .i64 n'.n,.bool n'.neg] 26);have B8:=Blk.new w3 26 #[.int .i64 n'.op,.slice n'.A n'.l.length n'.c,.slice n'.K n'.ks.length n'.kc,.int .i64 n'.mn,.int .i64 n'.mx,.int .i64 n'.md,.int .i64 n'.n,.bool n'.neg];have z2b:=E8.cell z23;obtain⟨g8,hg8⟩:∃g,g=w3.heap.size:=⟨_,rfl⟩
  rw[←hg8] at B8 ⊢;have hg8w:w3.heap.size≤g8:=om;clear hg8;generalize w3.alloc (.cells #[.int .i64 n'.op,.slice n'.A n'.l.length n'.c,.slice n'.K n'.ks.length n'.kc,.int .i64 n'.mn,.int .i64 n'.mx,.int .i64 n'.md,.int .i64 n'.n,.bool n'.neg] 26)=wb at *;obtain⟨y0,y1,y2,y3,y4,y5,y6,y7⟩:wb.cell? ⟨g8,0,none⟩=some (.int .i64 n'.op)∧wb.cell? ⟨g8,1,none⟩=some (.slice n'.A n'.l.length n'.c)∧wb.cell? ⟨g8,2,none⟩=some (.slice n'.K n'.ks.length n'.kc)∧wb.cell? ⟨g8,3,none⟩=some (.int .i64 n'.mn)∧
   wb.cell? ⟨g8,4,none⟩=some (.int .i64 n'.mx)∧wb.cell? ⟨g8,5,none⟩=some (.int .i64 n'.md)∧wb.cell? ⟨g8,6,none⟩=some (.int .i64 n'.n)∧wb.cell? ⟨g8,7,none⟩=some (.bool n'.neg):=⟨B8.cell 0,B8.cell 1,B8.cell 2,B8.cell 3,B8.cell 4,B8.cell 5,B8.cell 6,B8.cell 7⟩
  go_upto_region 17 with fail
  have xb:=E8;have HN:Hid (B+B=B*ks.length):=lh (by rw[HM.out];omega);have HREC:=lh (HIH.out wb _ (HX3.out.trans E8) HT'.out (fm+(hs3.length:Int)+2) om om);have ewa:IntKind.i64.wrap (fm+(hs3.length:Int))=fm+(hs3.length:Int):=wj;have ewb:IntKind.i64.wrap (fm+(hs3.length:Int)+2)=fm+(hs3.length:Int)+2:=wj
  go_upto_region 18 with(go_at_call 65;refine(HREC.out.mono ?_);rintro e w4 ⟨A4,c4,hs4,rfl,hl4,h4⟩)
  have x4:=h4.ext;have H4:=lh h4;have hc4:=h4.len;have X4:Ext wa w4:=x3.trans (xb.trans x4);have H34:=lh (H3.out.up (xb.trans x4));clear h4 HREC z23;obtain⟨ys5,HY5⟩:∃ys,Hid (ys=[]++[(⟨2,fm+1,fm+(hs3.length:Int)+2,0,none,0,[]⟩:Hin)]):=⟨_,lh rfl⟩;obtain⟨ys6,HY6⟩:∃ys,Hid (ys=ys5++hs3):=⟨_,lh rfl⟩;have hl5:Hid (ys5.length=1):=lh (by rw[HY5.out];rfl);have hl6:Hid (ys6.length=1+hs3.length):=lh (by rw[HY6.out,List.length_append,hl5.out])
  go_upto_region 19 with(first|(at_builtin;refine wpList_appN (w0:=w0) rfl _ _ _ rfl iI Tryz.underlying31 jI0 jI1 jI2 jI3 none 0 [] rfl (CdI.nil (Ext.alloc w4 _)) _ 1 [⟨2,fm+1,fm+(hs3.length:Int)+2,0,none,0,[]⟩] rfl (hin_blk (Blk.new _ _ _)) (fun h hh=>by rw[List.mem_singleton.1 hh];exact HinOk.plain w0 (by simp only[I64];omega)) si ys5 HY5.out ?_;intro A5 c5 w5 h5 x5 hr5 hg5;have H5:=lh h5;have HX5:=lh x5;have x45:=(Ext.alloc w4 _).grown hg5 si)|(at_builtin;refine wpList_appN (w0:=w0) rfl _ _ _ rfl iI Tryz.underlying31 jI0 jI1 jI2 jI3 A5 c5 ys5 rfl H5.out A3 c3 hs3 rfl (OwnS.cells (H34.out.up x45).own) H34.out.ok (by have:=hl5.out;omega) ys6 HY6.out ?_;intro A6 c6 w6 h6 x6 hr6 hg6))
  have H6:=lh h6;have HX6:=lh x6;clear h6 hr6 hg6 hg5 hr5 h5 x5 x45 H5 HX5;have hfL:fm+(hs3.length:Int)+2+(hs4.length:Int)≤1000000:=by have:=HN.out;omega
  have ewc:IntKind.i64.wrap (fm+(hs3.length:Int)+2+(hs4.length:Int))=fm+(hs3.length:Int)+2+(hs4.length:Int):=wj;obtain⟨ys7,HY7⟩:∃ys,Hid (ys=ys6++[(⟨3,fm+(hs3.length:Int)+2+(hs4.length:Int),0,0,none,0,[]⟩:Hin)]):=⟨_,lh rfl⟩;obtain⟨ys8,HY8⟩:∃ys,Hid (ys=ys7++hs4):=⟨_,lh rfl⟩;have hl7:Hid (ys7.length=2+hs3.length):=lh (by rw[HY7.out,List.length_append,hl6.out];simp;omega);have hl8:Hid (ys8.length=2+hs3.length+hs4.length):=lh (by rw[HY8.out,List.length_append,hl7.out]);have hc6:=H6.out.len
  go_wp2_with (first|(at_builtin;refine wpList_appN (w0:=w0) rfl _ _ _ rfl iI Tryz.underlying31 jI0 jI1 jI2 jI3 A6 c6 ys6 rfl (H6.out.up (Ext.alloc w6 _)) _ 1 [⟨3,fm+(hs3.length:Int)+2+(hs4.length:Int),0,0,none,0,[]⟩] rfl (hin_blk (Blk.new _ _ _)) (fun h hh=>by rw[List.mem_singleton.1 hh];exact HinOk.plain w0 (by simp only[I64];omega)) (by have:=hl6.out;simp only[List.length_singleton];omega) ys7 HY7.out ?_;intro A7 c7 w7 h7 x7 hr7 hg7;have H7:=lh h7;have HX7:=lh x7;clear h7 x7 hr7 hg7)|(at_builtin;refine wpList_appN (w0:=w0) rfl _ _ _ rfl iI Tryz.underlying31 jI0 jI1 jI2 jI3 A7 c7 ys7 rfl H7.out A4 c4 hs4 rfl (OwnS.cells (H4.out.up HX7.out).own) H4.out.ok (by have:=hl7.out;omega) ys8 HY8.out ?_;intro A9 c9 w9 h9 x9 hr9 hg9))
  go_ret
  exact⟨A9,c9,ys8,rfl,by have:=hl8.out;have:=hl4;have:=HN.out;omega,(h9.low X4).low E0⟩
 | succ m ih=>
  intro w x0 A c l K kc ks mn mx md nn neg fm hm hkl hcl hks hf hfB;obtain⟨iI,jI0,jI1,jI2,jI3⟩:=info_parts infoIn;have B0:=Blk.new w 26 #[.int .i64 3,.slice A l.length c,.slice K ks.length kc,.int .i64 mn,.int .i64 mx,.int .i64 md,.int .i64 nn,.bool neg];have E0:=Ext.alloc w (.cells #[.int .i64 3,.slice A l.length c,.slice K ks.length kc,.int .i64 mn,.int .i64 mx,.int .i64 md,.int .i64 nn,.bool neg] 26);have HIH:=lh IH;have HIM:=lh ih;clear ih;have HC:=lh hcl;have HK:=lh hks;have HKL:ks.length≤kc∧kc≤9223372036854775807:=⟨hkl.1,by have:=hkl.2;unfold maxLen at this;omega⟩;have hm0:B*1≤B*ks.length:=mul_le2 om;have hm2:B*2≤B*ks.length:=mul_le2 om;have hlt0:(0:Int)<ks.length:=om;have hlt1:(1:Int)<ks.length:=om;have hlt0n:0<ks.length:=om;have hlt1n:1<ks.length:=om;have HM:=lh hm;clear hm;obtain⟨b,o,hK,n,ht,k0,k1,k2,k3,k4,k5,k6,k7⟩:=kid8x (x0.trans E0) hcl hks hlt0n;obtain⟨b',o',hK',n',ht',j0,j1,j2,j3,j4,j5,j6,j7⟩:=kid8x (x0.trans E0) hcl hks hlt1n;subst hK;injection hK' with hK';injection hK' with e1 e2 _
  subst e1;subst e2;simp only[Nat.zero_mul,Nat.add_zero] at k0 k1 k2 k3 k4 k5 k6 k7;simp only[Nat.one_mul] at j0 j1 j2 j3 j4 j5 j6 j7;have HT:=lh ht;have HT':=lh ht';have ewp:IntKind.i64.wrap (fm+1)=fm+1:=wj;clear hcl hks hkl ht ht';go_enter Tryz.func65,Tryz.ntmps65
  go_upto_region 1 with fail
  obtain⟨gx,hgx⟩:∃gx,gx=w.heap.size:=⟨_,rfl⟩
  rw[←hgx] at B0 ⊢;clear hgx;generalize w.alloc (.cells #[.int .i64 3,.slice A l.length c,.slice (some ⟨b,o,none⟩) ks.length kc,.int .i64 mn,.int .i64 mx,.int .i64 md,.int .i64 nn,.bool neg] 26)=wa at *;have z0:wa.cell? ⟨gx,0,none⟩=some (.int .i64 3):=B0.cell 0;have z2:wa.cell? ⟨gx,2,none⟩=some (.slice (some ⟨b,o,none⟩) ks.length kc):=B0.cell 2;have X0:=x0.trans E0
  go_upto_region 14 with(go_at_call 65;refine(HIH.out wa _ X0 HT.out (fm+1) om om).mono ?_;rintro e w3 ⟨A3,c3,hs3,rfl,hl3,h3⟩)
  have x3:=h3.ext;have HX3:=lh (X0.trans x3);have H3:=lh h3;have hc3:=h3.len;have z23:=x3.cell z2;have j03:=x3.cell j0;have j13:=x3.cell j1;have j23:=x3.cell j2;have j33:=x3.cell j3;have j43:=x3.cell j4;have j53:=x3.cell j5;have j63:=x3.cell j6;have j73:=x3.cell j7;clear h3 k0 k1 k2 k3 k4 k5 k6 k7 j0 j1 j2 j3 j4 j5 j6 j7
  go_upto_region 15 with fail
  have hgt:(2:Int)<(ks.length:Int):=by have:=HM.out;omega
  have E8:=Ext.alloc w3 (.cells #[.int .i64 n'.op,.slice n'.A n'.l.length n'.c,.slice n'.K n'.ks.length n'.kc,.int .i64 n'.mn,.int .i64 n'.mx,.int .i64 n'.md,.int .i64 n'.n,.bool n'.neg] 26);have B8:=Blk.new w3 26 #[.int .i64 n'.op,.slice n'.A n'.l.length n'.c,.slice n'.K n'.ks.length n'.kc,.int .i64 n'.mn,.int .i64 n'.mx,.int .i64 n'.md,.int .i64 n'.n,.bool n'.neg];have z2b:=E8.cell z23;obtain⟨g8,hg8⟩:∃g,g=w3.heap.size:=⟨_,rfl⟩
  rw[←hg8] at B8 ⊢;have hg8w:w3.heap.size≤g8:=om;clear hg8;generalize w3.alloc (.cells #[.int .i64 n'.op,.slice n'.A n'.l.length n'.c,.slice n'.K n'.ks.length n'.kc,.int .i64 n'.mn,.int .i64 n'.mx,.int .i64 n'.md,.int .i64 n'.n,.bool n'.neg] 26)=wb at *;obtain⟨y0,y1,y2,y3,y4,y5,y6,y7⟩:wb.cell? ⟨g8,0,none⟩=some (.int .i64 n'.op)∧wb.cell? ⟨g8,1,none⟩=some (.slice n'.A n'.l.length n'.c)∧wb.cell? ⟨g8,2,none⟩=some (.slice n'.K n'.ks.length n'.kc)∧wb.cell? ⟨g8,3,none⟩=some (.int .i64 n'.mn)∧
   wb.cell? ⟨g8,4,none⟩=some (.int .i64 n'.mx)∧wb.cell? ⟨g8,5,none⟩=some (.int .i64 n'.md)∧wb.cell? ⟨g8,6,none⟩=some (.int .i64 n'.n)∧wb.cell? ⟨g8,7,none⟩=some (.bool n'.neg):=⟨B8.cell 0,B8.cell 1,B8.cell 2,B8.cell 3,B8.cell 4,B8.cell 5,B8.cell 6,B8.cell 7⟩
  obtain⟨f0,f1,f2,f3,f4,f5,f6,f7⟩:=nd_frz B8
  go_upto_region 17 with fail
  obtain⟨kt,HKT⟩:∃kt,Hid (kt=ks.tail):=⟨_,lh rfl⟩;have elt:ks.length-1=kt.length:=by rw[HKT.out];simp
  rw[elt];have HEL:=lh elt;clear elt;have hb9:=setRe_blk B8 (⟨3,none,0,[],some ⟨b,o+8,none⟩,kc-1,kt,0,0,0,0,false⟩:Nd);have hx9:=setRe_ext (a:=w3) E8 om (⟨3,none,0,[],some ⟨b,o+8,none⟩,kc-1,kt,0,0,0,0,false⟩:Nd);change Code.wp _ _ _ _ (setRe wb g8 (⟨3,none,0,[],some ⟨b,o+8,none⟩,kc-1,kt,0,0,0,0,false⟩:Nd));clear y0 y1 y2 y3 y4 y5 y6 y7 f0 f1 f2 f3 f4 f5 f6 f7 z2b;generalize setRe wb g8 (⟨3,none,0,[],some ⟨b,o+8,none⟩,kc-1,kt,0,0,0,0,false⟩:Nd)=wc at *;clear E8 B8;obtain⟨y0,y1,y2,y3,y4,y5,y6,y7⟩:=nd_cells hb9
  try simp only[List.length_nil] at y1
  have xb:=hx9;have hmm:ks.length=m+1+2:=HM.out;have hmm2:kt.length=m+2:=by have:=HEL.out;omega
  have hme:=mul_step B kt.length;have hme2:B*(kt.length+1)=B*ks.length:=by rw[hmm,hmm2]
  have HREC:=lh (HIM.out wc (HX3.out.trans xb) none 0 [] (some ⟨b,o+8,none⟩) (kc-1) kt 0 0 0 0 false (fm+(hs3.length:Int)+2) hmm2 (by have:=HEL.out;have:=HKL;unfold maxLen;omega) (cells_tail HC.out HK.out HKT.out (by intro e;rw[e] at hmm;simp at hmm)) (fun u hu=>HK.out u (by rw[HKT.out] at hu;exact List.mem_of_mem_tail hu)) om om);have HN:Hid (B+B*kt.length=B*ks.length):=lh om;clear hmm hmm2 hme hme2;simp only[List.length_nil] at HREC;have ewa:IntKind.i64.wrap (fm+(hs3.length:Int))=fm+(hs3.length:Int):=wj;have ewb:IntKind.i64.wrap (fm+(hs3.length:Int)+2)=fm+(hs3.length:Int)+2:=wj
  go_upto_region 18 with(go_at_call 65;refine(HREC.out.mono ?_);rintro e w4 ⟨A4,c4,hs4,rfl,hl4,h4⟩)
  have x4:=h4.ext;have H4:=lh h4;have hc4:=h4.len;have X4:Ext wa w4:=x3.trans (xb.trans x4);have H34:=lh (H3.out.up (xb.trans x4));clear h4 HREC z23;obtain⟨ys5,HY5⟩:∃ys,Hid (ys=[]++[(⟨2,fm+1,fm+(hs3.length:Int)+2,0,none,0,[]⟩:Hin)]):=⟨_,lh rfl⟩;obtain⟨ys6,HY6⟩:∃ys,Hid (ys=ys5++hs3):=⟨_,lh rfl⟩;have hl5:Hid (ys5.length=1):=lh (by rw[HY5.out];rfl);have hl6:Hid (ys6.length=1+hs3.length):=lh (by rw[HY6.out,List.length_append,hl5.out])
  go_upto_region 19 with(first|(at_builtin;refine wpList_appN (w0:=w0) rfl _ _ _ rfl iI Tryz.underlying31 jI0 jI1 jI2 jI3 none 0 [] rfl (CdI.nil (Ext.alloc w4 _)) _ 1 [⟨2,fm+1,fm+(hs3.length:Int)+2,0,none,0,[]⟩] rfl (hin_blk (Blk.new _ _ _)) (fun h hh=>by rw[List.mem_singleton.1 hh];exact HinOk.plain w0 (by simp only[I64];omega)) si ys5 HY5.out ?_;intro A5 c5 w5 h5 x5 hr5 hg5;have H5:=lh h5;have HX5:=lh x5;have x45:=(Ext.alloc w4 _).grown hg5 si)|(at_builtin;refine wpList_appN (w0:=w0) rfl _ _ _ rfl iI Tryz.underlying31 jI0 jI1 jI2 jI3 A5 c5 ys5 rfl H5.out A3 c3 hs3 rfl (OwnS.cells (H34.out.up x45).own) H34.out.ok (by have:=hl5.out;omega) ys6 HY6.out ?_;intro A6 c6 w6 h6 x6 hr6 hg6))
  have H6:=lh h6;have HX6:=lh x6;clear h6 hr6 hg6 hg5 hr5 h5 x5 x45 H5 HX5;have hfL:fm+(hs3.length:Int)+2+(hs4.length:Int)≤1000000:=by have:=HN.out;omega
  have ewc:IntKind.i64.wrap (fm+(hs3.length:Int)+2+(hs4.length:Int))=fm+(hs3.length:Int)+2+(hs4.length:Int):=wj;obtain⟨ys7,HY7⟩:∃ys,Hid (ys=ys6++[(⟨3,fm+(hs3.length:Int)+2+(hs4.length:Int),0,0,none,0,[]⟩:Hin)]):=⟨_,lh rfl⟩;obtain⟨ys8,HY8⟩:∃ys,Hid (ys=ys7++hs4):=⟨_,lh rfl⟩;have hl7:Hid (ys7.length=2+hs3.length):=lh (by rw[HY7.out,List.length_append,hl6.out];simp;omega);have hl8:Hid (ys8.length=2+hs3.length+hs4.length):=lh (by rw[HY8.out,List.length_append,hl7.out]);have hc6:=H6.out.len
  go_wp2_with (first|(at_builtin;refine wpList_appN (w0:=w0) rfl _ _ _ rfl iI Tryz.underlying31 jI0 jI1 jI2 jI3 A6 c6 ys6 rfl (H6.out.up (Ext.alloc w6 _)) _ 1 [⟨3,fm+(hs3.length:Int)+2+(hs4.length:Int),0,0,none,0,[]⟩] rfl (hin_blk (Blk.new _ _ _)) (fun h hh=>by rw[List.mem_singleton.1 hh];exact HinOk.plain w0 (by simp only[I64];omega)) (by have:=hl6.out;simp only[List.length_singleton];omega) ys7 HY7.out ?_;intro A7 c7 w7 h7 x7 hr7 hg7;have H7:=lh h7;have HX7:=lh x7;clear h7 x7 hr7 hg7)|(at_builtin;refine wpList_appN (w0:=w0) rfl _ _ _ rfl iI Tryz.underlying31 jI0 jI1 jI2 jI3 A7 c7 ys7 rfl H7.out A4 c4 hs4 rfl (OwnS.cells (H4.out.up HX7.out).own) H4.out.ok (by have:=hl7.out;omega) ys8 HY8.out ?_;intro A9 c9 w9 h9 x9 hr9 hg9))
  go_ret
  exact⟨A9,c9,ys8,rfl,by have:=hl8.out;have:=hl4;have:=HN.out;omega,(h9.low X4).low E0⟩
end
section
open Go.RowKit
attribute [local go_sem ↓] Go.wp_at_zero Go.wp_at_succ
def RetSz (w:World)(e:Ending)(w':World):Prop:=∃x:Int,e=.returned (.int .i64 x)∧I64 x∧Ext w w'
theorem i64_wrap (n:Int):I64 (IntKind.i64.wrap n):=by rw[IntKind.wrap_i64];unfold I64;omega
theorem i64_wrap64 (n:Int):I64 (wrap64 n):=by unfold wrap64 I64;omega
theorem C5z1 {P:Prop} (h:P:=by
 go_wp2_with fail
 all_goals
  go_ret
  exact HF.out _ (by first|exact hx1|exact i64_wrap64 _|exact i64_wrap _|(simp[I64];done)) _ (Ext.rfl' _)):P:=h
theorem xsize_any (bd:Nat)(S:Nat→Prop):∀(d:Nat) (w:World) (v:Value),TreeAt bd S w d v→Calls Tryz.prog 64 #[v] w (RetSz w):=by
 intro d;induction d with
 | zero=>intro w v h;obtain⟨e,he⟩:=h.pos;omega
 | succ d ih=>
  intro w v h;obtain⟨n,rfl,hok,hsl,hkl,hkc,hcl,hks⟩:=h.node;obtain⟨op,A,c,l,K,kc,ks,mn,mx,md,nn,neg⟩:=n;have hop:=hok.op;have hfew:=hok.few;have hmn:=hok.mn;have hmx:=hok.mx
  simp only at hop hsl hkl hkc hcl hks hfew hmn hmx
  unfold Nd.val
  simp only
  have HIH:=lh ih;clear ih h hok;have B0:=Blk.new w 26 #[.int .i64 op,.slice A l.length c,.slice K ks.length kc,.int .i64 mn,.int .i64 mx,.int .i64 md,.int .i64 nn,.bool neg];have E0:=Ext.alloc w (.cells #[.int .i64 op,.slice A l.length c,.slice K ks.length kc,.int .i64 mn,.int .i64 mx,.int .i64 md,.int .i64 nn,.bool neg] 26);have HC:=lh (hcl.ext E0);have HK:=lh (fun u hu=>(hks u hu).ext E0);have HKL:ks.length≤kc∧kc≤9223372036854775807:=⟨hkl,by unfold maxLen at hkc;omega⟩;clear hcl hks hsl hkl hkc;go_enter Tryz.func64,Tryz.ntmps64
  go_upto_region 1 with fail
  obtain⟨gx,hgx⟩:∃gx,gx=w.heap.size:=⟨_,rfl⟩
  rw[←hgx] at B0 ⊢;clear hgx;generalize w.alloc (.cells #[.int .i64 op,.slice A l.length c,.slice K ks.length kc,.int .i64 mn,.int .i64 mx,.int .i64 md,.int .i64 nn,.bool neg] 26)=wa at *;have z0:wa.cell? ⟨gx,0,none⟩=some (.int .i64 op):=B0.cell 0;have z2:wa.cell? ⟨gx,2,none⟩=some (.slice K ks.length kc):=B0.cell 2;have z3:wa.cell? ⟨gx,3,none⟩=some (.int .i64 mn):=B0.cell 3;have z4:wa.cell? ⟨gx,4,none⟩=some (.int .i64 mx):=B0.cell 4
  go_upto_region 3 with fail
  go_loopw [4,3] (fun v u wr=>∃(i:Nat) (x:Int),v=.int .i64 i∧u=.int .i64 x∧i≤ks.length∧I64 x∧Ext wa wr) (fun v _ _=>ks.length-(intOf v).toNat)
  case atStart=>exact⟨0,0,rfl,rfl,om,by simp[I64],Ext.rfl' _⟩
  case round=>
   obtain⟨i,x,rfl,rfl,hi,hx1,x1⟩:=hrel;have z0r:=x1.cell z0;have z2r:=x1.cell z2;have z3r:=x1.cell z3;have z4r:=x1.cell z4;by_cases hlt:i<ks.length
   ·have hiI:(i:Int)<ks.length:=om;obtain⟨b,o,hK,n,ht,k0,k1,k2,k3,k4,k5,k6,k7⟩:=kid8 (HC.out.ext x1) (fun u hu=>(HK.out u hu).ext x1) hlt;have hK':=hK;subst hK';have HT:=lh ht;clear ht
    go_wp2_with (go_at_call 64;refine(HIH.out wr _ HT.out).mono ?_;rintro e w3 ⟨y,rfl,hy1,x3⟩;have HW:=i64_wrap (x+y);generalize hwz:IntKind.i64.wrap (x+y)=z at HW;have HZ:=lh hwz.symm;have hwz2:=hwz;clear HZ)
    go_roundw
    case rel=>exact⟨i+1,_,by go_num,rfl,om,HW,x1.trans x3⟩
    case measure=>simp[intOf];omega
   ·have hiI:¬(i:Int)<ks.length:=om;have FIN:∀z:Int,I64 z→∀w',Ext wr w'→RetSz w (.returned (.int .i64 z)) w':=fun z h1 w' h2=>⟨_,rfl,h1,E0.trans (x1.trans h2)⟩;have HF:=lh FIN;clear FIN;rcases hop with rfl|rfl|rfl|rfl|rfl|rfl|rfl
    case inr.inr.inr.inr.inl=>
     by_cases hm1:mx = -1
     ·subst hm1;exact C5z1
     ·have hm2:(mx == -1)=false:=by simp[hm1]
      exact C5z1
    all_goals
     go_wp2_with fail
     all_goals
      go_ret
      exact HF.out _ (by first|exact hx1|exact i64_wrap64 _|exact i64_wrap _|(simp[I64];done)) _ (Ext.rfl' _)
end
end Go.Proofs.YtmocoldobnimfaaGreat
