/- Texts of this proof: K4 K5 K6 K13 K15 Bf Z1 J3 J4 J5 J6 VC. -/
import Derived.Test.YtmgpefenkilffaaGreatSW03
import Derived.Test.YtmgpefenkilffaaGreatSW04
set_option linter.all false
set_option maxRecDepth 100000
set_option maxHeartbeats 16000000
namespace Go.Proofs.YtmgpefenkilffaaGreat
section
open Go.RowKit
attribute [local go_sem ↓] Go.wp_at_zero Go.wp_at_succ
theorem symAt_get {hs:List Hin}{p:Nat}(h:p<hs.length)(c:Int):symAt (insL hs) c p=(decide (hs[p].op=1)&&has hs[p].l c):=by
 unfold symAt;rw[insL_get h];rfl
structure Hl where
 A:Option Addr
 c:Nat
 l:List Nat
def flatL (hs:List Hl):List Value:=hs.map fun h=>.slice h.A (castL h.l).length h.c
def stsOf (hs:List Hl):List (List Nat):=hs.map (·.l)
end
section
open Go.RowKit
structure Hz where
 A:Option Addr
 c:Nat
 l:List Int
end
section
open Go.RowKit
attribute [local go_sem ↓] Go.wp_at_zero Go.wp_at_succ
def dropI (A:Option Addr)(c k:Nat):Option Addr:=if c=k then A else A.map (fun x=>x.add k)
theorem IL.dropN {w:World}{A:Option Addr}{c k:Nat}{xs:List Int}(h:IL w A c xs)(hk:k<=xs.length):IL w (dropI A c k) (c-k) (xs.drop k):=by
 have h1:=h.le;have h2:=h.cap;refine⟨by rw[List.length_drop];omega,om,fun x hx=>h.rng x (List.mem_of_mem_drop hx),fun hn=>?_⟩;have hlt:k<xs.length:=by
  rcases Nat.lt_or_ge k xs.length with h3|h3
  ·exact h3
  ·exact absurd (List.drop_eq_nil_of_le h3) hn
 obtain⟨b,o,rfl,hc⟩:=h.at_ (by rintro rfl;simp at hlt);unfold dropI;rw[if_neg om];refine⟨b,o+k,by rw[Option.map_some,Addr.add_lit],fun i hi=>?_⟩;rw[List.getElem_drop,Nat.add_assoc];exact hc (k+i) (by rw[List.length_drop] at hi;omega)
theorem infoA2:(Tryz.prog.info? 54).map (fun i=>(i.zero,i.size,i.bytes))=some (some (.agg #[.int .i64 0,.int .i64 0]),2,16):=by kernel_rfl
theorem SL.of_ownT {w:World}{base T c:Nat}{A:Option Addr}{l:List Sp}(h:OwnS w base T 2 A l.length c (flatS l))(hr:∀s∈l,S64 s):SL w A c l:=by
 have hc:=OwnS.caps h;refine⟨hc.1,by unfold maxLen;omega,hr,fun hn=>?_⟩;obtain⟨b,o,hA,hcell⟩:=OwnS.cells h (by intro e;have:=flatS_len l;rw[e] at this;simp at this;exact hn (List.length_eq_zero_iff.1 om));have one:∀(i:Nat) (v:Value),(flatS l)[i]? = some v->w.cell? ⟨b,o+i,none⟩=some v:=fun i v hv=>by
  obtain⟨l1,e1⟩:=List.getElem?_eq_some_iff.1 hv;rw[hcell i l1,e1]
 exact⟨b,o,hA,fun i hi=>⟨one _ _ (flatS_get l i hi).1,by rw[Nat.add_assoc];exact one _ _ (flatS_get l i hi).2⟩⟩
end
section
open Go.RowKit
def cellZ (z:Hz):Value:=.slice z.A z.l.length z.c
def zCells (rows:List Hz):Array Value:=(rows.map cellZ).toArray
theorem zCells_set (rows:List Hz)(i:Nat)(z:Hz):(zCells rows).setIfInBounds i (cellZ z)=zCells (rows.set i z):=by simp[zCells]
def nilZ:Hz:=⟨none,0,[]⟩
theorem Blk.cellZ {w:World}{g T:Nat}{rows:List Hz}(h:Blk w g T (zCells rows)){i:Nat}(hi:i<rows.length):w.cell? ⟨g,i,none⟩=some (.slice rows[i].A rows[i].l.length rows[i].c):=by
 rw[h.cell];simp[zCells,hi,Go.Proofs.YtmgpefenkilffaaGreat.cellZ]
structure BfM (w:World)(base gB:Nat)(rows:List Hz):Prop where
 blk:Blk w gB 22 (zCells rows)
 own:∀z∈rows,OwnI w base 3 z.A z.c z.l
 ap:rows.Pairwise (fun a b=>∀k,a.A.map (·.block)=some k->b.A.map (·.block)≠some k)
namespace BfM
variable {w w' wx wa w8 w9:World} {base gB:Nat} {rows:List Hz}
theorem ext (h:BfM w base gB rows)(x:Ext w w'):BfM w' base gB rows:=⟨h.blk.ext x,fun z hz=>OwnS.ext (h.own z hz) x,h.ap⟩
theorem start {n:Nat}(h:Blk w gB 22 (Array.replicate n (.slice none 0 0)))(base:Nat):BfM w base gB (List.replicate n nilZ):=by
 refine⟨?_,fun z hz=>?_,?_⟩
 ·have e:zCells (List.replicate n nilZ)=Array.replicate n (.slice none 0 0):=by
   simp[zCells,Go.Proofs.YtmgpefenkilffaaGreat.cellZ,nilZ]
  rw[e];exact h
 ·obtain rfl:=(List.mem_replicate.1 hz).2;exact OwnS.nil _ _ _ _
 ·rw[List.pairwise_iff_getElem];intro i j hi hj hij k hk;rw[List.getElem_replicate] at hk;simp[nilZ] at hk
theorem apart (h:BfM w base gB rows){i j:Nat}(hi:i<rows.length)(hj:j<rows.length)(hij:i≠j){k:Nat}(hk:rows[i].A.map (·.block)=some k):rows[j].A.map (·.block)≠some k:=by
 have hp:=List.pairwise_iff_getElem.1 h.ap;rcases Nat.lt_or_gt_of_ne hij with h1|h1
 ·exact hp i j hi hj h1 k hk
 ·exact fun e=>hp j i hj hi h1 k e hk
theorem kp {q:Nat->Prop}(h:BfM w base gB rows)(k:KpP q w w')(hq:∀b,q b->∀cur T,w.heap[b]? = some (.cells cur T (0,0))->T≠3/\T≠22):BfM w' base gB rows:=by
 refine⟨(k.block _ h.blk.lt (fun hqb=>(hq _ hqb _ _ h.blk).2 rfl)).trans h.blk,fun z hz=>OwnS.kp (h.own z hz) k (fun b hb hqb=>?_),h.ap⟩;obtain⟨_,cur,hh⟩:=OwnS.blt (h.own z hz) hb;exact(hq b hqb cur _ hh).1 rfl
theorem put (h:BfM wx base gB rows){t:Nat}(ht:t<rows.length){x:Int}{A8:Option Addr}{c8:Nat}{v:Value}(hv:v=.slice A8 (rows[t].l++[x]).length c8)(xa:Ext wx wa)
 (ho:OwnI w8 base 3 A8 c8 (rows[t].l++[x])) (hg:wa.grownBy w8 (rows[t].A.map (·.block))) (hat:A8.map (·.block)=rows[t].A.map (·.block)\/A8.map (·.block)=some wa.heap.size) (x9:Ext w8 w9) :
 BfM (w9.setCell ⟨gB,t,none⟩ v) base gB (rows.set t ⟨A8,c8,rows[t].l++[x]⟩):=by
 subst hv;have k:=KpP.of_grown hg;have ha:=h.ext xa;have b8:=k.blk ha.blk (own_blk (ha.own _ (List.getElem_mem ht)) ha.blk de);have b9:=b8.ext x9;have hold:∀j (hj:j<rows.length),j≠t->OwnI (w9.setCell ⟨gB,t,none⟩ (.slice A8 (rows[t].l++[x]).length c8)) base 3 rows[j].A rows[j].c rows[j].l/\(∀b,rows[j].A.map (·.block)=some b->A8.map (·.block)≠some b):=fun j hj hjt=>by
  have o8:=OwnS.kp (ha.own _ (List.getElem_mem hj)) k (fun b hb=>ha.apart hj ht hjt hb);have o9:=OwnS.ext o8 x9;refine⟨OwnS.far o9 (own_blk o9 b9 de) _,fun b hb e=>?_⟩;rcases hat with e2|e2
  ·rw[e2] at e;exact ha.apart hj ht hjt hb e
  ·rw[e2] at e;injection e with e
   have:=(OwnS.blt (ha.own _ (List.getElem_mem hj)) hb).1;omega
 refine⟨?_,fun z hz=>?_,?_⟩
 ·have b:=b9.set t (.slice A8 (rows[t].l++[x]).length c8);have e:=zCells_set rows t ⟨A8,c8,rows[t].l++[x]⟩;unfold Go.Proofs.YtmgpefenkilffaaGreat.cellZ at e;rw[e] at b;exact b
 ·obtain⟨j,hj,e⟩:=List.getElem_of_mem hz;rw[List.length_set] at hj;rw[List.getElem_set] at e;by_cases hjt:t=j
  ·rw[if_pos hjt] at e;subst e;exact OwnS.far (OwnS.ext ho x9) (own_blk (OwnS.ext ho x9) b9 de) _
  ·rw[if_neg hjt] at e;subst e;exact(hold j hj (fun e=>hjt e.symm)).1
 ·rw[List.pairwise_iff_getElem];intro i j hi hj hij b hb;rw[List.length_set] at hi hj;rw[List.getElem_set] at hb ⊢;by_cases h1:t=i
  ·rw[if_pos h1] at hb;have h2:¬t=j:=om;rw[if_neg h2];exact fun e=>(hold j hj om).2 b e hb
  ·rw[if_neg h1] at hb;by_cases h2:t=j
   ·rw[if_pos h2];exact(hold i hi om).2 b hb
   ·rw[if_neg h2];exact h.apart hi hj om hb
end BfM
def ZT (T:Nat):Prop:=T=341\/T=3\/T=37
instance (T:Nat):Decidable (ZT T):=by unfold ZT;infer_instance
def ZK (w w':World):Prop:=∃q:Nat->Prop,KpP q w w'/\∀b,q b->∀cur T,w.heap[b]? = some (.cells cur T (0,0))->ZT T
namespace ZK
variable {a b c w w':World}
theorem of_ext (x:Ext w w'):ZK w w':=⟨fun _=>False,KpP.of_ext x,fun _ h=>h.elim⟩
theorem blk {g T:Nat}{ds:Array Value}(k:ZK w w')(h:Blk w g T ds)(hT:¬ZT T):Blk w' g T ds:=by
 obtain⟨q,k,n⟩:=k;exact(k.block g h.lt (fun hq=>hT (n g hq _ _ h))).trans h
end ZK
def ptrO (p:Option Nat):Value:=.pointer (p.map (fun g=>⟨g,0,none⟩))
def goalC (kind:Int)(n:Nd)(k fr:Int)(p:Option Nat):Array Value:=
 #[.int .i64 kind,.int .i64 n.op,.slice n.A n.l.length n.c,.slice n.K n.ks.length n.kc,.int .i64 n.mn,.int .i64 n.mx,.int .i64 n.md,.int .i64 n.n,.bool n.neg,.int .i64 k,.int .i64 fr,ptrO p]
inductive GoalAt (bd:Nat) (w0 w:World) (kb:Int):Nat->Option Nat->Prop
 | nil:GoalAt bd w0 w kb 0 none
 | mk {n:Nat} {p:Option Nat} (g:Nat) (kind k fr:Int) (nd:Nd) (d:Nat):Blk w g 345 (goalC kind nd k fr p)->TreeAt bd (fun _=>True) w0 d nd.val->
  (kind=0\/(kind=1/\nd.op=4/\0<=k/\k<=kb)\/(kind=2/\nd.op=4/\0<=k/\k+1<=kb)\/kind=3)->I64 fr->GoalAt bd w0 w kb n p->GoalAt bd w0 w kb (n+1) (some g)
namespace GoalAt
variable {bd n:Nat} {w0 w w':World} {kb kb':Int} {p:Option Nat}
theorem mono (h:GoalAt bd w0 w kb n p)(hk:kb<=kb'):GoalAt bd w0 w kb' n p:=by
 induction h with
 | nil=>exact .nil
 | mk g kind k fr nd d h1 h2 h3 h4 _ ih=>exact .mk g kind k fr nd d h1 h2 om h4 ih
theorem zk (h:GoalAt bd w0 w kb n p)(k:ZK w w'):GoalAt bd w0 w' kb n p:=by
 induction h with
 | nil=>exact .nil
 | mk g kind k2 fr nd d h1 h2 h3 h4 _ ih=>exact .mk g kind k2 fr nd d (k.blk h1 de) h2 h3 h4 ih
theorem ext (h:GoalAt bd w0 w kb n p)(x:Ext w w'):GoalAt bd w0 w' kb n p:=h.zk (ZK.of_ext x)
end GoalAt
def CapAt (w:World)(A:Option Addr)(c:Nat)(l:List Sp):Prop:=SL w A c l/\∀b,A.map (·.block)=some b->∃cur,w.heap[b]? = some (.cells cur 54 (0,0))
theorem CapAt.zk {w w':World}{A:Option Addr}{c:Nat}{l:List Sp}(h:CapAt w A c l)(k:ZK w w'):CapAt w' A c l:=by
 obtain⟨q,k,n⟩:=k;have hn:∀b,A.map (·.block)=some b->¬q b:=fun b hb hq=>by
  obtain⟨cur,hh⟩:=h.2 b hb;exact absurd (n b hq cur _ hh) de
 refine⟨h.1.kpZ k (fun _ b hb=>hn b hb),fun b hb=>?_⟩;obtain⟨cur,hh⟩:=h.2 b hb;exact⟨cur,(k.block b (Array.getElem?_eq_some_iff.1 hh).1 (hn b hb)).trans hh⟩
theorem CapAt.ext {w w':World}{A:Option Addr}{c:Nat}{l:List Sp}(h:CapAt w A c l)(x:Ext w w'):CapAt w' A c l:=h.zk (ZK.of_ext x)
structure SrM (w:World)(base gs:Nat)(tA:Option Addr)(tn tc:Nat)(most fuel:Int)(st:Nat)(em:Bool)(ns:Nat):Prop where
 blk:∃(eA:Option Addr) (ec:Nat) (ends:List Int) (cA:Option Addr) (cc:Nat) (cps:List Value),
  Blk w gs 341 #[.slice tA tn tc,.int .i64 most,.int .i64 fuel,.int .i64 st,.bool em,.slice eA ends.length ec,.slice cA cps.length cc]/\
  OwnI w base 3 eA ec ends/\OwnS w base 37 1 cA cps.length cc cps/\ends.length=ns/\cps.length=ns/\(∀x∈ends,I64 x)/\∀v∈cps,∃A n c,v=.slice A n c
 lo:base<=gs
theorem SrM.ext {w w':World}{base gs tn tc st ns:Nat}{tA:Option Addr}{most fuel:Int}{em:Bool}(h:SrM w base gs tA tn tc most fuel st em ns)(x:Ext w w'):SrM w' base gs tA tn tc most fuel st em ns:=by
 obtain⟨⟨eA,ec,ends,cA,cc,cps,h1,h2,h3,h4⟩,h5⟩:=h;exact⟨⟨eA,ec,ends,cA,cc,cps,h1.ext x,OwnS.ext h2 x,OwnS.ext h3 x,h4⟩,h5⟩
theorem SL.of_blkZ {w:World}{g T:Nat}(l:List Sp)(h:Blk w g T (flatS l).toArray)(hs:∀s∈l,-1000000<=s.1/\s.1<=1000000/\-1000000<=s.2/\s.2<=1000000)(hl:l.length<=1000):SL w (some ⟨g,0,none⟩) l.length l:=by
 refine⟨Nat.le_refl _,by unfold maxLen;omega,fun s hs2=>by have:=hs s hs2;unfold S64 I64;omega,fun _=>⟨g,0,rfl,fun i hi=>?_⟩⟩;obtain⟨h1,h2⟩:=flatS_get l i hi;rw[h.cell,h.cell];refine⟨?_,?_⟩
 ·rw[Nat.zero_add];simpa using h1
 ·rw[Nat.zero_add];simpa using h2
instance (l:List Sp):Decidable (SetOk l):=by unfold SetOk;infer_instance
def setsY (gr:Nat):Array Value:=#[.slice (some ⟨gr+1,0,none⟩) 1 1,.slice (some ⟨gr+1+1,0,none⟩) 1 1,.slice (some ⟨gr+1+1+1,0,none⟩) 1 1,.slice (some ⟨gr+1+1+1+1,0,none⟩) 1 1,.slice (some ⟨gr+1+1+1+1+1,0,none⟩) 1 1,.slice (some ⟨gr+1+1+1+1+1+1,0,none⟩) 2 2,.slice (some ⟨gr+1+1+1+1+1+1+1,0,none⟩) 2 2,.slice (some ⟨gr+1+1+1+1+1+1+1+1,0,none⟩) 0 0]
def RetNd (d:Nat)(w0:World)(gm:Nat)(A:Option Addr)(c:Nat)(ls:List Int)(uses B L C:Int)(w:World)(e:Ending)(w':World):Prop:=
 ∃(v:Value) (L' C':Int),e=.returned v/\TrN uses (fun k=>w.heap.size<=k) w' d v C' (L-L')/\MkM w' w0 gm A c ls uses B L' C'/\((L<=3/\L'+1=L)\/(3<L/\2<=L'+2*((d:Int)-1)))/\L'+1<=L/\C<=C'/\KpP (·=gm) w w'
def RetNs (w0:World)(gm:Nat)(A:Option Addr)(c:Nat)(ls:List Int)(uses B L C:Int)(w:World)(e:Ending)(w':World):Prop:=
 ∃(v:Value),e=.returned v/\(∃n:Nd,v=n.val/\TreeG 3 (fun k=>w.heap.size<=k) w' 1 v (.k0 n.hd)/\HdOk uses C n.hd []/\n.op=1)/\MkM w' w0 gm A c ls uses B L C/\KpP (·=gm) w w'
theorem yset_any (w0 w:World)(gm:Nat)(A:Option Addr)(c:Nat)(ls:List Int)(uses B L C:Int)(h:MkM w w0 gm A c ls uses B L C)(hB:B<=100000000) :
 Calls Tryz.prog 274 #[.pointer (some ⟨gm,0,none⟩)] w (RetNs w0 gm A c ls uses (B+1) L C w):=by
 have hgm:gm<w.heap.size:=by
  obtain⟨_,_,_,_,hb,_⟩:=h;exact hb.lt
 have H:=lh h;obtain⟨gr,hgr⟩:∃gr,w.heap.size=gr:=⟨_,rfl⟩;clear h;go_enter Tryz.func274,Tryz.ntmps274
 go_upto_region 2 with fail
 have E0:=Ext.alloc w (.cells #[.int .i64 0,.slice none 0 0,.slice none 0 0,.int .i64 0,.int .i64 0,.int .i64 0,.int .i64 0,.bool false] 61);have B0:=Blk.new w 61 #[.int .i64 0,.slice none 0 0,.slice none 0 0,.int .i64 0,.int .i64 0,.int .i64 0,.int .i64 0,.bool false];have S0:(w.alloc (.cells #[.int .i64 0,.slice none 0 0,.slice none 0 0,.int .i64 0,.int .i64 0,.int .i64 0,.int .i64 0,.bool false] 61)).heap.size=gr+1:=by rw[World.size_alloc,hgr]
 rw[hgr] at B0;generalize w.alloc (.cells #[.int .i64 0,.slice none 0 0,.slice none 0 0,.int .i64 0,.int .i64 0,.int .i64 0,.int .i64 0,.bool false] 61)=v0 at *;have E1:=Ext.alloc v0 (.cells #[.int .i64 97,.int .i64 97] 81);have B1:=Blk.new v0 81 #[.int .i64 97,.int .i64 97];have S1:(v0.alloc (.cells #[.int .i64 97,.int .i64 97] 81)).heap.size=gr+1+1:=by rw[World.size_alloc,S0]
 rw[S0] at B1;generalize v0.alloc (.cells #[.int .i64 97,.int .i64 97] 81)=v1 at *;have E2:=Ext.alloc v1 (.cells #[.int .i64 98,.int .i64 98] 81);have B2:=Blk.new v1 81 #[.int .i64 98,.int .i64 98];have S2:(v1.alloc (.cells #[.int .i64 98,.int .i64 98] 81)).heap.size=gr+1+1+1:=by rw[World.size_alloc,S1]
 rw[S1] at B2;generalize v1.alloc (.cells #[.int .i64 98,.int .i64 98] 81)=v2 at *;have E3:=Ext.alloc v2 (.cells #[.int .i64 97,.int .i64 98] 81);have B3:=Blk.new v2 81 #[.int .i64 97,.int .i64 98];have S3:(v2.alloc (.cells #[.int .i64 97,.int .i64 98] 81)).heap.size=gr+1+1+1+1:=by rw[World.size_alloc,S2]
 rw[S2] at B3;generalize v2.alloc (.cells #[.int .i64 97,.int .i64 98] 81)=v3 at *;have E4:=Ext.alloc v3 (.cells #[.int .i64 99,.int .i64 99] 81);have B4:=Blk.new v3 81 #[.int .i64 99,.int .i64 99];have S4:(v3.alloc (.cells #[.int .i64 99,.int .i64 99] 81)).heap.size=gr+1+1+1+1+1:=by rw[World.size_alloc,S3]
 rw[S3] at B4;generalize v3.alloc (.cells #[.int .i64 99,.int .i64 99] 81)=v4 at *;have E5:=Ext.alloc v4 (.cells #[.int .i64 97,.int .i64 99] 81);have B5:=Blk.new v4 81 #[.int .i64 97,.int .i64 99];have S5:(v4.alloc (.cells #[.int .i64 97,.int .i64 99] 81)).heap.size=gr+1+1+1+1+1+1:=by rw[World.size_alloc,S4]
 rw[S4] at B5;generalize v4.alloc (.cells #[.int .i64 97,.int .i64 99] 81)=v5 at *;have E6:=Ext.alloc v5 (.cells #[.int .i64 0,.int .i64 96,.int .i64 98,.int .i64 255] 81);have B6:=Blk.new v5 81 #[.int .i64 0,.int .i64 96,.int .i64 98,.int .i64 255];have S6:(v5.alloc (.cells #[.int .i64 0,.int .i64 96,.int .i64 98,.int .i64 255] 81)).heap.size=gr+1+1+1+1+1+1+1:=by rw[World.size_alloc,S5]
 rw[S5] at B6;generalize v5.alloc (.cells #[.int .i64 0,.int .i64 96,.int .i64 98,.int .i64 255] 81)=v6 at *;have E7:=Ext.alloc v6 (.cells #[.int .i64 10,.int .i64 10,.int .i64 97,.int .i64 97] 81);have B7:=Blk.new v6 81 #[.int .i64 10,.int .i64 10,.int .i64 97,.int .i64 97];have S7:(v6.alloc (.cells #[.int .i64 10,.int .i64 10,.int .i64 97,.int .i64 97] 81)).heap.size=gr+1+1+1+1+1+1+1+1:=by rw[World.size_alloc,S6]
 rw[S6] at B7;generalize v6.alloc (.cells #[.int .i64 10,.int .i64 10,.int .i64 97,.int .i64 97] 81)=v7 at *;have E8:=Ext.alloc v7 (.cells #[] 81);have B8:=Blk.new v7 81 #[];have S8:(v7.alloc (.cells #[] 81)).heap.size=gr+1+1+1+1+1+1+1+1+1:=by rw[World.size_alloc,S7]
 rw[S7] at B8;generalize v7.alloc (.cells #[] 81)=v8 at *;have E9:=Ext.alloc v8 (.cells #[.slice (some ⟨gr+1,0,none⟩) 1 1,.slice (some ⟨gr+1+1,0,none⟩) 1 1,.slice (some ⟨gr+1+1+1,0,none⟩) 1 1,.slice (some ⟨gr+1+1+1+1,0,none⟩) 1 1,.slice (some ⟨gr+1+1+1+1+1,0,none⟩) 1 1,.slice (some ⟨gr+1+1+1+1+1+1,0,none⟩) 2 2,.slice (some ⟨gr+1+1+1+1+1+1+1,0,none⟩) 2 2,.slice (some ⟨gr+1+1+1+1+1+1+1+1,0,none⟩) 0 0] 58);have B9:=Blk.new v8 58 #[.slice (some ⟨gr+1,0,none⟩) 1 1,.slice (some ⟨gr+1+1,0,none⟩) 1 1,.slice (some ⟨gr+1+1+1,0,none⟩) 1 1,.slice (some ⟨gr+1+1+1+1,0,none⟩) 1 1,.slice (some ⟨gr+1+1+1+1+1,0,none⟩) 1 1,.slice (some ⟨gr+1+1+1+1+1+1,0,none⟩) 2 2,.slice (some ⟨gr+1+1+1+1+1+1+1,0,none⟩) 2 2,.slice (some ⟨gr+1+1+1+1+1+1+1+1,0,none⟩) 0 0];have S9:(v8.alloc (.cells #[.slice (some ⟨gr+1,0,none⟩) 1 1,.slice (some ⟨gr+1+1,0,none⟩) 1 1,.slice (some ⟨gr+1+1+1,0,none⟩) 1 1,.slice (some ⟨gr+1+1+1+1,0,none⟩) 1 1,.slice (some ⟨gr+1+1+1+1+1,0,none⟩) 1 1,.slice (some ⟨gr+1+1+1+1+1+1,0,none⟩) 2 2,.slice (some ⟨gr+1+1+1+1+1+1+1,0,none⟩) 2 2,.slice (some ⟨gr+1+1+1+1+1+1+1+1,0,none⟩) 0 0] 58)).heap.size=gr+1+1+1+1+1+1+1+1+1+1:=by rw[World.size_alloc,S8]
 rw[S8] at B9;generalize v8.alloc (.cells #[.slice (some ⟨gr+1,0,none⟩) 1 1,.slice (some ⟨gr+1+1,0,none⟩) 1 1,.slice (some ⟨gr+1+1+1,0,none⟩) 1 1,.slice (some ⟨gr+1+1+1+1,0,none⟩) 1 1,.slice (some ⟨gr+1+1+1+1+1,0,none⟩) 1 1,.slice (some ⟨gr+1+1+1+1+1+1,0,none⟩) 2 2,.slice (some ⟨gr+1+1+1+1+1+1+1,0,none⟩) 2 2,.slice (some ⟨gr+1+1+1+1+1+1+1+1,0,none⟩) 0 0] 58)=v9 at *;replace B0:=(((((((((B0).ext E1).ext E2).ext E3).ext E4).ext E5).ext E6).ext E7).ext E8).ext E9;replace B1:=((((((((B1).ext E2).ext E3).ext E4).ext E5).ext E6).ext E7).ext E8).ext E9;replace B2:=(((((((B2).ext E3).ext E4).ext E5).ext E6).ext E7).ext E8).ext E9;replace B3:=((((((B3).ext E4).ext E5).ext E6).ext E7).ext E8).ext E9;replace B4:=(((((B4).ext E5).ext E6).ext E7).ext E8).ext E9;replace B5:=((((B5).ext E6).ext E7).ext E8).ext E9;replace B6:=(((B6).ext E7).ext E8).ext E9;replace B7:=((B7).ext E8).ext E9;replace B8:=(B8).ext E9;replace B9:=B9;have EX:Ext w v9:=(((((((((E0).trans E1).trans E2).trans E3).trans E4).trans E5).trans E6).trans E7).trans E8).trans E9;have HSL:∀k:Nat,k<8->∃(A:Option Addr) (c:Nat) (l:List Sp),(setsY gr)[k]? = some (.slice A l.length c)/\SL v9 A c l/\(SetOk l/\l∈sets8)/\∀b,A.map (·.block)=some b->gr+1<=b:=by
  intro k hk;have hk2:k=0\/k=1\/k=2\/k=3\/k=4\/k=5\/k=6\/k=7:=om;rcases hk2 with rfl|rfl|rfl|rfl|rfl|rfl|rfl|rfl
  ·exact⟨some ⟨gr+1,0,none⟩,1,[(97,97)],rfl,SL.of_blkZ [(97,97)] B1 de de,⟨by decide,by decide⟩,fun b hb=>by simp at hb;omega⟩
  ·exact⟨some ⟨gr+1+1,0,none⟩,1,[(98,98)],rfl,SL.of_blkZ [(98,98)] B2 de de,⟨by decide,by decide⟩,fun b hb=>by simp at hb;omega⟩
  ·exact⟨some ⟨gr+1+1+1,0,none⟩,1,[(97,98)],rfl,SL.of_blkZ [(97,98)] B3 de de,⟨by decide,by decide⟩,fun b hb=>by simp at hb;omega⟩
  ·exact⟨some ⟨gr+1+1+1+1,0,none⟩,1,[(99,99)],rfl,SL.of_blkZ [(99,99)] B4 de de,⟨by decide,by decide⟩,fun b hb=>by simp at hb;omega⟩
  ·exact⟨some ⟨gr+1+1+1+1+1,0,none⟩,1,[(97,99)],rfl,SL.of_blkZ [(97,99)] B5 de de,⟨by decide,by decide⟩,fun b hb=>by simp at hb;omega⟩
  ·exact⟨some ⟨gr+1+1+1+1+1+1,0,none⟩,2,[(0,96),(98,255)],rfl,SL.of_blkZ [(0,96),(98,255)] B6 de de,⟨by decide,by decide⟩,fun b hb=>by simp at hb;omega⟩
  ·exact⟨some ⟨gr+1+1+1+1+1+1+1,0,none⟩,2,[(10,10),(97,97)],rfl,SL.of_blkZ [(10,10),(97,97)] B7 de de,⟨by decide,by decide⟩,fun b hb=>by simp at hb;omega⟩
  ·exact⟨some ⟨gr+1+1+1+1+1+1+1+1,0,none⟩,0,[],rfl,SL.of_blkZ [] B8 de de,⟨by decide,by decide⟩,fun b hb=>by simp at hb;omega⟩
 have HM9:=lh (H.out.extW EX);have HB9:Hid (Blk v9 (gr+1+1+1+1+1+1+1+1+1) 58 (setsY gr)):=lh B9;have HB0:=lh B0;have HSL9:=lh HSL;clear B0 B1 B2 B3 B4 B5 B6 B7 B8 B9 E0 E1 E2 E3 E4 E5 E6 E7 E8 E9 S0 S1 S2 S3 S4 S5 S6 S7 S8 S9 HSL
 go_wp2_with (go_at_call 273;refine(ynext_any w0 v9 gm A c ls uses B L C 15 HM9.out hB om om).mono ?_;rintro e w10 ⟨x,rfl,hx0,hx1,M10,K10⟩;have hbk:=K10.blk HB9.out om;obtain⟨A5,c5,l5,e5,s5,o5,g5⟩:=HSL9.out (x / 2).toNat om;have cc:w10.cell? ⟨gr+1+1+1+1+1+1+1+1+1,(x / 2).toNat,none⟩=some (.slice A5 l5.length c5):=(hbk.cell _).trans e5;have b0:=K10.blk HB0.out om;obtain⟨f0,f1,f2,f3,f4,f5,f6,f7⟩:=nd_frz b0;have HB10:=lh b0;have z0:=b0.cell 0;have z1:=b0.cell 1;have z2:=b0.cell 2;have z3:=b0.cell 3;have z4:=b0.cell 4;have z5:=b0.cell 5;have z6:=b0.cell 6;have z7:=b0.cell 7;clear b0 hbk)
 have hb2:=setRe_blk HB10.out ⟨1,A5,c5,l5,none,0,[],0,0,0,0,false⟩;have hgw:w.heap.size<=gr:=om;have hk2:=setRe_kp (p:=(·=gm)) ((KpP.of_ext EX).trans K10) (g:=gr) (.inr hgw) ⟨1,A5,c5,l5,none,0,[],0,0,0,0,false⟩;have K11:=setRe_kp (p:=(·=gr)) (KpP.refl _ w10) (g:=gr) (.inl rfl) ⟨1,A5,c5,l5,none,0,[],0,0,0,0,false⟩;change bodyPost _ _ _ _ _ (setRe w10 gr ⟨1,A5,c5,l5,none,0,[],0,0,0,0,false⟩);generalize setRe w10 gr ⟨1,A5,c5,l5,none,0,[],0,0,0,0,false⟩=w11 at *;obtain⟨r0,r1,r2,r3,r4,r5,r6,r7⟩:=nd_cells hb2;simp only[List.length_nil] at r2;have M11:=M10.kpR K11 om (by have:=H.out.ext.size;omega);refine bodyPost_ret (v:=Nd.val ⟨1,A5,c5,l5,none,0,[],0,0,0,0,false⟩) (by simp[results,Tryz.results274,go_sem,r0,r1,r2,r3,r4,r5,r6,r7,Nd.val]) rfl ⟨_,rfl,⟨_,rfl,?_,⟨rfl,.inr (.inl ⟨rfl,o5.2,rfl,rfl,rfl,rfl,rfl⟩)⟩,rfl⟩,M11,hk2⟩;rw[hgr];refine .mk (d:=0) ⟨1,A5,c5,l5,none,0,[],0,0,0,0,false⟩ [] ⟨.inr (.inl rfl),by simp,by simp,by simp,by simp,by simp,by simp,by simp,by simp,o5.1⟩ ?_ si si (fun h=>by simp at h) rfl si (fun _ b hb=>by have:=g5 b hb;omega) si;exact(s5.kpZ K10 (fun _ b hb e=>by have:=g5 b hb;omega)).kpZ K11 (fun _ b hb e=>by have:=g5 b hb;omega)
def RetB (w:World)(e:Ending)(w':World):Prop:=∃b:Bool,e=.returned (.bool b)/\Ext w w'
theorem kid8 {bd:Nat}{S:Nat->Prop}{w:World}{d:Nat}{K:Option Addr}{ks:List Value}(hc:CellsAt w K (ks.flatMap cellsOf))(ht:∀u∈ks,TreeAt bd S w d u){i:Nat}(hi:i<ks.length) :
 ∃b o,K=some ⟨b,o,none⟩/\∃n:Nd,TreeAt bd S w d n.val/\w.cell? ⟨b,o+i*8,none⟩=some (.int .i64 n.op)/\w.cell? ⟨b,o+i*8+1,none⟩=some (.slice n.A n.l.length n.c)/\w.cell? ⟨b,o+i*8+2,none⟩=some (.slice n.K n.ks.length n.kc)/\
  w.cell? ⟨b,o+i*8+3,none⟩=some (.int .i64 n.mn)/\w.cell? ⟨b,o+i*8+4,none⟩=some (.int .i64 n.mx)/\w.cell? ⟨b,o+i*8+5,none⟩=some (.int .i64 n.md)/\w.cell? ⟨b,o+i*8+6,none⟩=some (.int .i64 n.n)/\w.cell? ⟨b,o+i*8+7,none⟩=some (.bool n.neg):=by
 obtain⟨b,o,hK,n,hn,hcl⟩:=kid_cells hc ht hi;exact⟨b,o,hK,n,hn▸ht _ (List.getElem_mem hi),hcl 0 om,hcl 1 om,hcl 2 om,hcl 3 om,hcl 4 om,hcl 5 om,hcl 6 om,hcl 7 om⟩
theorem kid8G {bd:Nat}{S:Nat->Prop}{w:World}{d:Nat}{K:Option Addr}{ks:List Value}{ts:List Tm}(hc:CellsAt w K (ks.flatMap cellsOf))(hl:ks.length=ts.length)(ht:∀i (hi:i<ks.length) (hj:i<ts.length),TreeG bd S w d ks[i] ts[i]){i:Nat}(hi:i<ks.length) :
 ∃b o,K=some ⟨b,o,none⟩/\∃n:Nd,TreeG bd S w d n.val (ts[i]'(hl▸hi))/\w.cell? ⟨b,o+i*8,none⟩=some (.int .i64 n.op)/\w.cell? ⟨b,o+i*8+1,none⟩=some (.slice n.A n.l.length n.c)/\w.cell? ⟨b,o+i*8+2,none⟩=some (.slice n.K n.ks.length n.kc)/\
  w.cell? ⟨b,o+i*8+3,none⟩=some (.int .i64 n.mn)/\w.cell? ⟨b,o+i*8+4,none⟩=some (.int .i64 n.mx)/\w.cell? ⟨b,o+i*8+5,none⟩=some (.int .i64 n.md)/\w.cell? ⟨b,o+i*8+6,none⟩=some (.int .i64 n.n)/\w.cell? ⟨b,o+i*8+7,none⟩=some (.bool n.neg):=by
 obtain⟨b,o,hK,n,hn,hcl⟩:=kid_cells hc (fun u hu=>by obtain⟨j,hj,rfl⟩:=List.getElem_of_mem hu;exact⟨_,ht j hj om⟩) hi;exact⟨b,o,hK,n,hn▸ht i hi _,hcl 0 om,hcl 1 om,hcl 2 om,hcl 3 om,hcl 4 om,hcl 5 om,hcl 6 om,hcl 7 om⟩
theorem nul_1 {T:Tm}(h:T.hd.op=1):nul T=false:=by rw[nul_eq];simp[nulF,h]
theorem nul_2 {T:Tm}(h:T.hd.op=2):nul T=(T.kids.map nul).all id:=by rw[nul_eq];simp[nulF,h]
theorem nul_3 {T:Tm}(h:T.hd.op=3):nul T=(T.kids.map nul).any id:=by rw[nul_eq];simp[nulF,h]
theorem nul_4 {T:Tm}(h:T.hd.op=4):nul T=(decide (T.hd.mn<=0) || (T.kids.map nul).headD false):=by rw[nul_eq];simp[nulF,h]
theorem nul_5 {T:Tm}(h:T.hd.op=5):nul T=(T.kids.map nul).headD false:=by rw[nul_eq];simp[nulF,h]
theorem nul_x {T:Tm}(h:T.hd.op=0\/T.hd.op=11):nul T=true:=by rw[nul_eq];rcases h with h|h<;>simp[nulF,h]
theorem head_nul {ts:List Tm}(h:0<ts.length):(ts.map nul).headD false=nul ts[0]:=by
 cases ts with
 | nil=>simp at h
 | cons a l=>rfl
theorem nul_2f {T:Tm}(h:T.hd.op=2){i:Nat}(hi:i<T.kids.length)(hf:nul T.kids[i]=false):nul T=false:=by
 rw[nul_2 h,List.all_map,List.all_eq_false];exact⟨_,List.getElem_mem hi,by simp[hf]⟩
theorem nul_2t {T:Tm}(h:T.hd.op=2)(ht:∀i (hi:i<T.kids.length),nul T.kids[i]=true):nul T=true:=by
 rw[nul_2 h,List.all_map,List.all_eq_true];intro x hx;obtain⟨i,hi,rfl⟩:=List.getElem_of_mem hx
 simpa using ht i hi
theorem nul_3t {T:Tm}(h:T.hd.op=3){i:Nat}(hi:i<T.kids.length)(hf:nul T.kids[i]=true):nul T=true:=by
 rw[nul_3 h,List.any_map,List.any_eq_true];exact⟨_,List.getElem_mem hi,by simp[hf]⟩
theorem nul_3f {T:Tm}(h:T.hd.op=3)(ht:∀i (hi:i<T.kids.length),nul T.kids[i]=false):nul T=false:=by
 rw[nul_3 h,List.any_map,List.any_eq_false];intro x hx;obtain⟨i,hi,rfl⟩:=List.getElem_of_mem hx
 simpa using ht i hi
theorem J4z1 {P:Prop} (h:P:=by
 go_roundw
 case rel=>exact⟨i+1,by go_num,om,lh (fun j hj h=>by
  by_cases hji:j<i
  ·exact HJ.out j hj hji
  ·obtain rfl:j=i:=om;exact HB3.out),x1.trans x3⟩
 case measure=>simp[intOf];omega):P:=h
theorem ynullable_G (bd:Nat)(S:Nat->Prop):∀(d:Nat) (w:World) (v:Value) (T:Tm),TreeG bd S w d v T->Calls Tryz.prog 153 #[v] w (RetV (.bool (nul T)) w):=by
 intro d;induction d with
 | zero=>intro w v T h;obtain⟨e,he⟩:=h.pos;omega
 | succ d ih=>
  intro w v T h;obtain⟨n,rfl,hok,hsl,hkl,hkc,hcl,hhd,htl,hks⟩:=h.node;obtain⟨op,A,c,l,K,kc,ks,mn,mx,md,nn,neg⟩:=n;have hop:=hok.op;simp only[Nd.hd] at hhd;have HHD:=lh hhd;have HTL:=lh htl;clear hhd htl
  simp only at hop hsl hkl hkc hcl hks
  unfold Nd.val
  simp only
  have HIH:=lh ih;have HOK:=lh hok;clear ih h hok;have B0:=Blk.new w 61 #[.int .i64 op,.slice A l.length c,.slice K ks.length kc,.int .i64 mn,.int .i64 mx,.int .i64 md,.int .i64 nn,.bool neg];have E0:=Ext.alloc w (.cells #[.int .i64 op,.slice A l.length c,.slice K ks.length kc,.int .i64 mn,.int .i64 mx,.int .i64 md,.int .i64 nn,.bool neg] 61);have HC:=lh (hcl.ext E0);have HK:=lh (fun i hi hj=>(hks i hi hj).ext E0);have HKL:ks.length<=kc/\kc<=9223372036854775807:=⟨hkl,by unfold maxLen at hkc;omega⟩;clear hcl hks hsl hkl hkc;go_enter Tryz.func153,Tryz.ntmps153
  go_upto_region 1 with fail
  obtain⟨gx,hgx⟩:∃gx,gx=w.heap.size:=⟨_,rfl⟩
  rw[<-hgx] at B0 ⊢;clear hgx;generalize w.alloc (.cells #[.int .i64 op,.slice A l.length c,.slice K ks.length kc,.int .i64 mn,.int .i64 mx,.int .i64 md,.int .i64 nn,.bool neg] 61)=wa at *;have z0:wa.cell? ⟨gx,0,none⟩=some (.int .i64 op):=B0.cell 0;have z2:wa.cell? ⟨gx,2,none⟩=some (.slice K ks.length kc):=B0.cell 2;have z3:wa.cell? ⟨gx,3,none⟩=some (.int .i64 mn):=B0.cell 3;by_cases h1:op=1
  ·subst h1
   go_wp2_with fail
   go_ret
   exact⟨by rw[nul_1 (by rw[HHD.out])];rfl,E0⟩
  ·by_cases h2:op=2
   ·subst h2
    go_upto_region 6 with fail
    go_loopw [3] (fun v wr=>∃i:Nat,v=.int .i64 i/\i<=ks.length/\Hid (∀j (hj:j<T.kids.length),j<i->nul T.kids[j]=true)/\Ext wa wr) (fun v _=>ks.length-(intOf v).toNat)
    case atStart=>exact⟨0,rfl,om,lh (fun j _ h=>om),Ext.rfl' _⟩
    case round=>
     obtain⟨i,rfl,hi,HJ,x1⟩:=hrel;have z2r:=x1.cell z2;by_cases hlt:i<ks.length
     ·have hiI:(i:Int)<ks.length:=om;obtain⟨b,o,hK,n,ht,k0,k1,k2,k3,k4,k5,k6,k7⟩:=kid8G (HC.out.ext x1) HTL.out (fun i hi hj=>(HK.out i hi hj).ext x1) hlt;have hK':=hK;subst hK';have HT:=lh ht;clear ht
      go_wp2_with (go_at_call 153;refine(HIH.out wr _ _ HT.out).mono ?_;rintro e w3 ⟨rfl,x3⟩;obtain⟨b3,hb3⟩:∃b,b=nul (T.kids[i]'(HTL.out▸hlt)):=⟨_,rfl⟩;rw[<-hb3];have HB3:=lh hb3.symm;clear hb3;cases b3)
      ·go_ret
       exact⟨by rw[nul_2f (by rw[HHD.out]) _ HB3.out];rfl,E0.trans (x1.trans x3)⟩
      ·exact J4z1
     ·have hiI:¬(i:Int)<ks.length:=om
      go_wp2_with fail
      go_ret
      exact⟨by rw[nul_2t (by rw[HHD.out]) (fun j hj=>HJ.out j hj (by have:=HTL.out;omega))];rfl,E0.trans x1⟩
   ·by_cases h3:op=3
    ·subst h3
     go_upto_region 14 with fail
     go_loopw [4] (fun v wr=>∃i:Nat,v=.int .i64 i/\i<=ks.length/\Hid (∀j (hj:j<T.kids.length),j<i->nul T.kids[j]=false)/\Ext wa wr) (fun v _=>ks.length-(intOf v).toNat)
     case atStart=>exact⟨0,rfl,om,lh (fun j _ h=>om),Ext.rfl' _⟩
     case round=>
      obtain⟨i,rfl,hi,HJ,x1⟩:=hrel;have z2r:=x1.cell z2;by_cases hlt:i<ks.length
      ·have hiI:(i:Int)<ks.length:=om;obtain⟨b,o,hK,n,ht,k0,k1,k2,k3,k4,k5,k6,k7⟩:=kid8G (HC.out.ext x1) HTL.out (fun i hi hj=>(HK.out i hi hj).ext x1) hlt;have hK':=hK;subst hK';have HT:=lh ht;clear ht
       go_wp2_with (go_at_call 153;refine(HIH.out wr _ _ HT.out).mono ?_;rintro e w3 ⟨rfl,x3⟩;obtain⟨b3,hb3⟩:∃b,b=nul (T.kids[i]'(HTL.out▸hlt)):=⟨_,rfl⟩;rw[<-hb3];have HB3:=lh hb3.symm;clear hb3;cases b3)
       ·exact J4z1
       ·go_ret
        exact⟨by rw[nul_3t (by rw[HHD.out]) _ HB3.out];rfl,E0.trans (x1.trans x3)⟩
      ·have hiI:¬(i:Int)<ks.length:=om
       go_wp2_with fail
       go_ret
       exact⟨by rw[nul_3f (by rw[HHD.out]) (fun j hj=>HJ.out j hj (by have:=HTL.out;omega))];rfl,E0.trans x1⟩
    ·by_cases h45:op=4\/op=5
     ·have hk1:=HOK.out.one h45
      simp only at hk1
      have hk0:0<ks.length:=om;have hkI:(0:Int)<ks.length:=om;have HN0:Hid ((T.kids.map nul).headD false=nul (T.kids[0]'(HTL.out▸hk0))):=lh (head_nul _);obtain⟨b,o,hK,n,ht,k0,k1,k2,k3,k4,k5,k6,k7⟩:=kid8G HC.out HTL.out HK.out hk0;have hK':=hK;subst hK';simp only[Nat.zero_mul,Nat.add_zero] at k0 k1 k2 k3 k4 k5 k6 k7;have HT:=lh ht;have HCALL:=fun(w':World) (x:Ext wa w')=>lh (HIH.out w' _ _ (HT.out.ext x));clear ht;rcases h45 with h4|h5
      ·subst h4;by_cases hm:mn<=0
       ·have hm2:decide (mn<=0)=true:=by simp[hm]
        go_wp2_with fail
        go_ret
        exact⟨by rw[nul_4 (T:=T) (by rw[HHD.out]),HHD.out];simp[hm],E0⟩
       ·have hm2:decide (mn<=0)=false:=by simp[hm]
        go_wp2_with (go_at_call 153;refine(HCALL _ (by first|exact Ext.rfl' _|exact Ext.drewN _ _)).out.mono ?_;rintro e w3 ⟨rfl,x3⟩)
        go_ret
        exact⟨by rw[nul_4 (T:=T) (by rw[HHD.out]),HN0.out,HHD.out];simp[hm];intro h;omega,E0.trans x3⟩
      ·subst h5
       go_wp2_with (go_at_call 153;refine(HCALL _ (by first|exact Ext.rfl' _|exact Ext.drewN _ _)).out.mono ?_;rintro e w3 ⟨rfl,x3⟩)
       go_ret
       exact⟨by rw[nul_5 (T:=T) (by rw[HHD.out]),HN0.out];rfl,E0.trans x3⟩
     ·have h06:op=0\/op=11:=om;rcases h06 with rfl|rfl
      ·go_wp2_with fail
       go_ret
       exact⟨by rw[nul_x (T:=T) (by rw[HHD.out];simp)];rfl,E0⟩
      ·go_wp2_with fail
       go_ret
       exact⟨by rw[nul_x (T:=T) (by rw[HHD.out];simp)];rfl,E0⟩
end
section
open Go.RowKit
attribute [local go_sem ↓] Go.wp_at_zero Go.wp_at_succ
def numT:Nat->Int
 | 0=>5
 | d+1=>3*numT d+10
theorem numT_pos:∀d,5<=numT d
 | 0=>by simp[numT]
 | d+1=>by have:=numT_pos d;simp only[numT];omega
def reZ:Value:=.agg #[.int .i64 0,.slice none 0 0,.slice none 0 0,.int .i64 0,.int .i64 0,.int .i64 0,.int .i64 0,.bool false]
def UsesOk (uses:Int):Prop:=Go.bits BinOp.and IntKind.i64 uses 1=0/\Go.bits BinOp.and IntKind.i64 uses 2=0/\Go.bits BinOp.and IntKind.i64 uses 4=0/\Go.bits BinOp.and IntKind.i64 uses 8=0/\Go.bits BinOp.and IntKind.i64 uses 32=0
theorem infoRe:(Tryz.prog.info? 61).map (fun i=>(i.zero,i.size,i.bytes))=some (some reZ,8,96):=by kernel_rfl
theorem Nd.one (n:Nd):∀u∈n.cs,u.oneCell'=true:=by
 intro u hu;simp only[Nd.cs,List.mem_cons,List.not_mem_nil,or_false] at hu;rcases hu with rfl|rfl|rfl|rfl|rfl|rfl|rfl|rfl<;>rfl
def RetKids (d:Nat)(w0:World)(gm:Nat)(A:Option Addr)(c:Nat)(ls:List Int)(uses B L C:Int)(w:World)(e:Ending)(w':World):Prop:=
 ∃(K:Option Addr) (kc:Nat) (ks:List Value) (L' C':Int),e=.returned (.slice K ks.length kc)/\2<=ks.length/\ks.length<=3/\ks.length<=kc/\kc<=maxLen/\CellsAt w' K (ks.flatMap cellsOf)/\KdT uses (fun k=>w.heap.size<=k) w' d ks C' (L-L')/\
  (∀k,K.map (·.block)=some k->w.heap.size<=k)/\MkM w' w0 gm A c ls uses B L' C'/\0<=L'+2*((d:Int)-1)/\L'<=L/\C<=C'/\KpP (·=gm) w w'
structure KdI (uses C k:Int)(wr w:World)(d gm:Nat)(K:Option Addr)(kc:Nat)(ks:List Value):Prop where
 own:OwnS wr w.heap.size 61 8 K ks.length kc (ks.flatMap cellsOf)
 tr:KdT uses (fun k=>w.heap.size<=k/\K.map (·.block)≠some k) wr d ks C k
 kp:KpP (·=gm) w wr
 gm:gm<w.heap.size
theorem MkM.kpq {w w' w0:World}{gm:Nat}{A:Option Addr}{c:Nat}{ls:List Int}{uses B L C:Int}{q:Nat->Prop}(h:MkM w w0 gm A c ls uses B L C)(k:KpP q w w')(hq:∀i,q i->i≠gm/\w0.heap.size<=i):MkM w' w0 gm A c ls uses B L C:=by
 obtain⟨h1,h2,h3,at_,h4,h5⟩:=h;exact⟨h1.kp k (fun i hi=>(hq i hi).2),h2,h3,at_,k.blk h4 (fun hi=>(hq gm hi).1 rfl),h5⟩
theorem KdI.start (uses C:Int)(w:World)(d gm:Nat)(h:gm<w.heap.size):KdI uses C 0 w w d gm none 0 []:=⟨OwnS.nil _ _ _ _,KdT.nil (Int.le_refl _),KpP.refl _ _,h⟩
theorem KdI.gmk {uses C k0:Int}{wr wr' w:World}{d gm:Nat}{K:Option Addr}{kc:Nat}{ks:List Value}(h:KdI uses C k0 wr w d gm K kc ks)(k:KpP (·=gm) wr wr'):KdI uses C k0 wr' w d gm K kc ks:=by
 have hg:=h.gm;refine⟨OwnS.kp h.own k (fun b hb e=>?_),h.tr.kp k (fun i hi hs=>?_),h.kp.trans k,h.gm⟩
 ·have:=OwnS.row h.own b hb;have e':b=gm:=e;omega
 ·have e':i=gm:=hi;omega
theorem KdI.up {uses C C' k k':Int}{wr w:World}{d gm:Nat}{K:Option Addr}{kc:Nat}{ks:List Value}(h:KdI uses C k wr w d gm K kc ks)(hc:C<=C')(hk:k<=k'):KdI uses C' k' wr w d gm K kc ks:=⟨h.own,h.tr.up hc hk,h.kp,h.gm⟩
theorem KdI.push {uses C k j:Int}{w4 w8 w:World}{d gm:Nat}{K A8:Option Addr}{kc c8:Nat}{ks:List Value}{v:Value}(h:KdI uses C k w4 w d gm K kc ks)(hv:TrN uses (fun k=>w.heap.size<=k/\K.map (·.block)≠some k) w4 d v C j){o:Obj}
 (hg:(w4.alloc o).grownBy w8 (K.map (·.block))) (ho:OwnS w8 w.heap.size 61 8 A8 (ks.length+1) c8 (ks.flatMap cellsOf++cellsOf v)) (hat:A8.map (·.block)=K.map (·.block)\/A8.map (·.block)=some (w4.alloc o).heap.size):KdI uses C (k+j) w8 w d gm A8 c8 (ks++[v]):=by
 have X:=Ext.alloc w4 o;have kk:=KpP.of_grown hg;have hS:∀i,(w.heap.size<=i/\K.map (·.block)≠some i)->i<w4.heap.size->((w.heap.size<=i/\A8.map (·.block)≠some i)/\K.map (·.block)≠some i):=fun i hk hlt=>⟨⟨hk.1,fun e=>by
  rcases hat with e2|e2
  ·rw[e2] at e;exact hk.2 e
  ·rw[e2] at e;injection e with e;have:=World.size_alloc w4 o;omega⟩,hk.2⟩
 refine⟨?_,(((h.tr.push hv).imp hS).ext X |>.kp kk (fun i hi hs=>hs.2 hi)).imp (fun i hi _=>hi.1),(h.kp.trans (KpP.of_ext X)).chain kk (fun i hi=>.inr (OwnS.row h.own i hi)),h.gm⟩;rw[List.length_append,List.flatMap_append]
 simpa using ho
theorem ykids_any (d:Nat)(w0:World)(gm:Nat)(A:Option Addr)(c:Nat)(ls:List Int)(uses:Int)(hd:d<=100)
 (IH:∀(w:World) (B L C:Int),MkM w w0 gm A c ls uses B L C->B+numT d<=100000000->Calls Tryz.prog 214 #[.pointer (some ⟨gm,0,none⟩),.int .i64 d] w (RetNd (d+1) w0 gm A c ls uses (B+numT d) L C w))
 (w:World) (B L C:Int) (h:MkM w w0 gm A c ls uses B L C) (h3:3<=L) (hB:B+3*numT d+4<=100000000) :
 Calls Tryz.prog 275 #[.pointer (some ⟨gm,0,none⟩),.int .i64 ((d:Int)+1)] w (RetKids (d+1) w0 gm A c ls uses (B+3*numT d+4) L C w):=by
 have hgm:gm<w.heap.size:=by
  obtain⟨_,_,_,_,hb,_⟩:=h;exact hb.lt
 have hT:=numT_pos d;have HSW:=lh h.ext.size;generalize numT d=T at *;have H0:=lh h;have HI0:=lh (KdI.start uses C w (d+1) gm hgm);have HIH:=lh IH;clear IH h;obtain⟨iR,jR0,jR1,jR2,jR3⟩:=info_parts infoRe;have ewd:IntKind.i64.wrap ((d:Int)+1-1)=(d:Int):=wj;go_enter Tryz.func275,Tryz.ntmps275
 go_upto_region 3 with fail
 go_loopw [5,6] (fun v5 v6 wr=>∃(K:Option Addr) (kc:Nat) (ks:List Value),v6=.int .i64 ks.length/\v5=.slice K ks.length kc/\ks.length<=3/\Hid (∃L1 C1:Int,KdI uses C1 (L-L1) wr w (d+1) gm K kc ks/\MkM wr w0 gm A c ls uses (B+(T+1)*ks.length) L1 C1/\3<=L1+2*(d:Int)+ks.length/\L1<=L/\C<=C1)) (fun _ v _=>3-(intOf v).toNat)
 case atStart=>exact⟨none,0,[],rfl,rfl,by simp,lh ⟨L,C,by simpa using HI0.out,by have h:=H0.out;simpa using h,by simp;omega,Int.le_refl _,Int.le_refl _⟩⟩
 case round=>
  obtain⟨K,kc,ks,rfl,rfl,hk3,HL⟩:=hrel;obtain⟨L1,C1,hI,hM,hl1,hl2,hc1⟩:=HL.out;have HI:=lh hI;have HM:=lh hM;have HLC:=lh (And.intro hl1 (And.intro hl2 hc1));clear HL hI hM hl1 hl2 hc1;clear H0 HI0;have hTm:(T+1)*(ks.length:Int)<=(T+1)*3:=Int.mul_le_mul_of_nonneg_left om om
  go_upto_region 5 with(go_at_call 273;refine(ynext_any w0 wr gm A c ls uses _ _ _ 2 HM.out om om om).mono ?_;rintro e w3 ⟨x,rfl,hx0,hx1,M3,K3⟩)
  ·have hlt':(ks.length:Int)<2+x:=by first|assumption|simpa using ‹decide _=true›
   have hk2:ks.length<=2:=om;have HI3:=lh (HI.out.gmk K3);have HM3:=lh M3;have hTm2:(T+1)*(ks.length:Int)<=(T+1)*2:=Int.mul_le_mul_of_nonneg_left om om;clear HI HM M3 K3
   go_wp2_with (first|(go_at_call 214;refine(HIH.out w3 _ _ _ HM3.out om).mono ?_;rintro e w4 ⟨v,L2,C2,rfl,hv,M4,hb4,hd4,hc4,K4⟩;have HB4:=lh (And.intro hb4 (And.intro hd4 hc4));clear hb4 hd4 hc4;obtain⟨nd,hnd,_⟩:=hv.at_.node;subst hnd;have HV:=lh hv;have HM4:=lh M4;have HI4:=lh (HI3.out.gmk K4);have HS4:w.heap.size<=w4.heap.size:=HI4.out.kp.size;clear hv M4;unfold Nd.val)|(at_builtin;refine wpList_app _ rfl _ _ _ rfl w.heap.size 61 iR reZ 8 96 Tryz.underlying59 jR0 jR1 jR2 jR3 rfl om K ks.length kc (ks.flatMap cellsOf) rfl (OwnS.ext HI4.out.own (Ext.alloc _ _)) _ 1 1 nd.cs rfl rfl (blk_cells (Blk.new _ _ _)) nd.one um om (Nat.le_trans HS4 (Ext.alloc _ _).size) ?_;intro A8 c8 w8 ho8 hg8 hat8))
   have HI8:=lh ((HI4.out.up HB4.out.2.2 (Int.le_refl _)).push (HV.out.imp (fun k hk _=>⟨by have:=HI3.out.kp.size;omega,fun e=>by have:=(OwnS.blt HI3.out.own e).1;omega⟩)) hg8 ho8 hat8);have HM8:=lh ((HM4.out.extW (Ext.alloc w4 _)).kpq (KpP.of_grown hg8) (fun i hi=>by have:=OwnS.row HI4.out.own i hi;have:=HI4.out.gm;have:=HSW.out;omega));have e1:(ks++[nd.val]).length=ks.length+1:=by simp
   have hmul:(T+1)*((ks.length+1:Nat):Int)=(T+1)*(ks.length:Int)+(T+1):=by rw[Int.natCast_succ,Int.mul_add];omega
   go_roundw
   case rel=>exact⟨A8,c8,ks++[nd.val],by rw[e1];go_num,by rw[e1],om,lh ⟨L2,C2,HI8.out.up (Int.le_refl _) om,by rw[e1,hmul];exact HM8.out.mono om,by rw[e1];have:=HB4.out;have:=HLC.out;push_cast;omega,by have:=HB4.out;have:=HLC.out;omega,by have:=HB4.out;have:=HLC.out;omega⟩⟩
   case measure=>simp[intOf];omega
  ·have hlt':¬(ks.length:Int)<2+x:=by first|assumption|omega|simpa using ‹¬decide _=true›
   go_ret
   refine⟨K,kc,ks,L1,C1,rfl,om,hk3,(OwnS.caps HI.out.own).1,by have:=(OwnS.caps HI.out.own).2;unfold maxLen;omega,?_,?_,?_,M3.mono om,by have:=HLC.out;push_cast;omega,HLC.out.2.1,HLC.out.2.2,HI.out.kp.trans K3⟩
   ·exact OwnS.cells (HI.out.gmk K3).own
   ·exact(HI.out.gmk K3).tr.imp (fun k hk _=>hk.1)
   ·exact OwnS.row HI.out.own
theorem MkM.put4 {w w0:World}{gm:Nat}{A:Option Addr}{c:Nat}{ls:List Int}{uses B left caps:Int}(x:Ext w0 w)(il:IL w0 A c ls)(lo:w0.heap.size<=gm)(at_:Nat)(hb:Blk w gm 336 (mkC A ls.length c (at_:Int) uses left caps))(h5:(at_:Int)<=B)(h6 : -B<=left)(h7:left<=1000)(v:Int)(h0:0<=v)(h1:v<=4) :
 MkM (w.setCell ⟨gm,4,none⟩ (.int .i64 v)) w0 gm A c ls uses B left v:=by
 refine⟨x.setNew (p:=⟨gm,4,none⟩) lo _,il,lo,at_,?_,h5,h6,h7,h0,h1⟩;have b:=hb.set 4 (.int .i64 v)
 simpa[mkC] using b
def RetSub (d:Nat)(w0:World)(gm:Nat)(A:Option Addr)(c:Nat)(ls:List Int)(uses B L C:Int)(w:World)(e:Ending)(w':World):Prop:=
 ∃(v:Value) (L' C':Int),e=.returned v/\TrN uses (fun k=>w.heap.size<=k) w' d v C' (L-L'+1)/\MkM w' w0 gm A c ls uses B L' C'/\2<=L'+2*((d:Int)-1)/\L'<=L/\C<=C'/\KpP (·=gm) w w'
theorem fin_node {uses C k:Int}{d:Nat}{w w5:World}{gr:Nat}(n:Nd)(ts:List Tm)(hok:NdOk 3 n)(hh:HdOk uses C n.hd ts)(hsl:SL w5 n.A n.c n.l)(hle:n.ks.length<=n.kc)(hcap:n.kc<=maxLen)(hc:CellsAt w5 n.K (n.ks.flatMap cellsOf))
 (hl:n.ks.length=ts.length) (ht:∀i (hi:i<n.ks.length) (hj:i<ts.length),TreeG 3 (fun k=>w.heap.size<=k/\k≠gr) w5 d n.ks[i] ts[i]) (hg:∀t∈ts,GdT uses C t) (hk:(((ts.map cnt).sum:Nat):Int)<=k)
 (hA:n.l≠[]->∀k,n.A.map (·.block)=some k->w.heap.size<=k/\k≠gr) (hK:n.ks≠[]->∀k,n.K.map (·.block)=some k->w.heap.size<=k/\k≠gr):TrN uses (fun k=>w.heap.size<=k) (setRe w5 gr n) (d+1) n.val C (k+1):=by
 have kk:=setRe_kp (p:=(·=gr)) (KpP.refl _ w5) (g:=gr) (.inl rfl) n;have e:=Tm.kids_of n.hd (ts:=ts) (by rw[<-hl];exact hok.few);refine⟨_,.mk n ts hok (hsl.kpZ kk (fun hn b hb e=>(hA hn b hb).2 e)) hle hcap ?_ hl (fun i hi hj=>((ht i hi hj).kp kk (fun i hi hs=>hs.2 hi)).imp (fun k hk _=>hk.1)) (fun hn b hb=>(hA hn b hb).1) (fun hn b hb=>(hK hn b hb).1),.mk _ ?_ ?_,?_⟩
 ·intro hx;have hn:n.ks≠[]:=by intro e;rw[e] at hx;exact hx rfl
  exact(hc.kpZ kk (fun b hb e=>(hK hn b hb).2 e)) hx
 ·rw[Tm.hd_of,e];exact hh
 ·rw[e];exact hg
 ·rw[cnt_eq,e];push_cast;omega
theorem fin_one {uses C k:Int}{d:Nat}{w w5:World}{gr:Nat}(n:Nd)(v:Value)(hks:n.ks=[v])(hok:NdOk 3 n)(hh:∀t,HdOk uses C n.hd [t])(hsl:SL w5 n.A n.c n.l)(hle:n.ks.length<=n.kc)(hcap:n.kc<=maxLen)(hc:CellsAt w5 n.K (n.ks.flatMap cellsOf))
 (ht:TrN uses (fun k=>w.heap.size<=k/\k≠gr) w5 d v C k)
 (hA:n.l≠[]->∀k,n.A.map (·.block)=some k->w.heap.size<=k/\k≠gr) (hK:n.ks≠[]->∀k,n.K.map (·.block)=some k->w.heap.size<=k/\k≠gr):TrN uses (fun k=>w.heap.size<=k) (setRe w5 gr n) (d+1) n.val C (k+1):=by
 obtain⟨T,h1,h2,h3⟩:=ht;obtain⟨op,A,c,l,K,kc,ks,mn,mx,md,nn,neg⟩:=n
 simp only at hks
 subst hks;refine fin_node _ [T] hok (hh T) hsl hle hcap hc rfl (fun i hi hj=>?_) (fun t ht=>by rw[List.mem_singleton.1 ht];exact h2) (by simpa using h3) hA hK;obtain rfl:i=0:=by simp at hi;omega
 exact h1
theorem J6z1 {P:Prop} (h:P:=by
 clear cb4 fb4
 go_wp2_with (go_at_call 214;refine(HIH.out wc _ _ _ HM5.out om).mono ?_;rintro e w4 ⟨v,L2,C2,rfl,hv,M4,hb4,hd4,hc4,K4⟩;have HB4:=lh (And.intro hb4 (And.intro hd4 hc4));clear hb4 hd4 hc4;obtain⟨nd,hnd,_⟩:=hv.at_.node;subst hnd;have HV:=lh hv;have HM4:=lh M4;have HK4:=lh (HK5.out.trans K4);have hr4:=K4.blk HR5.out hgne.symm;obtain⟨f0,f1,f2,f3,f4,f5,f6,f7⟩:=nd_frz (hr4.ext (Ext.alloc w4 (.cells #[.int .i64 nd.op,.slice nd.A nd.l.length nd.c,.slice nd.K nd.ks.length nd.kc,.int .i64 nd.mn,.int .i64 nd.mx,.int .i64 nd.md,.int .i64 nd.n,.bool nd.neg] 61)));have HR4:=lh hr4;have z0:=(hr4.ext (Ext.alloc w4 (.cells #[.int .i64 nd.op,.slice nd.A nd.l.length nd.c,.slice nd.K nd.ks.length nd.kc,.int .i64 nd.mn,.int .i64 nd.mx,.int .i64 nd.md,.int .i64 nd.n,.bool nd.neg] 61))).cell 0;have z1:=(hr4.ext (Ext.alloc w4 (.cells #[.int .i64 nd.op,.slice nd.A nd.l.length nd.c,.slice nd.K nd.ks.length nd.kc,.int .i64 nd.mn,.int .i64 nd.mx,.int .i64 nd.md,.int .i64 nd.n,.bool nd.neg] 61))).cell 1;have z2:=(hr4.ext (Ext.alloc w4 (.cells #[.int .i64 nd.op,.slice nd.A nd.l.length nd.c,.slice nd.K nd.ks.length nd.kc,.int .i64 nd.mn,.int .i64 nd.mx,.int .i64 nd.md,.int .i64 nd.n,.bool nd.neg] 61))).cell 2;have z3:=(hr4.ext (Ext.alloc w4 (.cells #[.int .i64 nd.op,.slice nd.A nd.l.length nd.c,.slice nd.K nd.ks.length nd.kc,.int .i64 nd.mn,.int .i64 nd.mx,.int .i64 nd.md,.int .i64 nd.n,.bool nd.neg] 61))).cell 3;have z4:=(hr4.ext (Ext.alloc w4 (.cells #[.int .i64 nd.op,.slice nd.A nd.l.length nd.c,.slice nd.K nd.ks.length nd.kc,.int .i64 nd.mn,.int .i64 nd.mx,.int .i64 nd.md,.int .i64 nd.n,.bool nd.neg] 61))).cell 4;have z5:=(hr4.ext (Ext.alloc w4 (.cells #[.int .i64 nd.op,.slice nd.A nd.l.length nd.c,.slice nd.K nd.ks.length nd.kc,.int .i64 nd.mn,.int .i64 nd.mx,.int .i64 nd.md,.int .i64 nd.n,.bool nd.neg] 61))).cell 5;have z6:=(hr4.ext (Ext.alloc w4 (.cells #[.int .i64 nd.op,.slice nd.A nd.l.length nd.c,.slice nd.K nd.ks.length nd.kc,.int .i64 nd.mn,.int .i64 nd.mx,.int .i64 nd.md,.int .i64 nd.n,.bool nd.neg] 61))).cell 6;have z7:=(hr4.ext (Ext.alloc w4 (.cells #[.int .i64 nd.op,.slice nd.A nd.l.length nd.c,.slice nd.K nd.ks.length nd.kc,.int .i64 nd.mn,.int .i64 nd.mx,.int .i64 nd.md,.int .i64 nd.n,.bool nd.neg] 61))).cell 7;clear hv M4 hr4;unfold Nd.val)
 have HB5:Hid (Blk (w4.alloc (.cells #[.int .i64 nd.op,.slice nd.A nd.l.length nd.c,.slice nd.K nd.ks.length nd.kc,.int .i64 nd.mn,.int .i64 nd.mx,.int .i64 nd.md,.int .i64 nd.n,.bool nd.neg] 61)) w4.heap.size 61 nd.cs.toArray):=lh (Blk.new w4 61 #[.int .i64 nd.op,.slice nd.A nd.l.length nd.c,.slice nd.K nd.ks.length nd.kc,.int .i64 nd.mn,.int .i64 nd.mx,.int .i64 nd.md,.int .i64 nd.n,.bool nd.neg]);have E5:=Ext.alloc w4 (.cells #[.int .i64 nd.op,.slice nd.A nd.l.length nd.c,.slice nd.K nd.ks.length nd.kc,.int .i64 nd.mn,.int .i64 nd.mx,.int .i64 nd.md,.int .i64 nd.n,.bool nd.neg] 61);have hgr4:gr<w4.heap.size:=HR4.out.lt;have hgc4:gr<wc.heap.size:=HR5.out.lt;have hsw4:=HK4.out.size;generalize w4.alloc (.cells #[.int .i64 nd.op,.slice nd.A nd.l.length nd.c,.slice nd.K nd.ks.length nd.kc,.int .i64 nd.mn,.int .i64 nd.mx,.int .i64 nd.md,.int .i64 nd.n,.bool nd.neg] 61)=w5 at *;have HT9:Hid (TrN uses (fun k=>w.heap.size<=k) (setRe w5 gr ⟨5,none,0,[],some ⟨w4.heap.size,0,none⟩,1,[nd.val],0,0,0,nv,false⟩) (d+2) (Nd.val ⟨5,none,0,[],some ⟨w4.heap.size,0,none⟩,1,[nd.val],0,0,0,nv,false⟩) C2 (left-L2+1)):=lh (by
  refine fin_one _ nd.val rfl ⟨by simp,by simp,by simp,by simp,by simp,by simp,by simp,by simp,⟨by simp only;omega,by simp only;omega⟩,by simp[SetOk]⟩ (fun t=>⟨rfl,.inr (.inr (.inr (.inr (.inl ⟨rfl,HCP.out,rfl,rfl,rfl,rfl,(show 1<=nv by omega),(show nv<=C2 by have:=HB4.out;omega),rfl⟩))))⟩) (SL.nil _) si (by show 1<=maxLen;unfold maxLen;omega) ?_ ?_ si (fun _ k hk=>?_)
  ·simp only[List.flatMap_cons,List.flatMap_nil,List.append_nil];exact blk_cells HB5.out
  ·exact(HV.out.ext E5).imp (fun k hk _=>by have:=HK5.out.size;omega)
  ·have:w4.heap.size=k:=by simpa using hk
   omega)
 have hb9:=setRe_blk (HR4.out.ext E5) ⟨5,none,0,[],some ⟨w4.heap.size,0,none⟩,1,[nd.val],0,0,0,nv,false⟩;have hk9:=setRe_kp (p:=(·=gm)) (HK4.out.trans (KpP.of_ext E5)) (g:=gr) (.inr hgw) ⟨5,none,0,[],some ⟨w4.heap.size,0,none⟩,1,[nd.val],0,0,0,nv,false⟩;have M9:=(HM4.out.extW E5).kpR (setRe_kp (p:=(·=gr)) (KpP.refl _ w5) (g:=gr) (.inl rfl) ⟨5,none,0,[],some ⟨w4.heap.size,0,none⟩,1,[nd.val],0,0,0,nv,false⟩) hgne (by have:=HSW.out;omega);change bodyPost _ _ _ _ _ (setRe w5 gr ⟨5,none,0,[],some ⟨w4.heap.size,0,none⟩,1,[nd.val],0,0,0,nv,false⟩);generalize setRe w5 gr ⟨5,none,0,[],some ⟨w4.heap.size,0,none⟩,1,[nd.val],0,0,0,nv,false⟩=w9 at *;obtain⟨r0,r1,r2,r3,r4,r5,r6,r7⟩:=nd_cells hb9;simp only[List.length_nil,List.length_cons,Nat.zero_add] at r1 r2;clear f0 f1 f2 f3 f4 f5 f6 f7 z0 z1 z2 z3 z4 z5 z6 z7;refine bodyPost_ret (v:=Nd.val ⟨5,none,0,[],some ⟨w4.heap.size,0,none⟩,1,[nd.val],0,0,0,nv,false⟩) (by simp[results,Tryz.results277,go_sem,r0,r1,r2,r3,r4,r5,r6,r7,Nd.val]) rfl ⟨_,L2,C2,rfl,HT9.out,M9.mono om,by have:=HB4.out;push_cast;omega,by have:=HB4.out;omega,by have:=HB4.out;omega,hk9⟩):P:=h
theorem J6z2 {P:Prop} (h:P:=by
 have HK5:Hid (KpP (·=gm) w (wb.setCell ⟨gm,4,none⟩ (.int .i64 caps))):=lh (KpP.set (p:=(·=gm)) (x:=⟨gm,4,none⟩) HKb.out (.inl rfl) _);have HR5:=lh (HRb.out.far (p:=⟨gm,4,none⟩) hgne.symm (.int .i64 caps));generalize wb.setCell ⟨gm,4,none⟩ (.int .i64 caps)=wc at *;exact J6z1):P:=h
theorem ycap_any (d:Nat)(w0:World)(gm:Nat)(A:Option Addr)(c:Nat)(ls:List Int)(uses:Int)(hd:d<=100)
 (hcp:Go.bits BinOp.and IntKind.i64 uses 64≠0)
 (IH:∀(w:World) (B L C:Int),MkM w w0 gm A c ls uses B L C->B+numT d<=100000000->Calls Tryz.prog 214 #[.pointer (some ⟨gm,0,none⟩),.int .i64 d] w (RetNd (d+1) w0 gm A c ls uses (B+numT d) L C w))
 (w:World) (B left caps:Int) (h:MkM w w0 gm A c ls uses B left caps) (h3:3<=left) (hB:B+numT d+2<=100000000) :
 Calls Tryz.prog 277 #[.pointer (some ⟨gm,0,none⟩),.int .i64 ((d:Int)+1)] w (RetSub (d+2) w0 gm A c ls uses (B+numT d+2) left caps w):=by
 have HCP:=lh hcp;clear hcp;obtain⟨x0,il,lo,at_,hb,hat,hl1,hl2,hc1,hc2⟩:=h;have hgm:=hb.lt;have HSW:=lh x0.size;have hT:=numT_pos d;generalize numT d=T at *;have HIH:=lh IH;have ewd:IntKind.i64.wrap ((d:Int)+1-1)=(d:Int):=wj;have EX:=Ext.alloc w (.cells #[.int .i64 0,.slice none 0 0,.slice none 0 0,.int .i64 0,.int .i64 0,.int .i64 0,.int .i64 0,.bool false] 61);have HR:=lh (Blk.new w 61 #[.int .i64 0,.slice none 0 0,.slice none 0 0,.int .i64 0,.int .i64 0,.int .i64 0,.int .i64 0,.bool false]);have hba:=hb.ext EX;have xa:=x0.trans EX;clear IH hb;go_enter Tryz.func277,Tryz.ntmps277
 go_upto_region 1 with fail
 obtain⟨gr,hgr⟩:∃gr,gr=w.heap.size:=⟨_,rfl⟩
 rw[<-hgr] at HR ⊢;have hgw:w.heap.size<=gr:=om;have hgne:gm≠gr:=om;clear hgr;generalize w.alloc (.cells #[.int .i64 0,.slice none 0 0,.slice none 0 0,.int .i64 0,.int .i64 0,.int .i64 0,.int .i64 0,.bool false] 61)=wa at *;have HKa:Hid (KpP (·=gm) w wa):=lh (KpP.of_ext EX);have ca4:wa.cell? ⟨gm,4,none⟩=some (.int .i64 caps):=hba.cell 4;clear EX
 go_upto_region 2 with fail
 have hcw:IntKind.i64.wrap (caps+1)=caps+1:=wj;by_cases h4:4<caps+1
 ·have h4t:decide (4<caps+1)=true:=by simp[h4]
  go_upto_region 3 with fail
  go_upto_region 4 with(go_at_call 273;refine(ynext_at w0 _ gm A c ls uses caps xa il lo at_ left caps (by simpa using hba) om om om).mono ?_;rintro e wb ⟨rfl,Hbb,Xb,Kb⟩;have hy:=pick_bd ls at_ caps om;generalize pick ls at_ caps=y at *;have ewy:IntKind.i64.wrap (1+y)=1+y:=(by rw[IntKind.wrap_i64];omega))
  have HKb:=lh (HKa.out.trans Kb);have HRb:=lh (Kb.blk HR.out hgne.symm);obtain⟨nv,hnv⟩:∃nv:Int,nv=1+y:=⟨_,rfl⟩
  rw[<-hnv];have hn0:1<=nv/\nv<=4:=om;have hq:nv<=caps:=om;clear hnv;have cb4:wb.cell? ⟨gm,4,none⟩=some (.int .i64 caps):=(show Blk wb gm 336 (mkC A ls.length c ((at_+1:Nat):Int) uses left caps) by simpa using Hbb).cell 4;have fb4:=(show Blk wb gm 336 (mkC A ls.length c ((at_+1:Nat):Int) uses left caps) by simpa using Hbb).frz 4
  go_upto_region 5 with fail
  have HM5:=lh (MkM.put4 Xb il lo (at_+1) (show Blk wb gm 336 (mkC A ls.length c ((at_+1:Nat):Int) uses left caps) by simpa using Hbb) (B:=B+2) om om hl2 caps om om);exact J6z2
 ·have h4f:decide (4<caps+1)=false:=by simp;omega
  by_cases hc0:0<caps
  ·have hct:decide (0<caps)=true:=by simp[hc0]
   have hx:=pick_bd ls at_ 9 om;have HC9:=lh (ynext_at w0 wa gm A c ls uses 9 xa il lo at_ left caps hba om om om);by_cases hx0:pick ls at_ 9=0
   ·rw[hx0] at HC9;clear hx0 hx
    go_upto_region 3 with(go_at_call 273;refine HC9.out.mono ?_;rintro e w3 ⟨rfl,Hb3,X3,K3⟩)
    have HK3:=lh (HKa.out.trans K3);have HR3:=lh (K3.blk HR.out hgne.symm);have cc4:w3.cell? ⟨gm,4,none⟩=some (.int .i64 caps):=Hb3.cell 4;obtain⟨a3,ha3⟩:∃a3:Nat,a3=at_+1:=⟨_,rfl⟩;have Hb3':Blk w3 gm 336 (mkC A ls.length c (a3:Int) uses left caps):=by rw[ha3];simpa using Hb3
    have ha4:(a3:Int)<=100000000/\(a3:Int)+1<=B+2:=om;clear ca4 Hb3 ha3 hba;by_cases hm1:caps<=1
    ·obtain rfl:caps=1:=om
     go_upto_region 4 with(go_at_call 273;refine(ynext_at w0 _ gm A c ls uses 1 X3 il lo a3 left 1 (by simpa using Hb3') om om om).mono ?_;rintro e wb ⟨rfl,Hbb,Xb,Kb⟩;have hy:=pick_bd ls a3 1 om;generalize pick ls a3 1=y at *;have ewy:IntKind.i64.wrap (1+y)=1+y:=(by rw[IntKind.wrap_i64];omega))
     have HKb:=lh (HK3.out.trans Kb);have HRb:=lh (Kb.blk HR3.out hgne.symm);obtain⟨nv,hnv⟩:∃nv:Int,nv=1+y:=⟨_,rfl⟩
     rw[<-hnv];have hn0:1<=nv/\nv<=4:=om;have hq:nv<=1:=om;clear hnv;have cb4:wb.cell? ⟨gm,4,none⟩=some (.int .i64 1):=(show Blk wb gm 336 (mkC A ls.length c ((a3+1:Nat):Int) uses left 1) by simpa using Hbb).cell 4;have fb4:=(show Blk wb gm 336 (mkC A ls.length c ((a3+1:Nat):Int) uses left 1) by simpa using Hbb).frz 4
     go_upto_region 5 with fail
     have HM5:=lh (MkM.put4 Xb il lo (a3+1) (show Blk wb gm 336 (mkC A ls.length c ((a3+1:Nat):Int) uses left 1) by simpa using Hbb) (B:=B+2) om om hl2 1 om om);have HK5:Hid (KpP (·=gm) w (wb.setCell ⟨gm,4,none⟩ (.int .i64 1))):=lh (KpP.set (p:=(·=gm)) (x:=⟨gm,4,none⟩) HKb.out (.inl rfl) _);have HR5:=lh (HRb.out.far (p:=⟨gm,4,none⟩) hgne.symm (.int .i64 1));generalize wb.setCell ⟨gm,4,none⟩ (.int .i64 1)=wc at *;exact J6z1
    ·skip
     go_upto_region 4 with(go_at_call 273;refine(ynext_at w0 _ gm A c ls uses caps X3 il lo a3 left caps (by simpa using Hb3') om om om).mono ?_;rintro e wb ⟨rfl,Hbb,Xb,Kb⟩;have hy:=pick_bd ls a3 caps om;generalize pick ls a3 caps=y at *;have ewy:IntKind.i64.wrap (1+y)=1+y:=(by rw[IntKind.wrap_i64];omega))
     have HKb:=lh (HK3.out.trans Kb);have HRb:=lh (Kb.blk HR3.out hgne.symm);obtain⟨nv,hnv⟩:∃nv:Int,nv=1+y:=⟨_,rfl⟩
     rw[<-hnv];have hn0:1<=nv/\nv<=4:=om;have hq:nv<=caps:=om;clear hnv;have cb4:wb.cell? ⟨gm,4,none⟩=some (.int .i64 caps):=(show Blk wb gm 336 (mkC A ls.length c ((a3+1:Nat):Int) uses left caps) by simpa using Hbb).cell 4;have fb4:=(show Blk wb gm 336 (mkC A ls.length c ((a3+1:Nat):Int) uses left caps) by simpa using Hbb).frz 4
     go_upto_region 5 with fail
     have HM5:=lh (MkM.put4 Xb il lo (a3+1) (show Blk wb gm 336 (mkC A ls.length c ((a3+1:Nat):Int) uses left caps) by simpa using Hbb) (B:=B+2) om om hl2 caps om om);exact J6z2
   ·generalize pick ls at_ 9=x at *;have hxf:(x == 0)=false:=by simp[hx0]
    go_upto_region 4 with(go_at_call 273;refine HC9.out.mono ?_;rintro e w3 ⟨rfl,Hb3,X3,K3⟩)
    have HK3:=lh (HKa.out.trans K3);have HR3:=lh (K3.blk HR.out hgne.symm);obtain⟨nv,hnv⟩:∃nv:Int,nv=caps+1:=⟨_,rfl⟩
    rw[<-hnv];have hn0:1<=nv/\nv<=4:=om;clear ca4;have hq:¬nv<=caps:=om;clear hnv;have cb4:w3.cell? ⟨gm,4,none⟩=some (.int .i64 caps):=(show Blk w3 gm 336 (mkC A ls.length c ((at_+1:Nat):Int) uses left caps) by simpa using Hb3).cell 4;have fb4:=(show Blk w3 gm 336 (mkC A ls.length c ((at_+1:Nat):Int) uses left caps) by simpa using Hb3).frz 4
    go_upto_region 5 with fail
    have HM5:=lh (MkM.put4 X3 il lo (at_+1) (show Blk w3 gm 336 (mkC A ls.length c ((at_+1:Nat):Int) uses left caps) by simpa using Hb3) (B:=B+2) om om hl2 nv om om);have HK5:Hid (KpP (·=gm) w (w3.setCell ⟨gm,4,none⟩ (.int .i64 nv))):=lh (KpP.set (p:=(·=gm)) (x:=⟨gm,4,none⟩) HK3.out (.inl rfl) _);have HR5:=lh (HR3.out.far (p:=⟨gm,4,none⟩) hgne.symm (.int .i64 nv));generalize w3.setCell ⟨gm,4,none⟩ (.int .i64 nv)=wc at *;exact J6z1
  ·have hcf:decide (0<caps)=false:=by simp[hc0]
   go_upto_region 4 with fail
   obtain⟨nv,hnv⟩:∃nv:Int,nv=caps+1:=⟨_,rfl⟩
   rw[<-hnv];have hn0:1<=nv/\nv<=4:=om;clear ca4;have hq:¬nv<=caps:=om;clear hnv;have cb4:wa.cell? ⟨gm,4,none⟩=some (.int .i64 caps):=hba.cell 4;have fb4:=hba.frz 4
   go_upto_region 5 with fail
   have HM5:=lh (MkM.put4 xa il lo at_ hba (B:=B+2) om om hl2 nv om om);have HK5:Hid (KpP (·=gm) w (wa.setCell ⟨gm,4,none⟩ (.int .i64 nv))):=lh (KpP.set (p:=(·=gm)) (x:=⟨gm,4,none⟩) HKa.out (.inl rfl) _);have HR5:=lh (HR.out.far (p:=⟨gm,4,none⟩) hgne.symm (.int .i64 nv));generalize wa.setCell ⟨gm,4,none⟩ (.int .i64 nv)=wc at *;exact J6z1
end
section
open Go.RowKit
theorem OwnS.lowS {w:World}{base base' e size n c:Nat}{A:Option Addr}{xs:List Value}(h:OwnS w base e size A n c xs)(hb:base'<=base):OwnS w base' e size A n c xs:=by
 refine⟨h.1,?_⟩;rcases h.2 with h|⟨g,cap,cur,h1,h2,h3⟩
 ·exact Or.inl h
 ·exact Or.inr ⟨g,cap,cur,h1,Nat.le_trans hb h2,h3⟩
theorem sSymbols_any (w:World)(PA:Option Addr)(n pc:Nat)(caps:Int)(rn:Bool)(A:Option Addr)(c:Nat)(l:List Int)(hl:IL w A c l) :
 Calls Tryz.prog 12 #[.agg #[.slice PA n pc,.int .i64 caps,.bool rn],.slice A l.length c] w (RetT4 rn 12 w):=by
 have BG:=Blk.new w 25 #[.slice PA n pc,.int .i64 caps,.bool rn];have EG:=Ext.alloc w (.cells #[.slice PA n pc,.int .i64 caps,.bool rn] 25);have HL:=lh hl;have HT:=lh (text4_any A c l 12 rn _ (hl.ext EG) om);clear hl;go_enter Tryz.func12,Tryz.ntmps12
 go_upto_region 1 with fail
 obtain⟨g1,hg1⟩:∃g,g=w.heap.size:=⟨_,rfl⟩
 rw[<-hg1] at BG ⊢;clear hg1;generalize w.alloc (.cells #[.slice PA n pc,.int .i64 caps,.bool rn] 25)=w1 at *;have b2:w1.cell? ⟨g1,2,none⟩=some (.bool rn):=BG.cell 2
 go_wp2_with fail
 refine HT.out.mono ?_;rintro e w2 ⟨A2,c2,ts,rfl,ho,hi,ha,hl2,x2⟩;have HF:=lh (show RetT4 rn 12 w (.returned (.slice A2 ts.length c2)) w2 from⟨A2,c2,ts,rfl,OwnS.lowS ho EG.size,hi,ha,hl2,EG.trans x2⟩)
 go_wp2_with fail
 go_ret
 exact HF.out
end
end Go.Proofs.YtmgpefenkilffaaGreat
