/- Texts of this proof: Y18 Y19 Y20 Y21 PK2. -/
import Derived.Test.YtmgpefenkilffaaGreatSW14
import Derived.Test.YtmgpefenkilffaaGreatSW29
import Derived.DataReads
import Derived.OpenShut
import Derived.ArgAppend
set_option linter.all false
namespace Go.Proofs.YtmgpefenkilffaaGreat
section
open Go.RowKit
attribute [local go_sem ↓] Go.wp_at_zero Go.wp_at_succ
structure AddI (n:Nat)(s:List Nat×List Nat):Prop where
 ok:SeenOk n s.2
 len:s.1.length<=s.2.length
 lt:∀p∈s.1,p<n
theorem AddI.see {n:Nat}{s:List Nat×List Nat}(h:AddI n s){pc:Nat}(hp:pc<n)(hn:pc∉s.2):AddI n (s.1,s.2++[pc]):=
 ⟨h.ok.snoc hp hn,by have:=h.len;simp only[List.length_append,List.length_cons,List.length_nil];omega,h.lt⟩
theorem AddI.put {n:Nat}{s:List Nat×List Nat}(h:AddI n s){pc:Nat}(hp:pc<n)(hn:pc∉s.2):AddI n (s.1++[pc],s.2++[pc]):=
 ⟨h.ok.snoc hp hn,by have:=h.len;simp only[List.length_append,List.length_cons,List.length_nil];omega,fun p hp2=>by
  rcases List.mem_append.1 hp2 with h1|h1
  ·exact h.lt p h1
  ·have:p=pc:=by simpa using h1
   omega⟩
theorem addP_inv {G:List Ins}:∀f s pc,AddI G.length s->AddI G.length (addP G f s pc).1/\s.2.length<=(addP G f s pc).1.2.length
 | 0,s,pc,h=>⟨h,Nat.le_refl _⟩
 | f+1,s,pc,h=>by
  unfold addP
  split
  ·exact⟨h,Nat.le_refl _⟩
  ·rename_i hn
   split
   ·exact⟨h,Nat.le_refl _⟩
   ·rename_i i hi
    obtain⟨hlt,_⟩:=List.getElem?_eq_some_iff.1 hi;have h1:=h.see hlt hn;have hl:s.2.length<=(s.2++[pc]).length:=by simp
    split
    ·have h2:=addP_inv f (s.1,s.2++[pc]) i.x.toNat h1
     split
     ·have h3:=addP_inv f _ i.y.toNat h2.1;exact⟨h3.1,Nat.le_trans hl (Nat.le_trans h2.2 h3.2)⟩
     ·exact⟨h2.1,Nat.le_trans hl h2.2⟩
    ·split
     ·have h2:=addP_inv f (s.1,s.2++[pc]) i.x.toNat h1;exact⟨h2.1,Nat.le_trans hl h2.2⟩
     ·split
      ·have h2:=addP_inv f (s.1,s.2++[pc]) (pc+1) h1;exact⟨h2.1,Nat.le_trans hl h2.2⟩
      ·exact⟨h.put hlt hn,hl⟩
structure LsP where
 base:Nat
 gB:Nat
 gl:Nat
 ga:Nat
 gb:Nat
 gM:Nat
def LsK (p:LsP)(w:World)(b:Nat):Prop:=b=p.gM\/(p.base<=b/\(b=p.gl\/∃cur,w.heap[b]? = some (.cells cur 3 (0,0))))
theorem addP_old {G:List Ins}{f pc:Nat}{s:List Nat×List Nat}(h:pc∈s.2):addP G (f+1) s pc=(s,true):=by
 unfold addP;rw[if_pos h]
theorem addP_step {G:List Ins}{f pc:Nat}{s:List Nat×List Nat}{i:Ins}(h:pc∉s.2)(hi:G[pc]? = some i):addP G (f+1) s pc =
 if i.op=2 then
  if(addP G f (s.1,s.2++[pc]) i.x.toNat).2=true then addP G f (addP G f (s.1,s.2++[pc]) i.x.toNat).1 i.y.toNat
  else addP G f (s.1,s.2++[pc]) i.x.toNat
 else if i.op=3 then addP G f (s.1,s.2++[pc]) i.x.toNat
 else if i.op=4 then addP G f (s.1,s.2++[pc]) (pc+1)
 else((s.1++[pc],s.2++[pc]),decide (i.op≠0)):=by
 conv=>lhs;unfold addP
 rw[if_neg h,hi]
def TyI (w:World)(A:Option Addr):Prop:=∀b,A.map (·.block)=some b->∃cur,w.heap[b]? = some (.cells cur 3 (0,0))
theorem TyI.kp {w w':World}{A:Option Addr}{p:Nat->Prop}(h:TyI w A)(k:KpP p w w')(hp:∀b,p b->∀cur,w.heap[b]?≠some (.cells cur 3 (0,0))):TyI w' A:=fun b hb=>by
 obtain⟨cur,hh⟩:=h b hb;exact⟨cur,(k.block b (Array.getElem?_eq_some_iff.1 hh).1 (fun hq=>hp b hq cur hh)).trans hh⟩
theorem IL.kpT {w w':World}{A:Option Addr}{c:Nat}{xs:List Int}{p:Nat->Prop}(h:IL w A c xs)(t:TyI w A)(k:KpP p w w')(hp:∀b,p b->∀cur,w.heap[b]?≠some (.cells cur 3 (0,0))):IL w' A c xs:=
 IL.kp h k (fun _ b hb hq=>by
  obtain⟨cur,hh⟩:=t b hb;exact hp b hq cur hh)
theorem listP_done {G:List Ins}{N:Nat}{fs:List Nat}{k:Nat}{s:List Nat×List Nat}(hk:k<fs.length):listP G N (fs.drop k) s=if(addP G N s fs[k]).2=true then listP G N (fs.drop (k+1)) (addP G N s fs[k]).1 else(addP G N s fs[k]).1:=by
 rw[List.drop_eq_getElem_cons hk,listP]
end
section
open Go.RowKit
open Go.ChangeMaps (setBlock)
attribute [local go_sem ↓] Go.wp_at_zero Go.wp_at_succ
theorem conv_own {w:World}{base c:Nat}{A:Option Addr}{bs:List Int}(h:OwnS w base 5 1 A bs.length c (bs.map (Value.int .u8)))(hn:bs≠[]) :
 (convert 331 9 (.slice A bs.length c)).run Tryz.prog w=.ok (.string (strOfNums bs)) w:=by
 have hu:Tryz.prog.underlying 5=some (.int .u8):=by kernel_rfl
 have hs:Tryz.prog.underlying 9=some .string:=by kernel_rfl
 obtain⟨b,o,rfl,hc⟩:=OwnS.cells h (by simpa using hn);have hl:(loadCells ⟨b,o,none⟩ bs.length).run Tryz.prog w=.ok (bs.map (Value.int .u8)).toArray w:=by
  have h2:=run_loadCells_list (P:=Tryz.prog) w ⟨b,o,none⟩ (bs.map (Value.int .u8)) (fun j v hj=>by
   obtain⟨hj1,hj2⟩:=List.getElem?_eq_some_iff.1 hj;rw[Addr.add_lit,hc j hj1,<-hj2])
  rw[List.length_map] at h2;exact h2
 rw[run_convert_bytes_string w _ _ _ (some ⟨b,o,none⟩) _ c Tryz.underlying331 hu hs,run_bytesToString w _ _ c bs hl,foldl_push_bytes];simp[strOfNums,ByteArray.empty,ByteArray.emptyWithCapacity]
 rfl
def kmap (L:List (List Nat)):List (ByteArray×Int):=L.zipIdx.map (fun p=>(keyS p.1,(p.2:Int)))
structure NmI (wr:World)(base gb gm gM:Nat)(LA:Option Addr)(Lc:Nat)(sts:List Hl):Prop where
 map:MapAt wr gm Value.string (Value.int .i32) (kmap (stsOf sts))
 own:OwnS wr base 22 1 LA sts.length Lc (flatL sts)
 il:∀z∈sts,IL wr z.A z.c (castL z.l)
 ty:∀z∈sts,TyI wr z.A
 nM:∀z∈sts,z.A.map (·.block)≠some gM
 lt:∀z∈sts,∀i∈z.l,i<65536
theorem mkCap (n:Nat)(h:n<=500000)(W:World):(Instr.makeSlice 331 (.int .i64 0) (.int .i64 (2*(n:Int)))).run Tryz.prog W=.ok (.slice (some ⟨W.heap.size,0,none⟩) 0 (2*n)) (W.alloc (.cells (Array.replicate (2*n) (.int .u8 0)) 5)):=by
 have hi:(Tryz.prog.info? 5).map (fun i=>(i.zero,i.size,i.bytes))=some (some (.int .u8 0),1,1):=by kernel_rfl
 obtain⟨i0,hi0,hz0,hz1,hz2⟩:=info_parts hi;have e:(2*(n:Int))=((2*n:Nat):Int):=om;rw[e];have:=run_make (P:=Tryz.prog) W 331 5 i0 (.int .u8 0) Tryz.underlying331 hi0 hz0 .i64 .i64 0 ((2*n:Nat):Int) om om (by rw[hz2];omega) om;rw[this,hz1];simp only[Int.toNat_natCast,Value.cells];rw[madeCells_one]
 simp
theorem keyB_snoc {l:List Nat}{k:Nat}(hk:k<l.length):keyB (l.take (k+1))=keyB (l.take k)++[((l[k] / 256 % 256:Nat):Int),((l[k] % 256:Nat):Int)]:=by
 unfold keyB;rw[List.take_add_one,List.getElem?_eq_getElem hk,List.flatMap_append]
 simp
end
section
open Go.RowKit
attribute [local go_sem ↓] Go.wp_at_zero Go.wp_at_succ
structure BP where
 base:Nat
 gb:Nat
 gm:Nat
 gM:Nat
 gH:Nat
structure BS (wr w0:World)(p:BP)(gA:Option Addr)(gc:Nat)(hs:List Hin)(cs:List Int)(rows:List Kb)(mark:Int)(LA:Option Addr)(Lc:Nat)(sts:List Hl):Prop where
 ext:Ext w0 wr
 bb:Blk wr p.gb 180 (gbCells gA hs.length gc (.slice (some ⟨p.gH,0,none⟩) hs.length hs.length) (.slice (some ⟨p.gM,0,none⟩) hs.length hs.length) mark (.map (some p.gm)) (.slice LA sts.length Lc))
 bh:Blk wr p.gH 85 (rowsC rows)
 ro:RowsOk wr hs cs hs.length rows
 bm:∃ms,Blk wr p.gM 3 (iInts ms)/\ms.length=hs.length/\∀i,i<hs.length->ms.getD i 0<=mark
 nm:NmI wr p.base p.gb p.gm p.gM LA Lc sts
 lo:w0.heap.size<=p.base/\w0.heap.size<=p.gb/\w0.heap.size<=p.gm/\w0.heap.size<=p.gM/\w0.heap.size<=p.gH
 bs:p.base<=wr.heap.size
structure Th where
 pc:Nat
 fr:Int
 A:Option Addr
 c:Nat
def flatT (n2:Nat)(l:List Th):List Value:=l.flatMap fun t=>[.int .i64 t.pc,.int .i64 t.fr,.slice t.A n2 t.c]
theorem flatT_app (n2:Nat)(l m:List Th):flatT n2 (l++m)=flatT n2 l++flatT n2 m:=by simp[flatT]
theorem flatT_len (n2:Nat)(l:List Th):(flatT n2 l).length=l.length*3:=by
 induction l with
 | nil=>rfl
 | cons t l ih=>simp only[flatT,List.flatMap_cons,List.length_append] at ih ⊢;rw[ih];simp;omega
theorem flatT_get (n2:Nat):∀(l:List Th) (i:Nat) (h:i<l.length),(flatT n2 l)[i*3]? = some (.int .i64 l[i].pc)/\(flatT n2 l)[i*3+1]? = some (.int .i64 l[i].fr)/\(flatT n2 l)[i*3+2]? = some (.slice l[i].A n2 l[i].c)
 | t::l,0,_=>by simp[flatT]
 | t::l,i+1,h=>by
  have ih:=flatT_get n2 l i (by simpa using h);have e:flatT n2 (t::l)=[.int .i64 t.pc,.int .i64 t.fr,.slice t.A n2 t.c]++flatT n2 l:=by simp[flatT]
  have e0:(i+1)*3=i*3+1+1+1:=om;rw[e,e0]
  simpa using ih
structure RegOk (w:World)(base n2:Nat)(A:Option Addr)(c:Nat):Prop where
 il:∃xs:List Int,xs.length=n2/\IL w A c xs
 ty:∀b,A.map (·.block)=some b->base<=b/\∃cur,w.heap[b]? = some (.cells cur 3 (0,0))
theorem RegOk.ext {w w':World}{base n2 c:Nat}{A:Option Addr}(h:RegOk w base n2 A c)(x:Ext w w'):RegOk w' base n2 A c:=by
 obtain⟨⟨xs,h1,h2⟩,h3⟩:=h;refine⟨⟨xs,h1,h2.ext x⟩,fun b hb=>?_⟩;obtain⟨h4,cur,h5⟩:=h3 b hb;exact⟨h4,cur,(x.block b (Array.getElem?_eq_some_iff.1 h5).1).trans h5⟩
theorem RegOk.kp {w w':World}{base n2 c:Nat}{A:Option Addr}{p:Nat->Prop}(h:RegOk w base n2 A c)(k:KpP p w w')(hp:∀b,p b->b<base\/∀cur,w.heap[b]?≠some (.cells cur 3 (0,0))):RegOk w' base n2 A c:=by
 obtain⟨⟨xs,h1,h2⟩,h3⟩:=h;have hn:∀b,A.map (·.block)=some b->¬p b:=fun b hb hpb=>by
  obtain⟨h4,cur,h5⟩:=h3 b hb;rcases hp b hpb with h6|h6
  ·omega
  ·exact h6 cur h5
 refine⟨⟨xs,h1,h2.kp k (fun _=>hn)⟩,fun b hb=>?_⟩;obtain⟨h4,cur,h5⟩:=h3 b hb;exact⟨h4,cur,(k.block b (Array.getElem?_eq_some_iff.1 h5).1 (hn b hb)).trans h5⟩
structure PkP where
 w0:World
 base:Nat
 g4:Nat
 g10:Nat
 g13:Nat
 g14:Nat
 gm:Nat
 gM:Nat
 gA:Option Addr
 gc:Nat
 n:Nat
 caps:Int
 rn:Bool
 T:Option Addr
 tn:Nat
 tc:Nat
 n2:Nat
 fr:Int
 w1:World
def pkC (p:PkP):Array Value:=#[.slice p.gA p.n p.gc,.int .i64 p.caps,.bool p.rn,.slice p.T p.tn p.tc,.slice (some ⟨p.gM,0,none⟩) p.n p.n]
def PQ (p:PkP)(A:Option Addr)(b:Nat):Prop:=b=p.gM\/b=p.g10\/b=p.g13\/A.map (·.block)=some b
structure PkI (p:PkP)(w:World)(A:Option Addr)(c:Nat)(ths:List Th)(sn:List Nat)(mark:Int)(cl:Bool):Prop where
 x:Ext p.w0 w
 b4:Blk w p.g4 153 #[.pointer (some ⟨p.gm,0,none⟩)]
 bm:Blk w p.gm 258 (pkC p)
 b13:Blk w p.g13 4 #[.bool cl]
 b14:Blk w p.g14 332 #[.func (.func 211) #[] #[.pointer (some ⟨p.g13,0,none⟩),.pointer (some ⟨p.g4,0,none⟩),.pointer (some ⟨p.g10,0,none⟩),.pointer (some ⟨p.g14,0,none⟩)]]
 b10:Blk w p.g10 260 #[.slice A ths.length c]
 o:OwnS w p.base 262 3 A ths.length c (flatT p.n2 ths)
 rg:∀t∈ths,RegOk w p.base p.n2 t.A t.c
 ms:∃ms,Blk w p.gM 3 (iInts ms)/\ms.length=p.n/\∀i,i<p.n->((ms.getD i 0=mark<->i∈sn)/\ms.getD i 0<=mark)
 lM:p.gM<p.base/\p.w0.heap.size<=p.gM
 lb:p.base<=p.g10/\p.base<=p.g13
 ff:∀t∈ths,t.fr=p.fr
 y:KpP (fun b=>b=p.gM) p.w1 w
 hb:p.w1.heap.size<=p.base
structure PT (p:PkP)(A:Option Addr)(w:World)(A':Option Addr)(w':World):Prop where
 kp:KpP (PQ p A) w w'
 nw:A'.map (·.block)=A.map (·.block)\/∀b,A'.map (·.block)=some b->w.heap.size<=b
theorem PT.of_ext (p:PkP)(A:Option Addr){w w':World}(x:Ext w w'):PT p A w A w':=⟨KpP.of_ext x,.inl rfl⟩
theorem PT.trans {p:PkP}{A A1 A2:Option Addr}{w w1 w2:World}(h:PT p A w A1 w1)(k:PT p A1 w1 A2 w2):PT p A w A2 w2:=by
 refine⟨⟨k.kp.os.trans h.kp.os,k.kp.tape.trans h.kp.tape,k.kp.output.trans h.kp.output,Nat.le_trans h.kp.size k.kp.size,fun i hi hn=>?_⟩,?_⟩
 ·rw[k.kp.block i (Nat.lt_of_lt_of_le hi h.kp.size) (fun hq=>?_)]
  ·exact h.kp.block i hi hn
  ·rcases hq with hq|hq|hq|hq
   ·exact hn (.inl hq)
   ·exact hn (.inr (.inl hq))
   ·exact hn (.inr (.inr (.inl hq)))
   ·rcases h.nw with e|e
    ·exact hn (.inr (.inr (.inr (by rw[<-e];exact hq))))
    ·have:=e i hq;omega
 ·rcases k.nw with e|e
  ·rcases h.nw with e2|e2
   ·exact .inl (e.trans e2)
   ·exact .inr (fun b hb=>e2 b (by rw[<-e];exact hb))
  ·exact .inr (fun b hb=>Nat.le_trans h.kp.size (e b hb))
section
variable {p:PkP} {w w':World} {A:Option Addr} {c:Nat} {ths:List Th} {sn:List Nat} {mk:Int} {cl:Bool}
theorem PkI.ext (h:PkI p w A c ths sn mk cl)(x:Ext w w'):PkI p w' A c ths sn mk cl:=by
 obtain⟨h1,h2,h3,h4,h5,h6,h7,h8,⟨ms,h9,h10⟩,h11,h12,h13,h14,h15⟩:=h;exact⟨h1.trans x,h2.ext x,h3.ext x,h4.ext x,h5.ext x,h6.ext x,OwnS.ext h7 x,fun t ht=>(h8 t ht).ext x,⟨ms,h9.ext x,h10⟩,h11,h12,h13,h14.trans (KpP.of_ext x),h15⟩
theorem PkI.reg (h:PkI p w A c ths sn mk cl)(k:KpP (PQ p A) w w'){R:Option Addr}{rc:Nat}(hr:RegOk w p.base p.n2 R rc):RegOk w' p.base p.n2 R rc:=by
 refine hr.kp k (fun b hb=>?_);rcases hb with rfl|rfl|rfl|hb
 ·exact .inl h.lM.1
 ·refine .inr (fun cur e=>?_);have h1:=h.b10.symm.trans e;injection h1 with h1;injection h1 with _ h1;exact absurd h1 de
 ·refine .inr (fun cur e=>?_);have h1:=h.b13.symm.trans e;injection h1 with h1;injection h1 with _ h1;exact absurd h1 de
 ·refine .inr (fun cur e=>?_);obtain⟨_,cur2,h2⟩:=OwnS.blt h.o hb;have h1:=h2.symm.trans e;injection h1 with h1;injection h1 with _ h1;exact absurd h1 de
theorem PkI.blk (h:PkI p w A c ths sn mk cl)(k:KpP (PQ p A) w w'){g T:Nat}{cs:Array Value}(hb:Blk w g T cs)(t1:T≠3)(t2:T≠260)(t3:T≠4)(t4:T≠262):Blk w' g T cs:=by
 obtain⟨ms,hM,_⟩:=h.ms;refine k.blk hb (fun hq=>?_);rcases hq with hq|hq|hq|hq
 ·exact blk_blk hb hM t1 hq
 ·exact blk_blk hb h.b10 t2 hq
 ·exact blk_blk hb h.b13 t3 hq
 ·exact own_blk h.o hb (fun e=>t4 e.symm) hq
theorem PkI.seen (h:PkI p w A c ths sn mk cl){pc:Nat}(hp:pc<p.n):PkI p (w.setCell ⟨p.gM,pc,none⟩ (.int .i64 mk)) A c ths (sn++[pc]) mk cl:=by
 obtain⟨h1,h2,h3,h4,h5,h6,h7,h8,⟨ms,h9,h10,h10'⟩,h11,h12,h13,h14,h15⟩:=h;have d2:=blk_blk h2 h9 de;have d3:=blk_blk h3 h9 de;have d4:=blk_blk h4 h9 de;have d5:=blk_blk h5 h9 de;have d6:=blk_blk h6 h9 de;have kk:KpP (·=p.gM) w (w.setCell ⟨p.gM,pc,none⟩ (.int .i64 mk)):=KpP.set (x:=⟨p.gM,pc,none⟩) (KpP.refl (·=p.gM) _) (.inl rfl) _;refine⟨h1.setNew h11.2 _,h2.far d2 _,h3.far d3 _,h4.far d4 _,h5.far d5 _,h6.far d6 _,OwnS.far h7 (own_blk h7 h9 de) _,fun t ht=>(h8 t ht).kp kk (fun b hb=>.inl (by have:b=p.gM:=hb;omega)),⟨ms.set pc mk,?_,by rw[List.length_set];exact h10,fun i hi=>?_⟩,h11,h12,h13,KpP.set (x:=⟨p.gM,pc,none⟩) h14 (.inl rfl) _,h15⟩
 ·rw[<-iInts_set];exact h9.set pc _
 ·have hi2:i<ms.length:=om;have h13:=h10' i hi;simp only[List.getD_eq_getElem?_getD] at h13;simp only[List.getD_eq_getElem?_getD,List.getElem?_set,List.mem_append,List.mem_singleton];by_cases e:pc=i
  ·subst e;simp[hi2]
  ·rw[if_neg e];refine⟨⟨fun h14=>.inl (h13.1.1 h14),?_⟩,h13.2⟩;rintro(h14|h14)
   ·exact h13.1.2 h14
   ·exact absurd h14.symm e
theorem PkI.close (h:PkI p w A c ths sn mk cl)(b:Bool):PkI p (w.setCell ⟨p.g13,0,none⟩ (.bool b)) A c ths sn mk b:=by
 obtain⟨h1,h2,h3,h4,h5,h6,h7,h8,⟨ms,h9,h10⟩,h11,h12,h13,h14,h15⟩:=h;have d2:=blk_blk h2 h4 de;have d3:=blk_blk h3 h4 de;have d5:=blk_blk h5 h4 de;have d6:=blk_blk h6 h4 de;have d9:=blk_blk h9 h4 de;have kk:KpP (·=p.g13) w (w.setCell ⟨p.g13,0,none⟩ (.bool b)):=KpP.set (x:=⟨p.g13,0,none⟩) (KpP.refl (·=p.g13) _) (.inl rfl) _;have b13:Blk (w.setCell ⟨p.g13,0,none⟩ (.bool b)) p.g13 4 #[.bool b]:=by simpa using h4.set 0 (.bool b)
 refine⟨h1.setNew (by show p.w0.heap.size<=p.g13;omega) _,h2.far d2 _,h3.far d3 _,b13,h5.far d5 _,h6.far d6 _,OwnS.far h7 (own_blk h7 h4 de) _,fun t ht=>(h8 t ht).kp kk (fun b' hb=>.inr (fun cur e=>?_)),⟨ms,h9.far d9 _,h10⟩,h11,h12,h13,KpP.set (x:=⟨p.g13,0,none⟩) h14 (.inr (by show p.w1.heap.size<=p.g13;omega)) _,h15⟩;have hb':b'=p.g13:=hb;subst hb';have e1:=h4.symm.trans e;injection e1 with e1;injection e1 with _ e1;exact absurd e1 de
theorem PkI.put (h:PkI p w A c ths sn mk cl){w8:World}{A8:Option Addr}{c8:Nat}(t:Th)(hf:t.fr=p.fr)(hr:RegOk w p.base p.n2 t.A t.c)(hg:w.grownBy w8 (A.map (·.block)))
 (ho:OwnS w8 p.base 262 3 A8 (ths++[t]).length c8 (flatT p.n2 (ths++[t]))) (hat:A8.map (·.block)=A.map (·.block)\/A8.map (·.block)=some w.heap.size) :
 PkI p (w8.setCell ⟨p.g10,0,none⟩ (.slice A8 (ths++[t]).length c8)) A8 c8 (ths++[t]) sn mk cl/\PT p A w A8 (w8.setCell ⟨p.g10,0,none⟩ (.slice A8 (ths++[t]).length c8)):=by
 have hI:=h;obtain⟨h1,h2,h3,h4,h5,h6,h7,h8,⟨ms,h9,h10⟩,h11,h12,h13,h14,h15⟩:=h;have k:=KpP.of_grown hg;have kq:KpP (PQ p A) w w8:=KpP.mono k (fun i hi=>.inr (.inr (.inr hi)));have b2:=k.blk h2 (own_blk h7 h2 de);have b3:=k.blk h3 (own_blk h7 h3 de);have b4:=k.blk h4 (own_blk h7 h4 de);have b5:=k.blk h5 (own_blk h7 h5 de);have b6:=k.blk h6 (own_blk h7 h6 de);have b9:=k.blk h9 (own_blk h7 h9 de);have d2:=blk_blk b2 b6 de;have d3:=blk_blk b3 b6 de;have d4:=blk_blk b4 b6 de;have d5:=blk_blk b5 b6 de;have d9:=blk_blk b9 b6 de;have x8:Ext p.w0 w8:=h1.grown hg (fun i hi=>by
  have:=OwnS.row h7 _ hi;omega)
 have k10:KpP (·=p.g10) w8 (w8.setCell ⟨p.g10,0,none⟩ (.slice A8 (ths++[t]).length c8)):=KpP.set (x:=⟨p.g10,0,none⟩) (KpP.refl (·=p.g10) _) (.inl rfl) _;have hnT:∀b,b=p.g10->∀cur,w8.heap[b]?≠some (.cells cur 3 (0,0)):=fun b hb cur e=>by
  subst hb;have e1:=b6.symm.trans e;injection e1 with e1;injection e1 with _ e1;exact absurd e1 de
 refine⟨⟨x8.setNew (by show p.w0.heap.size<=p.g10;omega) _,b2.far d2 _,b3.far d3 _,b4.far d4 _,b5.far d5 _,?_,OwnS.far ho (own_blk ho b6 de) _,fun u hu=>?_,⟨ms,b9.far d9 _,h10⟩,h11,h12,fun u hu=>?_,KpP.set (x:=⟨p.g10,0,none⟩) (h14.chain k (fun b hb=>.inr (by have:=OwnS.row h7 _ hb;omega))) (.inr (by show p.w1.heap.size<=p.g10;omega)) _,h15⟩,?_,?_⟩
 ·have b:=b6.set 0 (.slice A8 (ths++[t]).length c8)
  simpa using b
 ·refine RegOk.kp ?_ k10 (fun b hb=>.inr (hnT b hb));rcases List.mem_append.1 hu with hu|hu
  ·exact hI.reg kq (h8 u hu)
  ·rw[List.mem_singleton.1 hu];exact hI.reg kq hr
 ·rcases List.mem_append.1 hu with hu|hu
  ·exact h13 u hu
  ·rw[List.mem_singleton.1 hu];exact hf
 ·exact KpP.set (x:=⟨p.g10,0,none⟩) kq (.inl (.inr (.inl rfl))) _
 ·rcases hat with e|e
  ·exact .inl e
  ·exact .inr (fun b hb=>by rw[e] at hb;injection hb with hb;omega)
end
theorem egPAdd:∀args w,(callFunc 211 args).run Tryz.prog w=.ok (.enter 211 args) w:=enters_of Tryz.func211 kr rfl
theorem infoTh:(Tryz.prog.info? 262).map (fun i=>(i.zero,i.size,i.bytes))=some (some (.agg #[.int .i64 0,.int .i64 0,.slice none 0 0]),3,40):=by kernel_rfl
end
end Go.Proofs.YtmgpefenkilffaaGreat
