/- Texts of this proof: C9 CB. -/
import Derived.Test.YtmocoldobnimfaaGreatMS30
set_option linter.all false
set_option maxRecDepth 100000
set_option maxHeartbeats 16000000
namespace Go.Proofs.YtmocoldobnimfaaGreat
section
open Go.RowKit
attribute [local go_sem ↓] Go.wp_at_zero Go.wp_at_succ
structure GpO (base w:World)(A:Option Addr)(c:Nat)(hs:List Hin):Prop where
 own:QQ w base.heap.size 123 5 A hs.length c (QT hs)
 ok:∀h∈hs,ZJ w h
 typ:∀h∈hs,∀b,h.A.map (·.block)=some b->∃cur,w.heap[b]? = some (.cells cur 38 (0,0))
theorem GpO.nil (base w:World):GpO base w none 0 []:=⟨QQ.nil _ _ _ _,by simp,by simp⟩
theorem GpO.ext {base w w':World}{A:Option Addr}{c:Nat}{hs:List Hin}(h:GpO base w A c hs)(x:Ext w w'):GpO base w' A c hs:=
 ⟨QQ.ext h.own x,fun z hz=>⟨(h.ok z hz).1,(h.ok z hz).2.1.ext x,(h.ok z hz).2.2⟩,fun z hz b hb=>by
  obtain⟨cur,e⟩:=h.typ z hz b hb;exact⟨cur,(x.block b (Array.getElem?_eq_some_iff.1 e).1).trans e⟩⟩
theorem GpO.gp {base w:World}{A:Option Addr}{c:Nat}{hs:List Hin}(h:GpO base w A c hs)(hl:hs.length<=1000):VF Jz w A c hs:=
 ⟨PL.of_own h.own (fun z hz=>(h.ok z hz).1) (fun z hz=>(h.ok z hz).2.1),fun z hz=>(h.ok z hz).2.2,hl⟩
theorem GpO.low {base base' w:World}{A:Option Addr}{c:Nat}{hs:List Hin}(h:GpO base' w A c hs)(hb:base.heap.size<=base'.heap.size):GpO base w A c hs:=⟨QQ.lowerN h.own hb,h.ok,h.typ⟩
theorem GpO.kp {base w w':World}{A:Option Addr}{c:Nat}{hs:List Hin}{p:Nat->Prop}(h:GpO base w A c hs)(k:KpP p w w')(h1:∀b,A.map (·.block)=some b->¬p b)(h2:∀b cur,w.heap[b]? = some (.cells cur 38 (0,0))->¬p b):GpO base w' A c hs:=
 ⟨QQ.kp h.own k (fun b e hp=>h1 b e hp),fun z hz=>⟨(h.ok z hz).1,(h.ok z hz).2.1.kpZ k (fun _ b hb=>by
  obtain⟨cur,e⟩:=h.typ z hz b hb;exact h2 b cur e),(h.ok z hz).2.2⟩,fun z hz b hb=>by
  obtain⟨cur,e⟩:=h.typ z hz b hb;exact⟨cur,(k.block b (Array.getElem?_eq_some_iff.1 e).1 (h2 b cur e)).trans e⟩⟩
theorem Ry {w:World}{g T T' b:Nat}{cs cur:Array Value}(h:Blk w g T cs)(hT:T≠T')(e:w.heap[b]? = some (.cells cur T' (0,0))):b≠g:=fun hb=>by
 subst hb;have h2:=h.symm.trans e;injection h2 with h2;injection h2 with _ h2 _
 exact hT h2
theorem GpO.push {base w w9:World}{A A9:Option Addr}{c c9:Nat}{hs ys:List Hin}{x:Hin}(h:GpO base w A c hs)(hx:ZJ w x)(ht:∀b,x.A.map (·.block)=some b->∃cur,w.heap[b]? = some (.cells cur 38 (0,0))){o:Obj}
 (hg:(w.alloc o).grownBy w9 (A.map (·.block))) (ho:QQ w9 base.heap.size 123 5 A9 ys.length c9 (QT ys)) (hy:ys=hs++[x]):GpO base w9 A9 c9 ys:=by
 have X:=Ext.alloc w o;have k:=KpP.of_grown hg;have hne:∀(b:Nat) (cur:Array Value),w.heap[b]? = some (.cells cur 38 (0,0))->¬(A.map (·.block)=some b):=fun b cur e hA=>by
  obtain⟨_,cur2,e2⟩:=QQ.blt h.own hA;have e3:=e.symm.trans e2;injection e3 with e3;injection e3 with _ e3 _
  exact absurd e3 de
 have hall:∀z∈ys,ZJ w z/\∀b,z.A.map (·.block)=some b->∃cur,w.heap[b]? = some (.cells cur 38 (0,0)):=fun z hz=>by
  rw[hy] at hz;rcases List.mem_append.1 hz with hz|hz
  ·exact⟨h.ok z hz,h.typ z hz⟩
  ·rw[List.mem_singleton.1 hz];exact⟨hx,ht⟩
 have lift:∀(b:Nat) (cur:Array Value),w.heap[b]? = some (Obj.cells cur 38 (0,0))->w9.heap[b]? = some (Obj.cells cur 38 (0,0)):=fun b cur e=>by
  have e2:=(X.block b (Array.getElem?_eq_some_iff.1 e).1).trans e;exact(k.block b (Array.getElem?_eq_some_iff.1 e2).1 (hne b cur e)).trans e2
 refine⟨ho,fun z hz=>⟨(hall z hz).1.1,((hall z hz).1.2.1.ext X).kpZ k (fun _ b hb=>?_),(hall z hz).1.2.2⟩,fun z hz b hb=>?_⟩
 ·obtain⟨cur,e⟩:=(hall z hz).2 b hb;exact hne b cur e
 ·obtain⟨cur,e⟩:=(hall z hz).2 b hb;exact⟨cur,lift b cur e⟩
theorem yC {w:World}{g T:Nat}{x:Hin}(h:Blk w g T x.cs)(n:Hin):Blk (ZV w g n) g T n.cs:=VC (a0:=.int .i64 x.op) (a1:=.int .i64 x.x) (a2:=.int .i64 x.y) (a3:=.int .i64 x.n) (a4:=.slice x.A x.l.length x.c) h n
theorem D8 {p:Nat->Prop}{a w:World}{g:Nat}(h:KpP p a w)(hg:p g)(n:Hin):KpP p a (ZV w g n):=
 (((((h.set (x:=⟨g,0,none⟩) (.inl hg) _).set (x:=⟨g,1,none⟩) (.inl hg) _).set (x:=⟨g,2,none⟩) (.inl hg) _).set (x:=⟨g,3,none⟩) (.inl hg) _).set (x:=⟨g,4,none⟩) (.inl hg) _)
theorem IJ {L:List Nat}{a w:World}{g:Nat}(h:Kp L a w)(hg:g∈L)(n:Hin):Kp L a (ZV w g n):=
 (((((h.set (p:=⟨g,0,none⟩) (.inl hg) _).set (p:=⟨g,1,none⟩) (.inl hg) _).set (p:=⟨g,2,none⟩) (.inl hg) _).set (p:=⟨g,3,none⟩) (.inl hg) _).set (p:=⟨g,4,none⟩) (.inl hg) _)
structure XO (w:World)(x:Hin):Prop where
 ok:ZJ w x
 typ:∀b,x.A.map (·.block)=some b->∃cur,w.heap[b]? = some (.cells cur 38 (0,0))
theorem XO.plain (w:World){op x y n:Int}(h:I64 op/\I64 x/\I64 y/\I64 n):XO w ⟨op,x,y,n,none,0,[]⟩:=⟨ZJ.plain w h,by simp⟩
theorem XO.sym {w:World}{g:Nat}{e:Int}(hb:Blk w g 38 #[.int .i64 97,.int .i64 (97+e)])(he:0<=e/\e<=2):XO w ⟨1,0,0,0,some ⟨g,0,none⟩,1,[(97,97+e)]⟩:=by
 refine⟨⟨by simp[Hin.wf,I64],?_,?_⟩,fun b h=>?_⟩
 ·refine SL.of_ownT (base:=0) (T:=38) ?_ (fun s hs=>?_)
  ·have h:=QQ.of_blk (n:=1) (c:=1) (size:=2) (base:=0) hb (Nat.zero_le _) si si um
   simpa[Qz] using h
  ·rw[List.mem_singleton.1 hs];unfold S64 I64;simp only;omega
 ·refine⟨by simp,fun s hs=>?_⟩;rw[List.mem_singleton.1 hs];have:e=0\/e=1\/e=2:=om;rcases this with rfl|rfl|rfl<;>simp[Jz]
 ·simp at h;subst h;exact⟨_,hb⟩
theorem I7 {P:Program}{w0 base w:World}{T:Nat}{ops:Array Oper}{rest:List Oper}{o:Oper}{a:Act}{Q:Exit->Act->World->Prop}(hgd:o.guard=none)(s x:Operand)(t:Nat)
 (ho:o.op=.call { callee:=.builtin .append,args:=#[s,x],argTypes:=#[t,t] })
 (i:TypeInfo) (ht:P.underlying t=some (.slice T)) (hi:P.info? T=some i) (hz:i.zero=some (.agg #[.int .i64 0,.int .i64 0,.int .i64 0,.int .i64 0,.slice none 0 0]))
 (hsize:i.size=5) (hby:i.bytes=56)
 (A:Option Addr) (c:Nat) (hs:List Hin) (hA:a.eval s=.slice A hs.length c) (hown:CdI w0 base w T A c hs)
 (B:Option Addr) (d:Nat) (V:Hin) (hV:ZJ w0 V) (hx:a.eval x=.slice B 1 d) (hr:QP w B (QT [V]))
 (hb:hs.length+1<=1000000) (ys:List Hin) (hys:ys=hs++[V])
 (h:∀A' c' w',CdI w0 base w' T A' c' ys->Ext base w'->(∀b,A.map (·.block)=some b->base.heap.size<=b)->w.grownBy w' (A.map (·.block))->wpList P ops Q rest (a.put o.dst (.slice A' ys.length c')) w'):wpList P ops Q (o::rest) a w:=
 Q7 hgd s x t ho i ht hi hz hsize hby A c hs hA hown B d [V] hx hr (fun h hh=>by rw[List.mem_singleton.1 hh];exact hV) hb ys hys h
theorem lP (hs:List Hin){w:World}{V:Hin}(_:XO w V):∃ys,Hid (ys=hs++[V]):=⟨_,lh rfl⟩
theorem c9e {P:Prop}(h:P:=by
 have HGq:=lh (HGO.out.ext (y7.trans HXN.out));have HBq:=lh (HBG.out.ext (y7.trans HXN.out));have HX5n:=lh ((x1.trans y7).trans HXN.out);have zz0:wn.cell? ⟨gq,0,none⟩=some (.slice A hs.length c):=HBq.out.cell 0;obtain⟨ys,HY⟩:=lP hs HS.out;have hyl:Hid (ys.length=i+1):=lh (by rw[HY.out,List.length_append,HLN.out];rfl);have hcg:=QQ.caps HGq.out.own;have HNE:=lh (QK HGq.out.own HBq.out de)
 go_upto_region 5 with(at_builtin;refine I7 (w0:=wn) (base:=w5) rfl _ _ _ rfl iI Tryz.underlying31 jI0 jI1 jI2 jI3 A c hs rfl ⟨QQ.ext HGq.out.own (Ext.alloc _ _),HGq.out.ok,HX5n.out.trans (Ext.alloc _ _)⟩ _ 1 _ HS.out.ok rfl (KV (Blk.new _ _ _)) (by have:=HLN.out;omega) ys HY.out ?_;intro A9 c9 w9 h9 x9 hr9 hg9;have hb9:=(KpP.of_grown hg9).blk (HBq.out.alloc _) HNE.out;have HB9:=lh hb9;have HX9:=lh x9;have HG9:=lh (GpO.push HGq.out HS.out.ok HS.out.typ hg9 h9.own HY.out);have zz9:w9.cell? ⟨gq,0,none⟩=some (.slice A hs.length c):=hb9.cell 0;have zf9:=hb9.frz 0;clear h9 hg9 hr9 x9 hb9)
 have B10:Blk (w9.setCell ⟨gq,0,none⟩ (.slice A9 ys.length c9)) gq 33 #[.slice A9 ys.length c9,.int .i64 cp,.bool rn]:=by simpa using HB9.out.set 0 (.slice A9 ys.length c9)
 have G10:=HG9.out.kp (KpP.set (p:=(·=gq)) (x:=⟨gq,0,none⟩) (KpP.refl _ w9) (.inl rfl) (.slice A9 ys.length c9)) (fun b hb e=>by have e2:b=gq:=e;subst e2;exact QK HG9.out.own HB9.out de hb) (fun b cur hb=>Ry HB9.out de hb);have X10:=HX9.out.setNew (p:=⟨gq,0,none⟩) hgql (.slice A9 ys.length c9);clear zz9 zf9 HB9 HG9 HX9 y0 y1 y2 y3 y4 zz0;generalize w9.setCell ⟨gq,0,none⟩ (.slice A9 ys.length c9)=w10 at *;have B10:=lh B10;have G10:=lh G10
 go_wp2_with fail
 go_roundw
 case rel=>exact⟨i+1,A9,c9,ys,by go_num,om,hyl,B10,G10,X10⟩
 case measure=>simp[intOf];omega):P:=h
theorem c9a {P:Prop}(h:P:=by
 have HXN:=lh xn;have HBN:=lh bn;obtain⟨y0,y1,y2,y3,y4⟩:=Jj bn;obtain⟨f0,f1,f2,f3,f4⟩:=XF bn;simp only[List.length_nil,List.length_cons,Nat.zero_add] at y4;have ewN:IntKind.i64.wrap ((N:Int)+1-1)=(N:Int):=wj;clear bn xn;by_cases hiN:i=N
 ·have hiN1:((i:Int) == (N:Int))=true:=by simp[hiN]
  go_upto_region 29 with fail
  have bz:=yC HBN.out ⟨0,0,0,0,none,0,[]⟩;have xz:=JV HXN.out hg7l ⟨0,0,0,0,none,0,[]⟩;change Code.wp _ _ _ _ (ZV wn g7 ⟨0,0,0,0,none,0,[]⟩);clear y0 y1 y2 y3 y4 f0 f1 f2 f3 f4 HS HXN HBN;generalize ZV wn g7 ⟨0,0,0,0,none,0,[]⟩=wn at *;have HXN:=lh xz;have HBN:=lh bz;have HS:=lh (XO.plain wn (op:=0) (x:=0) (y:=0) (n:=0) (by simp[I64]));obtain⟨y0,y1,y2,y3,y4⟩:=Jj bz;simp only[List.length_nil] at y4;clear bz xz;exact c9e
 ·have hiN1:((i:Int) == (N:Int))=false:=by simp;omega
  go_upto_region 29 with fail
  exact c9e):P:=h
theorem c9b {P:Prop}(h:P:=by
 have HXN:=lh xn;have HBN:=lh bn;obtain⟨y0,y1,y2,y3,y4⟩:=Jj bn;obtain⟨f0,f1,f2,f3,f4⟩:=XF bn;simp only[List.length_nil,List.length_cons,Nat.zero_add] at y4;have ewN:IntKind.i64.wrap ((N:Int)+1-1)=(N:Int):=wj;clear bn xn;by_cases hiN:i=N
 ·have hiN1:((i:Int) == (N:Int))=true:=by simp[hiN]
  go_upto_region 29 with fail
  exact c9e
 ·have hiN1:((i:Int) == (N:Int))=false:=by simp;omega
  go_upto_region 29 with fail
  exact c9e):P:=h
def lk (w:World)(e:Ending)(w':World):Prop:=
 ∃(A:Option Addr) (c:Nat) (hs:List Hin) (caps:Int) (rn:Bool),e=.returned (.agg #[.slice A hs.length c,.int .i64 caps,.bool rn])/\GpO w w' A c hs/\1<=hs.length/\hs.length<=12/\0<=caps/\caps<=2/\Ext w w'
theorem Uy {P:Prop} (h:P:=by
 have hE:0<=(k:Int) / 8 % 3/\(k:Int) / 8 % 3<=2:=om
 go_upto_region 15 with fail
 change Code.wp _ _ _ _ ((ZV w8 g7 ⟨1,0,0,0,some ⟨w8.heap.size,0,none⟩,1,[(97,97+(k:Int) / 8 % 3)]⟩).alloc (.cells #[.int .i64 97,.int .i64 (97+(k:Int) / 8 % 3)] 38));have bs:Blk ((ZV w8 g7 ⟨1,0,0,0,some ⟨w8.heap.size,0,none⟩,1,[(97,97+(k:Int) / 8 % 3)]⟩).alloc (.cells #[.int .i64 97,.int .i64 (97+(k:Int) / 8 % 3)] 38)) w8.heap.size 38 #[.int .i64 97,.int .i64 (97+(k:Int) / 8 % 3)]:=by
  have h:=Blk.new (ZV w8 g7 ⟨1,0,0,0,some ⟨w8.heap.size,0,none⟩,1,[(97,97+(k:Int) / 8 % 3)]⟩) 38 #[.int .i64 97,.int .i64 (97+(k:Int) / 8 % 3)];have e:(ZV w8 g7 ⟨1,0,0,0,some ⟨w8.heap.size,0,none⟩,1,[(97,97+(k:Int) / 8 % 3)]⟩).heap.size=w8.heap.size:=by simp[ZV,World.setCell]
  rw[e] at h;exact h
 have bn:=(VC BI ⟨1,0,0,0,some ⟨w8.heap.size,0,none⟩,1,[(97,97+(k:Int) / 8 % 3)]⟩).alloc (.cells #[.int .i64 97,.int .i64 (97+(k:Int) / 8 % 3)] 38);have xn:=(JV EI hg7l ⟨1,0,0,0,some ⟨w8.heap.size,0,none⟩,1,[(97,97+(k:Int) / 8 % 3)]⟩).trans (Ext.alloc _ (.cells #[.int .i64 97,.int .i64 (97+(k:Int) / 8 % 3)] 38));clear y0 y1 y2 y3 y4 f0 f1 f2 f3 f4 z0 z1 q0 hl7 hlq BI EI;generalize ((ZV w8 g7 ⟨1,0,0,0,some ⟨w8.heap.size,0,none⟩,1,[(97,97+(k:Int) / 8 % 3)]⟩).alloc (.cells #[.int .i64 97,.int .i64 (97+(k:Int) / 8 % 3)] 38))=wn at *;generalize w8.heap.size=gs at *;have HS:=lh (XO.sym bs hE);clear bs;obtain⟨y0,y1,y2,y3,y4⟩:=Jj bn;obtain⟨f0,f1,f2,f3,f4⟩:=XF bn;simp only[List.length_nil,List.length_cons,Nat.zero_add] at y4;by_cases h5:(k:Int) / 8 % 5=4
 ·have h5I:((k:Int) / 8 % 5 == 4)=true:=by simp[h5]
  go_upto_region 27 with fail
  have bn2:Blk (wn.setCell ⟨g7,4,none⟩ (.slice none 0 0)) g7 123 (Hin.cs ⟨1,0,0,0,none,0,[]⟩):=by simpa[Hin.cs] using bn.set 4 (.slice none 0 0)
  have xn2:=xn.setNew (p:=⟨g7,4,none⟩) hg7l (.slice none 0 0);clear y0 y1 y2 y3 y4 f0 f1 f2 f3 f4 bn xn HS;generalize wn.setCell ⟨g7,4,none⟩ (.slice none 0 0)=wn at *;have bn:=bn2;have xn:=xn2;have HS:=lh (XO.plain wn (op:=1) (x:=0) (y:=0) (n:=0) (by simp[I64]));clear bn2 xn2;exact c9a
 ·have h5I:((k:Int) / 8 % 5 == 4)=false:=by simp[h5]
  go_upto_region 27 with fail
  clear y0 y1 y2 y3 y4 f0 f1 f2 f3 f4;exact c9a):P:=h
theorem iQ {P:Prop} (h:P:=by
 have r5I:((k:Int) % 8 == 5)=false:=by simp;omega
 have r6I:((k:Int) % 8 == 6)=false:=by simp;omega
 have hm1:0<=((k:Int) / 8).tmod ((N:Int)+1)/\((k:Int) / 8).tmod ((N:Int)+1)<(N:Int)+1:=⟨Int.tmod_nonneg _ om,Int.tmod_lt_of_pos _ om⟩;have hm2:0<=((i:Int)+1).tmod ((N:Int)+1)/\((i:Int)+1).tmod ((N:Int)+1)<(N:Int)+1:=⟨Int.tmod_nonneg _ om,Int.tmod_lt_of_pos _ om⟩;obtain⟨ta,eta⟩:∃t:Int,((i:Int)+1).tmod ((N:Int)+1)=t:=⟨_,rfl⟩;obtain⟨tb,etb⟩:∃t:Int,((k:Int) / 8).tmod ((N:Int)+1)=t:=⟨_,rfl⟩;rw[etb] at hm1;rw[eta] at hm2;have ewk8:IntKind.i64.wrap ((k:Int) / 8)=(k:Int) / 8:=wj;have ewi:IntKind.i64.wrap ((i:Int)+1)=(i:Int)+1:=wj
 go_upto_region 19 with fail
 clear z0 z1 q0 hl7 hlq;clear y0 y1 y2 y3 y4 f0 f1 f2 f3 f4;refine Xr.start [g7] kr ?_;refine Xtk 0 ?_
 iterate 8(refine Xtn ?_)
 refine Xsp 9 fun w9 hE9 hK9 K hKK=>?_;have b9:=BI.ext hE9;obtain⟨y0,y1,y2,y3,y4⟩:=Jj (n:=⟨0,0,0,0,none,0,[]⟩) b9;simp only[List.length_nil] at y4;obtain⟨f0,f1,f2,f3,f4⟩:=XF b9;go_simp;change K _ (ZV w9 g7 ⟨2,ta,tb,0,none,0,[]⟩);refine hKK _ _ (D8 (KpP.refl _ _) (.inl si) _) (IJ hK9 si _) ?_;clear hKK;refine ptm ?_;refine Xdn fun w11 hE11 hK11=>?_;have bz:=(yC (x:=⟨0,0,0,0,none,0,[]⟩) b9 ⟨2,ta,tb,0,none,0,[]⟩).ext hE11;have xz:=(JV (EI.trans hE9) hg7l ⟨2,ta,tb,0,none,0,[]⟩).trans hE11;clear y0 y1 y2 y3 y4 f0 f1 f2 f3 f4 hE9 hK9 hE11 hK11 b9 BI EI;by_cases h16:(k:Int) / 16 % 3=0
 ·have h16I:((k:Int) / 16 % 3 == 0)=true:=by simp[h16]
  go_upto_region 21 with fail
  obtain⟨y0,y1,y2,y3,y4⟩:=Jj bz;obtain⟨f0,f1,f2,f3,f4⟩:=XF bz;clear y0 y1 y2 y3 y4 f0 f1 f2 f3 f4;refine Xr.start [g7] kr ?_;refine Xtk 0 ?_
  iterate 8(refine Xtn ?_)
  refine Xsp 9 fun w13 hE13 hK9 K hKK=>?_;have b9:=bz.ext hE13;obtain⟨y0,y1,y2,y3,y4⟩:=Jj (n:=⟨2,ta,tb,0,none,0,[]⟩) b9;simp only[List.length_nil] at y4;obtain⟨f0,f1,f2,f3,f4⟩:=XF b9;go_simp;change K _ (ZV w13 g7 ⟨2,tb,ta,0,none,0,[]⟩);refine hKK _ _ (D8 (KpP.refl _ _) (.inl si) _) (IJ hK9 si _) ?_;clear hKK;refine ptm ?_;refine Xdn fun w12 hE12 hK11=>?_;have bzz:=(yC (x:=⟨2,ta,tb,0,none,0,[]⟩) b9 ⟨2,tb,ta,0,none,0,[]⟩).ext hE12;have xzz:=(JV (xz.trans hE13) hg7l ⟨2,tb,ta,0,none,0,[]⟩).trans hE12;clear y0 y1 y2 y3 y4 f0 f1 f2 f3 f4 hE13 hK9 hE12 hK11 b9 bz xz;have bz:=bzz;have xz:=xzz;clear bzz xzz;have bn:=bz;have xn:=xz;have HS:=lh (XO.plain w12 (op:=2) (x:=tb) (y:=ta) (n:=0) (by simp only[I64];omega));clear bz xz
  go_upto_region 27 with fail
  generalize w12=wn at *;exact c9b
 ·have h16I:((k:Int) / 16 % 3 == 0)=false:=by simp[h16]
  have bn:=bz;have xn:=xz;have HS:=lh (XO.plain w11 (op:=2) (x:=ta) (y:=tb) (n:=0) (by simp only[I64];omega));clear bz xz
  go_upto_region 27 with fail
  generalize w11=wn at *;exact c9b):P:=h
theorem iW {P:Prop} (h:P:=by
 go_upto_region 27 with fail
 have bn:Blk w8 g7 123 (Hin.cs ⟨0,0,0,0,none,0,[]⟩):=BI;have xn:=EI;have HS:=lh (XO.plain w8 (op:=0) (x:=0) (y:=0) (n:=0) (by simp[I64]));clear y0 y1 y2 y3 y4 f0 f1 f2 f3 f4 z0 z1 q0 hl7 hlq BI EI;generalize w8=wn at *;exact c9b):P:=h
theorem Rx (w:World)(LA:Option Addr)(lc:Nat)(ls:List Int)(hl:IL w LA lc ls) :
 Calls Tryz.prog 19 #[.slice LA ls.length lc] w (lk w):=by
 obtain⟨iI,jI0,jI1,jI2,jI3⟩:=info_parts qM;have hll:=hl.len;have HL:=lh hl;have HP:=fun(i:Nat) (m:Int) (w':World) (x:Ext w w') (h0:1<=m) (h1:m<=4294967296) (hi:i<=9223372036854775807)=>lh (xL LA lc ls i m w' (hl.ext x) h0 h1 hi);clear hl;have BR:=Blk.new w 33 #[.slice none 0 0,.int .i64 0,.bool false];have ER:=Ext.alloc w (.cells #[.slice none 0 0,.int .i64 0,.bool false] 33);go_enter Tryz.func19,Tryz.ntmps19
 go_upto_region 1 with fail
 obtain⟨gr,hgr⟩:∃g,g=w.heap.size:=⟨_,rfl⟩
 rw[<-hgr] at BR ⊢;have hgrl:w.heap.size<=gr:=om;clear hgr;generalize w.alloc (.cells #[.slice none 0 0,.int .i64 0,.bool false] 33)=wa at *;have p0:=VX ls 0 12 om;have p1:=VX ls 1 3 om;have p2:=VX ls 2 3 om;have HP0:∀w',Ext w w'->Hid (Calls Tryz.prog 37 #[.slice LA ls.length lc,.int .i64 0,.int .i64 12] w' (XP (.int .i64 (pick ls 0 12)) w')):=fun w' x=>lh (HP 0 12 w' x om om om).out;have HP1:∀w',Ext w w'->Hid (Calls Tryz.prog 37 #[.slice LA ls.length lc,.int .i64 1,.int .i64 3] w' (XP (.int .i64 (pick ls 1 3)) w')):=fun w' x=>lh (HP 1 3 w' x om om om).out;have HP2:∀w',Ext w w'->Hid (Calls Tryz.prog 37 #[.slice LA ls.length lc,.int .i64 2,.int .i64 3] w' (XP (.int .i64 (pick ls 2 3)) w')):=fun w' x=>lh (HP 2 3 w' x om om om).out;have HPH:=lh HP;clear HP;obtain⟨N,hN⟩:∃N:Nat,pick ls 0 12=N:=⟨(pick ls 0 12).toNat,om⟩;rw[hN] at HP0 p0;have ewn:IntKind.i64.wrap (1+(N:Int))=((N+1:Nat):Int):=wj;clear hN;generalize pick ls 1 3=cp at *;generalize pick ls 2 3=rr at *
 go_upto_region 2 with(go_at_call 37;refine(HP0 _ (by assumption)).out.mono ?_;rintro e w3 ⟨rfl,nq,rfl⟩)
 have x3:=ER.trans (Ext.drewN wa nq);have B3:=BR.ext (Ext.drewN wa nq);clear ER BR HP0;generalize wa.drewN nq=wb at *
 go_upto_region 3 with(first|(have hq:=x4;go_at_call 37;refine(HP2 _ x4).out.mono ?_;rintro e w5 hq5;obtain⟨rfl,y5⟩:=XP.v hq5;have x5:=x4.trans y5;have B5:=B4.ext y5)|(go_at_call 37;refine(HP1 _ x3).out.mono ?_;rintro e w4 hq4;obtain⟨rfl,y4⟩:=XP.v hq4;have x4:=x3.trans y4;have B4:=B3.ext y4))
 have BQ:=Blk.new w5 33 #[.slice none 0 0,.int .i64 cp,.bool (rr == 0)];have E5:=Ext.alloc w5 (.cells #[.slice none 0 0,.int .i64 cp,.bool (rr == 0)] 33);obtain⟨gq,hgq⟩:∃g,g=w5.heap.size:=⟨_,rfl⟩
 rw[<-hgq] at BQ ⊢;have hgql:w5.heap.size<=gq:=om;clear hgq;generalize w5.alloc (.cells #[.slice none 0 0,.int .i64 cp,.bool (rr == 0)] 33)=w6 at *;generalize (rr == 0)=rn at *;have HX5:=lh x5;have HB5:=lh B5;have HBQ:=lh BQ;clear HP1 HP2 x3 x4 y4 y5 B3 B4 x5 B5 BQ
 go_upto_region 4 with fail
 go_loopw [5] (fun v5 wr=>∃(i:Nat) (A:Option Addr) (c:Nat) (hs:List Hin),v5=.int .i64 i/\i<=N+1/\Hid (hs.length=i)/\Hid (Blk wr gq 33 #[.slice A hs.length c,.int .i64 cp,.bool rn])/\Hid (GpO w5 wr A c hs)/\Ext w5 wr) (fun v _=>N+1-(intOf v).toNat)
 case atStart=>exact⟨0,none,0,[],rfl,om,lh rfl,HBQ,lh (GpO.nil _ _),E5⟩
 case round=>
  clear E5 HBQ;obtain⟨i,A,c,hs,rfl,hi,HLN,HBG,HGO,x1⟩:=hrel;by_cases hlt:i<N+1
  ·have hiI:(i:Int)<(N:Int)+1:=om;have ewk:IntKind.i64.wrap (3+(i:Int))=3+(i:Int):=wj;have hpk:=VX ls (3+i) 1048576 om;have HPK:Hid (Calls Tryz.prog 37 #[.slice LA ls.length lc,.int .i64 (3+(i:Int)),.int .i64 1048576] wr (XP (.int .i64 (pick ls (3+i) 1048576)) wr)):=lh (by
    have h:=(HPH.out (3+i) 1048576 wr (HX5.out.trans x1) om om om).out
    simpa[Int.natCast_add] using h)
   obtain⟨k,hk⟩:∃k:Nat,pick ls (3+i) 1048576=k:=⟨(pick ls (3+i) 1048576).toNat,om⟩;rw[hk] at HPK hpk;clear hk
   go_upto_region 7 with(go_at_call 37;refine HPK.out.mono ?_;rintro e w7 hq7;obtain⟨rfl,y7⟩:=XP.v hq7)
   clear HPK ewk;have BI:=Blk.new w7 123 #[.int .i64 0,.int .i64 0,.int .i64 0,.int .i64 0,.slice none 0 0];have EI:=Ext.alloc w7 (.cells #[.int .i64 0,.int .i64 0,.int .i64 0,.int .i64 0,.slice none 0 0] 123)
   go_upto_region 8 with fail
   obtain⟨g7,hg7⟩:∃g,g=w7.heap.size:=⟨_,rfl⟩
   rw[<-hg7] at BI ⊢;have hg7l:w7.heap.size<=g7:=om;clear hg7;generalize w7.alloc (.cells #[.int .i64 0,.int .i64 0,.int .i64 0,.int .i64 0,.slice none 0 0] 123)=w8 at *;obtain⟨y0,y1,y2,y3,y4⟩:w8.cell? ⟨g7,0,none⟩=some (.int .i64 0)/\w8.cell? ⟨g7,1,none⟩=some (.int .i64 0)/\w8.cell? ⟨g7,2,none⟩=some (.int .i64 0)/\w8.cell? ⟨g7,3,none⟩=some (.int .i64 0)/\w8.cell? ⟨g7,4,none⟩=some (.slice none 0 0):=⟨BI.cell 0,BI.cell 1,BI.cell 2,BI.cell 3,BI.cell 4⟩;obtain⟨f0,f1,f2,f3,f4⟩:=XF BI;have y78:=y7.trans EI;have HB8:=lh (HBG.out.ext y78);have z0:w8.cell? ⟨gq,0,none⟩=some (.slice A hs.length c):=HB8.out.cell 0;have z1:w8.cell? ⟨gq,1,none⟩=some (.int .i64 cp):=HB8.out.cell 1;have q0:=HB8.out.frz 0;have hl7:=BI.lt;have hlq:=HB8.out.lt;have hk8:k % 8=0\/k % 8=1\/k % 8=2\/k % 8=3\/k % 8=4\/k % 8=5\/k % 8=6\/k % 8=7:=om;have hnz:((N:Int)+1 == 0)=false:=by simp;omega
   have hnz2:¬((N:Int)+1=0):=om;rcases hk8 with r0|r0|r0|r0|r0|r0|r0|r0
   ·have r0I:((k:Int) % 8 == 0)=true:=by simp;omega
    exact Uy
   ·have r0I:((k:Int) % 8 == 0)=false:=by simp;omega
    have r1I:((k:Int) % 8 == 1)=true:=by simp;omega
    exact Uy
   ·have r0I:((k:Int) % 8 == 0)=false:=by simp;omega
    have r1I:((k:Int) % 8 == 1)=false:=by simp;omega
    have r2I:((k:Int) % 8 == 2)=true:=by simp;omega
    exact Uy
   ·have r0I:((k:Int) % 8 == 0)=false:=by simp;omega
    have r1I:((k:Int) % 8 == 1)=false:=by simp;omega
    have r2I:((k:Int) % 8 == 2)=false:=by simp;omega
    have r3I:((k:Int) % 8 == 3)=true:=by simp;omega
    have r4I:((k:Int) % 8 == 4)=false:=by simp;omega
    exact iQ
   ·have r0I:((k:Int) % 8 == 0)=false:=by simp;omega
    have r1I:((k:Int) % 8 == 1)=false:=by simp;omega
    have r2I:((k:Int) % 8 == 2)=false:=by simp;omega
    have r3I:((k:Int) % 8 == 3)=false:=by simp;omega
    have r4I:((k:Int) % 8 == 4)=true:=by simp;omega
    exact iQ
   ·have r0I:((k:Int) % 8 == 0)=false:=by simp;omega
    have r1I:((k:Int) % 8 == 1)=false:=by simp;omega
    have r2I:((k:Int) % 8 == 2)=false:=by simp;omega
    have r3I:((k:Int) % 8 == 3)=false:=by simp;omega
    have r4I:((k:Int) % 8 == 4)=false:=by simp;omega
    have r5I:((k:Int) % 8 == 5)=true:=by simp;omega
    have r6I:((k:Int) % 8 == 6)=false:=by simp;omega
    have hm1:0<=(k:Int) / 8 % ((N:Int)+1)/\(k:Int) / 8 % ((N:Int)+1)<(N:Int)+1:=⟨Int.emod_nonneg _ om,Int.emod_lt_of_pos _ om⟩;have hm2:0<=((i:Int)+1) % ((N:Int)+1)/\((i:Int)+1) % ((N:Int)+1)<(N:Int)+1:=⟨Int.emod_nonneg _ om,Int.emod_lt_of_pos _ om⟩
    go_upto_region 27 with fail
    have bz:=VC BI ⟨3,((k:Int) / 8 % ((N:Int)+1)),0,0,none,0,[]⟩;have xz:=JV EI hg7l ⟨3,((k:Int) / 8 % ((N:Int)+1)),0,0,none,0,[]⟩;change Code.wp _ _ _ _ (ZV w8 g7 ⟨3,((k:Int) / 8 % ((N:Int)+1)),0,0,none,0,[]⟩);clear y0 y1 y2 y3 y4 f0 f1 f2 f3 f4 z0 z1 q0 hl7 hlq BI EI;generalize ZV w8 g7 ⟨3,((k:Int) / 8 % ((N:Int)+1)),0,0,none,0,[]⟩=wn at *;have bn:=bz;have xn:=xz;have HS:=lh (XO.plain wn (op:=3) (x:=((k:Int) / 8 % ((N:Int)+1))) (y:=0) (n:=0) (by simp only[I64];omega));clear bz xz;exact c9b
   ·have r0I:((k:Int) % 8 == 0)=false:=by simp;omega
    have r1I:((k:Int) % 8 == 1)=false:=by simp;omega
    have r2I:((k:Int) % 8 == 2)=false:=by simp;omega
    have r3I:((k:Int) % 8 == 3)=false:=by simp;omega
    have r4I:((k:Int) % 8 == 4)=false:=by simp;omega
    have r5I:((k:Int) % 8 == 5)=false:=by simp;omega
    have r6I:((k:Int) % 8 == 6)=true:=by simp;omega
    by_cases hc0:0<cp
    ·have ew2:IntKind.i64.wrap (2*cp)=2*cp:=wj;have hz2:(2*cp == 0)=false:=by simp;omega
     have hz3:¬(2*cp=0):=om;have hm1:0<=(k:Int) / 8 % (2*cp)/\(k:Int) / 8 % (2*cp)<2*cp:=⟨Int.emod_nonneg _ om,Int.emod_lt_of_pos _ om⟩
     go_upto_region 27 with fail
     have bz:=VC BI ⟨4,0,0,((k:Int) / 8 % (2*cp)),none,0,[]⟩;have xz:=JV EI hg7l ⟨4,0,0,((k:Int) / 8 % (2*cp)),none,0,[]⟩;change Code.wp _ _ _ _ (ZV w8 g7 ⟨4,0,0,((k:Int) / 8 % (2*cp)),none,0,[]⟩);clear y0 y1 y2 y3 y4 f0 f1 f2 f3 f4 z0 z1 q0 hl7 hlq BI EI;generalize ZV w8 g7 ⟨4,0,0,((k:Int) / 8 % (2*cp)),none,0,[]⟩=wn at *;have bn:=bz;have xn:=xz;have HS:=lh (XO.plain wn (op:=4) (x:=0) (y:=0) (n:=((k:Int) / 8 % (2*cp))) (by simp only[I64];omega));clear bz xz;exact c9a
    ·exact iW
   ·have r0I:((k:Int) % 8 == 0)=false:=by simp;omega
    have r1I:((k:Int) % 8 == 1)=false:=by simp;omega
    have r2I:((k:Int) % 8 == 2)=false:=by simp;omega
    have r3I:((k:Int) % 8 == 3)=false:=by simp;omega
    have r4I:((k:Int) % 8 == 4)=false:=by simp;omega
    have r5I:((k:Int) % 8 == 5)=false:=by simp;omega
    have r6I:((k:Int) % 8 == 6)=false:=by simp;omega
    by_cases h3:0<(k:Int) / 8 % 3
    ·go_upto_region 27 with fail
     have bz:=VC BI ⟨5,0,0,((k:Int) / 8 % 6),none,0,[]⟩;have xz:=JV EI hg7l ⟨5,0,0,((k:Int) / 8 % 6),none,0,[]⟩;change Code.wp _ _ _ _ (ZV w8 g7 ⟨5,0,0,((k:Int) / 8 % 6),none,0,[]⟩);clear y0 y1 y2 y3 y4 f0 f1 f2 f3 f4 z0 z1 q0 hl7 hlq BI EI;generalize ZV w8 g7 ⟨5,0,0,((k:Int) / 8 % 6),none,0,[]⟩=wn at *;have bn:=bz;have xn:=xz;have HS:=lh (XO.plain wn (op:=5) (x:=0) (y:=0) (n:=((k:Int) / 8 % 6)) (by simp only[I64];omega));clear bz xz;exact c9a
    ·exact iW
  ·have hiI:¬(i:Int)<(N:Int)+1:=om;have BRr:=HB5.out.ext x1;have zz0:wr.cell? ⟨gq,0,none⟩=some (.slice A hs.length c):=HBG.out.cell 0;have zz1:wr.cell? ⟨gq,1,none⟩=some (.int .i64 cp):=HBG.out.cell 1;have zz2:wr.cell? ⟨gq,2,none⟩=some (.bool rn):=HBG.out.cell 2;obtain⟨y0,y1,y2,f0,f1,f2,_⟩:=BRr.c3
   go_wp2_with fail
   have b9:=JL BRr A hs.length c cp rn;have x9:=JM (HX5.out.trans x1) hgrl A hs.length c cp rn;have G9:=(HGO.out.kp (Xv (p:=(·=gr)) (KpP.refl _ wr) rfl A hs.length c cp rn) (fun b hb e=>by have e2:b=gr:=e;subst e2;exact QK HGO.out.own BRr de hb) (fun b cur hb=>Ry BRr de hb)).low HX5.out.size;change bodyPost _ _ _ _ _ (Kq wr gr A hs.length c cp rn);generalize Kq wr gr A hs.length c cp rn=w9 at *;obtain⟨r0,r1,r2,_⟩:=b9.c3;refine bodyPost_ret (v:=.agg #[.slice A hs.length c,.int .i64 cp,.bool rn]) (by simp[results,Tryz.results19,go_sem,r0,r1,r2]) rfl ⟨A,c,hs,cp,rn,rfl,G9,by rw[HLN.out];omega,by rw[HLN.out];omega,om,om,x9⟩
theorem iZ:(Tryz.prog.info? 126).map (fun i=>(i.zero,i.size,i.bytes))=some (some (.agg #[.int .i64 0,.int .i64 0,.int .i64 0,.int .i64 0,.slice none 0 0]),5,56):=by kernel_rfl
def lv (hs:List Hin)(caps:Int)(rn:Bool)(w:World)(e:Ending)(w':World):Prop:=
 ∃(A:Option Addr) (c:Nat),e=.returned (.agg #[.slice A hs.length c,.int .i64 caps,.bool rn])/\PL w' A c hs/\Ext w w'
theorem IK (w:World)(A:Option Addr)(c:Nat)(hs:List Hin)(caps:Int)(rn:Bool)(hP:PL w A c hs)(hl:hs.length<=1000) :
 Calls Tryz.prog 21 #[.agg #[.slice A hs.length c,.int .i64 caps,.bool rn]] w (lv hs caps rn w):=by
 obtain⟨B1,B2,E0⟩:=FB w 33 #[.slice A hs.length c,.int .i64 caps,.bool rn] 48 #[.slice none 0 0,.int .i64 0,.bool false];obtain⟨iP,jP0,jP1,jP2,jP3⟩:=info_parts iZ;have hlen:=hP.len;have HP:=lh hP;clear hP;go_enter Tryz.func21,Tryz.ntmps21
 go_upto_region 1 with fail
 obtain⟨g1,hg1⟩:∃g,g=w.heap.size:=⟨_,rfl⟩;obtain⟨g2,hg2e⟩:∃g,g=w.heap.size+1:=⟨_,rfl⟩
 rw[<-hg2e] at B2 ⊢
 rw[<-hg1] at B1 ⊢;have hg2:w.heap.size<=g2:=om;clear hg1 hg2e;generalize ((w.alloc (.cells #[.slice A hs.length c,.int .i64 caps,.bool rn] 33)).alloc (.cells #[.slice none 0 0,.int .i64 0,.bool false] 48))=wa at *;obtain⟨z0,z1,z2,_⟩:=B1.c3;have EB:=Ext.alloc wa (.cells #[.slice none 0 0,.int .i64 caps,.bool rn] 48);have BB:=Blk.new wa 48 #[.slice none 0 0,.int .i64 caps,.bool rn]
 go_upto_region 3 with fail
 obtain⟨g3,hg3⟩:∃g,g=wa.heap.size:=⟨_,rfl⟩
 rw[<-hg3] at BB ⊢;have hg3l:wa.heap.size<=g3:=om;clear hg3;generalize wa.alloc (.cells #[.slice none 0 0,.int .i64 caps,.bool rn] 48)=wb at *;have HX0:=lh E0;have HB2:=lh B2;have HB1:=lh B1;have HBB:=lh BB;clear E0 B1 B2 BB z0 z1 z2
 go_loopw [4] (fun v4 wr=>∃(i:Nat) (A5:Option Addr) (c5:Nat),v4=.int .i64 i/\i<=hs.length/\Hid (Blk wr g3 48 #[.slice A5 i c5,.int .i64 caps,.bool rn])/\Hid (QQ wr wa.heap.size 126 5 A5 i c5 (QT (hs.take i)))/\Ext wa wr) (fun v _=>hs.length-(intOf v).toNat)
 case atStart=>exact⟨0,none,0,rfl,om,HBB,lh (by simpa[QT] using QQ.nil _ _ _ _),EB⟩
 case round=>
  obtain⟨i,A5,c5,rfl,hi,HB3,HO,x1⟩:=hrel;have hcc:=QQ.caps HO.out;have y0:wr.cell? ⟨g1,0,none⟩=some (.slice A hs.length c):=(HB1.out.ext x1).cell 0;by_cases hlt:i<hs.length
  ·have hiI:(i:Int)<(hs.length:Int):=om;obtain⟨b,o,hA,k0,k1,k2,k3,k4⟩:=(HP.out.ext (HX0.out.trans x1)).get hlt;have HA:=lh hA;rw[hA] at y0;clear hA;obtain⟨h,hh⟩:∃h,h=hs[i]:=⟨_,rfl⟩
   rw[<-hh] at k0 k1 k2 k3 k4;have HH:Hid (hs.take (i+1)=hs.take i++[h]):=lh (by rw[hh,List.take_succ_eq_append_getElem hlt]);clear hh;have EI:=Ext.alloc wr (.cells #[.int .i64 h.op,.int .i64 h.x,.int .i64 h.y,.int .i64 h.n,.slice h.A h.l.length h.c] 123);have BI:=Blk.new wr 123 #[.int .i64 h.op,.int .i64 h.x,.int .i64 h.y,.int .i64 h.n,.slice h.A h.l.length h.c]
   go_upto_region 6 with fail
   obtain⟨gI,hgI⟩:∃g,g=wr.heap.size:=⟨_,rfl⟩
   rw[<-hgI] at BI ⊢;clear hgI;generalize wr.alloc (.cells #[.int .i64 h.op,.int .i64 h.x,.int .i64 h.y,.int .i64 h.n,.slice h.A h.l.length h.c] 123)=wi at *;obtain⟨u0,u1,u2,u3,u4⟩:=Jj (n:=h) BI;have HB3i:=lh (HB3.out.ext EI);have HOi:=lh (QQ.ext HO.out EI);have HNE:=lh (QK HOi.out HB3i.out de);have s0:wi.cell? ⟨g3,0,none⟩=some (.slice A5 i c5):=HB3i.out.cell 0;have HXi:=lh (x1.trans EI);clear k0 k1 k2 k3 k4 BI y0 EI x1
   go_upto_region 4 with(at_builtin;refine Qv _ rfl _ _ _ rfl wa.heap.size 126 iP _ 5 56 Tryz.underlying46 jP0 jP1 jP2 jP3 rfl om A5 i c5 (QT (hs.take i)) rfl (QQ.ext HOi.out (Ext.alloc _ _)) _ 1 1 (QT [h]) rfl rfl (KV (Blk.new _ _ _)) (vJ _) um om (Nat.le_trans HXi.out.size (Ext.alloc _ _).size) ?_;intro A8 c8 w8 ho8 hg8 hat8;have hb8:=(KpP.of_grown hg8).blk (HB3i.out.alloc _) HNE.out;have HB8:=lh hb8;have HO8:=lh ho8;have HX8:=lh (((HXi.out.trans (Ext.alloc _ _)).grown hg8 (QQ.row HOi.out)));have s8:w8.cell? ⟨g3,0,none⟩=some (.slice A5 i c5):=hb8.cell 0;have sf8:=hb8.frz 0;clear ho8 hg8 hat8 hb8)
   have B9:Blk (w8.setCell ⟨g3,0,none⟩ (.slice A8 (i+1) c8)) g3 48 #[.slice A8 (i+1) c8,.int .i64 caps,.bool rn]:=by simpa using HB8.out.set 0 (.slice A8 (i+1) c8)
   have O9:=QQ.far HO8.out (p:=⟨g3,0,none⟩) (QK HO8.out HB8.out de) (.slice A8 (i+1) c8);have X9:=HX8.out.setNew (p:=⟨g3,0,none⟩) hg3l (.slice A8 (i+1) c8)
   rw[<-qE,<-HH.out] at O9;clear s8 sf8 HB8 HO8 HX8 s0 u0 u1 u2 u3 u4;generalize w8.setCell ⟨g3,0,none⟩ (.slice A8 (i+1) c8)=w9 at *;have B9:=lh B9;have O9:=lh O9
   go_wp2_with fail
   go_roundw
   case rel=>exact⟨i+1,A8,c8,by go_num,om,B9,O9,X9⟩
   case measure=>simp[intOf];omega
  ·have hiI:¬(i:Int)<(hs.length:Int):=om;have e:i=hs.length:=om;subst e;have HO2:=lh HO.out;rw[List.take_length] at HO2;obtain⟨s0,s1,s2,_⟩:=HB3.out.c3;have B2r:=HB2.out.ext x1;obtain⟨y0,y1,y2,f0,f1,f2,_⟩:=B2r.c3
   go_wp2_with fail
   have b9:=JL B2r A5 hs.length c5 caps rn;have x9:=JM (HX0.out.trans x1) hg2 A5 hs.length c5 caps rn;have o9:=QQ.kp HO2.out (Xv (p:=(·=g2)) (KpP.refl _ wr) rfl A5 hs.length c5 caps rn) (fun b hb e=>by have e2:b=g2:=e;subst e2;exact QK HO2.out B2r de hb);change bodyPost _ _ _ _ _ (Kq wr g2 A5 hs.length c5 caps rn);generalize Kq wr g2 A5 hs.length c5 caps rn=w9 at *;obtain⟨r0,r1,r2,_⟩:=b9.c3;refine bodyPost_ret (v:=.agg #[.slice A5 hs.length c5,.int .i64 caps,.bool rn]) (by simp[results,Tryz.results21,go_sem,r0,r1,r2]) rfl ⟨A5,c5,rfl,PL.of_own o9 HP.out.rng (fun z hz=>(HP.out.sl z hz).ext x9),x9⟩
end
