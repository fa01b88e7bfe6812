/- Texts of this proof: Y9. -/
import Derived.Test.YtmocoldobnimfaaGreatMS18
set_option linter.all false
set_option maxRecDepth 100000
set_option maxHeartbeats 16000000
namespace Go.Proofs.YtmocoldobnimfaaGreat
section
open Go.RowKit
attribute [local go_sem ↓] Go.wp_at_zero Go.wp_at_succ
structure JA (w:World)(g:Nat)(m:Ma)(nc:Nat)(strt:List Sp):Prop where
 at_:V9 w g m
 ok:VB nc m
 st:SL w m.rA m.rc strt
 rn:m.rn=strt.length
 sl:strt.length<=1000000
 srt:strt.Pairwise (fun a b=>a.1<=b.1)
 ol:m.opn.length=m.next.length
 ncl:nc<=1000000
theorem JA.ext {w w':World}{g nc:Nat}{m:Ma}{strt:List Sp}(h:JA w g m nc strt)(k:Ext w w'):JA w' g m nc strt:=⟨h.at_.ext k,h.ok,h.st.ext k,h.rn,h.sl,h.srt,h.ol,h.ncl⟩
def qO (strt:List Sp)(nc:Nat)(cf:Int->Nat)(ts:List Int):Prop:=∀x∈ts,jO strt x (cf x)/\cf x<nc
def YN (m:Ma)(g:Nat)(cl:List Nat)(w:World)(e:Ending)(w':World):Prop:=∃(gs:Nat) (s:Sm),e=.returned (.pointer (some ⟨gs,0,none⟩))/\Kw w' gs s/\JQ m g cl s/\Ext w w'
structure WhI (wr w0:World)(g N n gs b1 b2 b3 b4:Nat)(t l s e:List Int):Prop where
 bs:Blk wr gs 154 #[.pointer (some ⟨g,0,none⟩),.int .i64 n,.slice (some ⟨b1,0,none⟩) N N,.slice (some ⟨b2,0,none⟩) N N,.slice (some ⟨b3,0,none⟩) n n,.slice (some ⟨b4,0,none⟩) n n]
 k1:Blk wr b1 21 (W0 t)
 k2:Blk wr b2 21 (W0 l)
 k3:Blk wr b3 21 (W0 s)
 k4:Blk wr b4 21 (W0 e)
 nd:[gs,b1,b2,b3,b4].Nodup
 lo:∀b∈[gs,b1,b2,b3,b4],w0.heap.size<=b
namespace WhI
variable {wr w' w0:World} {g N n gs b1 b2 b3 b4:Nat} {t l s e:List Int}
theorem ext (h:WhI wr w0 g N n gs b1 b2 b3 b4 t l s e)(x:Ext wr w'):WhI w' w0 g N n gs b1 b2 b3 b4 t l s e:=⟨h.bs.ext x,h.k1.ext x,h.k2.ext x,h.k3.ext x,h.k4.ext x,h.nd,h.lo⟩
theorem ne (h:WhI wr w0 g N n gs b1 b2 b3 b4 t l s e):gs≠b1/\gs≠b2/\gs≠b3/\gs≠b4/\b1≠b2/\b1≠b3/\b1≠b4/\b2≠b3/\b2≠b4/\b3≠b4:=by
 have:=h.nd;simp only[List.nodup_cons,List.mem_cons,List.not_mem_nil,or_false,not_or,List.nodup_nil,not_false_eq_true,and_true] at this;omega
theorem low (h:WhI wr w0 g N n gs b1 b2 b3 b4 t l s e):w0.heap.size<=gs/\w0.heap.size<=b1/\w0.heap.size<=b2/\w0.heap.size<=b3/\w0.heap.size<=b4:=
 ⟨h.lo gs si,h.lo b1 si,h.lo b2 si,h.lo b3 si,h.lo b4 si⟩
theorem set1 (h:WhI wr w0 g N n gs b1 b2 b3 b4 t l s e)(i:Nat)(x:Int):WhI (wr.setCell ⟨b1,i,none⟩ (.int .i32 x)) w0 g N n gs b1 b2 b3 b4 (t.set i x) l s e:=by
 obtain⟨n1,n2,n3,n4,n5,n6,n7,n8,n9,n10⟩:=h.ne;refine⟨h.bs.far n1 _,?_,h.k2.far n5.symm _,h.k3.far n6.symm _,h.k4.far n7.symm _,h.nd,h.lo⟩
 rw[<-YM];exact h.k1.set i _
theorem set2 (h:WhI wr w0 g N n gs b1 b2 b3 b4 t l s e)(i:Nat)(x:Int):WhI (wr.setCell ⟨b2,i,none⟩ (.int .i32 x)) w0 g N n gs b1 b2 b3 b4 t (l.set i x) s e:=by
 obtain⟨n1,n2,n3,n4,n5,n6,n7,n8,n9,n10⟩:=h.ne;refine⟨h.bs.far n2 _,h.k1.far n5 _,?_,h.k3.far n8.symm _,h.k4.far n9.symm _,h.nd,h.lo⟩
 rw[<-YM];exact h.k2.set i _
theorem set3 (h:WhI wr w0 g N n gs b1 b2 b3 b4 t l s e)(i:Nat)(x:Int):WhI (wr.setCell ⟨b3,i,none⟩ (.int .i32 x)) w0 g N n gs b1 b2 b3 b4 t l (s.set i x) e:=by
 obtain⟨n1,n2,n3,n4,n5,n6,n7,n8,n9,n10⟩:=h.ne;refine⟨h.bs.far n3 _,h.k1.far n6 _,h.k2.far n8 _,?_,h.k4.far n10.symm _,h.nd,h.lo⟩
 rw[<-YM];exact h.k3.set i _
theorem set4 (h:WhI wr w0 g N n gs b1 b2 b3 b4 t l s e)(i:Nat)(x:Int):WhI (wr.setCell ⟨b4,i,none⟩ (.int .i32 x)) w0 g N n gs b1 b2 b3 b4 t l s (e.set i x):=by
 obtain⟨n1,n2,n3,n4,n5,n6,n7,n8,n9,n10⟩:=h.ne;refine⟨h.bs.far n4 _,h.k1.far n7 _,h.k2.far n9 _,h.k3.far n10 _,?_,h.nd,h.lo⟩
 rw[<-YM];exact h.k4.set i _
theorem of_blank {w:World}{e0:Ending}(h:MN g N n w e0 w'):∃gs b1 b2 b3 b4:Nat,e0=.returned (.pointer (some ⟨gs,0,none⟩))/\WhI w' w g N n gs b1 b2 b3 b4 (List.replicate N 0) (List.replicate N 0) (List.replicate n 0) (List.replicate n 0)/\Ext w w':=by
 obtain⟨gs,b1,b2,b3,b4,he,x,hs,h1,h2,h3,h4,hlo,hnd⟩:=h
 rw[<-MP] at h1 h2 h3 h4;exact⟨gs,b1,b2,b3,b4,he,⟨hs,h1,h2,h3,h4,hnd,hlo⟩,x⟩
theorem sum {m:Ma}{nc:Nat}{cl:List Nat}(ok:VB nc m)(hc:∀c∈cl,c<nc)(hcl:cl.length<=1000000)(h:WhI wr w0 g m.next.length cl.length gs b1 b2 b3 b4 (upF (tgF m cl) m.next.length) (upF (laF m cl) m.next.length) (upF (stF m cl) cl.length) (upF (enF m cl) cl.length)) :
 ∃s,Kw wr gs s/\JQ m g cl s:=by
 have hN:=ok.len;have hr:∀{f:Nat->Int} {n:Nat},(∀i,i<n->-1<=f i/\f i<=1000000)->∀x∈upF f n,I32 x:=fun hf x hx=>by
  obtain⟨i,hi,rfl⟩:=LH hx;have:=hf i hi;unfold I32;omega
 have hk:∀{f:Nat->Int} {n b:Nat},Blk wr b 21 (W0 (upF f n))->(∀i,i<n->-1<=f i/\f i<=1000000)->n<=1000000->KL wr (some ⟨b,0,none⟩) n (upF f n):=fun{f n b} hb hf hn=>by
  have:=KL.of_blk hb (hr hf) (by rw[Wz];unfold maxLen;omega);rw[Wz] at this;exact this
 refine⟨⟨g,cl.length,some ⟨b1,0,none⟩,m.next.length,upF (tgF m cl) m.next.length,some ⟨b2,0,none⟩,m.next.length,upF (laF m cl) m.next.length,some ⟨b3,0,none⟩,cl.length,upF (stF m cl) cl.length,some ⟨b4,0,none⟩,cl.length,upF (enF m cl) cl.length⟩,⟨?_,?_,?_,?_,?_,fun A hA b e=>?_⟩,⟨rfl,rfl,rfl,rfl,rfl,rfl⟩⟩
 ·unfold By;simp only[Wz];exact h.bs
 ·exact hk (f:=tgF m cl) (n:=m.next.length) h.k1 (fun i hi=>by have:=BO ok hc hi;omega) hN
 ·exact hk (f:=laF m cl) (n:=m.next.length) h.k2 (fun i hi=>by have:=LI (m:=m) (cl:=cl) i;omega) hN
 ·exact hk (f:=stF m cl) (n:=cl.length) h.k3 (fun i hi=>by have:=jK ok hc i;omega) hcl
 ·exact hk (f:=enF m cl) (n:=cl.length) h.k4 (fun i hi=>by have:=jV (m:=m) (cl:=cl) (k:=i) om;omega) hcl
 ·simp only[List.mem_cons,List.not_mem_nil,or_false] at hA;rcases hA with rfl|rfl|rfl|rfl<;>cases e<;>first|exact⟨_,h.k1⟩|exact⟨_,h.k2⟩|exact⟨_,h.k3⟩|exact⟨_,h.k4⟩
end WhI
theorem Kz (f:Nat->Int)(i n:Nat):(WQ f i n).length=n:=by simp[WQ,upF]
theorem fX (m:Ma)(cl:List Nat)(i:Nat):VP (Wq m.next) m.done ((Q3 cl).drop 0) 0 (i:Int) (-1)=(tgF m cl i,laF m cl i):=by
 rw[List.drop_zero,vB];rfl
theorem fY (m:Ma)(cl:List Nat)(k:Nat):VP (Wq m.next) m.done ((Q3 cl).drop k) k m.first (Jx m.dn m.first k)=(stF m cl k,enF m cl k):=by
 have e:(Q3 cl).drop k=Q3 (cl.drop k):=by simp[Q3,List.map_drop]
 rw[e,vB];rfl
def Wy (l:List Int):Array Value:=(l.map (Value.int .i64)).toArray
theorem zz (l:List Int)(i:Nat)(x:Int):(Wy l).setIfInBounds i (.int .i64 x)=Wy (l.set i x):=by simp[Wy,List.map_set]
def clF (cf:Int->Nat)(ts:List Int)(k:Nat):Int:=(cf (ts.getD k 0):Nat)
theorem bE (cf:Int->Nat)(ts:List Int):upF (clF cf ts) ts.length=Q3 (ts.map cf):=by
 apply List.ext_getElem
 ·simp[upF,Q3]
 ·intro j h1 h2;have hj:j<ts.length:=by simpa[upF] using h1
  simp[upF,Q3,clF,List.getD_eq_getElem?_getD,hj]
theorem fq {P:Prop} (h:P:=by
 clear c6 f6 c7 f7 W6 W7 W8
 go_wp2_with fail
 go_roundw
 case rel=>exact⟨i+1,by go_num,om,HW8,y8⟩
 case measure=>simp[intOf];omega):P:=h
theorem fz {P:Prop} (h:P:=by
 go_upto_region 17 with fail
 refine Xr.start [] kr ?_;refine Xtk 0 ?_
 iterate 5(refine Xtn ?_)
 iterate 10(first|refine Xtn ?_|refine Xsn ?_)
 refine Xtn ?_;refine Xdn fun w9 hE9 hK9=>?_;have HRN:=fun(w':World) (x:Ext w9 w')=>HRN w' (hE9.trans x);have HW:=lh (HW.out.ext hE9);have y1:=y1.trans hE9;have j4:=fun(w':World) (h:Kp [b3,b4] w9 w')=>h.cell (HW.out.bs.cell 4) (by simp[n3,n4]);have j5:=fun(w':World) (h:Kp [b3,b4] w9 w')=>h.cell (HW.out.bs.cell 5) (by simp[n3,n4]);have jf:=fun(w':World) (h:Kp [b3,b4] w9 w')=>h.cell (hE9.cell c2) (by simp[n5,n6])
 go_upto_region 19 with fail
 refine Xr.start [b3,b4] kr ?_;refine Xtk 0 ?_
 iterate 17(refine Xtn ?_)
 refine Xcl 18 fun w4 hE4 hK4 K hKK=>?_;go_simp;refine(HRN w4 hE4).out.mono ?_;rintro e w5 ⟨rfl,x5⟩;refine hKK _ _ x5 ?_;clear hKK;refine ptm ?_;refine Xtk 19 ?_
 iterate 3(refine Xtn ?_)
 have E45:=hE4.trans x5;refine Xsp 23 fun w6 hE6 hK6 K hKK=>?_;have W6:=HW.out.ext (E45.trans hE6);have c6:=W6.k3.cellK (i:=i) (by rw[Kz];exact hlt3);have f6:=W6.k3.frz i;go_simp;refine hKK _ _ (QM (Q4 _ _ _) List.mem_cons_self _ _) (hK6.setL List.mem_cons_self _ _) ?_;clear hKK;refine ptm ?_;refine Xtk 24 ?_;refine Xsp 25 fun w7 hE7 hK7 K hKK=>?_;have W7:=(W6.set3 i (stF m (ts.map cf) i)).ext hE7;have c7:=W7.k4.cellK (i:=i) (by rw[Kz];exact hlt3);have f7:=W7.k4.frz i;go_simp;refine hKK _ _ (QM (Q4 _ _ _) (List.mem_cons_of_mem _ List.mem_cons_self) _ _) (hK7.setL (List.mem_cons_of_mem _ List.mem_cons_self) _ _) ?_;clear hKK;refine ptm ?_;refine Xdn fun w8 hE8 hK8=>?_;have W8:=(W7.set4 i (enF m (ts.map cf) i)).ext hE8;rw[Jk,Jk] at W8;have HW8:=lh W8;have y8:Ext wa w8:=((((y1.trans (E45.trans hE6)).setNew (p:=⟨b3,i,none⟩) l3 _).trans hE7).setNew (p:=⟨b4,i,none⟩) l4 _).trans hE8;exact fq):P:=h
theorem fj {P:Prop} (h:P:=by
 have HRN:=fun(w':World) (x:Ext wr w')=>lh (by have h9:=(HRN0 w' x).out;rw[HV.out] at h9;exact h9);clear HRN0;exact fz):P:=h
theorem Dy (w:World)(g:Nat)(m:Ma)(nc:Nat)(strt:List Sp)(hM:JA w g m nc strt)(cf:Int->Nat)(T:Option Addr)(tc:Nat)(ts:List Int)(hT:IL w T tc ts)(htl:ts.length<=1000000)(hcf:qO strt nc cf ts) :
 Calls Tryz.prog 87 #[.pointer (some ⟨g,0,none⟩),.slice T ts.length tc] w (YN m g (ts.map cf) w):=by
 have hcap:=hT.len;have hN:=hM.ok.len;have hdl:=hM.ok.dl;obtain⟨hf0,hf1⟩:=hM.ok.first;obtain⟨fi,hfi⟩:∃fi,Hid (m.first=fi):=⟨_,lh rfl⟩;rw[hfi.out] at hf0 hf1;have HM:=lh hM;have HT:=lh hT;have HCF:=lh hcf;have HCN:Hid (∀c∈ts.map cf,c<nc):=lh (fun c hc=>by obtain⟨x,hx,rfl⟩:=List.mem_map.1 hc;exact(hcf x hx).2);have HCL:Hid ((ts.map cf).length=ts.length):=lh si;have HNL:Hid ((Q3 (ts.map cf)).length=ts.length):=lh (by simp[Q3]);have HBK:=fun(w':World) (x:Ext w w')=>lh (Dk w' g m nc (HM.out.at_.ext x) HM.out.ok ts.length htl);have hmk:=O7 ts.length htl;have HDL:=lh hdl;clear hM hT hcf hdl;go_enter Tryz.func87,Tryz.ntmps87
 go_upto_region 2 with fail
 have BC0:=Blk.new w 3 (Array.replicate ts.length (.int .i64 0));have EC0:=Ext.alloc w (.cells (Array.replicate ts.length (.int .i64 0)) 3);generalize w.alloc (.cells (Array.replicate ts.length (.int .i64 0)) 3)=w0 at *;obtain⟨gC,hgC⟩:∃gC,gC=w.heap.size:=⟨_,rfl⟩
 rw[<-hgC] at BC0 ⊢;have HGC:=lh hgC;clear hgC hmk;have BC1:Blk w0 gC 3 (Wy (WQ (clF cf ts) 0 ts.length)):=by rw[KI];simpa[Wy] using BC0
 clear BC0
 go_upto_region 3 with fail
 go_loopw [17] (fun v wr=>∃k:Nat,v=.int .i64 k/\k<=ts.length/\Hid (Blk wr gC 3 (Wy (WQ (clF cf ts) k ts.length)))/\Ext w wr) (fun v _=>ts.length-(intOf v).toNat)
 case atStart=>exact⟨0,rfl,om,lh BC1,EC0⟩
 case round=>
  obtain⟨k,rfl,hk,HB,x1⟩:=hrel;by_cases hlt:k<ts.length
  ·have hkI:(k:Int)<ts.length:=om;obtain⟨tb,oo,rfl,ct⟩:=(HT.out.ext x1).get hlt;have HCA:=lh (PZ wr g m (HM.out.at_.ext x1) strt (HM.out.st.ext x1) HM.out.rn HM.out.sl HM.out.srt ts[k] (cf ts[k]) (HCF.out _ (List.getElem_mem hlt)).1);have HV:Hid (clF cf ts k=((cf ts[k]:Nat):Int)):=lh (by simp[clF,List.getD_eq_getElem?_getD,hlt]);generalize ts[k]=x at *;generalize cf x=q at *
   go_wp2_with (go_at_call 133;refine HCA.out.mono ?_;rintro e w5 ⟨rfl,x5⟩;have b5:=HB.out.ext x5;have c5:w5.cell? ⟨gC,k,none⟩=some (.int .i64 ((WQ (clF cf ts) k ts.length).getD k 0)):=(by rw[b5.cell];simp[Wy,WQ,upF,hlt,List.getD_eq_getElem?_getD]);have f5:=b5.frz k)
   have x6:=(x1.trans x5);have b6:=b5.set k (.int .i64 q);rw[zz,<-HV.out,Jk] at b6;have HB6:=lh b6;have x7:Ext w (w5.setCell ⟨gC,k,none⟩ (.int .i64 q)):=x6.setNew (p:=⟨gC,k,none⟩) (by rw[HGC.out];exact Nat.le_refl _) _;rw[HV.out] at HB6;clear b5 b6 c5 f5 HB;go_roundw
   case rel=>exact⟨k+1,by go_num,om,HB6,x7⟩
   case measure=>simp[intOf];omega
  ·have hkI:¬(k:Int)<ts.length:=om;have HB2:=HB.out;rw[VD _ _ _ om,bE] at HB2;have HC0:IL wr (some ⟨gC,0,none⟩) ts.length (Q3 (ts.map cf)):=by
    have:=IL.of_blk HB2 (fun x hx=>by
     obtain⟨c,hc,rfl⟩:=List.mem_map.1 hx;have h1:=HCN.out c hc;have h2:=HM.out.ncl;unfold I64;omega) (by rw[HNL.out];unfold maxLen;omega)
    rw[HNL.out] at this;exact this
   have HI:=lh HC0;clear HB HB2 HC0 BC1 EC0
   go_upto_region 7 with fail
   go_upto_region 8 with fail
   refine(HBK wr x1).out.mono ?_;rintro e w3 hbk;obtain⟨gs,b1,b2,b3,b4,rfl,hW,x3⟩:=WhI.of_blank hbk;clear hbk HBK;have hr2:=hW.bs.cell 2;have x13:=x1.trans x3;obtain⟨wa,rfl⟩:∃wa,wa=wr:=⟨wr,rfl⟩;obtain⟨n1,n2,n3,n4,-,-,-,-,-,-⟩:=hW.ne;obtain⟨-,l1,l2,l3,l4⟩:=hW.low;have HW0:Hid (WhI w3 wa g m.next.length ts.length gs b1 b2 b3 b4 (WQ (tgF m (ts.map cf)) 0 m.next.length) (WQ (laF m (ts.map cf)) 0 m.next.length) (WQ (stF m (ts.map cf)) 0 ts.length) (WQ (enF m (ts.map cf)) 0 ts.length)):=lh (by rw[KI,KI,KI,KI];exact hW);clear hW
   go_upto_region 9 with fail
   clear hr2
   go_loopw [38] (fun v wr=>∃i:Nat,v=.int .i64 i/\i<=m.next.length/\Hid (WhI wr wa g m.next.length ts.length gs b1 b2 b3 b4 (WQ (tgF m (ts.map cf)) i m.next.length) (WQ (laF m (ts.map cf)) i m.next.length) (WQ (stF m (ts.map cf)) 0 ts.length) (WQ (enF m (ts.map cf)) 0 ts.length))/\Ext wa wr) (fun v _=>m.next.length-(intOf v).toNat)
   case atStart=>exact⟨0,rfl,om,HW0,x3⟩
   case round=>
    obtain⟨i,rfl,hi,HW,y1⟩:=hrel;have Y:=x1.trans y1;by_cases hlt2:i<m.next.length
    ·have hiI:(i:Int)<m.next.length:=om;have HRN:=fun(w':World) (x:Ext wr w')=>lh (show Calls Tryz.prog 134 #[.pointer (some ⟨g,0,none⟩),.int .i32 i,.slice (some ⟨gC,0,none⟩) ts.length ts.length,.int .i64 0,.int .i32 (-1)] w' (QD (.tuple #[.int .i32 (tgF m (ts.map cf) i),.int .i32 (laF m (ts.map cf) i)]) w') by
      have h9:=LE w' g m nc (HM.out.at_.ext (Y.trans x)) HM.out.ok (some ⟨gC,0,none⟩) ts.length (Q3 (ts.map cf)) (HI.out.ext (y1.trans x)) (by rw[HNL.out];exact htl) (fun x hx=>by
       obtain⟨c,hc,rfl⟩:=List.mem_map.1 hx;have:=HCN.out c hc;omega) i om om 0 (Nat.zero_le _) (-1)
      rw[fX,HNL.out] at h9;exact h9)
     have hw2:IntKind.i32.wrap (i:Int)=i:=by rw[IntKind.wrap_i32];omega
     have j2:=fun(w':World) (h:Kp [b1,b2] wr w')=>h.cell (HW.out.bs.cell 2) (by simp[n1,n2]);have j3:=fun(w':World) (h:Kp [b1,b2] wr w')=>h.cell (HW.out.bs.cell 3) (by simp[n1,n2])
     go_upto_region 11 with fail
     refine Xr.start [b1,b2] kr ?_;refine Xtk 0 ?_
     iterate 13(refine Xtn ?_)
     refine Xcl 14 fun w4 hE4 hK4 K hKK=>?_;go_simp;refine(HRN w4 hE4).out.mono ?_;rintro e w5 ⟨rfl,x5⟩;refine hKK _ _ x5 ?_;clear hKK;refine ptm ?_;refine Xtk 15 ?_
     iterate 3(refine Xtn ?_)
     have E45:=hE4.trans x5;refine Xsp 19 fun w6 hE6 hK6 K hKK=>?_;have W6:=HW.out.ext (E45.trans hE6);have c6:=W6.k1.cellK (i:=i) (by rw[Kz];exact hlt2);have f6:=W6.k1.frz i;go_simp;refine hKK _ _ (QM (Q4 _ _ _) List.mem_cons_self _ _) (hK6.setL List.mem_cons_self _ _) ?_;clear hKK;refine ptm ?_;refine Xtk 20 ?_;refine Xsp 21 fun w7 hE7 hK7 K hKK=>?_;have W7:=(W6.set1 i (tgF m (ts.map cf) i)).ext hE7;have c7:=W7.k2.cellK (i:=i) (by rw[Kz];exact hlt2);have f7:=W7.k2.frz i;go_simp;refine hKK _ _ (QM (Q4 _ _ _) (List.mem_cons_of_mem _ List.mem_cons_self) _ _) (hK7.setL (List.mem_cons_of_mem _ List.mem_cons_self) _ _) ?_;clear hKK;refine ptm ?_;refine Xdn fun w8 hE8 hK8=>?_;have W8:=(W7.set2 i (laF m (ts.map cf) i)).ext hE8;rw[Jk,Jk] at W8;have HW8:=lh W8;have y8:Ext wa w8:=((((y1.trans (E45.trans hE6)).setNew (p:=⟨b1,i,none⟩) l1 _).trans hE7).setNew (p:=⟨b2,i,none⟩) l2 _).trans hE8;exact fq
    ·have hiI:¬(i:Int)<m.next.length:=om;obtain rfl:i=m.next.length:=om;have hr4:=HW.out.bs.cell 4
     go_upto_region 14 with fail
     clear hr4
     go_loopw [67] (fun v wr=>∃i:Nat,v=.int .i64 i/\i<=ts.length/\Hid (WhI wr wa g m.next.length ts.length gs b1 b2 b3 b4 (WQ (tgF m (ts.map cf)) m.next.length m.next.length) (WQ (laF m (ts.map cf)) m.next.length m.next.length) (WQ (stF m (ts.map cf)) i ts.length) (WQ (enF m (ts.map cf)) i ts.length))/\Ext wa wr) (fun v _=>ts.length-(intOf v).toNat)
     case atStart=>exact⟨0,rfl,om,HW,y1⟩
     case round=>
      obtain⟨i,rfl,hi,HW,y1⟩:=hrel;have Y:=x1.trans y1;by_cases hlt3:i<ts.length
      ·have hiI:(i:Int)<ts.length:=om;have HRN0:=fun(w':World) (x:Ext wr w')=>lh (show Calls Tryz.prog 134 #[.pointer (some ⟨g,0,none⟩),.int .i32 fi,.slice (some ⟨gC,0,none⟩) ts.length ts.length,.int .i64 i,.int .i32 (Jx m.dn m.first i)] w' (QD (.tuple #[.int .i32 (stF m (ts.map cf) i),.int .i32 (enF m (ts.map cf) i)]) w') by
        have h9:=LE w' g m nc (HM.out.at_.ext (Y.trans x)) HM.out.ok (some ⟨gC,0,none⟩) ts.length (Q3 (ts.map cf)) (HI.out.ext (y1.trans x)) (by rw[HNL.out];exact htl) (fun x hx=>by
         obtain⟨c,hc,rfl⟩:=List.mem_map.1 hx;have:=HCN.out c hc;omega) m.first HM.out.ok.first.1 HM.out.ok.first.2 i (by rw[HNL.out];omega) (Jx m.dn m.first i)
        rw[fY,HNL.out,hfi.out] at h9;rw[hfi.out];exact h9)
       have hw2:IntKind.i32.wrap (i:Int)=i:=by rw[IntKind.wrap_i32];omega
       have j4:=fun(w':World) (h:Kp [b3,b4] wr w')=>h.cell (HW.out.bs.cell 4) (by simp[n3,n4]);have j5:=fun(w':World) (h:Kp [b3,b4] wr w')=>h.cell (HW.out.bs.cell 5) (by simp[n3,n4]);have c2:wr.cell? ⟨g,2,none⟩=some (.int .i32 fi):=by
        have:=(HM.out.at_.ext Y).blk.cell 2
        rw[<-hfi.out];exact this
       have hgl:g<wa.heap.size:=(HM.out.at_.ext x1).blk.lt;have n5:g≠b3:=om;have n6:g≠b4:=om;by_cases hd:fi = -1
       ·subst hd;have HV:Hid (Jx m.dn m.first i = -1):=lh (by rw[hfi.out];simp[Jx]);have HRN:=fun(w':World) (x:Ext wr w')=>lh (by have h9:=(HRN0 w' x).out;rw[HV.out] at h9;exact h9);clear HRN0;have jf:=kc0 c2;exact fz
       ·obtain⟨fn,rfl⟩:∃fn:Nat,fi=fn:=⟨fi.toNat,om⟩;have hfn:fn<m.done.length:=by rw[HDL.out];omega
        obtain⟨db,dd,hdA,cd⟩:=(HM.out.at_.ext Y).dn.get hfn;have c4:wr.cell? ⟨g,4,none⟩=some (.slice m.dA m.done.length m.dc):=(HM.out.at_.ext Y).blk.cell 4;rw[hdA] at c4;have hfI:(fn:Int)<m.done.length:=om;have hcd:=(HM.out.at_.ext Y).dn.len;have HDV:Hid (m.dn fn=m.done[fn]):=lh (by
         have e:((fn:Int)).toNat=fn:=om;simp[Ma.dn,Go.Proofs.YtmocoldobnimfaaGreat.dmF,e,List.getD_eq_getElem?_getD,hfn])
        generalize m.done[fn]=dv at *;generalize m.done.length=dn at *;clear hdA;have jf:=kc0 c2;have jd:=kc0 c4;have je:=kc0 cd;by_cases hdv:dv=true
        ·subst hdv;have HV:Hid (Jx m.dn m.first i=i):=lh (by rw[hfi.out];unfold Jx;rw[if_pos ⟨om,HDV.out⟩]);exact fj
        ·have hdv2:dv=false:=by simpa using hdv
         subst hdv2;have HV:Hid (Jx m.dn m.first i = -1):=lh (by rw[hfi.out];unfold Jx;rw[if_neg (by rw[HDV.out];simp)]);exact fj
      ·have hiI:¬(i:Int)<ts.length:=om;obtain rfl:i=ts.length:=om;have hW:=HW.out;rw[VD _ _ _ (Nat.le_refl _),VD _ _ _ (Nat.le_refl _),VD _ _ _ (Nat.le_refl _),VD _ _ _ (Nat.le_refl _)] at hW;have HSM:∃s,Kw wr gs s/\JQ m g (ts.map cf) s:=by
        refine WhI.sum HM.out.ok HCN.out (by rw[HCL.out];exact htl) (w0:=wa) (b1:=b1) (b2:=b2) (b3:=b3) (b4:=b4) ?_;rw[HCL.out];exact hW
       have HSH:=lh HSM;clear hW HSM
       go_wp2_with fail
       go_ret
       obtain⟨s,h1,h2⟩:=HSH.out;exact⟨gs,s,rfl,h1,h2,x1.trans y1⟩
end
