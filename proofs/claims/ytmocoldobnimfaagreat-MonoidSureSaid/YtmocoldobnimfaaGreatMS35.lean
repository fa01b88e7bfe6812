/- Texts of this proof: CP CA. -/
import Derived.Test.YtmocoldobnimfaaGreatMS31
import Derived.Test.YtmocoldobnimfaaGreatMS33
set_option linter.all false
set_option maxRecDepth 100000
set_option maxHeartbeats 16000000
namespace Go.Proofs.YtmocoldobnimfaaGreat
section
open Go.RowKit
attribute [local go_sem ↓] Go.wp_at_zero Go.wp_at_succ
def ly (E:List Int)(l:List Sp):Prop:=l.length<=4/\∀s∈l,s.1∈E/\s.2+1∈E
structure Gp4 (E:List Int)(w:World)(A:Option Addr)(c:Nat)(hs:List Hin):Prop where
 pl:PL w A c hs
 sets:∀h∈hs,ly E h.l
 len:hs.length<=1000
theorem iq {P:Prop} (h:P:=by
 change bodyPost _ _ _ _ _ (Vy w7 g6 n2 gr2 false);have b9:=zG BR7 n2 gr2 false;have x9:=zH (HX4.out.trans (HX5.out.trans x7)) hg6l n2 gr2 false;have kk:KpP (·=g6) w7 (Vy w7 g6 n2 gr2 false):=YR (p:=(·=g6)) (KpP.refl _ _) rfl _ _ _;generalize Vy w7 g6 n2 gr2 false=w9 at *;obtain⟨r0,r1,r2,r3,r4,r5,r6,r7,r8,r9⟩:=Zq b9;refine bodyPost_ret (v:=.tuple #[.agg (ptC n2 gr2 false),.slice TA2 ts2.length tc2]) (by simp[results,Tryz.results15,go_sem,r0,r1,r2,r3,r4,r5,r6,r7,r8,r9,ptC]) rfl ⟨n2,gr2,TA2,tc2,ts2,rfl,?_,om,?_,hfr2.mono (HX4.out.trans HX5.out),htb2,om,x9⟩
 ·exact(ht2.kp kk (fun i hi hs=>by have e:i=g6:=hi;subst e;exact absurd hs (Nat.not_le_of_lt (Nat.lt_of_lt_of_le hg4 HX5.out.size)))).imp (fun i h _=>Nat.le_trans (Nat.le_trans HX4.out.size HX5.out.size) h)
 ·exact hT2.kpG kk (fun b hb e=>by have e2:b=g6:=e;have h1:=hfr2 b hb;have h2:=HX5.out.size;omega)):P:=h
theorem iz {P:Prop} (h:P:=by
 skip
 change bodyPost _ _ _ _ _ (Vy w5 g6 n gr false);have b9:=zG BR5 n gr false;have x9:=zH (HX4.out.trans HX5.out) hg6l n gr false;have kk:KpP (·=g6) w5 (Vy w5 g6 n gr false):=YR (p:=(·=g6)) (KpP.refl _ _) rfl _ _ _;generalize Vy w5 g6 n gr false=w9 at *;obtain⟨r0,r1,r2,r3,r4,r5,r6,r7,r8,r9⟩:=Zq b9;refine bodyPost_ret (v:=.tuple #[.agg (ptC n gr false),.slice TA ts.length tc]) (by simp[results,Tryz.results15,go_sem,r0,r1,r2,r3,r4,r5,r6,r7,r8,r9,ptC]) rfl ⟨n,gr,TA,tc,ts,rfl,?_,om,?_,HFR.out.mono HWA.out,HTB.out,om,x9⟩
 ·exact((HT4.out.ext HX5.out).kp kk (fun i hi hs=>by have e:i=g6:=hi;subst e;exact absurd hs (Nat.not_le_of_lt hg6a))).imp (fun i h _=>Nat.le_trans HWA.out.size h)
 ·exact(HTX.out.ext HX5.out).kpG kk (fun b hb e=>by have e2:b=g6:=e;have h1:=HFR.out b hb;omega)):P:=h
theorem NP (w:World)(LA:Option Addr)(lc:Nat)(ls:List Int)(MA:Option Addr)(mc:Nat)(ms:List Int)(asr:Bool)(hl:IL w LA lc ls)(hm:IL w MA mc ms) :
 Calls Tryz.prog 15 #[.slice LA ls.length lc,.slice MA ms.length mc,.bool asr] w (av w):=by
 have BR:=Blk.new w 28 (ptC zNd 0 false);have ER:=Ext.alloc w (.cells (ptC zNd 0 false) 28);have hll:=hl.len;have hmm:=hm.len;have HFI:=fun(w':World) (x:Ext w w') (uses:Int) (hu:KU uses)=>lh (Rw w' LA lc ls MA mc ms uses hu (hl.ext x) (hm.ext x));have HFH:=lh HFI;clear hl hm HFI;cases asr
 ·have hor:Go.bits BinOp.or IntKind.i64 64 16=80:=by decide +kernel
  go_enter Tryz.func15,Tryz.ntmps15
  go_upto_region 1 with fail
  change Code.wp _ _ _ _ (w.alloc (.cells (ptC zNd 0 false) 28));obtain⟨g6,hg6⟩:∃g,g=w.heap.size:=⟨_,rfl⟩
  rw[<-hg6] at BR ⊢;have hg6l:w.heap.size<=g6:=om;clear hg6;generalize w.alloc (.cells (ptC zNd 0 false) 28)=wa at *;have hg6a:=BR.lt;have HWA:=lh ER;have HF1:=lh (HFH.out wa ER 64 Rz).out
  go_upto_region 5 with(go_at_call 61;refine HF1.out.mono ?_;rintro e w3 ⟨n,gr,TA,tc,ts,he,ht,hgr,hT,hfr,htb,htl,x3⟩;have he2:e=.returned (.tuple #[.agg (ptC n gr false),.slice TA ts.length tc]):=he;subst he2;clear he;unfold ptC)
  change Code.wp _ _ _ _ (w3.alloc (.cells (ptC n gr false) 28));have EP:=Ext.alloc w3 (.cells (ptC n gr false) 28);have BP:=Blk.new w3 28 (ptC n gr false);obtain⟨g9,hg9⟩:∃g,g=w3.heap.size:=⟨_,rfl⟩
  rw[<-hg9] at BP ⊢;clear hg9;generalize w3.alloc (.cells (ptC n gr false) 28)=w4 at *;have HX4:=lh (ER.trans (x3.trans EP));have HT4:=lh (ht.ext EP);have HTX:=lh (hT.ext EP);have HTB:=lh htb;have htc:=hT.len;have HFR:=lh hfr;have hg4:g6<w4.heap.size:=Nat.lt_of_lt_of_le hg6a (x3.trans EP).size;have HBR:=lh (BR.ext (x3.trans EP));have HCP:=lh (qQ 3 _ 6 w4 n.val HT4.out none 0 [] (IL.nil _) si);unfold Nd.val at HCP;obtain⟨p0,p1,p2,p3,p4,p5,p6,p7,p8,p9⟩:=Zq BP;clear BR ER EP ht x3 hT HF1 htb
  go_upto_region 6 with(go_at_call 62;refine HCP.out.mono ?_;rintro e w5 ⟨b5,rfl,x5⟩;have HX5:=lh x5;have p0':=x5.cell p0;have p1':=x5.cell p1;have p2':=x5.cell p2;have p3':=x5.cell p3;have p4':=x5.cell p4;have p5':=x5.cell p5;have p6':=x5.cell p6;have p7':=x5.cell p7;have p8':=x5.cell p8;have p9':=x5.cell p9;have BR5:=HBR.out.ext x5;obtain⟨s0,s1,s2,s3,s4,s5,s6,s7,s8,s9⟩:=Zq BR5;obtain⟨f0,f1,f2,f3,f4,f5,f6,f7,f8,f9⟩:=jz BR5;simp only[zNd,List.length_nil] at s0 s1 s2 s3 s4 s5 s6 s7;cases b5)
  ·go_wp2_with (go_at_call 61;refine(HFH.out _ (HX4.out.trans HX5.out) 0 Uz).out.mono ?_;rintro e w7 ⟨n2,gr2,TA2,tc2,ts2,he,ht2,hgr2,hT2,hfr2,htb2,htl2,x7⟩;have he2:e=.returned (.tuple #[.agg (ptC n2 gr2 false),.slice TA2 ts2.length tc2]):=he;subst he2;clear he;unfold ptC;have BR7:=HBR.out.ext (HX5.out.trans x7);obtain⟨s0,s1,s2,s3,s4,s5,s6,s7,s8,s9⟩:=Zq BR7;obtain⟨f0,f1,f2,f3,f4,f5,f6,f7,f8,f9⟩:=jz BR7;simp only[zNd,List.length_nil] at s0 s1 s2 s3 s4 s5 s6 s7)
   exact iq
  ·exact iz
 ·have hor:Go.bits BinOp.or IntKind.i64 64 16=80:=by decide +kernel
  go_enter Tryz.func15,Tryz.ntmps15
  go_upto_region 1 with fail
  change Code.wp _ _ _ _ (w.alloc (.cells (ptC zNd 0 false) 28));obtain⟨g6,hg6⟩:∃g,g=w.heap.size:=⟨_,rfl⟩
  rw[<-hg6] at BR ⊢;have hg6l:w.heap.size<=g6:=om;clear hg6;generalize w.alloc (.cells (ptC zNd 0 false) 28)=wa at *;have hg6a:=BR.lt;have HWA:=lh ER;have HF1:=lh (HFH.out wa ER 80 Rj).out
  go_upto_region 5 with(go_at_call 61;refine HF1.out.mono ?_;rintro e w3 ⟨n,gr,TA,tc,ts,he,ht,hgr,hT,hfr,htb,htl,x3⟩;have he2:e=.returned (.tuple #[.agg (ptC n gr false),.slice TA ts.length tc]):=he;subst he2;clear he;unfold ptC)
  change Code.wp _ _ _ _ (w3.alloc (.cells (ptC n gr false) 28));have EP:=Ext.alloc w3 (.cells (ptC n gr false) 28);have BP:=Blk.new w3 28 (ptC n gr false);obtain⟨g9,hg9⟩:∃g,g=w3.heap.size:=⟨_,rfl⟩
  rw[<-hg9] at BP ⊢;clear hg9;generalize w3.alloc (.cells (ptC n gr false) 28)=w4 at *;have HX4:=lh (ER.trans (x3.trans EP));have HT4:=lh (ht.ext EP);have HTX:=lh (hT.ext EP);have HTB:=lh htb;have htc:=hT.len;have HFR:=lh hfr;have hg4:g6<w4.heap.size:=Nat.lt_of_lt_of_le hg6a (x3.trans EP).size;have HBR:=lh (BR.ext (x3.trans EP));have HCP:=lh (qQ 3 _ 6 w4 n.val HT4.out none 0 [] (IL.nil _) si);unfold Nd.val at HCP;obtain⟨p0,p1,p2,p3,p4,p5,p6,p7,p8,p9⟩:=Zq BP;clear BR ER EP ht x3 hT HF1 htb
  go_upto_region 6 with(go_at_call 62;refine HCP.out.mono ?_;rintro e w5 ⟨b5,rfl,x5⟩;have HX5:=lh x5;have p0':=x5.cell p0;have p1':=x5.cell p1;have p2':=x5.cell p2;have p3':=x5.cell p3;have p4':=x5.cell p4;have p5':=x5.cell p5;have p6':=x5.cell p6;have p7':=x5.cell p7;have p8':=x5.cell p8;have p9':=x5.cell p9;have BR5:=HBR.out.ext x5;obtain⟨s0,s1,s2,s3,s4,s5,s6,s7,s8,s9⟩:=Zq BR5;obtain⟨f0,f1,f2,f3,f4,f5,f6,f7,f8,f9⟩:=jz BR5;simp only[zNd,List.length_nil] at s0 s1 s2 s3 s4 s5 s6 s7;cases b5)
  ·go_wp2_with (go_at_call 61;refine(HFH.out _ (HX4.out.trans HX5.out) 16 Rq).out.mono ?_;rintro e w7 ⟨n2,gr2,TA2,tc2,ts2,he,ht2,hgr2,hT2,hfr2,htb2,htl2,x7⟩;have he2:e=.returned (.tuple #[.agg (ptC n2 gr2 false),.slice TA2 ts2.length tc2]):=he;subst he2;clear he;unfold ptC;have BR7:=HBR.out.ext (HX5.out.trans x7);obtain⟨s0,s1,s2,s3,s4,s5,s6,s7,s8,s9⟩:=Zq BR7;obtain⟨f0,f1,f2,f3,f4,f5,f6,f7,f8,f9⟩:=jz BR7;simp only[zNd,List.length_nil] at s0 s1 s2 s3 s4 s5 s6 s7)
   exact iq
  ·exact iz
end
