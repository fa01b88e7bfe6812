/- Texts of this proof: DF. -/
import Derived.Test.YtmocoldobnimfaaGreatU48
import Derived.Test.YtmocoldobnimfaaGreatU53
import Derived.Test.YtmocoldobnimfaaGreatU54
set_option linter.all false
set_option maxRecDepth 100000
set_option maxHeartbeats 16000000
namespace Go.Proofs.YtmocoldobnimfaaGreat
section
open Go.RowKit
attribute [local go_sem ↓] Go.wp_at_zero Go.wp_at_succ
theorem DFz1 {P:Prop} (h:P:=by
 clear hn0 u0 u1 u2
 go_wp2_with fail
 go_roundw
 case rel=>exact⟨0+1,by go_num,om,HX17.out.trans (Ext.alloc _ _)⟩
 case measure=>simp[intOf]):P:=h
theorem DFz2 {P:Prop} (h:P:=by
 clear hn0 u0 u1 u2
 go_wp2_with fail
 go_roundw
 case rel=>exact⟨1+1,by go_num,om,HX17.out.trans (Ext.alloc _ _)⟩
 case measure=>simp[intOf]):P:=h
theorem DFz3 {P:Prop} (h:P:=by
 clear hn0 u0 u1 u2
 go_wp2_with fail
 go_roundw
 case rel=>exact⟨2+1,by go_num,om,HX17.out.trans (Ext.alloc _ _)⟩
 case measure=>simp[intOf]):P:=h
theorem DFz4 {P:Prop} (h:P:=by
 clear hn0 u0 u1 u2
 go_wp2_with fail
 go_roundw
 case rel=>exact⟨3+1,by go_num,om,HX17.out.trans (Ext.alloc _ _)⟩
 case measure=>simp[intOf]):P:=h
theorem monoidNew_any (w:World)(LA:Option Addr)(lc:Nat)(ls:List Int)(MA:Option Addr)(mc:Nat)(ms:List Int)(at_ how by_ deep:Int)(hl:IL w LA lc ls)(hm:IL w MA mc ms)(ha:I64 at_)(hh:I64 how)(hb:I64 by_)(hd:I64 deep) :
 Calls Tryz.prog 3 #[.slice LA ls.length lc,.slice MA ms.length mc,.int .i64 at_,.int .i64 how,.int .i64 by_,.int .i64 deep] w (RetV (.bool true) w):=by
 have hll:=hl.len;have hmm:=hm.len;have HI:=lh (⟨ha,hh,hb,hd⟩:I64 at_∧I64 how∧I64 by_∧I64 deep);have HL:=lh hl;have HPL:=lh (xplain_any w LA lc ls MA mc ms true hl hm);clear hl hm ha hh hb hd;go_enter Tryz.func3,Tryz.ntmps3
 go_upto_region 2 with(go_at_call 15;refine HPL.out.mono ?_;rintro e w1 ⟨n,gr,TA,tc,ts,he,ht,hgr,hT,hfr,htb,htl,x1⟩;have he2:e=.returned (.tuple #[.agg (ptC n gr false),.slice TA ts.length tc]):=he;subst he2;clear he;unfold ptC)
 change Code.wp _ _ _ _ (w1.alloc (.cells (ptC n gr false) 28));have E2:=Ext.alloc w1 (.cells (ptC n gr false) 28);have B2:=Blk.new w1 28 (ptC n gr false);have HX2:=lh (x1.trans E2);have HT2:=lh (ht.ext E2);clear hT hfr htb htl x1 ht HPL;obtain⟨g2,hg2⟩:∃g,g=w1.heap.size:=⟨_,rfl⟩
 rw[←hg2] at B2 ⊢;clear hg2 E2;generalize w1.alloc (.cells (ptC n gr false) 28)=w2 at *;have HCM:=lh (xcompile_any 3 _ om 6 de om w2 n gr false HT2.out (by unfold I64;omega));obtain⟨p0,p1,p2,p3,p4,p5,p6,p7,p8,p9⟩:=pt_cells B2
 go_upto_region 3 with(go_at_call 16;refine HCM.out.mono ?_;rintro e w3 ⟨A3,c3,hs3,cp3,rn3,k3,rfl,hg3,hc3,x3⟩)
 have HX3:=lh (HX2.out.trans x3);have HG3:=lh hg3;have HC3:=lh hc3;have hl3:=hg3.pl.len;clear hg3 hc3 x3 HX2 HCM HT2 B2 p0 p1 p2 p3 p4 p5 p6 p7 p8 p9;change Code.wp _ _ _ _ (w3.alloc (.cells #[.slice A3 hs3.length c3,.int .i64 cp3,.bool rn3] 33));have E4:=Ext.alloc w3 (.cells #[.slice A3 hs3.length c3,.int .i64 cp3,.bool rn3] 33);have B4:=Blk.new w3 33 #[.slice A3 hs3.length c3,.int .i64 cp3,.bool rn3];obtain⟨g15,hg15⟩:∃g,g=w3.heap.size:=⟨_,rfl⟩
 rw[←hg15] at B4 ⊢;clear hg15;generalize w3.alloc (.cells #[.slice A3 hs3.length c3,.int .i64 cp3,.bool rn3] 33)=w4 at *;obtain⟨BS,BR,ES⟩:=alloc2 w4 38 #[.int .i64 97,.int .i64 98] 26 (abNd w4.heap.size).cs.toArray
 go_upto_region 4 with fail
 change Code.wp _ _ _ _ ((w4.alloc (.cells #[.int .i64 97,.int .i64 98] 38)).alloc (.cells (abNd w4.heap.size).cs.toArray 26));obtain⟨g17,hg17⟩:∃g,g=w4.heap.size+1:=⟨_,rfl⟩
 rw[←hg17] at BR ⊢;clear hg17;obtain⟨gS,hgS⟩:∃g,g=w4.heap.size:=⟨_,rfl⟩
 rw[←hgS] at BR BS ES ⊢;clear hgS;generalize ((w4.alloc (.cells #[.int .i64 97,.int .i64 98] 38)).alloc (.cells (abNd gS).cs.toArray 26))=w5 at *;have HX5:=lh (HX3.out.trans (E4.trans ES));have HG3:=lh (HG3.out.ext (E4.trans ES));have HB15:=lh (B4.ext ES);have HBS:=lh BS;have HBR:=lh BR;clear E4 B4 ES BS BR HX3;have HAR:=lh (around_any deep 5 w5 HI.out.2.2.2 om om);have hb5:=around_bd deep 5 om;obtain⟨q,hq⟩:∃q:Int,around deep 5=q:=⟨_,rfl⟩;rw[hq] at HAR hb5;clear hq;have ewq:IntKind.i64.wrap (1+q)=1+q:=wj
 go_upto_region 5 with(go_at_call 17;refine HAR.out.mono ?_;rintro e w6 h6;obtain⟨rfl,x6⟩:=RetQ.v h6)
 have HX6:=lh (HX5.out.trans x6);have HG3:=lh (HG3.out.ext x6);have HB15:=lh (HB15.out.ext x6);have HBS:=lh (HBS.out.ext x6);have HBR:=lh (HBR.out.ext x6);obtain⟨N,hN⟩:∃N:Int,N=1+q:=⟨_,rfl⟩
 rw[←hN];have hN5:1≤N∧N≤5:=om;clear hN ewq hb5 HAR h6 x6 HX5;obtain⟨y0,y1,y2,y3,y4,y5,y6,y7⟩:=nd_cells HBR.out;simp only[abNd,List.length_singleton,List.length_nil,List.length_cons,Nat.zero_add] at y0 y1 y2 y3 y4 y5 y6 y7;have hl17:=HBR.out.lt;have HMT:=lh (many_made w6 gS N HBS.out hN5);have HCM:=lh (xcompile_any 5 _ om 3 de om _ _ 0 false HMT.out (by unfold I64;omega))
 go_upto_region 6 with(go_at_call 16;refine HCM.out.mono ?_;rintro e w7 ⟨A7,c7,hs7,cp7,rn7,k7,rfl,hg7,hc7,x7⟩)
 have XM:=(many_ext w6 _ _ _ _).trans x7;have HX7:=lh (HX6.out.trans XM);have HG3:=lh (HG3.out.ext XM);have HB15:=lh (HB15.out.ext XM);have HG7:=lh hg7;have hl7:=hg7.pl.len;have HC7:=lh hc7;clear XM x7 HX6 HCM HMT HBS HBR hg7 hc7 y0 y1 y2 y3 y4 y5 y6 y7 hl17;change Code.wp _ _ _ _ (w7.alloc (.cells #[.slice A7 hs7.length c7,.int .i64 cp7,.bool rn7] 33));have E8:=Ext.alloc w7 (.cells #[.slice A7 hs7.length c7,.int .i64 cp7,.bool rn7] 33);have B8:=Blk.new w7 33 #[.slice A7 hs7.length c7,.int .i64 cp7,.bool rn7];obtain⟨g19,hg19⟩:∃g,g=w7.heap.size:=⟨_,rfl⟩
 rw[←hg19] at B8 ⊢;clear hg19;generalize w7.alloc (.cells #[.slice A7 hs7.length c7,.int .i64 cp7,.bool rn7] 33)=w8 at *;have HX8:=lh (HX7.out.trans E8);have HG3:=lh (HG3.out.ext E8);have HG7:=lh (HG7.out.ext E8);obtain⟨u0,u1,u2,_⟩:=(HB15.out.ext E8).c3;obtain⟨v0,v1,v2,_⟩:=B8.c3;have a0:=kc0 u0;have a1:=kc0 u1;have a2:=kc0 u2;have b0:=kc0 v0;have b1:=kc0 v1;have b2:=kc0 v2;clear u0 u1 u2 v0 v1 v2 E8 B8 HB15 HX7;refine Xr.start [] kr ?_;refine Xtk 0 ?_
 iterate 4(refine Xtn ?_)
 refine Xtk 6 ?_;refine Xtk 8 ?_;refine Xcl 5 fun w9 hE9 hK9 K hKK=>?_;have HSP:=xspoilt_any rimE w9 A3 c3 hs3 cp3 rn3 at_ how by_ (HG3.out.ext hE9) HC3.out HI.out.1 HI.out.2.1 HI.out.2.2.1;go_simp;refine HSP.mono ?_;rintro e w10 ⟨AS,cS,hsS,cpS,rnS,rfl,hgS2,hcS,x10⟩;refine hKK _ _ x10 ?_;clear hKK HSP;refine ptm ?_;refine Xcl 7 fun w11 hE11 hK11 K hKK=>?_;have HSM:=xsome_any w11 LA lc ls (HL.out.ext (HX8.out.trans hK11.nil));go_simp;refine HSM.mono ?_;rintro e w12 ⟨AM,cM,hsM,cpM,rnM,rfl,hgM,hM1,hM12,hcM0,hcM2,x12⟩;refine hKK _ _ x12 ?_;clear hKK HSM;refine ptm ?_;have x812:Ext w8 w12:=hE9.trans (x10.trans (hE11.trans x12));refine Xcl 9 fun w13 hE13 hK13 K hKK=>?_;have E13:=Ext.alloc w13 (.cells #[.slice A3 hs3.length c3,.int .i64 cp3,.bool rn3,.slice AS hsS.length cS,.int .i64 cpS,.bool rnS,.slice AM hsM.length cM,.int .i64 cpM,.bool rnM,.slice A7 hs7.length c7,.int .i64 cp7,.bool rn7] 33);have B13:=Blk.new w13 33 #[.slice A3 hs3.length c3,.int .i64 cp3,.bool rn3,.slice AS hsS.length cS,.int .i64 cpS,.bool rnS,.slice AM hsM.length cM,.int .i64 cpM,.bool rnM,.slice A7 hs7.length c7,.int .i64 cp7,.bool rn7];go_simp;refine hKK _ _ E13 ?_;clear hKK;refine ptm ?_;refine Xtk 10 ?_;refine Xdn fun w14 hE14 hK14=>?_;have x1214:=hE13.trans (E13.trans hE14);have HX14:=lh (HX8.out.trans (x812.trans x1214));have HB14:=lh (B13.ext hE14);have D0:=lh ((HG3.out.gd rim0.1 rim0.2).ext (x812.trans x1214));have D1:=lh ((hgS2.gd (sp0 by_).1 (sp0 by_).2).ext ((hE11.trans x12).trans x1214));have D2:=lh (((hgM.gp om).gd rim0.1 rim0.2).ext x1214)
 have D3:=lh ((HG7.out.gd rim0.1 rim0.2).ext (x812.trans x1214));have l1:=D1.out.pl.len;have l2:=D2.out.pl.len;clear x812 x1214 hE14 hK14 hK13 E13 B13 hE13 hE9 hK9 x10 hE11 hK11 x12 hgS2 hgM hM1 hM12 hcM0 hcM2 hcS a0 a1 a2 b0 b1 b2 HG3 HG7 HC3 HC7 HX8;generalize w13.heap.size=gA at *;clear w13
 go_upto_region 8 with fail
 go_loopw [22] (fun v wr=>∃i:Nat,v=.int .i64 i∧i≤4∧Ext w14 wr) (fun v _=>4-(intOf v).toNat)
 case atStart=>exact⟨0,rfl,om,Ext.rfl' _⟩
 case round=>
  obtain⟨i,rfl,hi,x1⟩:=hrel;have HBr:=HB14.out.ext x1;have HX1:=lh x1;by_cases hlt:i<4
  ·have h4:i=0∨i=1∨i=2∨i=3:=om;rcases h4 with rfl|rfl|rfl|rfl
   ·have v0:wr.cell? ⟨gA,0,none⟩=some (.slice A3 hs3.length c3):=HBr.cell 0;have v1:wr.cell? ⟨gA,1,none⟩=some (.int .i64 cp3):=HBr.cell 1;have v2:wr.cell? ⟨gA,2,none⟩=some (.bool rn3):=HBr.cell 2;have HR10:=lh (real_any wr A3 c3 hs3 cp3 rn3 (D0.out.pl.ext x1) D0.out.len)
    go_upto_region 11 with(first|(have hq:=HRL;go_at_call 20;refine(new_any2 w15 A15 c15 hs3 rn3 cp3 HP15.out D0.out.sm).mono ?_;rintro e w16 ⟨x16,hN⟩;have HX16:=lh (HRL.out.trans x16);have u0:=x16.cell t0;have u1:=x16.cell t1;have u2:=x16.cell t2;clear x16;rcases hN with⟨hn0,rfl⟩|⟨hn0,g5,m5,s5,R5,rfl,_,_⟩)|(go_at_call 21;refine HR10.out.mono ?_;rintro e w15 ⟨A15,c15,rfl,hp15,x15⟩;have HRL:=lh x15;have HP15:=lh hp15;have t0:=x15.cell v0;have t1:=x15.cell v1;have t2:=x15.cell v2;clear x15 hp15))
    all_goals go_upto_region 12 with(go_at_call 22;refine(qNew_any w16 A3 c3 hs3 rn3 cp3 (D0.out.pl.ext (HX1.out.trans HX16.out)) D0.out.sm).mono ?_;rintro e w17 ⟨x17,hQ⟩;have HX17:=lh (HX1.out.trans (HX16.out.trans x17));clear x17;rcases hQ with⟨hq0,rfl⟩|⟨hq0,SA,sc,xs,YA,yc,OA,oc,op,rfl,_⟩<;>first|exact absurd hn0 hq0|exact absurd hq0 hn0|unfold mchV)
    ·have hb:(newE rn3 cp3 (insL hs3) == 0)=false:=by simpa using hn0
     exact DFz1
    ·exact DFz1
   ·have v0:wr.cell? ⟨gA,3,none⟩=some (.slice AS hsS.length cS):=HBr.cell 3;have v1:wr.cell? ⟨gA,4,none⟩=some (.int .i64 cpS):=HBr.cell 4;have v2:wr.cell? ⟨gA,5,none⟩=some (.bool rnS):=HBr.cell 5;have HR10:=lh (real_any wr AS cS hsS cpS rnS (D1.out.pl.ext x1) D1.out.len)
    go_upto_region 11 with(first|(have hq:=HRL;go_at_call 20;refine(new_any2 w15 A15 c15 hsS rnS cpS HP15.out D1.out.sm).mono ?_;rintro e w16 ⟨x16,hN⟩;have HX16:=lh (HRL.out.trans x16);have u0:=x16.cell t0;have u1:=x16.cell t1;have u2:=x16.cell t2;clear x16;rcases hN with⟨hn0,rfl⟩|⟨hn0,g5,m5,s5,R5,rfl,_,_⟩)|(go_at_call 21;refine HR10.out.mono ?_;rintro e w15 ⟨A15,c15,rfl,hp15,x15⟩;have HRL:=lh x15;have HP15:=lh hp15;have t0:=x15.cell v0;have t1:=x15.cell v1;have t2:=x15.cell v2;clear x15 hp15))
    all_goals go_upto_region 12 with(go_at_call 22;refine(qNew_any w16 AS cS hsS rnS cpS (D1.out.pl.ext (HX1.out.trans HX16.out)) D1.out.sm).mono ?_;rintro e w17 ⟨x17,hQ⟩;have HX17:=lh (HX1.out.trans (HX16.out.trans x17));clear x17;rcases hQ with⟨hq0,rfl⟩|⟨hq0,SA,sc,xs,YA,yc,OA,oc,op,rfl,_⟩<;>first|exact absurd hn0 hq0|exact absurd hq0 hn0|unfold mchV)
    ·have hb:(newE rnS cpS (insL hsS) == 0)=false:=by simpa using hn0
     exact DFz2
    ·exact DFz2
   ·have v0:wr.cell? ⟨gA,6,none⟩=some (.slice AM hsM.length cM):=HBr.cell 6;have v1:wr.cell? ⟨gA,7,none⟩=some (.int .i64 cpM):=HBr.cell 7;have v2:wr.cell? ⟨gA,8,none⟩=some (.bool rnM):=HBr.cell 8;have HR10:=lh (real_any wr AM cM hsM cpM rnM (D2.out.pl.ext x1) D2.out.len)
    go_upto_region 11 with(first|(have hq:=HRL;go_at_call 20;refine(new_any2 w15 A15 c15 hsM rnM cpM HP15.out D2.out.sm).mono ?_;rintro e w16 ⟨x16,hN⟩;have HX16:=lh (HRL.out.trans x16);have u0:=x16.cell t0;have u1:=x16.cell t1;have u2:=x16.cell t2;clear x16;rcases hN with⟨hn0,rfl⟩|⟨hn0,g5,m5,s5,R5,rfl,_,_⟩)|(go_at_call 21;refine HR10.out.mono ?_;rintro e w15 ⟨A15,c15,rfl,hp15,x15⟩;have HRL:=lh x15;have HP15:=lh hp15;have t0:=x15.cell v0;have t1:=x15.cell v1;have t2:=x15.cell v2;clear x15 hp15))
    all_goals go_upto_region 12 with(go_at_call 22;refine(qNew_any w16 AM cM hsM rnM cpM (D2.out.pl.ext (HX1.out.trans HX16.out)) D2.out.sm).mono ?_;rintro e w17 ⟨x17,hQ⟩;have HX17:=lh (HX1.out.trans (HX16.out.trans x17));clear x17;rcases hQ with⟨hq0,rfl⟩|⟨hq0,SA,sc,xs,YA,yc,OA,oc,op,rfl,_⟩<;>first|exact absurd hn0 hq0|exact absurd hq0 hn0|unfold mchV)
    ·have hb:(newE rnM cpM (insL hsM) == 0)=false:=by simpa using hn0
     exact DFz3
    ·exact DFz3
   ·have v0:wr.cell? ⟨gA,9,none⟩=some (.slice A7 hs7.length c7):=HBr.cell 9;have v1:wr.cell? ⟨gA,10,none⟩=some (.int .i64 cp7):=HBr.cell 10;have v2:wr.cell? ⟨gA,11,none⟩=some (.bool rn7):=HBr.cell 11;have HR10:=lh (real_any wr A7 c7 hs7 cp7 rn7 (D3.out.pl.ext x1) D3.out.len)
    go_upto_region 11 with(first|(have hq:=HRL;go_at_call 20;refine(new_any2 w15 A15 c15 hs7 rn7 cp7 HP15.out D3.out.sm).mono ?_;rintro e w16 ⟨x16,hN⟩;have HX16:=lh (HRL.out.trans x16);have u0:=x16.cell t0;have u1:=x16.cell t1;have u2:=x16.cell t2;clear x16;rcases hN with⟨hn0,rfl⟩|⟨hn0,g5,m5,s5,R5,rfl,_,_⟩)|(go_at_call 21;refine HR10.out.mono ?_;rintro e w15 ⟨A15,c15,rfl,hp15,x15⟩;have HRL:=lh x15;have HP15:=lh hp15;have t0:=x15.cell v0;have t1:=x15.cell v1;have t2:=x15.cell v2;clear x15 hp15))
    all_goals go_upto_region 12 with(go_at_call 22;refine(qNew_any w16 A7 c7 hs7 rn7 cp7 (D3.out.pl.ext (HX1.out.trans HX16.out)) D3.out.sm).mono ?_;rintro e w17 ⟨x17,hQ⟩;have HX17:=lh (HX1.out.trans (HX16.out.trans x17));clear x17;rcases hQ with⟨hq0,rfl⟩|⟨hq0,SA,sc,xs,YA,yc,OA,oc,op,rfl,_⟩<;>first|exact absurd hn0 hq0|exact absurd hq0 hn0|unfold mchV)
    ·have hb:(newE rn7 cp7 (insL hs7) == 0)=false:=by simpa using hn0
     exact DFz4
    ·exact DFz4
  ·have h4:i=4:=om;subst h4
   go_wp2_with (go_at_call 23;refine(mlives_any wr).mono ?_;rintro e w5 ⟨rfl,x5⟩;have HXE:=HX14.out.trans (HX1.out.trans x5))
   go_ret
   exact⟨rfl,HXE⟩
end
end Go.Proofs.YtmocoldobnimfaaGreat
