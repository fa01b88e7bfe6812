/- Texts of this proof: KF. -/
import Derived.Test.YtmocoldobnimfaaGreatU15
set_option linter.all false
set_option maxRecDepth 100000
set_option maxHeartbeats 16000000
namespace Go.Proofs.YtmocoldobnimfaaGreat
section
open Go.RowKit
attribute [local go_sem ↓] Go.wp_at_zero Go.wp_at_succ
theorem KFz1 {P:Prop} (h:P:=by
 have HU3:=lh (show(U++[((i:Int),(i:Int)+rl)]).length=U.length+1 by simp);clear HUP
 go_wp2_with ((at_builtin;refine wpList_app _ rfl _ _ _ rfl w0.heap.size 82 iA (.agg #[.int .i64 0,.int .i64 0]) 2 16 Tryz.underlying65 jA0 jA1 jA2 jA3 rfl om B U.length d (flatS U) rfl (OwnS.ext HB7.out (Ext.alloc _ _)) _ 1 1 [.int .i64 i,.int .i64 ((i:Int)+rl)] rfl rfl (blk_cells (Blk.new _ _ _)) (by intro u hu;simp only[List.mem_cons,List.not_mem_nil,or_false] at hu;rcases hu with rfl|rfl<;>rfl) um om (X7.trans (Ext.alloc _ _)).size ?_;intro B8 d8 w8 ho8 hg8 hat8))
 have x8:Ext w0 w8:=Ext.app (X7.trans (Ext.alloc _ _)) (OwnS.ext HB7.out (Ext.alloc _ _)) hg8;have HB8:=lh (show OwnS w8 w0.heap.size 82 2 B8 (U++[((i:Int),(i:Int)+rl)]).length d8 (flatS (U++[((i:Int),(i:Int)+rl)])) by
  rw[HU3.out,flatS_append];exact ho8)
 go_roundw
 case rel=>exact⟨i+1,B8,d8,by go_num,om,by rw[HU2.out,HU3.out],by rw[HU2.out];exact HB8,x8⟩
 case measure=>simp[intOf];omega):P:=h
theorem KFz2 {P:Prop} (h:P:=by
 clear HUP
 go_wp2_with fail
 go_roundw
 case rel=>exact⟨i+1,B,d,by go_num,om,by rw[HU2.out],by rw[HU2.out];exact HB7,X7⟩
 case measure=>simp[intOf];omega):P:=h
theorem KFz3 {P:Prop} (h:P:=by
 have hfbt:fb=true:=by rw[HFB.out];simp[*]
 have HU2:=lh (show fndUp (insL hs) (stsOf sts) op ts true (i+1)=U++[((i:Int),(i:Int)+rl)] by rw[HUP.out,hfbt];rfl);exact KFz1):P:=h
theorem rfound_any (gA:Option Addr)(gc:Nat)(hs:List Hin)(runes:Bool)(caps:Int)(hG:GOk runes caps (insL hs))(w:World)(hP:PL w gA gc hs)(SA:Option Addr)(sc:Nat)(sts:List Hl)(hSS:LN w SA sc sts)(YA:Option Addr)(yn yc:Nat)(OA:Option Addr)(oc:Nat)(op:List Bool)(hO:IB w OA oc op)(hol:op.length=sts.length)
 (T:Option Addr) (tc:Nat) (ts:List Int) (hT:IL w T tc ts) (htl:ts.length≤1000000) (sure:Bool) :
 Calls Tryz.prog 31 #[mchV gA hs.length gc caps runes SA sts.length sc YA yn yc OA op.length oc,.slice T ts.length tc,.bool sure] w (RetFnd (foundG (insL hs) (stsOf sts) op ts sure) w):=by
 obtain⟨iA,jA0,jA1,jA2,jA3⟩:=info_parts infoA2;have hcap:=hP.len;have hcT:=hT.len;have hcO:=hO.len;have bG:=Blk.new w 53 #[.slice gA hs.length gc,.int .i64 caps,.bool runes,.slice SA sts.length sc,.slice YA yn yc,.slice OA op.length oc];have eG:=Ext.alloc w (.cells #[.slice gA hs.length gc,.int .i64 caps,.bool runes,.slice SA sts.length sc,.slice YA yn yc,.slice OA op.length oc] 53);have hn0:0<hs.length:=by have:=hG.len;rw[insL_len] at this;omega
 have HSTA:=fun(w:World) (hP:PL w gA gc hs) (F:Option Addr) fc hF=>lh (state_any gA gc hs runes caps hG w hP F fc [0] hF (fun i hi=>by have h0:i=0:=(by simpa using hi);omega));have HRUN:=fun(w:World) (hP:PL w gA gc hs) A c s hS hs0 T tc ts hT=>lh (rrun_any gA gc hs runes caps hG w hP A c s hS hs0 T tc ts hT 0);have HPLC:=fun(S:Option Addr) sc2 s w hL hS=>lh (place_any gA hs.length gc caps runes SA sc sts YA yn yc OA op.length oc S sc2 s w hL hS);have hs0:StOk hs.length (stateG (insL hs) [0]):=⟨stateG_lt _,by have h1:=stateG_len (G:=insL hs) [0];have h2:=hG.len;omega⟩;have HRO:=fun(i:Nat)=>lh (runR_ok hG (ts.drop i) 0 (stateG (insL hs) [0]) (if doneG (insL hs) (stateG (insL hs) [0])=true∧(0:Int)=0 then 0 else -1) hs0);have HFR:=lh (fndUp_rng (insL hs) (stsOf sts) op ts sure htl);have HOL:=lh hol;clear hol;unfold progV at HSTA HRUN;unfold mchV at HPLC ⊢;unfold foundG;clear hG;go_enter Tryz.func31,Tryz.ntmps31
 go_upto_region 3 with fail
 have hP0:=hP.ext eG;have hT0:=hT.ext eG;have hO0:=hO.ext eG;have hS0:=hSS.ext eG;generalize w.alloc (.cells #[.slice gA hs.length gc,.int .i64 caps,.bool runes,.slice SA sts.length sc,.slice YA yn yc,.slice OA op.length oc] 53)=w0 at *
 go_loopw [7,8] (fun v7 v8 wr=>∃(i:Nat) (B:Option Addr) (d:Nat),v8=.int .i64 i∧i≤ts.length+1∧v7=.slice B (fndUp (insL hs) (stsOf sts) op ts sure i).length d∧
  Hid (OwnS wr w0.heap.size 82 2 B (fndUp (insL hs) (stsOf sts) op ts sure i).length d (flatS (fndUp (insL hs) (stsOf sts) op ts sure i)))∧Ext w0 wr) (fun _ v _=>ts.length+1-(intOf v).toNat)
 case atStart=>exact⟨0,none,0,rfl,om,rfl,lh (OwnS.nil _ _ _ _),Ext.rfl' _⟩
 case round=>
  obtain⟨i,B,d,rfl,hi,rfl,HB,x1⟩:=hrel;by_cases hlt:i≤ts.length
  ·have hiI:(i:Int)≤ts.length:=om;have hiI2:(i:Int)≤tc:=om;have HUP:=lh (show fndUp (insL hs) (stsOf sts) op ts sure (i+1)=fndUp (insL hs) (stsOf sts) op ts sure i++(if fndB (insL hs) (stsOf sts) op ts sure i=true then[((i:Int),(i:Int)+(rrun (insL hs) (stateG (insL hs) [0]) (ts.drop i) 0).2)] else[]) from rfl);have HUL:=fndUp_len (insL hs) (stsOf sts) op ts sure i;have HBD:=rrun_bd (insL hs) (stateG (insL hs) [0]) (ts.drop i) 0;have hro:=(HRO i).out;have hdl:(ts.drop i).length=ts.length-i:=List.length_drop;have HDL:=lh hdl;rw[hdl] at HBD;clear hdl;have HFB:=lh (show fndB (insL hs) (stsOf sts) op ts sure i=(decide (0≤(rrun (insL hs) (stateG (insL hs) [0]) (ts.drop i) 0).2)&&(!sure || (decide (plc (stsOf sts) (rrun (insL hs) (stateG (insL hs) [0]) (ts.drop i) 0).1<0) || !op.getD (plc (stsOf sts) (rrun (insL hs) (stateG (insL hs) [0]) (ts.drop i) 0).1).toNat false))) from rfl);have hpl:∀s,plc (stsOf sts) s<op.length:=fun s=>by
    have hol:=HOL.out;unfold plc
    split
    ·rename_i h;have:=List.idxOf_lt_length_of_mem h;rw[stsOf_len] at this;rw[hol];omega
    ·omega
   have HRN:=fun(w':World) (x:Ext wr w') A c hS=>HRUN w' ((hP0.ext x1).ext x) A c (stateG (insL hs) [0]) hS hs0 (dropI T tc i) (tc-i) (ts.drop i) (((hT0.ext x1).ext x).dropN hlt);have HSN:=fun(w':World) (x:Ext wr w') F fc hF=>HSTA w' ((hP0.ext x1).ext x) F fc hF;have HPN:=fun(w':World) (x:Ext wr w') S sc2 s hS=>HPLC S sc2 s w' ((hS0.ext x1).ext x) hS;generalize hfb:fndB (insL hs) (stsOf sts) op ts sure i=fb at *;clear hfb;generalize hr:rrun (insL hs) (stateG (insL hs) [0]) (ts.drop i) 0=r at *;obtain⟨rs,rl⟩:=r
   simp only at HUP HBD HFB
   have hplk:=hpl rs;clear hr hpl hro;obtain⟨U,hU⟩:∃U,U=fndUp (insL hs) (stsOf sts) op ts sure i:=⟨_,rfl⟩
   rw[←hU] at HB HUP HUL ⊢;clear hU;have bG1:=bG.ext x1;have r0:wr.cell? ⟨w.heap.size,0,none⟩=some (.slice gA hs.length gc):=bG1.cell 0;have r1:wr.cell? ⟨w.heap.size,1,none⟩=some (.int .i64 caps):=bG1.cell 1;have r2:wr.cell? ⟨w.heap.size,2,none⟩=some (.bool runes):=bG1.cell 2;have k0:=kc0 r0;have k1:=kc0 r1;have k2:=kc0 r2;have e00:((0:Nat):Int)=0:=rfl;clear r0 r1 r2
   go_wp2_with fail
   refine Xr.start [] kr ?_;refine Xtk 0 ?_
   iterate 3(refine Xtn ?_)
   refine Xtk 6 ?_;refine Xtn ?_;refine Xr.take 8 (some 27) (v:=.slice (dropI T tc i) (ts.length-i) (tc-i)) rfl rfl dK (by rfl) (fun w' hk=>?_) ?_
   ·by_cases hcc:tc=i
    ·have hd:dropI T tc i=T:=by unfold dropI;rw[if_pos hcc]
     rw[hd];go_simp
    ·have hd:dropI T tc i=T.map (fun x=>x.add i):=by unfold dropI;rw[if_neg hcc]
     rw[hd];go_simp
   refine ptm ?_;refine Xr.lazy 4 23 5 (fun g=>.slice (some ⟨g,0,none⟩) 1 1) 3 #[.int .i64 0] rfl si dK si (fun w'=>by go_simp) ?_;refine Xr.stepZ rfl dK (fun _=>by rfl) (fun w2 gq hE2 hK2 hgq hq _ K hKK=>?_);go_simp;refine(HSN w2 hK2.nil (some ⟨gq,0,none⟩) 1 (IL.one (x:=0) hq (by unfold I64;omega))).out.mono ?_;rintro e w3 ⟨A3,c3,rfl,hA3,x3,f3⟩;refine hKK _ _ (WI_ext x3) (hK2.ext x3) ?_;clear hKK;refine ptm ?_;refine Xcl 9 fun w4 hE4 hK4 K hKK=>?_;go_simp;have HR4:=HRN w4 hK4.nil A3 c3 (hA3.ext hE4);rw[HDL.out] at HR4;refine HR4.out.mono ?_;rintro e w5 ⟨A5,c5,rfl,hA5,x5⟩;refine hKK _ _ x5 ?_;clear hKK;refine ptm ?_;refine Xtk 10 ?_
   iterate 4(refine Xtn ?_)
   refine Xdn fun w6 hE6 hK6=>?_;have y6:=hK6.nil;have bG6:=bG1.ext y6;have q0:w6.cell? ⟨w.heap.size,0,none⟩=some (.slice gA hs.length gc):=bG6.cell 0;have q1:w6.cell? ⟨w.heap.size,1,none⟩=some (.int .i64 caps):=bG6.cell 1;have q2:w6.cell? ⟨w.heap.size,2,none⟩=some (.bool runes):=bG6.cell 2;have q3:w6.cell? ⟨w.heap.size,3,none⟩=some (.slice SA sts.length sc):=bG6.cell 3;have q4:w6.cell? ⟨w.heap.size,4,none⟩=some (.slice YA yn yc):=bG6.cell 4;have q5:w6.cell? ⟨w.heap.size,5,none⟩=some (.slice OA op.length oc):=bG6.cell 5;have HP6:=HPN w6 y6 A5 c5 rs (hA5.ext hE6);have HB6:=lh (OwnS.ext HB.out y6);have X6:=x1.trans y6;have hO6:=hO0.ext X6;have hrl2:rl≤1000000:=om;clear k0 k1 k2 hE2 hK2 hgq hq hA3 x3 f3 hE4 hK4 hE6 hK6 hA5 x5 HR4 HRN HSN HPN HB bG1 e00
   go_upto_region 7 with fail
   refine HP6.out.mono ?_;rintro e w7 ⟨rfl,x7⟩;have bG7:=bG6.ext x7;have q5':w7.cell? ⟨w.heap.size,5,none⟩=some (.slice OA op.length oc):=bG7.cell 5;have HB7:=lh (OwnS.ext HB6.out x7);have X7:=X6.trans x7;have hO7:=hO6.ext x7;clear q0 q1 q2 q3 q4 q5 HP6 HB6 bG6 hO6 X6;generalize plc (stsOf sts) rs=pk at *;by_cases hrl0:0≤rl
   ·cases sure
    ·have hfbt:fb=true:=by rw[HFB.out];simp[*]
     have HU2:=lh (show fndUp (insL hs) (stsOf sts) op ts false (i+1)=U++[((i:Int),(i:Int)+rl)] by rw[HUP.out,hfbt];rfl);exact KFz1
    ·by_cases hpk:pk<0
     ·exact KFz3
     ·obtain⟨pn,rfl⟩:∃pn:Nat,pk=pn:=⟨pk.toNat,om⟩;have hpn:pn<op.length:=om;have hpnI:(pn:Int)<op.length:=om;obtain⟨ob,oo,rfl,o0⟩:=hO7.get hpn;have hge:op.getD ((pn:Nat):Int).toNat false=op[pn]:=by simp[List.getD_eq_getElem?_getD,hpn]
      rw[hge] at HFB;clear hge;generalize op[pn]=ob1 at *;cases ob1
      ·exact KFz3
      ·have hfbt:fb=false:=by rw[HFB.out];simp[*]
       have HU2:=lh (show fndUp (insL hs) (stsOf sts) op ts true (i+1)=U by rw[HUP.out,hfbt];simp);exact KFz2
   ·have hfbt:fb=false:=by rw[HFB.out];simp[hrl0]
    have HU2:=lh (show fndUp (insL hs) (stsOf sts) op ts sure (i+1)=U by rw[HUP.out,hfbt];simp);exact KFz2
  ·have hiI:¬(i:Int)≤ts.length:=om;obtain rfl:i=ts.length+1:=om;have HSL:=lh (SL.of_ownT HB.out (HFR.out _ (Nat.le_refl _)));generalize fndUp (insL hs) (stsOf sts) op ts sure (ts.length+1)=l at *
   go_wp2_with fail
   go_ret
   exact⟨B,d,rfl,HSL.out,eG.trans x1⟩
end
end Go.Proofs.YtmocoldobnimfaaGreat
