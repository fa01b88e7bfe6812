/- Texts of this proof: Y11x DK. -/
import Derived.Test.YtmocoldobnimfaaGreatU29
import Derived.Test.YtmocoldobnimfaaGreatU00
import Derived.Test.YtmocoldobnimfaaGreatU55
import Derived.Test.YtmocoldobnimfaaGreatV00
set_option linter.all false
set_option maxRecDepth 100000
set_option maxHeartbeats 16000000
namespace Go.Proofs.YtmocoldobnimfaaGreat
section
open Go.RowKit
attribute [local go_sem ↓] Go.wp_at_zero Go.wp_at_succ
theorem empty_any (w:World)(g:Nat)(m:Ma)(nc:Nat)(strt:List Sp)(hM:MachAt w g m nc strt) :
 Calls Tryz.prog 35 #[.pointer (some ⟨g,0,none⟩)] w (RetSum m g [] w):=by
 have HW:=lh (whole_any w g m nc strt hM (fun _=>0) none 0 [] (IL.nil w) si (fun x hx=>by simp at hx))
 clear hM
 go_enter Tryz.func35,Tryz.ntmps35
 go_upto_region 2 with fail
 refine HW.out.mono ?_
 rintro e w1 ⟨gs,s,rfl,h1,h2,x⟩
 go_wp2_with fail
 go_ret
 exact⟨gs,s,rfl,h1,h2,x⟩
theorem of_bad (w:World)(g:Nat)(m:Ma)(hM:MaAt w g m)(T:Option Addr)(tc:Nat)(ts:List Int)(hT:IL w T tc ts)(hv:textE m.runes ts≠0) :
 Calls Tryz.prog 26 #[.pointer (some ⟨g,0,none⟩),.slice T ts.length tc] w (RetV (.tuple #[.pointer none,.int .i64 (textE m.runes ts)]) w):=by
 have HV:=lh (tvalid_any T tc ts m.runes w hT)
 have c0:w.cell? ⟨g,0,none⟩=some (.bool m.runes):=hM.blk.cell 0
 have hcap:=hT.len
 have hne:(textE m.runes ts == 0)=false:=by simpa using hv
 generalize textE m.runes ts=t at *
 clear hM hT hv
 go_enter Tryz.func26,Tryz.ntmps26
 go_upto_region 2 with fail
 refine HV.out.mono ?_
 rintro e w1 ⟨rfl,x1⟩
 go_wp2_with fail
 go_ret2
 exact⟨rfl,x1⟩
end
section
open Go.RowKit
attribute [local go_sem ↓] Go.wp_at_zero Go.wp_at_succ
@[irreducible] def zeroT:Array Value:=(List.replicate 65537 (Value.int .i64 0)).toArray
theorem mkI65 (W:World):(Instr.makeSlice 22 (.int .i64 65537) (.int .i64 65537)).run Tryz.prog W=.ok (.slice (some ⟨W.heap.size,0,none⟩) 65537 65537) (W.alloc (.cells zeroT 3)):=by
 have key:∀n:Nat,n≤1000000→(Instr.makeSlice 22 (.int .i64 (n:Int)) (.int .i64 (n:Int))).run Tryz.prog W=.ok (.slice (some ⟨W.heap.size,0,none⟩) n n) (W.alloc (.cells (List.replicate n (Value.int .i64 0)).toArray 3)):=fun n h=>by
  obtain⟨i0,hi0,hz0,hz1,hz2⟩:=info_parts infoInt;have:=run_make (P:=Tryz.prog) W 22 3 i0 (.int .i64 0) Tryz.underlying22 hi0 hz0 .i64 .i64 n n om (Int.le_refl _) (by rw[hz2];omega) om;rw[this,hz1];simp only[Int.toNat_natCast,Value.cells];rw[madeCells_one]
 unfold zeroT;exact key 65537 om
theorem of_long (W:World)(g:Nat)(m:Ma)(hM:MaAt W g m):Calls Tryz.prog 26 #[.pointer (some ⟨g,0,none⟩),.slice (some ⟨W.heap.size,0,none⟩) 65537 65537] (W.alloc (.cells zeroT 3)) (RetV (.tuple #[.pointer none,.int .i64 4]) (W.alloc (.cells zeroT 3))):=by
 have B:=Blk.new W 3 zeroT;obtain⟨zs,hz⟩:∃zs,zs=List.replicate 65537 (0:Int):=⟨_,rfl⟩;have hzl:zs.length=65537:=by rw[hz,List.length_replicate]
 have hI:IL (W.alloc (.cells zeroT 3)) (some ⟨W.heap.size,0,none⟩) zs.length zs:=IL.of_blk (T:=3) (by rw[hz,List.map_replicate];unfold zeroT at B ⊢;exact B) (fun x hx=>by rw[hz] at hx;rw[List.eq_of_mem_replicate hx];unfold I64;omega) (by rw[hzl];unfold maxLen;omega);have he:textE m.runes zs=4:=by unfold textE;rw[if_pos (by rw[hzl];omega)]
 have h:=of_bad _ g m (hM.ext (Ext.alloc W (.cells zeroT 3))) _ _ zs hI (by rw[he];decide);rw[he,hzl] at h;exact h
theorem smEq_of {m:Ma}{g:Nat}{cl:List Nat}{sa sb:Sm}(ha:SumOf m g cl sa)(hb:SumOf m g cl sb):smEq sa sb=true:=by
 unfold smEq;rw[ha.len,hb.len,ha.tg,hb.tg,ha.last,hb.last,ha.st,hb.st,ha.en,hb.en]
 simp
theorem symV_of (rn:Bool)(x:Int):symV rn x=(if rn=true then decide ((0≤x∧x<55296)∨(57343<x∧x≤1114111)) else decide (0≤x∧x<256)):=by
 unfold symV;cases rn
 ·simp only[Bool.false_eq_true,if_false];exact decide_eq_decide.2 om
 ·simp only[if_true,Bool.decide_or]
theorem DKz1 {P:Prop} (h:P:=by
 clear HGB
 go_wp2_with fail
 go_meet
 exact⟨congrArg Value.bool hs.out.symm,rfl⟩):P:=h
theorem monoidArguments_any (w:World)(LA:Option Addr)(lc:Nat)(ls:List Int)(MA:Option Addr)(mc:Nat)(ms:List Int)(plain:Bool)(x:Int)(hl:IL w LA lc ls)(hm:IL w MA mc ms)(hx:I64 x) :
 Calls Tryz.prog 7 #[.slice LA ls.length lc,.slice MA ms.length mc,.bool plain,.int .i64 x] w (RetV (.bool true) w):=by
 have hll:=hl.len;have hmm:=hm.len;have HSO:=lh (qsome_any w LA lc ls MA mc ms plain hl hm);have HXI:=lh hx;clear hl hm hx;go_enter Tryz.func7,Tryz.ntmps7
 go_upto_region 2 with(go_at_call 24;refine HSO.out.mono ?_;rintro e w1 ⟨A,c,hs,cp,rn,TA,tc,ts,rfl,hg,hcp,hT,htb,htl,x1⟩)
 have E2:=Ext.alloc w1 (.cells #[.slice A hs.length c,.int .i64 cp,.bool rn] 33);have B2:=Blk.new w1 33 #[.slice A hs.length c,.int .i64 cp,.bool rn];change Code.wp _ _ _ _ (w1.alloc (.cells #[.slice A hs.length c,.int .i64 cp,.bool rn] 33));have D:=lh ((hg.gd rim0.1 rim0.2).ext E2);have HT2:=lh (hT.ext E2);have HTS:=lh htb;have HX2:=lh (x1.trans E2);have hl2:=hg.pl.len;have ht2:=hT.len;obtain⟨g9,hg9⟩:∃g,g=w1.heap.size:=⟨_,rfl⟩
 rw[←hg9] at B2 ⊢;clear hg9 hg hcp hT htb x1 HSO E2;generalize w1.alloc (.cells #[.slice A hs.length c,.int .i64 cp,.bool rn] 33)=w2 at *;obtain⟨v0,v1,v2,_⟩:=B2.c3;have HB9:=lh B2;have HR10:=lh (real_any w2 A c hs cp rn D.out.pl D.out.len);clear B2
 go_upto_region 3 with(first|(have hq:=HRL;go_at_call 20;refine(new_any2 w15 A15 c15 hs rn cp HP15.out D.out.sm).mono ?_;rintro e w16 ⟨x16,hN⟩;have HX16:=lh (HRL.out.trans x16);have u0:=x16.cell t0;have u1:=x16.cell t1;have u2:=x16.cell t2;clear x16;rcases hN with⟨hn0,rfl⟩|⟨hn0,g5,m5,s5,R5,rfl,hg5,hok5⟩)|(go_at_call 21;refine HR10.out.mono ?_;rintro e w15 ⟨A15,c15,rfl,hp15,x15⟩;have HRL:=lh x15;have HP15:=lh hp15;have t0:=x15.cell v0;have t1:=x15.cell v1;have t2:=x15.cell v2;clear x15 hp15))
 ·go_upto_region 4 with(first|(have hq:=HRL2;go_at_call 20;refine(new_any2 w18 A18 c18 hs rn cp HP18.out D.out.sm).mono ?_;rintro e w19 ⟨x19,hN2⟩;have HX19:=lh (HX16.out.trans (HRL2.out.trans x19));clear x19;rcases hN2 with⟨hm0,rfl⟩|⟨hm0,_,_,_,_,rfl,_,_⟩<;>first|exact absurd hm0 hn0|skip)|(go_at_call 21;refine(real_any w16 A c hs cp rn (D.out.pl.ext HX16.out) D.out.len).mono ?_;rintro e w18 ⟨A18,c18,rfl,hp18,x18⟩;have HRL2:=lh x18;have HP18:=lh hp18;clear x18 hp18))
  have hb2:(newE rn cp (insL hs) != 0)=true:=by simpa using hn0
  clear u0 u1 u2
  go_wp2_with (go_at_call 23;refine(mlives_any _).mono ?_;rintro e w20 ⟨rfl,x20⟩;have HXE:=lh (HX2.out.trans (HX19.out.trans x20)))
  go_ret
  exact⟨rfl,HXE.out⟩
 ·have HOK:=lh hok5;have hg5l:g5<w16.heap.size:=hok5.at_.at_.blk.lt;clear hok5
  go_upto_region 4 with(first|(have hq:=HRL2;go_at_call 20;refine(new_any2 w18 A18 c18 hs rn cp HP18.out D.out.sm).mono ?_;rintro e w19 ⟨x19,hN2⟩;have HX19:=lh (HX16.out.trans (HRL2.out.trans x19));have HOK19:=lh (HOK.out.ext (HRL2.out.trans x19));have hsz:=(HRL2.out).size;clear x19;rcases hN2 with⟨hm0,rfl⟩|⟨hm0,g6,m6,s6,R6,rfl,hg6,hok6⟩<;>first|exact absurd hn0 hm0|skip)|(go_at_call 21;refine(real_any w16 A c hs cp rn (D.out.pl.ext HX16.out) D.out.len).mono ?_;rintro e w18 ⟨A18,c18,rfl,hp18,x18⟩;have HRL2:=lh x18;have HP18:=lh hp18;clear x18 hp18))
  have hne56:g5≠g6:=om;have HOK6:=lh hok6;have HX29:=lh (HX2.out.trans HX19.out);have HT19:=lh (HT2.out.ext HX19.out);have HB19:=lh (HB9.out.ext HX19.out);clear hok6 HRL2 HP18 HX16 HOK HX19 HRL HP15 u0 u1 u2 hn0 hm0 HX2 HT2 HB9 hsz hg6 hg5 hg5l HR10 D
  go_upto_region 6 with fail
  obtain⟨z0,z1,z2,_⟩:=HB19.out.c3;clear HB19 z0 z1;obtain⟨gb,hgb⟩:∃gb,gb=decide (0≤x∧x<256):=⟨_,rfl⟩;have HGB:=lh hgb;clear hgb
  go_cut [15] from 85 to 90 (fun v15 wx=>v15=.bool gb∧w19=wx)
  case first=>
   clear HOK19 HOK6 HT19 HTS HX29 HXI;by_cases h0:0≤x
   ·by_cases h1:x<256
    ·have hs:=lh (HGB.out.trans (decide_eq_true (p:=0≤x∧x<256) ⟨h0,h1⟩));exact DKz1
    ·have hs:=lh (HGB.out.trans (decide_eq_false (p:=0≤x∧x<256) om));exact DKz1
   ·have hs:=lh (HGB.out.trans (decide_eq_false (p:=0≤x∧x<256) om));exact DKz1
  case rest=>
   obtain⟨rfl,hwc⟩:=hcut;subst hwc
   go_upto_if 92 with fail
   go_cut [15] from 91 to 106 (fun v15 wx=>v15=.bool (symV rn x)∧w19=wx)
   case first=>
    clear HOK19 HOK6 HT19 HTS HX29 HXI;cases rn
    ·have hs:=lh (HGB.out.trans (symV_of false x).symm);clear HGB
     go_wp2_with fail
     go_meet
     exact⟨congrArg Value.bool hs.out,rfl⟩
    ·clear HGB;by_cases h0:0≤x<;>by_cases h2:x≤1114111<;>by_cases h3:x<55296<;>by_cases h4:57343<x<;>first|(exfalso;omega)|((first|have ht:=lh ((symV_of true x).trans (decide_eq_true (p:=(0≤x∧x<55296)∨(57343<x∧x≤1114111)) om))|have ht:=lh ((symV_of true x).trans (decide_eq_false (p:=(0≤x∧x<55296)∨(57343<x∧x≤1114111)) om)));go_wp2_with fail;go_meet;exact⟨congrArg Value.bool ht.out.symm,rfl⟩)
   case rest=>
    obtain⟨rfl,hwc⟩:=hcut;subst hwc;obtain⟨gd,hgd⟩:∃gd,symV rn x=gd:=⟨_,rfl⟩;rw[hgd];clear z2 HGB;have HGD:=lh hgd;clear hgd;have hsym:=sym_small (rn:=rn) HTS.out;have HSY:=lh hsym;clear hsym;have HSYM:Hid (Calls Tryz.prog 36 #[.pointer (some ⟨g5,0,none⟩),.int .i64 x] w19 (fun e w'=>∃(p:Option Addr) (k:Int),e=.returned (.tuple #[.pointer p,.int .i64 k])∧Hid ((gd=true∧k=0)∨(gd=false∧k=5∧p=none))∧Ext w19 w')):=lh (by
     cases gd
     ·refine(symbol_bad w19 g5 m5 HOK19.out.at_.at_ x HXI.out (by rw[HOK19.out.run];unfold textE;rw[if_neg si,if_neg (by simp[HGD.out])];decide)).mono ?_;rintro e w' ⟨rfl,y⟩;exact⟨none,5,rfl,lh (.inr ⟨rfl,rfl,rfl⟩),y⟩
     ·refine(HOK19.out.symbol HGD.out HXI.out).mono ?_;rintro e w' ⟨gs,s,rfl,_,_,y⟩;exact⟨some ⟨gs,0,none⟩,0,rfl,lh (.inl ⟨rfl,rfl⟩),y⟩)
    go_upto_region 10 with(go_at_call 36;refine HSYM.out.mono ?_;rintro e w20 ⟨p1,k1,rfl,hp1,y20⟩)
    obtain⟨i0,hi0,hz0,hz1,hz2⟩:=info_parts infoInt;have EE:=Ext.alloc w20 (.cells #[] 3);have HOE:Hid (OwnS (w20.alloc (.cells #[] 3)) w20.heap.size 3 1 (some ⟨w20.heap.size,0,none⟩) 0 0 []):=lh (OwnS.of_blk (n:=0) (c:=0) (Blk.new w20 _ #[]) (Nat.le_refl _) si si um);have HCL:=lh ((HT19.out.ext (y20.trans EE)).cells);have HEE:=lh EE;have HY20:=lh y20;obtain⟨ys,HYS⟩:∃ys,Hid (ys=ts++[x]):=⟨_,lh rfl⟩;have HOF:Hid (∀(w':World) (B:Option Addr) (d:Nat),Ext w19 w'→OwnI w' w20.heap.size 3 B d ys→Calls Tryz.prog 26 #[.pointer (some ⟨g5,0,none⟩),.slice B ys.length d] w' (fun e w2=>∃(p:Option Addr) (k:Int),e=.returned (.tuple #[.pointer p,.int .i64 k])∧Hid ((gd=true∧k=0)∨(gd=false∧k=5∧p=none))∧Ext w' w2)):=lh (fun w' B d hy ho=>by
     rw[HYS.out] at ho ⊢;have hI:=IL.of_own ho (fun z hz=>by
      rcases List.mem_append.1 hz with hz|hz
      ·exact I64_of (by have:=HTS.out z hz;omega)
      ·rw[List.mem_singleton.1 hz];exact HXI.out)
     have hall:(ts++[x]).all (symV rn)=gd:=by rw[List.all_append,HSY.out];simp[HGD.out]
     have hlen:(ts++[x]).length≤65536:=by rw[List.length_append];simp;omega
     cases gd
     ·refine(of_bad w' g5 m5 (HOK19.out.ext hy).at_.at_ B d _ hI (by rw[HOK19.out.run];unfold textE;rw[if_neg om,if_neg (by rw[hall];decide)];decide)).mono ?_;rw[show textE m5.runes (ts++[x])=5 from by rw[HOK19.out.run];unfold textE;rw[if_neg om,if_neg (by rw[hall];decide)]];rintro e w2 ⟨rfl,y⟩;exact⟨none,5,rfl,lh (.inr ⟨rfl,rfl,rfl⟩),y⟩
     ·refine((HOK19.out.ext hy).of hI hall hlen).mono ?_;rintro e w2 ⟨gs,s,rfl,_,_,y⟩;exact⟨some ⟨gs,0,none⟩,0,rfl,lh (.inl ⟨rfl,rfl⟩),y⟩)
    clear EE y20 HSYM
    go_upto_region 11 with(first|(have hq:=HO2;go_at_call 26;refine(HOF.out w22 _ _ HX22.out HO2.out).mono ?_;rintro e w23 ⟨p2,k2,rfl,hp2,y23⟩)|(have hq:=HO1;at_builtin;refine wpList_app1I (w1:=w21) rfl _ _ _ rfl 3 infoInt Tryz.underlying22 w20 HX21.out x rfl A2 c2 ts rfl HO1.out rfl om ys HYS.out ?_;intro A3 c3 w22 ho3 x22 _ _;have HO2:=lh ho3;have HX22:=lh (HY20.out.trans x22);clear ho3 x22)|(at_builtin;refine wpList_app _ rfl _ _ _ rfl w20.heap.size 3 i0 (.int .i64 0) 1 8 Tryz.underlying22 hi0 hz0 hz1 hz2 rfl om _ 0 0 [] rfl HOE.out _ ts.length tc (ts.map (Value.int .i64)) rfl si HCL.out (ints_one ts) um om HEE.out.size ?_;intro A2 c2 w21 ho2 hg2 hat2;have HX21:=lh (HEE.out.grown hg2 si);simp only[Nat.zero_add,List.nil_append] at ho2 ⊢;have HO1:Hid (OwnI w21 w20.heap.size 3 A2 c2 ts):=lh ho2;clear ho2 hg2 hat2))
    have HX23:=lh (HX22.out.trans y23);clear y23 HO1 HO2 HX21 HX22 HOF HOE HCL HEE HY20
    go_cut [157] from 124 to 157 (fun v157 wx=>v157=.bool false∧w23=wx)
    case first=>
     clear HOK19 HOK6 HT19 HTS HX29 HXI HSY HGD HYS HX23;rcases hp1.out with⟨rfl,rfl⟩|⟨rfl,rfl,rfl⟩
     all_goals(rcases hp2.out with⟨h,rfl⟩|⟨h,rfl,rfl⟩<;>first|exact absurd h de|(clear h hp1 hp2;go_wp2_with fail;go_meet;exact⟨rfl,rfl⟩))
    case rest=>
     obtain⟨rfl,hwc⟩:=hcut;subst hwc;clear hp1 hp2 HYS HGD;have HOA:=fun(w':World) (y:Ext w23 w')=>lh ((HOK19.out.ext (HX23.out.trans y)).of (HT19.out.ext (HX23.out.trans y)) HSY.out om);have HOB:=fun(w':World) (y:Ext w23 w')=>lh ((HOK6.out.ext (HX23.out.trans y)).of (HT19.out.ext (HX23.out.trans y)) HSY.out om)
     go_upto_region 13 with fail
     go_upto_region 14 with(go_at_call 26;refine(HOA _ (Ext.rfl' _)).out.mono ?_;rintro e w24 ⟨ga,sa,rfl,ha,ka,y24⟩)
     go_upto_region 15 with(go_at_call 26;refine(HOB _ y24).out.mono ?_;rintro e w25 ⟨gb,sb,rfl,hb,kb,y25⟩)
     go_upto_region 16 with(go_at_call 26;refine(HOA _ (y24.trans y25)).out.mono ?_;rintro e w26 ⟨gc,sc,rfl,hcc,kc,y26⟩)
     have HX26:=lh (HX23.out.trans ((y24.trans y25).trans y26));have SA:=lh (ha.ext (y25.trans y26));have SB:=lh (hb.ext y26);have SC:=lh hcc;have KA:=lh ka;have KB:=lh kb;have KC:=lh kc;clear ha hb hcc ka kb kc y24 y25 y26 HOA HOB;have hma:sa.m=g5:=KA.out.mch;have hmb:sb.m=g6:=KB.out.mch;have hmc:sc.m=g5:=KC.out.mch;have HM:=lh (⟨hma,hmb,hmc⟩:sa.m=g5∧sb.m=g6∧sc.m=g5);clear hma hmb hmc;have M5:=fun(w':World) (y:Ext w26 w')=>lh (HOK19.out.ext (HX26.out.trans y)).at_.at_.blk;have M6:=fun(w':World) (y:Ext w26 w')=>lh (HOK6.out.ext (HX26.out.trans y)).at_.at_.blk;have OA:Hid (∀w',Ext w26 w'→Calls Tryz.prog 81 #[.pointer (some ⟨g5,0,none⟩),.pointer (some ⟨ga,0,none⟩)] w' (RetV (.bool true) w')):=lh (fun w' y=>by
      have h:=owns_any w' g5 ga sa (SA.out.ext y) _ _ _ _ (M5 w' y).out (by rw[HM.out.1];exact(M5 w' y).out)
      rwa [decide_eq_true HM.out.1] at h)
     have OB:Hid (∀w',Ext w26 w'→Calls Tryz.prog 81 #[.pointer (some ⟨g5,0,none⟩),.pointer (some ⟨gb,0,none⟩)] w' (RetV (.bool false) w')):=lh (fun w' y=>by
      have h:=owns_any w' g5 gb sb (SB.out.ext y) _ _ _ _ (M5 w' y).out (by rw[HM.out.2.1];exact(M6 w' y).out)
      rwa [decide_eq_false (by rw[HM.out.2.1];exact hne56.symm)] at h)
     have Q1:=fun(w':World)=>lh (equal_nil2 w' (some ⟨ga,0,none⟩));have Q2:=fun(w':World)=>lh (equal_nil2 w' none);have Q3:=fun(w':World) (y:Ext w26 w')=>lh (equal_other w' ga gb sa sb (SA.out.ext y) (SB.out.ext y) (by rw[HM.out.1,HM.out.2.1];exact hne56) (by rw[HM.out.1];exact(M5 w' y).out) (by rw[HM.out.2.1];exact(M6 w' y).out));have Q4:=fun(w':World) (y:Ext w26 w')=>lh (show Calls Tryz.prog 33 #[.pointer (some ⟨ga,0,none⟩),.pointer (some ⟨gc,0,none⟩)] w' (RetV (.bool true) w') by
      have h:=equalS_any w' ga gc sa sc (SA.out.ext y) (SC.out.ext y) (by rw[HM.out.1,HM.out.2.2])
      rwa [smEq_of KA.out KC.out] at h)
     have J1:=fun(w':World) (y:Ext w26 w')=>lh (join_bad w' g5 (some ⟨ga,0,none⟩) none true false rfl (fun w2 z=>OA.out w2 (y.trans z)) (fun w2 _=>owns_nil w2 g5));have J2:=fun(w':World) (y:Ext w26 w')=>lh (join_bad w' g5 none (some ⟨ga,0,none⟩) false true rfl (fun w2 _=>owns_nil w2 g5) (fun w2 z=>OA.out w2 (y.trans z)));have J3:=fun(w':World) (y:Ext w26 w')=>lh (join_bad w' g5 (some ⟨ga,0,none⟩) (some ⟨gb,0,none⟩) true false rfl (fun w2 z=>OA.out w2 (y.trans z)) (fun w2 z=>OB.out w2 (y.trans z)));have J4:=fun(w':World) (y:Ext w26 w')=>lh (found_bad w' g5 (some ⟨gb,0,none⟩) (fun w2 z=>OB.out w2 (y.trans z)));have J5:=fun(w':World)=>lh (sure_bad w' g5 none (fun w2 _=>owns_nil w2 g5));have J6:=fun(w':World) (y:Ext w26 w')=>lh ((HOK19.out.ext (HX26.out.trans y)).join (SA.out.ext y) KA.out (SA.out.ext y) KA.out HSY.out HSY.out om);clear M5 M6 OA OB
     go_upto_region 18 with(first|(have hq:=s3;go_at_call 33;refine(Q4 _ s3.out).out.mono ?_;rintro e w30 ⟨rfl,y30⟩;have s4:=lh (s3.out.trans y30))|(have hq:=s2;go_at_call 33;refine(Q3 _ s2.out).out.mono ?_;rintro e w29 ⟨rfl,y29⟩;have s3:=lh (s2.out.trans y29))|(have hq:=s1;go_at_call 33;refine(Q2 _).out.mono ?_;rintro e w28 ⟨rfl,y28⟩;have s2:=lh (s1.out.trans y28))|(go_at_call 33;refine(Q1 _).out.mono ?_;rintro e w27 ⟨rfl,y27⟩;have s1:=lh y27))
     clear y27 y28 y29 y30 s1 s2 s3 Q1 Q2 Q3
     go_upto_region 19 with(go_at_call 27;refine(J1 _ s4.out).out.mono ?_;rintro e w31 ⟨rfl,y31⟩)
     have s5:=lh (s4.out.trans y31)
     go_upto_region 20 with(go_at_call 27;refine(J2 _ s5.out).out.mono ?_;rintro e w32 ⟨rfl,y32⟩)
     have s6:=lh (s5.out.trans y32)
     go_upto_region 21 with(go_at_call 27;refine(J3 _ s6.out).out.mono ?_;rintro e w33 ⟨rfl,y33⟩)
     have s7:=lh (s6.out.trans y33)
     go_upto_region 22 with(go_at_call 28;refine(J4 _ s7.out).out.mono ?_;rintro e w34 ⟨rfl,y34⟩)
     have s8:=lh (s7.out.trans y34)
     go_upto_region 23 with(go_at_call 29;refine(J5 _).out.mono ?_;rintro e w35 ⟨rfl,y35⟩)
     have s9:=lh (s8.out.trans y35);clear J1 J2 J3 J4 J5 y31 y32 y33 y34 y35 s4 s5 s6 s7 s8
     go_upto_region 24 with(go_at_call 27;refine(J6 _ s9.out).out.mono ?_;rintro e w36 ⟨gd2,sd,rfl,hd,kd,y36⟩)
     have s10:=lh (s9.out.trans y36);have J7:=lh ((HOK19.out.ext (HX26.out.trans s10.out)).join hd kd (SA.out.ext s10.out) KA.out (by rw[List.all_append,HSY.out];rfl) HSY.out (by rw[List.length_append];omega));clear J6 y36 s9 hd kd
     go_upto_region 25 with(go_at_call 27;refine J7.out.mono ?_;rintro e w37 ⟨gt,st,rfl,htt,kt,y37⟩)
     have s11:=lh (s10.out.trans y37);have ST:=lh htt;have KT:=lh kt;clear J7 y37 s10 htt kt;have HLG:=lh (of_long w37 g5 m5 (HOK19.out.ext (HX26.out.trans s11.out)).at_.at_);have EZ:=Ext.alloc w37 (.cells zeroT 3);have hmk:=mkI65
     go_upto_region 26 with(go_at_call 26;refine HLG.out.mono ?_;rintro e w38 ⟨rfl,y38⟩)
     have s12:=lh (s11.out.trans (EZ.trans y38));have z38:=lh (EZ.trans y38);clear hmk HLG EZ y38;have ewm:IntKind.i64.wrap (3*(ts.length:Int))=3*(ts.length:Int):=wj;have L1:=fun(w':World) (y:Ext w26 w') (z:Ext w37 w')=>lh (show Calls Tryz.prog 30 #[.pointer (some ⟨gt,0,none⟩)] w' (RetV (.int .i64 (3*(ts.length:Int))) w') by
      have h:=len_any w' gt st (ST.out.ext z);have hl:=KT.out.len;have e:(st.len:Int)=3*(ts.length:Int):=by rw[hl];simp;omega
      rwa [e] at h)
     have L2:=fun(w':World) (y:Ext w26 w')=>lh (show Calls Tryz.prog 30 #[.pointer (some ⟨ga,0,none⟩)] w' (RetV (.int .i64 (ts.length:Int)) w') by
      have h:=len_any w' ga sa (SA.out.ext y);have hl:=KA.out.len;have e:(sa.len:Int)=(ts.length:Int):=by rw[hl];simp
      rwa [e] at h)
     have EM:=fun(w':World) (y:Ext w26 w')=>lh (empty_any w' g5 m5 _ s5 (HOK19.out.ext (HX26.out.trans y)).at_)
     go_wp2_with (first|(have hq:=q7;go_at_call 23;refine(mlives_any _).mono ?_;rintro e w46 ⟨rfl,r46⟩;have q8:=lh (q7.out.trans r46))|(have hq:=q6;go_at_call 30;refine(len_any _ ge2 se2 se2A.out).mono ?_;rintro e w45 ⟨rfl,r45⟩;have q7:=lh (q6.out.trans r45))|(have hq:=q5;go_at_call 35;refine(EM _ q5.out).out.mono ?_;rintro e w44 ⟨ge2,se2,rfl,h2,k2',r44⟩;have se2A:=lh h2;have hse:se2.len=0:=k2'.len;have q6:=lh (q5.out.trans r44))|(have hq:=q4;go_at_call 35;refine(EM _ q4.out).out.mono ?_;rintro e w43 ⟨ge1,se1,rfl,_,_,r43⟩;have q5:=lh (q4.out.trans r43))|(have hq:=q3;go_at_call 30;refine(L2 _ q3.out).out.mono ?_;rintro e w42 ⟨rfl,r42⟩;have q4:=lh (q3.out.trans r42))|(have hq:=q2;go_at_call 33;refine(Q4 _ q2.out).out.mono ?_;rintro e w41 ⟨rfl,r41⟩;have q3:=lh (q2.out.trans r41))|(go_at_call 30;refine(L1 _ s12.out z38.out).out.mono ?_;rintro e w40 ⟨rfl,r40⟩;have q2:=lh (s12.out.trans r40)))
     go_ret
     exact⟨rfl,HX29.out.trans (HX26.out.trans q8.out)⟩
end
end Go.Proofs.YtmocoldobnimfaaGreat
