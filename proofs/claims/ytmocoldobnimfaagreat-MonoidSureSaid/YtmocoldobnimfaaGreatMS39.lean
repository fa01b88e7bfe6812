/- Texts of this proof: DC DP0 DP. -/
import Derived.Test.YtmocoldobnimfaaGreatMS34
import Derived.Test.YtmocoldobnimfaaGreatMS35
set_option linter.all false
set_option maxRecDepth 100000
set_option maxHeartbeats 16000000
namespace Go.Proofs.YtmocoldobnimfaaGreat
section
open Go.RowKit
attribute [local go_sem ↓] Go.wp_at_zero Go.wp_at_succ
theorem AO {w:World}{A:Option Addr}{c g T:Nat}{x y:Int}(ha:SL w A c [(x,y)])(hb:Blk w g T #[.int .i64 x,.int .i64 y])(hx:I64 x)(hy:I64 y):Calls Tryz.prog 32 #[.slice A 1 c,.slice (some ⟨g,0,none⟩) 1 1] w (QD (.bool true) w):=by
 have hs:SL w (some ⟨g,0,none⟩) 1 [(x,y)]:=by
  refine SL.of_ownT (base:=0) (T:=T) ?_ (fun s hs=>?_)
  ·have h:=QQ.of_blk (n:=1) (c:=1) (size:=2) (base:=0) hb (Nat.zero_le _) si si um
   simpa[Qz] using h
  ·rw[List.mem_singleton.1 hs];exact⟨hx,hy⟩
 have k:=Ex A (some ⟨g,0,none⟩) c 1 [(x,y)] [(x,y)] w ha hs
 simpa using k
theorem AP (w:World):Calls Tryz.prog 23 #[] w (QD (.bool true) w):=by
 have B1:=Blk.new w 38 #[.int .i64 97,.int .i64 97];have E1:=Ext.alloc w (.cells #[.int .i64 97,.int .i64 97] 38);go_enter Tryz.func23,Tryz.ntmps23
 go_upto_region 2 with fail
 obtain⟨ga,hga⟩:∃g,g=w.heap.size:=⟨_,rfl⟩
 rw[<-hga] at B1 ⊢;clear hga;generalize w.alloc (.cells #[.int .i64 97,.int .i64 97] 38)=w1 at *;have B2:=Blk.new w1 38 #[.int .i64 98,.int .i64 98];have E2:=Ext.alloc w1 (.cells #[.int .i64 98,.int .i64 98] 38)
 go_upto_region 3 with fail
 obtain⟨gb,hgb⟩:∃g,g=w1.heap.size:=⟨_,rfl⟩
 rw[<-hgb] at B2 ⊢;clear hgb;generalize w1.alloc (.cells #[.int .i64 98,.int .i64 98] 38)=w2 at *;have B3:=Blk.new w2 38 #[.int .i64 99,.int .i64 99];have E3:=Ext.alloc w2 (.cells #[.int .i64 99,.int .i64 99] 38)
 go_upto_region 4 with fail
 obtain⟨gc,hgc⟩:∃g,g=w2.heap.size:=⟨_,rfl⟩
 rw[<-hgc] at B3 ⊢;clear hgc;generalize w2.alloc (.cells #[.int .i64 99,.int .i64 99] 38)=w3 at *;have BA:=lh ((B1.ext E2).ext E3);have BB:=lh (B2.ext E3);have BC:=lh B3;have HX3:=lh ((E1.trans E2).trans E3);clear B1 B2 B3 E1 E2 E3;have EI:=Ext.alloc w3 (.cells (QT (qZ ga gb gc)).toArray 126);have BI:=Blk.new w3 126 (QT (qZ ga gb gc)).toArray;have HN1:=lh (Ux _ w3.heap.size _ ga gb gc BI (BA.out.ext EI) (BB.out.ext EI) (BC.out.ext EI));have HEI:=lh EI;clear EI BI
 go_upto_region 5 with(go_at_call 20;refine HN1.out.mono ?_;rintro e w4 ⟨x4,g1,m1,s1,R1,rfl,hn1⟩)
 have HX4:=lh (HX3.out.trans (HEI.out.trans x4));have BA:=lh (BA.out.ext (HEI.out.trans x4));have BB:=lh (BB.out.ext (HEI.out.trans x4));have H1:=lh hn1;clear hn1 x4 HEI HN1 BC HX3;have EJ:=Ext.alloc w4 (.cells (QT (qJ ga gb)).toArray 126);have BJ:=Blk.new w4 126 (QT (qJ ga gb)).toArray;have HN2:=lh (UA _ w4.heap.size _ ga gb BJ (BA.out.ext EJ) (BB.out.ext EJ));have HEJ:=lh EJ;clear EJ BJ
 go_upto_region 6 with(go_at_call 20;refine HN2.out.mono ?_;rintro e w5 ⟨x5,g2,m2,s2,R2,rfl,hn2⟩)
 have HX5:=lh (HX4.out.trans (HEJ.out.trans x5));have H1:=lh (H1.out.ext (HEJ.out.trans x5));have H2:=lh hn2;clear hn2 x5 HEJ HN2 BA BB HX4
 go_upto_region 8 with fail
 have EOw6:=Ext.alloc w5 (.cells #[.int .i64 97,.int .i64 98] 3);have BOw6:=Blk.new w5 3 #[.int .i64 97,.int .i64 98];have HOw6:Hid (Calls Tryz.prog 26 #[.pointer (some ⟨g1,0,none⟩),.slice (some ⟨w5.heap.size,0,none⟩) 2 2] (w5.alloc (.cells #[.int .i64 97,.int .i64 98] 3)) (Xj m1 g1 (([97,98]:List Int).map (VW false Zv s1)) (w5.alloc (.cells #[.int .i64 97,.int .i64 98] 3)))):=lh (WK.of (H1.out.ext EOw6) (ts:=[97,98]) (IL.of_blk (xs:=[97,98]) BOw6 (by intro x hx;simp at hx;unfold I64;omega) (by unfold maxLen;simp)) de si);have HEw6:=lh EOw6;clear EOw6 BOw6
 go_upto_region 9 with(go_at_call 26;refine HOw6.out.mono ?_;rintro e w6 ⟨qA,zA,rfl,aA,kA,xA⟩)
 have XA:=lh (HEw6.out.trans xA);have HX6:=lh (HX5.out.trans XA.out);have H1:=lh (H1.out.ext XA.out);have H2:=lh (H2.out.ext XA.out);have AA:=lh aA;have KA:=lh kA;clear aA kA xA XA HEw6 HOw6 HX5;have HS7:=lh (WK.symbol H1.out (x:=99) de (by unfold I64;omega))
 go_upto_region 10 with(go_at_call 36;refine HS7.out.mono ?_;rintro e w7 ⟨qB,zB,rfl,aB,kB,xB⟩)
 have HX7:=lh (HX6.out.trans xB);have H1:=lh (H1.out.ext xB);have H2:=lh (H2.out.ext xB);have AA:=lh (AA.out.ext xB);have AB:=lh aB;have KB:=lh kB;clear aB kB xB HS7 HX6;have HF8:=lh (WK.found H1.out AA.out KA.out de si);rw[UV] at HF8
 go_upto_region 11 with(go_at_call 28;refine HF8.out.mono ?_;rintro e w8 ⟨fA,fc,rfl,slF,x8⟩)
 have HX8:=lh (HX7.out.trans x8);have H1:=lh (H1.out.ext x8);have H2:=lh (H2.out.ext x8);have AA:=lh (AA.out.ext x8);have AB:=lh (AB.out.ext x8);clear x8 HF8 HX7 slF;have HJ9:=lh (WK.join H1.out (ta:=[97,98]) (tb:=[99]) AA.out KA.out AB.out KB.out de de si)
 go_upto_region 12 with(go_at_call 27;refine HJ9.out.mono ?_;rintro e w9 ⟨qC,zC,rfl,aC,kC,xC⟩)
 have HX9:=lh (HX8.out.trans xC);have H1:=lh (H1.out.ext xC);have H2:=lh (H2.out.ext xC);have AC:=lh aC;have KC:=lh kC;clear xC aC kC HJ9 AA KA AB KB HX8;have HS10:=lh (WK.sure H1.out (ts:=[97,98,99]) AC.out KC.out de si);rw[UX H1.out.opn] at HS10
 go_upto_region 13 with(go_at_call 29;refine HS10.out.mono ?_;rintro e w10 ⟨sA,sc,rfl,slS,x10⟩)
 have HX10:=lh (HX9.out.trans x10);have H2:=lh (H2.out.ext x10);have SS:=lh slS;clear x10 slS HS10 AC KC H1 HX9;have EOw11:=Ext.alloc w10 (.cells #[.int .i64 97,.int .i64 98] 3);have BOw11:=Blk.new w10 3 #[.int .i64 97,.int .i64 98];have HOw11:Hid (Calls Tryz.prog 26 #[.pointer (some ⟨g2,0,none⟩),.slice (some ⟨w10.heap.size,0,none⟩) 2 2] (w10.alloc (.cells #[.int .i64 97,.int .i64 98] 3)) (Xj m2 g2 (([97,98]:List Int).map (VW false W4 s2)) (w10.alloc (.cells #[.int .i64 97,.int .i64 98] 3)))):=lh (WK.of (H2.out.ext EOw11) (ts:=[97,98]) (IL.of_blk (xs:=[97,98]) BOw11 (by intro x hx;simp at hx;unfold I64;omega) (by unfold maxLen;simp)) de si);have HEw11:=lh EOw11;clear EOw11 BOw11
 go_upto_region 14 with(go_at_call 26;refine HOw11.out.mono ?_;rintro e w11 ⟨qD,zD,rfl,aD,kD,xD⟩)
 have XD:=lh (HEw11.out.trans xD);have HX11:=lh (HX10.out.trans XD.out);have H2:=lh (H2.out.ext XD.out);have SS:=lh (SS.out.ext XD.out);have AD:=lh aD;have KD:=lh kD;clear aD kD xD XD HEw11 HOw11 HX10;have HF12:=lh (WK.found H2.out AD.out KD.out de si);rw[RZ] at HF12
 go_upto_region 15 with(go_at_call 28;refine HF12.out.mono ?_;rintro e w12 ⟨dA,dc,rfl,slD,x12⟩)
 have HX12:=lh (HX11.out.trans x12);have H2:=lh (H2.out.ext x12);have SS:=lh (SS.out.ext x12);have SD:=lh slD;have AD:=lh (AD.out.ext x12);clear x12 slD HF12 HX11;have HS13:=lh (WK.sure H2.out AD.out KD.out de si);rw[RE H2.out] at HS13
 go_upto_region 16 with(go_at_call 29;refine HS13.out.mono ?_;rintro e w13 ⟨uA,uc,rfl,slU,x13⟩)
 have HX13:=lh (HX12.out.trans x13);have SS:=lh (SS.out.ext x13);have SD:=lh (SD.out.ext x13);clear x13 slU HS13 AD KD H2 HX12
 go_upto_region 18 with fail
 have EQ:=Ext.alloc w13 (.cells #[.int .i64 0,.int .i64 3] 82);have HQ1:=lh (AO (SS.out.ext EQ) (Blk.new w13 82 #[.int .i64 0,.int .i64 3]) (by unfold I64;omega) (by unfold I64;omega));have HEQ:=lh EQ;clear EQ SS
 go_wp2_with (first|(have hq:=HQ2;go_at_call 32;refine HQ2.out.mono ?_;rintro e w15 ⟨rfl,x15⟩;have HX15:=lh (HX14.out.trans ((Ext.alloc _ _).trans x15));clear x15)|(go_at_call 32;refine HQ1.out.mono ?_;rintro e w14 ⟨rfl,x14⟩;have HX14:=lh (HX13.out.trans (HEQ.out.trans x14));have HQ2:=lh (AO (SD.out.ext (HEQ.out.trans (x14.trans (Ext.alloc w14 (.cells #[.int .i64 0,.int .i64 2] 82))))) (Blk.new w14 82 #[.int .i64 0,.int .i64 2]) (by unfold I64;omega) (by unfold I64;omega));clear x14))
 go_ret
 exact⟨rfl,HX15.out⟩
structure Gd (w:World)(A:Option Addr)(c:Nat)(hs:List Hin):Prop where
 pl:PL w A c hs
 sm:V3 (QW hs)
 len:hs.length<=1000
theorem Gd.ext {w w':World}{A:Option Addr}{c:Nat}{hs:List Hin}(h:Gd w A c hs)(x:Ext w w'):Gd w' A c hs:=⟨h.pl.ext x,h.sm,h.len⟩
theorem VF.gd {E:List Int}{w:World}{A:Option Addr}{c:Nat}{hs:List Hin}(h:VF E w A c hs)(h0:(0:Int)∈E)(hE:E.length<=100):Gd w A c hs:=⟨h.pl,vU h0 hE h.len h.sets,h.len⟩
theorem ix:(0:Int)∈Jz/\Jz.length<=100:=⟨by simp[Jz],by simp[Jz]⟩
end
