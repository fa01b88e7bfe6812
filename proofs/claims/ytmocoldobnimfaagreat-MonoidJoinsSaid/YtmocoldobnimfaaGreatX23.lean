/- Texts of this proof: Z4. -/
import Derived.Test.YtmocoldobnimfaaGreatX20
set_option linter.all false
set_option maxRecDepth 100000
set_option maxHeartbeats 16000000
namespace Go.Proofs.YtmocoldobnimfaaGreat
section
open Go.RowKit
attribute [local go_sem ↓] Go.wp_at_zero Go.wp_at_succ
theorem RetF.wrap {w0 w w6 w7 w8:World}{gs tn tc st ns fuel:Nat}{tA:Option Addr}{most:Int}{e:Ending}(h:RetF w0 gs tA tn tc most fuel st ns w6 e w7)(x:Ext w w6)(y:Ext w7 w8)(hg:gs<w.heap.size):RetF w0 gs tA tn tc most fuel st ns w e w8:=by
 obtain⟨b,st',em,ns',h1,h2,h3,h4,h5⟩:=h;exact⟨b,st',em,ns',h1,h2.ext y,h3.trans y,(ZF.of_ext x hg).trans (h4.ext y (Nat.lt_of_lt_of_le hg x.size)),h5⟩
theorem RetF.val {w0 w w':World}{gs tn tc st ns fuel:Nat}{tA:Option Addr}{most:Int}{e:Ending}(h:RetF w0 gs tA tn tc most fuel st ns w e w'):∃b:Bool,e=.returned (.bool b):=by
 obtain⟨b,_,_,_,h1,_⟩:=h;exact⟨b,h1⟩
theorem ZF.kpL {gs:Nat}{w w':World}{L:List Nat}(h:ZF gs w w')(e:zL w gs=L):Kp L w w':=e▸h.kp
theorem ZF.wi {gs:Nat}{w w':World}{L:List Nat}{I:List (Nat×Nat)}(h:ZF gs w w')(e:zL w gs=L):WI L I w w':=by
 have k:=h.kpL e;exact⟨k.os,k.tape,k.output,k.size,fun i hi hn=>k.block i hi (fun hm=>hn (.inl hm))⟩
theorem RetF.zf {w0 w w':World}{gs tn tc st ns fuel:Nat}{tA:Option Addr}{most:Int}{e:Ending}(h:RetF w0 gs tA tn tc most fuel st ns w e w'):ZF gs w w':=by
 obtain⟨_,_,_,_,_,_,_,h4,_⟩:=h;exact h4
theorem goal_cells {w:World}{g:Nat}{kind k fr:Int}{nd:Nd}{p:Option Nat}(h:Blk w g 261 (goalC kind nd k fr p)) :
 w.cell? ⟨g,0,none⟩=some (.int .i64 kind)∧w.cell? ⟨g,1,none⟩=some (.int .i64 nd.op)∧w.cell? ⟨g,2,none⟩=some (.slice nd.A nd.l.length nd.c)∧w.cell? ⟨g,3,none⟩=some (.slice nd.K nd.ks.length nd.kc)∧
 w.cell? ⟨g,4,none⟩=some (.int .i64 nd.mn)∧w.cell? ⟨g,5,none⟩=some (.int .i64 nd.mx)∧w.cell? ⟨g,6,none⟩=some (.int .i64 nd.md)∧w.cell? ⟨g,7,none⟩=some (.int .i64 nd.n)∧w.cell? ⟨g,8,none⟩=some (.bool nd.neg)∧
 w.cell? ⟨g,9,none⟩=some (.int .i64 k)∧w.cell? ⟨g,10,none⟩=some (.int .i64 fr)∧w.cell? ⟨g,11,none⟩=some (.pointer (p.map (fun g=>⟨g,0,none⟩))):=
 ⟨h.cell 0,h.cell 1,h.cell 2,h.cell 3,h.cell 4,h.cell 5,h.cell 6,h.cell 7,h.cell 8,h.cell 9,h.cell 10,h.cell 11⟩
theorem zrun_1 (R:Ending→World→Prop)(w:World)(gs g:Nat)(nd:Nd)(k fr:Int)(p:Option Nat)(i:Int)(cA:Option Addr)(cn cc:Nat)(hb:Blk w g 261 (goalC 1 nd k fr p))
 (hR:Calls Tryz.prog 189 #[.pointer (some ⟨gs,0,none⟩),.pointer (some ⟨g,0,none⟩),.int .i64 i,.slice cA cn cc] w R) (hv:∀e w',R e w'→∃b:Bool,e=.returned (.bool b)) :
 Calls Tryz.prog 151 #[.pointer (some ⟨gs,0,none⟩),.pointer (some ⟨g,0,none⟩),.int .i64 i,.slice cA cn cc] w R:=by
 have c0:w.cell? ⟨g,0,none⟩=some (.int .i64 1):=hb.cell 0;have HR:=lh hR;have HV:=lh hv;clear hR hv hb;go_enter Tryz.func151,Tryz.ntmps151
 go_wp2_with (go_at_call 189;refine HR.out.mono ?_;rintro e w2 h2;obtain⟨b,rfl⟩:=HV.out _ _ h2)
 exact h2
theorem zrun_0 (R:Ending→World→Prop)(w:World)(gs g:Nat)(nd:Nd)(k fr:Int)(p:Option Nat)(i:Int)(cA:Option Addr)(cn cc:Nat)(hb:Blk w g 261 (goalC 0 nd k fr p))
 (hR:Calls Tryz.prog 191 #[.pointer (some ⟨gs,0,none⟩),.pointer (some ⟨g,0,none⟩),.int .i64 i,.slice cA cn cc] w R) (hv:∀e w',R e w'→∃b:Bool,e=.returned (.bool b)) :
 Calls Tryz.prog 151 #[.pointer (some ⟨gs,0,none⟩),.pointer (some ⟨g,0,none⟩),.int .i64 i,.slice cA cn cc] w R:=by
 have c0:w.cell? ⟨g,0,none⟩=some (.int .i64 0):=hb.cell 0;have HR:=lh hR;have HV:=lh hv;clear hR hv hb;go_enter Tryz.func151,Tryz.ntmps151
 go_wp2_with (go_at_call 191;refine HR.out.mono ?_;rintro e w2 h2;obtain⟨b,rfl⟩:=HV.out _ _ h2)
 exact h2
theorem Z4z1 {P:Prop} (h:P:=by
 go_upto_region 11 with(go_quiet (fail))
 have xd:=Ext.drewN w nq;have HB1:=lh (hb.ext xd);have HR1:=lh (fun w' g' (x:Ext (w.drewN nq) w')=>HR.out w' g' (xd.trans x));have hzl:=zL_ext xd hgl;have hgl1:gs<(w.drewN nq).heap.size:=Nat.lt_of_lt_of_le hgl xd.size;have HXD:=lh xd;clear c0 c1 c2 c3 c4 c5 c6 c7 c8 c9 c10 c11 hb xd HR;generalize w.drewN nq=wa at *;obtain⟨c0,c1,c2,c3,c4,c5,c6,c7,c8,c9,c10,c11⟩:=goal_cells HB1.out;have k1:=kx0 c1;have k2:=kx0 c2;have k3:=kx0 c3;have k4:=kx0 c4;have k5:=kx0 c5;have k6:=kx0 c6;have k7:=kx0 c7;have k8:=kx0 c8;have k9:=kx0 c9;have k11:=kx0 c11;refine Xs.start (zL wa gs) 18 kr ?_;refine Xst 0 ?_;refine Xst 1 ?_;refine Xst 2 ?_;refine Xst 3 ?_;refine Xst 4 ?_;refine Xst 5 ?_;refine Xst 6 ?_;refine Xst 7 ?_;refine Xst 8 ?_;refine Xst 9 ?_;refine Xst 10 ?_;refine Xst 11 ?_;refine Xst 12 ?_;refine Xst 13 ?_;refine Xst 14 ?_;refine Xst 16 ?_;refine Xst 17 ?_;refine Xscl 15 fun w4 hE4 hX4 K hKK=>?_;have EN:=Ext.alloc w4 (.cells (goalC 1 nd (k+1) 0 p) 261);have BN:=Blk.new w4 261 (goalC 1 nd (k+1) 0 p);go_simp;refine hKK _ _ EN ?_;clear hKK;refine ptm ?_;refine Xs.stop dK (fun w5 hE5 hX5=>?_);refine Xsp 18 fun w6 hE6 hK6 K hKK=>?_;have x6:=hX5.trans hE6;have b6:=(BN.ext hE5).ext hE6;go_simp;refine(HR1.out w6 _ x6 b6).mono ?_;rintro e w7 h7;obtain⟨b,rfl⟩:=h7.val;refine hKK _ _ (h7.zf.wi (zL_ext x6 hgl1)) (hK6.trans (h7.zf.kpL (zL_ext x6 hgl1))) ?_;clear hKK;refine ptm ?_;refine Xtk 19 ?_;refine Xdn fun w8 hE8 hK8=>?_;have HF:=lh (h7.wrap (HXD.out.trans x6) hE8 hgl)
 go_wp2_with fail
 go_ret
 exact HF.out):P:=h
theorem zrun_2 (w0 w:World)(gs:Nat)(tA:Option Addr)(tn tc:Nat)(most:Int)(fuel st ns g:Nat)(nd:Nd)(k fr:Int)(p:Option Nat)(i:Int)(cA:Option Addr)(cn cc:Nat)(hb:Blk w g 261 (goalC 2 nd k fr p))
 (x0:Ext w0 w) (hs:SrM w w0.heap.size gs tA tn tc most fuel st false ns) (hst:st≤fuel) (hk:0≤k∧k≤1000000000)
 (hR:∀w' g',Ext w w'→Blk w' g' 261 (goalC 1 nd (k+1) 0 p)→Calls Tryz.prog 151 #[.pointer (some ⟨gs,0,none⟩),.pointer (some ⟨g',0,none⟩),.int .i64 i,.slice cA cn cc] w' (RetF w0 gs tA tn tc most fuel st ns w')) :
 Calls Tryz.prog 151 #[.pointer (some ⟨gs,0,none⟩),.pointer (some ⟨g,0,none⟩),.int .i64 i,.slice cA cn cc] w (RetF w0 gs tA tn tc most fuel st ns w):=by
 have hgl:=hs.gs_lt;obtain⟨c0,c1,c2,c3,c4,c5,c6,c7,c8,c9,c10,c11⟩:=goal_cells hb;have HR:=lh hR;have HS:=lh hs;have HX:=lh x0;have ewk:IntKind.i64.wrap (k+1)=k+1:=wj;clear hR hs x0;by_cases hm:nd.mn≤k
 ·by_cases hi:i=fr
  ·go_enter Tryz.func151,Tryz.ntmps151;have hi2:(i == fr)=true:=by simp[hi]
   go_wp2_with (go_quiet (fail))
   go_ret
   have xd:=Ext.drewN w nq;exact⟨false,st,false,ns,rfl,HS.out.ext xd,HX.out.trans xd,ZF.of_ext xd hgl,om,om,om,.inl ⟨rfl,hst⟩⟩
  ·go_enter Tryz.func151,Tryz.ntmps151;have hi2:(i == fr)=false:=by simp[hi]
   exact Z4z1
 ·go_enter Tryz.func151,Tryz.ntmps151;exact Z4z1
theorem zrun_3 (w0 w:World)(gs:Nat)(tA:Option Addr)(tn tc:Nat)(most:Int)(fuel st ns g:Nat)(nd:Nd)(k fr:Int)(p:Option Nat)(i:Int)(cA:Option Addr)(cc:Nat)(cl:List Sp)(hb:Blk w g 261 (goalC 3 nd k fr p))
 (x0:Ext w0 w) (hs:SrM w w0.heap.size gs tA tn tc most fuel st false ns) (hc:CapAt w cA cc cl) (hcl:cl.length≤1000) (hn:I64 nd.n) (hf:I64 fr) (hi:I64 i)
 (hR:∀w' cA' cc' cl',Ext w w'→CapAt w' cA' cc' cl'→cl'.length=cl.length→Calls Tryz.prog 151 #[.pointer (some ⟨gs,0,none⟩),.pointer (p.map (fun g=>⟨g,0,none⟩)),.int .i64 i,.slice cA' cl'.length cc'] w' (RetF w0 gs tA tn tc most fuel st ns w')) :
 Calls Tryz.prog 151 #[.pointer (some ⟨gs,0,none⟩),.pointer (some ⟨g,0,none⟩),.int .i64 i,.slice cA cl.length cc] w (RetF w0 gs tA tn tc most fuel st ns w):=by
 have hgl:=hs.gs_lt;obtain⟨c0,c1,c2,c3,c4,c5,c6,c7,c8,c9,c10,c11⟩:=goal_cells hb;have HR:=lh hR;have HI:=lh (⟨hn,hf,hi⟩:I64 nd.n∧I64 fr∧I64 i);have HC:=lh hc;have k7:=kx0 c7;have k10:=kx0 c10;have k11:=kx0 c11;clear hR hs x0 hc hn hf hi hb;go_enter Tryz.func151,Tryz.ntmps151
 go_upto_region 13 with fail
 refine Xs.start (zL w gs) 18 kr ?_;refine Xst 0 ?_;refine Xst 1 ?_;refine Xst 2 ?_;refine Xst 3 ?_;refine Xst 4 ?_;refine Xst 5 ?_;refine Xst 6 ?_;refine Xst 7 ?_;refine Xst 8 ?_;refine Xst 9 ?_;refine Xst 10 ?_;refine Xst 11 ?_;refine Xst 12 ?_;refine Xst 13 ?_;refine Xst 14 ?_;refine Xst 15 ?_;refine Xst 16 ?_;refine Xscl 17 fun w4 hE4 hX4 K hKK=>?_;go_simp;refine(zwith_any w4 cA cc cl nd.n fr i (HC.out.ext hX4) hcl HI.out.1 HI.out.2.1 HI.out.2.2).mono ?_;rintro e w5 ⟨cA5,cc5,cl5,rfl,hl5,hc5,x5⟩;refine hKK _ _ x5 ?_;clear hKK;refine ptm ?_;refine Xs.stop dK (fun w5 hE5 hX5=>?_);refine Xsp 18 fun w6 hE6 hK6 K hKK=>?_;have x6:=hX5.trans hE6;have b6:=(hc5.ext hE5).ext hE6;go_simp;have HRR:=HR.out w6 _ _ _ x6 b6 hl5;rw[hl5] at HRR;refine HRR.mono ?_;rintro e w7 h7;obtain⟨b,rfl⟩:=h7.val;refine hKK _ _ (h7.zf.wi (zL_ext x6 hgl)) (hK6.trans (h7.zf.kpL (zL_ext x6 hgl))) ?_;clear hKK;refine ptm ?_;refine Xtk 19 ?_;refine Xdn fun w8 hE8 hK8=>?_;have HF:=lh (h7.wrap x6 hE8 hgl)
 go_wp2_with fail
 go_ret
 exact HF.out
end
end Go.Proofs.YtmocoldobnimfaaGreat
