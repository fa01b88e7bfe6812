/- Texts of this proof: Z4 Z5 C4 C6. -/
import Derived.Test.YtmocoldobnimfaaGreatU20
set_option linter.all false
set_option maxRecDepth 100000
set_option maxHeartbeats 16000000
namespace Go.Proofs.YtmocoldobnimfaaGreat
section
open Go.RowKit
attribute [local go_sem ↓] Go.wp_at_zero Go.wp_at_succ
theorem RetF.wrap {w0 w w6 w7 w8:World}{gs tn tc st ns fuel:Nat}{tA:Option Addr}{most:Int}{e:Ending}(h:RetF w0 gs tA tn tc most fuel st ns w6 e w7)(x:Ext w w6)(y:Ext w7 w8)(hg:gs<w.heap.size):RetF w0 gs tA tn tc most fuel st ns w e w8:=by
 obtain⟨b,st',em,ns',h1,h2,h3,h4,h5⟩:=h;exact⟨b,st',em,ns',h1,h2.ext y,h3.trans y,(ZF.of_ext x hg).trans (h4.ext y (Nat.lt_of_lt_of_le hg x.size)),h5⟩
theorem RetF.val {w0 w w':World}{gs tn tc st ns fuel:Nat}{tA:Option Addr}{most:Int}{e:Ending}(h:RetF w0 gs tA tn tc most fuel st ns w e w'):∃b:Bool,e=.returned (.bool b):=by
 obtain⟨b,_,_,_,h1,_⟩:=h;exact⟨b,h1⟩
theorem ZF.kpL {gs:Nat}{w w':World}{L:List Nat}(h:ZF gs w w')(e:zL w gs=L):Kp L w w':=e▸h.kp
theorem ZF.wi {gs:Nat}{w w':World}{L:List Nat}{I:List (Nat×Nat)}(h:ZF gs w w')(e:zL w gs=L):WI L I w w':=by
 have k:=h.kpL e;exact⟨k.os,k.tape,k.output,k.size,fun i hi hn=>k.block i hi (fun hm=>hn (.inl hm))⟩
theorem RetF.zf {w0 w w':World}{gs tn tc st ns fuel:Nat}{tA:Option Addr}{most:Int}{e:Ending}(h:RetF w0 gs tA tn tc most fuel st ns w e w'):ZF gs w w':=by
 obtain⟨_,_,_,_,_,_,_,h4,_⟩:=h;exact h4
theorem goal_cells {w:World}{g:Nat}{kind k fr:Int}{nd:Nd}{p:Option Nat}(h:Blk w g 261 (goalC kind nd k fr p)) :
 w.cell? ⟨g,0,none⟩=some (.int .i64 kind)∧w.cell? ⟨g,1,none⟩=some (.int .i64 nd.op)∧w.cell? ⟨g,2,none⟩=some (.slice nd.A nd.l.length nd.c)∧w.cell? ⟨g,3,none⟩=some (.slice nd.K nd.ks.length nd.kc)∧
 w.cell? ⟨g,4,none⟩=some (.int .i64 nd.mn)∧w.cell? ⟨g,5,none⟩=some (.int .i64 nd.mx)∧w.cell? ⟨g,6,none⟩=some (.int .i64 nd.md)∧w.cell? ⟨g,7,none⟩=some (.int .i64 nd.n)∧w.cell? ⟨g,8,none⟩=some (.bool nd.neg)∧
 w.cell? ⟨g,9,none⟩=some (.int .i64 k)∧w.cell? ⟨g,10,none⟩=some (.int .i64 fr)∧w.cell? ⟨g,11,none⟩=some (.pointer (p.map (fun g=>⟨g,0,none⟩))):=
 ⟨h.cell 0,h.cell 1,h.cell 2,h.cell 3,h.cell 4,h.cell 5,h.cell 6,h.cell 7,h.cell 8,h.cell 9,h.cell 10,h.cell 11⟩
theorem zrun_1 (R:Ending→World→Prop)(w:World)(gs g:Nat)(nd:Nd)(k fr:Int)(p:Option Nat)(i:Int)(cA:Option Addr)(cn cc:Nat)(hb:Blk w g 261 (goalC 1 nd k fr p))
 (hR:Calls Tryz.prog 189 #[.pointer (some ⟨gs,0,none⟩),.pointer (some ⟨g,0,none⟩),.int .i64 i,.slice cA cn cc] w R) (hv:∀e w',R e w'→∃b:Bool,e=.returned (.bool b)) :
 Calls Tryz.prog 151 #[.pointer (some ⟨gs,0,none⟩),.pointer (some ⟨g,0,none⟩),.int .i64 i,.slice cA cn cc] w R:=by
 have c0:w.cell? ⟨g,0,none⟩=some (.int .i64 1):=hb.cell 0;have HR:=lh hR;have HV:=lh hv;clear hR hv hb;go_enter Tryz.func151,Tryz.ntmps151
 go_wp2_with (go_at_call 189;refine HR.out.mono ?_;rintro e w2 h2;obtain⟨b,rfl⟩:=HV.out _ _ h2)
 exact h2
theorem zrun_0 (R:Ending→World→Prop)(w:World)(gs g:Nat)(nd:Nd)(k fr:Int)(p:Option Nat)(i:Int)(cA:Option Addr)(cn cc:Nat)(hb:Blk w g 261 (goalC 0 nd k fr p))
 (hR:Calls Tryz.prog 191 #[.pointer (some ⟨gs,0,none⟩),.pointer (some ⟨g,0,none⟩),.int .i64 i,.slice cA cn cc] w R) (hv:∀e w',R e w'→∃b:Bool,e=.returned (.bool b)) :
 Calls Tryz.prog 151 #[.pointer (some ⟨gs,0,none⟩),.pointer (some ⟨g,0,none⟩),.int .i64 i,.slice cA cn cc] w R:=by
 have c0:w.cell? ⟨g,0,none⟩=some (.int .i64 0):=hb.cell 0;have HR:=lh hR;have HV:=lh hv;clear hR hv hb;go_enter Tryz.func151,Tryz.ntmps151
 go_wp2_with (go_at_call 191;refine HR.out.mono ?_;rintro e w2 h2;obtain⟨b,rfl⟩:=HV.out _ _ h2)
 exact h2
theorem Z4z1 {P:Prop} (h:P:=by
 go_upto_region 11 with(go_quiet (fail))
 have xd:=Ext.drewN w nq;have HB1:=lh (hb.ext xd);have HR1:=lh (fun w' g' (x:Ext (w.drewN nq) w')=>HR.out w' g' (xd.trans x));have hzl:=zL_ext xd hgl;have hgl1:gs<(w.drewN nq).heap.size:=Nat.lt_of_lt_of_le hgl xd.size;have HXD:=lh xd;clear c0 c1 c2 c3 c4 c5 c6 c7 c8 c9 c10 c11 hb xd HR;generalize w.drewN nq=wa at *;obtain⟨c0,c1,c2,c3,c4,c5,c6,c7,c8,c9,c10,c11⟩:=goal_cells HB1.out;have k1:=kx0 c1;have k2:=kx0 c2;have k3:=kx0 c3;have k4:=kx0 c4;have k5:=kx0 c5;have k6:=kx0 c6;have k7:=kx0 c7;have k8:=kx0 c8;have k9:=kx0 c9;have k11:=kx0 c11;refine Xs.start (zL wa gs) 18 kr ?_;refine Xst 0 ?_;refine Xst 1 ?_;refine Xst 2 ?_;refine Xst 3 ?_;refine Xst 4 ?_;refine Xst 5 ?_;refine Xst 6 ?_;refine Xst 7 ?_;refine Xst 8 ?_;refine Xst 9 ?_;refine Xst 10 ?_;refine Xst 11 ?_;refine Xst 12 ?_;refine Xst 13 ?_;refine Xst 14 ?_;refine Xst 16 ?_;refine Xst 17 ?_;refine Xscl 15 fun w4 hE4 hX4 K hKK=>?_;have EN:=Ext.alloc w4 (.cells (goalC 1 nd (k+1) 0 p) 261);have BN:=Blk.new w4 261 (goalC 1 nd (k+1) 0 p);go_simp;refine hKK _ _ EN ?_;clear hKK;refine ptm ?_;refine Xs.stop dK (fun w5 hE5 hX5=>?_);refine Xsp 18 fun w6 hE6 hK6 K hKK=>?_;have x6:=hX5.trans hE6;have b6:=(BN.ext hE5).ext hE6;go_simp;refine(HR1.out w6 _ x6 b6).mono ?_;rintro e w7 h7;obtain⟨b,rfl⟩:=h7.val;refine hKK _ _ (h7.zf.wi (zL_ext x6 hgl1)) (hK6.trans (h7.zf.kpL (zL_ext x6 hgl1))) ?_;clear hKK;refine ptm ?_;refine Xtk 19 ?_;refine Xdn fun w8 hE8 hK8=>?_;have HF:=lh (h7.wrap (HXD.out.trans x6) hE8 hgl)
 go_wp2_with fail
 go_ret
 exact HF.out):P:=h
theorem zrun_2 (w0 w:World)(gs:Nat)(tA:Option Addr)(tn tc:Nat)(most:Int)(fuel st ns g:Nat)(nd:Nd)(k fr:Int)(p:Option Nat)(i:Int)(cA:Option Addr)(cn cc:Nat)(hb:Blk w g 261 (goalC 2 nd k fr p))
 (x0:Ext w0 w) (hs:SrM w w0.heap.size gs tA tn tc most fuel st false ns) (hst:st≤fuel) (hk:0≤k∧k≤1000000000)
 (hR:∀w' g',Ext w w'→Blk w' g' 261 (goalC 1 nd (k+1) 0 p)→Calls Tryz.prog 151 #[.pointer (some ⟨gs,0,none⟩),.pointer (some ⟨g',0,none⟩),.int .i64 i,.slice cA cn cc] w' (RetF w0 gs tA tn tc most fuel st ns w')) :
 Calls Tryz.prog 151 #[.pointer (some ⟨gs,0,none⟩),.pointer (some ⟨g,0,none⟩),.int .i64 i,.slice cA cn cc] w (RetF w0 gs tA tn tc most fuel st ns w):=by
 have hgl:=hs.gs_lt;obtain⟨c0,c1,c2,c3,c4,c5,c6,c7,c8,c9,c10,c11⟩:=goal_cells hb;have HR:=lh hR;have HS:=lh hs;have HX:=lh x0;have ewk:IntKind.i64.wrap (k+1)=k+1:=wj;clear hR hs x0;by_cases hm:nd.mn≤k
 ·by_cases hi:i=fr
  ·go_enter Tryz.func151,Tryz.ntmps151;have hi2:(i == fr)=true:=by simp[hi]
   go_wp2_with (go_quiet (fail))
   go_ret
   have xd:=Ext.drewN w nq;exact⟨false,st,false,ns,rfl,HS.out.ext xd,HX.out.trans xd,ZF.of_ext xd hgl,om,om,om,.inl ⟨rfl,hst⟩⟩
  ·go_enter Tryz.func151,Tryz.ntmps151;have hi2:(i == fr)=false:=by simp[hi]
   exact Z4z1
 ·go_enter Tryz.func151,Tryz.ntmps151;exact Z4z1
theorem zrun_3 (w0 w:World)(gs:Nat)(tA:Option Addr)(tn tc:Nat)(most:Int)(fuel st ns g:Nat)(nd:Nd)(k fr:Int)(p:Option Nat)(i:Int)(cA:Option Addr)(cc:Nat)(cl:List Sp)(hb:Blk w g 261 (goalC 3 nd k fr p))
 (x0:Ext w0 w) (hs:SrM w w0.heap.size gs tA tn tc most fuel st false ns) (hc:CapAt w cA cc cl) (hcl:cl.length≤1000) (hn:I64 nd.n) (hf:I64 fr) (hi:I64 i)
 (hR:∀w' cA' cc' cl',Ext w w'→CapAt w' cA' cc' cl'→cl'.length=cl.length→Calls Tryz.prog 151 #[.pointer (some ⟨gs,0,none⟩),.pointer (p.map (fun g=>⟨g,0,none⟩)),.int .i64 i,.slice cA' cl'.length cc'] w' (RetF w0 gs tA tn tc most fuel st ns w')) :
 Calls Tryz.prog 151 #[.pointer (some ⟨gs,0,none⟩),.pointer (some ⟨g,0,none⟩),.int .i64 i,.slice cA cl.length cc] w (RetF w0 gs tA tn tc most fuel st ns w):=by
 have hgl:=hs.gs_lt;obtain⟨c0,c1,c2,c3,c4,c5,c6,c7,c8,c9,c10,c11⟩:=goal_cells hb;have HR:=lh hR;have HI:=lh (⟨hn,hf,hi⟩:I64 nd.n∧I64 fr∧I64 i);have HC:=lh hc;have k7:=kx0 c7;have k10:=kx0 c10;have k11:=kx0 c11;clear hR hs x0 hc hn hf hi hb;go_enter Tryz.func151,Tryz.ntmps151
 go_upto_region 13 with fail
 refine Xs.start (zL w gs) 18 kr ?_;refine Xst 0 ?_;refine Xst 1 ?_;refine Xst 2 ?_;refine Xst 3 ?_;refine Xst 4 ?_;refine Xst 5 ?_;refine Xst 6 ?_;refine Xst 7 ?_;refine Xst 8 ?_;refine Xst 9 ?_;refine Xst 10 ?_;refine Xst 11 ?_;refine Xst 12 ?_;refine Xst 13 ?_;refine Xst 14 ?_;refine Xst 15 ?_;refine Xst 16 ?_;refine Xscl 17 fun w4 hE4 hX4 K hKK=>?_;go_simp;refine(zwith_any w4 cA cc cl nd.n fr i (HC.out.ext hX4) hcl HI.out.1 HI.out.2.1 HI.out.2.2).mono ?_;rintro e w5 ⟨cA5,cc5,cl5,rfl,hl5,hc5,x5⟩;refine hKK _ _ x5 ?_;clear hKK;refine ptm ?_;refine Xs.stop dK (fun w5 hE5 hX5=>?_);refine Xsp 18 fun w6 hE6 hK6 K hKK=>?_;have x6:=hX5.trans hE6;have b6:=(hc5.ext hE5).ext hE6;go_simp;have HRR:=HR.out w6 _ _ _ x6 b6 hl5;rw[hl5] at HRR;refine HRR.mono ?_;rintro e w7 h7;obtain⟨b,rfl⟩:=h7.val;refine hKK _ _ (h7.zf.wi (zL_ext x6 hgl)) (hK6.trans (h7.zf.kpL (zL_ext x6 hgl))) ?_;clear hKK;refine ptm ?_;refine Xtk 19 ?_;refine Xdn fun w8 hE8 hK8=>?_;have HF:=lh (h7.wrap x6 hE8 hgl)
 go_wp2_with fail
 go_ret
 exact HF.out
end
section
open Go.RowKit
attribute [local go_sem ↓] Go.wp_at_zero Go.wp_at_succ
def RunOk (bd:Nat)(w0:World)(gs:Nat)(tA:Option Addr)(tn tc:Nat)(most:Int)(fuel st:Nat):Prop:=
 ∀(w:World) (p:Option Nat) (n:Nat) (i:Nat) (cA:Option Addr) (cc:Nat) (cl:List Sp) (ns:Nat),Ext w0 w→SrM w w0.heap.size gs tA tn tc most fuel st false ns→GoalAt bd w0 w st n p→i≤tn→CapAt w cA cc cl→cl.length≤1000→ns≤3*st→
  Calls Tryz.prog 151 #[.pointer (some ⟨gs,0,none⟩),.pointer (p.map (fun g=>⟨g,0,none⟩)),.int .i64 i,.slice cA cl.length cc] w (RetF w0 gs tA tn tc most fuel st ns w)
theorem RetF.after {w0 w w1 w':World}{gs tn tc st st1 ns ns1 fuel:Nat}{tA:Option Addr}{most:Int}{e:Ending}(h:RetF w0 gs tA tn tc most fuel st1 ns1 w1 e w')(z:ZF gs w w1)(h1:st≤st1)(h2:ns≤ns1∧ns1≤ns+3*(st1-st)):RetF w0 gs tA tn tc most fuel st ns w e w':=by
 obtain⟨b,st',em,ns',rfl,k1,k2,k3,k4,k5,k6,k7⟩:=h;exact⟨b,st',em,ns',rfl,k1,k2,z.trans k3,om,om,om,k7⟩
theorem RetF.ext {w0 w w' w2:World}{gs tn tc st ns fuel:Nat}{tA:Option Addr}{most:Int}{e:Ending}(h:RetF w0 gs tA tn tc most fuel st ns w e w')(x:Ext w' w2):RetF w0 gs tA tn tc most fuel st ns w e w2:=by
 have hg:gs<w.heap.size∨True:=.inr trivial;obtain⟨b,st',em,ns',rfl,k1,k2,k3,k4,k5,k6,k7⟩:=h;refine⟨b,st',em,ns',rfl,k1.ext x,k2.trans x,?_,k4,k5,k6,k7⟩;exact⟨k3.kp.ext x,fun y hy=>by rw[zL_ext x k1.gs_lt] at hy;exact k3.old y hy⟩
def RetNo (w0:World)(gs:Nat)(tA:Option Addr)(tn tc:Nat)(most:Int)(fuel st ns:Nat)(w w':World):Prop:=
 ∃(st' ns':Nat),SrM w' w0.heap.size gs tA tn tc most fuel st' false ns'∧Ext w0 w'∧ZF gs w w'∧st≤st'∧ns≤ns'∧ns'≤ns+3*(st'-st)+1∧st'≤fuel
theorem RetF.no {w0 w w':World}{gs tn tc st ns fuel:Nat}{tA:Option Addr}{most:Int}(h:RetF w0 gs tA tn tc most fuel st ns w (.returned (.bool false)) w'):RetNo w0 gs tA tn tc most fuel st ns w w':=by
 obtain⟨b,st',em,ns',hb,k1,k2,k3,k4,k5,k6,k7⟩:=h;injection hb with hb;injection hb with hb
 subst hb;rcases k7 with⟨rfl,k7⟩|⟨_,h,_⟩
 ·exact⟨st',ns',k1,k2,k3,k4,k5,k6,k7⟩
 ·cases h
theorem RetF.noI {w0 w w':World}{gs tn tc st ns fuel:Nat}{tA:Option Addr}{most:Int}{b:Bool}(h:RetF w0 gs tA tn tc most fuel st ns w (.returned (.bool b)) w')(hb:b=false):RetNo w0 gs tA tn tc most fuel st ns w w':=by
 subst hb;exact h.no
structure NdAt (bd:Nat)(w0:World)(d:Nat)(nd:Nd):Prop where
 ok:NdOk bd nd
 sl:SL w0 nd.A nd.c nd.l
 kl:nd.ks.length≤nd.kc∧nd.kc≤maxLen
 cl:CellsAt w0 nd.K (nd.ks.flatMap cellsOf)
 ks:∀u∈nd.ks,TreeAt bd (fun _=>True) w0 d u
theorem NdAt.tree {bd:Nat}{w0:World}{d:Nat}{nd:Nd}(h:NdAt bd w0 d nd):TreeAt bd (fun _=>True) w0 (d+1) nd.val:=
 .mk nd h.ok h.sl h.kl.1 h.kl.2 h.cl h.ks (fun _ _ _=>trivial) (fun _ _ _=>trivial)
theorem TreeAt.nd {bd:Nat}{w0:World}{d:Nat}{v:Value}(h:TreeAt bd (fun _=>True) w0 (d+1) v):∃nd,v=nd.val∧NdAt bd w0 d nd:=by
 obtain⟨nd,e,h1,h2,h3,h4,h5,h6⟩:=h.node;exact⟨nd,e,h1,h2,⟨h3,h4⟩,h5,h6⟩
theorem goalC_val {m n:Nd}(e:m.val=n.val)(kind k fr:Int)(p:Option Nat):goalC kind m k fr p=goalC kind n k fr p:=by
 obtain⟨h1,h2,h3,h4,h5,h6,h7,h8,h9,h10,h11,h12⟩:=Nd.val_inj e;simp[goalC,h1,h2,h3,h4,h5,h6,h7,h8,h9,h10,h11,h12]
theorem GoalAt.first {bd n g:Nat}{w0 w:World}{kb:Int}(h:GoalAt bd w0 w kb n (some g)):∃(kind k fr:Int) (nd:Nd) (d m:Nat) (p:Option Nat),n=m+1∧Blk w g 261 (goalC kind nd k fr p)∧NdAt bd w0 d nd∧
 (kind=0∨(kind=1∧nd.op=4∧0≤k∧k≤kb)∨(kind=2∧nd.op=4∧0≤k∧k+1≤kb)∨kind=3)∧I64 fr∧GoalAt bd w0 w kb m p:=by
 cases h with
 | mk g kind k fr nd d h1 h2 h3 h4 h5=>
  obtain⟨e,rfl⟩:=h2.pos;obtain⟨nn,hv,hn⟩:=h2.nd;have hop:=(Nd.val_inj hv).1;rw[goalC_val hv] at h1;rw[hop] at h3;exact⟨kind,k,fr,nn,_,_,_,rfl,h1,hn,h3,h4,h5⟩
theorem Z5z1 {P:Prop} (h:P:=by
 go_wp2_with (go_at_call 151;refine HRN.out.mono ?_;rintro e w9 h9;obtain⟨b9,rfl⟩:=h9.val;have HN9:=lh (RetF.noI h9);have cn11:w9.cell? ⟨g,11,none⟩=some (.pointer (p.map (fun g=>⟨g,0,none⟩))):=(HBK.out w9 h9.zf).cell 11;have H9:=lh (RetF.after (st:=st) (ns:=ns) h9 HZ8.out om ⟨Nat.le_refl _,om⟩);clear h9;cases b9)
 all_goals
  go_ret
  first|exact H10.out|exact H9.out):P:=h
theorem zrep_any (bd:Nat)(w0:World)(gs:Nat)(tA:Option Addr)(tn tc:Nat)(most:Int)(fuel st:Nat)(hf:fuel≤100000000)(htn:tn≤100000000)(hbd:bd≤1000)(HRUN:∀st',st<st'→st'≤fuel→RunOk bd w0 gs tA tn tc most fuel st')
 (w:World) (g:Nat) (nd:Nd) (d:Nat) (k fr:Int) (p:Option Nat) (n i:Nat) (cA:Option Addr) (cc:Nat) (cl:List Sp) (ns:Nat) (hb:Blk w g 261 (goalC 1 nd k fr p)) (ht:NdAt bd w0 d nd) (hop:nd.op=4)
 (hk:0≤k∧k≤st) (hp:GoalAt bd w0 w st n p) (x0:Ext w0 w) (hs:SrM w w0.heap.size gs tA tn tc most fuel st false ns) (hst:st≤fuel) (hi:i≤tn) (hc:CapAt w cA cc cl) (hcl:cl.length≤1000) (hns:ns≤3*st) :
 Calls Tryz.prog 189 #[.pointer (some ⟨gs,0,none⟩),.pointer (some ⟨g,0,none⟩),.int .i64 i,.slice cA cl.length cc] w (RetF w0 gs tA tn tc most fuel st ns w):=by
 have hone:=ht.ok.one (.inl hop);have hmd:=ht.ok.md;have hmn:=ht.ok.mn;have hmx:=ht.ok.mx;have hkl:=ht.kl;have HT:=lh ht;have HR:=lh HRUN;have HP:=lh hp;have HC:=lh hc;have HS:=lh hs;have HX:=lh x0;obtain⟨c0,c1,c2,c3,c4,c5,c6,c7,c8,c9,c10,c11⟩:=goal_cells hb;have HB:=lh hb;have hgl:=hs.gs_lt;have EN:=Ext.alloc w (.cells nd.cs.toArray 26);have BN:=Blk.new w 26 nd.cs.toArray;have hm2:(nd.md == 2)=false:=by simp;omega
 have HOP:=lh hop;clear ht HRUN hp hc hs x0 hb hop;go_enter Tryz.func189,Tryz.ntmps189
 go_upto_region 2 with fail
 change Code.wp _ _ _ _ (w.alloc (.cells nd.cs.toArray 26));obtain⟨g9,hg9⟩:∃g,g=w.heap.size:=⟨_,rfl⟩
 rw[←hg9] at BN ⊢;clear hg9;generalize w.alloc (.cells nd.cs.toArray 26)=wa at *;have HBa:=lh (HB.out.ext EN);have HB9:=lh BN;have HEN:=lh EN;have HSa:=lh (HS.out.ext EN);have hgla:gs<wa.heap.size:=Nat.lt_of_lt_of_le hgl EN.size;obtain⟨y0,y1,y2,y3,y4,y5,y6,y7⟩:=nd_cells BN;clear c0 c1 c2 c3 c4 c5 c6 c7 c8 c9 c10 c11 BN EN
 go_upto_region 9 with(go_at_call 211;refine(zstep_any w0 wa gs tA tn tc most fuel st ns HSa.out (HX.out.trans HEN.out) hst om).mono ?_;rintro e w3 ⟨rfl,hs3,x3,z3⟩;have HS3:=lh hs3;have HX3:=lh x3;have HZ3:=lh z3;clear hs3 x3 z3;by_cases hlt:st+1≤fuel)
 ·have HB3:=lh (HZ3.out.blk HSa.out HBa.out de);have HB93:=lh (HZ3.out.blk HSa.out HB9.out de);have HS31:Hid (SrM w3 w0.heap.size gs tA tn tc most fuel (st+1) false ns):=lh (by have h:=HS3.out;simpa[hlt] using h);have HC3:=lh ((HC.out.ext HEN.out).zf HSa.out HZ3.out);have HP3:=lh (((HP.out.ext HEN.out).zf HSa.out HZ3.out).mono (kb':=((st+1:Nat):Int)) om);have HZW:=lh ((ZF.of_ext HEN.out hgl).trans HZ3.out);have hgl3:=HS31.out.gs_lt;clear y0 y1 y2 y3 y4 y5 y6 y7;obtain⟨c0,c1,c2,c3,c4,c5,c6,c7,c8,c9,c10,c11⟩:=goal_cells HB3.out;obtain⟨y0,y1,y2,y3,y4,y5,y6,y7⟩:=nd_cells HB93.out;obtain⟨b,o,hK,n0,ht0,k0,k1,k2,k3,k4,k5,k6,k7⟩:=kid8x HX3.out HT.out.cl HT.out.ks (i:=0) om;simp only[Nat.zero_mul,Nat.add_zero] at k0 k1 k2 k3 k4 k5 k6 k7;have HT0:=lh ht0;have HK:=lh hK;clear hK;have hkl0:0<nd.ks.length:=om;clear HS3 HS HSa HB9 HBa ht0
  go_cut [13] from 51 to 62 (fun v wx=>∃b:Bool,v=.bool b∧Ext w3 wx)
  case first=>
   by_cases hx:nd.mx = -1
   ·have hx1:(nd.mx == -1)=true:=by simp[hx]
    go_wp2_with (go_quiet (fail))
    go_meet
    exact⟨_,rfl,Ext.drewN _ _⟩
   ·have hx1:(nd.mx == -1)=false:=by simp[hx]
    go_wp2_with (go_quiet (fail))
    go_meet
    exact⟨_,rfl,Ext.drewN _ _⟩
  case rest=>
   obtain⟨more,rfl,x4⟩:=hcut;have q9:=fun(w':World) (h:Kp [] wc w')=>h.cell (x4.cell c9) si;have q11:=fun(w':World) (h:Kp [] wc w')=>h.cell (x4.cell c11) si;have p0:=fun(w':World) (h:Kp [] wc w')=>h.cell (x4.cell y0) si;have p1:=fun(w':World) (h:Kp [] wc w')=>h.cell (x4.cell y1) si;have p2:=fun(w':World) (h:Kp [] wc w')=>h.cell (x4.cell y2) si;have p3:=fun(w':World) (h:Kp [] wc w')=>h.cell (x4.cell y3) si;have p4:=fun(w':World) (h:Kp [] wc w')=>h.cell (x4.cell y4) si;have p5:=fun(w':World) (h:Kp [] wc w')=>h.cell (x4.cell y5) si;have p6:=fun(w':World) (h:Kp [] wc w')=>h.cell (x4.cell y6) si;have p7:=fun(w':World) (h:Kp [] wc w')=>h.cell (x4.cell y7) si;have e0:=fun(w':World) (h:Kp [] wc w')=>h.cell (x4.cell k0) si;have e1:=fun(w':World) (h:Kp [] wc w')=>h.cell (x4.cell k1) si;have e2:=fun(w':World) (h:Kp [] wc w')=>h.cell (x4.cell k2) si;have e3:=fun(w':World) (h:Kp [] wc w')=>h.cell (x4.cell k3) si;have e4:=fun(w':World) (h:Kp [] wc w')=>h.cell (x4.cell k4) si;have e5:=fun(w':World) (h:Kp [] wc w')=>h.cell (x4.cell k5) si;have e6:=fun(w':World) (h:Kp [] wc w')=>h.cell (x4.cell k6) si;have e7:=fun(w':World) (h:Kp [] wc w')=>h.cell (x4.cell k7) si;rw[HK.out] at p2;clear c0 c1 c2 c3 c4 c5 c6 c7 c8 c9 c10 c11 y0 y1 y2 y3 y4 y5 y6 y7 k0 k1 k2 k3 k4 k5 k6 k7
   go_upto_region 11 with fail
   refine Xr.start [] kr ?_;refine Xtk 0 ?_
   iterate 14(refine Xtn ?_)
   refine Xcl 15 fun w5 hE5 hK5 K hKK=>?_;have EG:Hid (goalC 2 nd k i p=#[.int .i64 2,.int .i64 nd.op,.slice nd.A nd.l.length nd.c,.slice (some ⟨b,o,none⟩) nd.ks.length nd.kc,.int .i64 nd.mn,.int .i64 nd.mx,.int .i64 nd.md,.int .i64 nd.n,.bool nd.neg,.int .i64 k,.int .i64 (i:Int),ptrO p]):=lh (by simp[goalC,HK.out]);have E5:=Ext.alloc w5 (.cells (goalC 2 nd k i p) 261);have B5:=Blk.new w5 261 (goalC 2 nd k i p);rw[EG.out] at E5 B5;go_simp;refine hKK _ _ E5 ?_;clear hKK;refine ptm ?_;refine Xtk 16 ?_;refine Xcl 17 fun w6 hE6 hK6 K hKK=>?_;have E6:=Ext.alloc w6 (.cells (goalC 0 n0 0 0 (some w5.heap.size)) 261);have B6:=Blk.new w6 261 (goalC 0 n0 0 0 (some w5.heap.size));go_simp;refine hKK _ _ E6 ?_;clear hKK;refine ptm ?_;refine Xtk 18 ?_;refine Xdn fun w7 hE7 hK7=>?_;have HX37:=lh (x4.trans (hE5.trans (E5.trans (hE6.trans (E6.trans hE7)))));have Bi:=B5.ext (hE6.trans (E6.trans hE7));have Bo:=B6.ext hE7
   rw[←EG.out] at Bi;clear hK5 hK6 hK7 hE5 E5 hE6 E6 hE7 B5 B6 x4;generalize w6.heap.size=gO at *;generalize w5.heap.size=gi at *;have HON:Hid (GoalAt bd w0 w7 ((st+1:Nat):Int) (n+1+1) (some gO)):=lh (GoalAt.mk gO 0 0 0 n0 d Bo HT0.out (.inl rfl) (by simp[I64]) (.mk gi 2 k i nd (d+1) Bi HT.out.tree (.inr (.inr (.inl ⟨rfl,HOP.out,hk.1,om⟩))) (by unfold I64;omega) (HP3.out.ext HX37.out)));have HB7:=lh (HB3.out.ext HX37.out);have HB97:=lh (HB93.out.ext HX37.out);have HS7:=lh (HS31.out.ext HX37.out);have HX7:=lh (HX3.out.trans HX37.out);have HC7:=lh (HC3.out.ext HX37.out);have HP7:=lh (HP3.out.ext HX37.out);have HZ7:=lh (HZW.out.ext HX37.out hgl);clear q9 q11 p0 p1 p2 p3 p4 p5 p6 p7 e0 e1 e2 e3 e4 e5 e6 e7 Bi Bo HB3 HB93 HS31 HC3 HP3 HX3 HZW HX37 hgl3 HZ3;clear w5 w6;obtain⟨c0,c1,c2,c3,c4,c5,c6,c7,c8,c9,c10,c11⟩:=goal_cells HB7.out;obtain⟨y0,y1,y2,y3,y4,y5,y6,y7⟩:=nd_cells HB97.out;by_cases hmin:k<nd.mn
   ·go_upto_region 13 with(go_quiet (fail))
    have xd:=Ext.drewN w7 nq;have HZ8:=lh (HZ7.out.ext xd hgl);have HR8:=lh (HR.out (st+1) om hlt (w7.drewN nq) (some gO) (n+1+1) i cA cc cl ns (HX7.out.trans xd) (HS7.out.ext xd) (HON.out.ext xd) hi (HC7.out.ext xd) hcl om);clear c0 c1 c2 c3 c4 c5 c6 c7 c8 c9 c10 c11 y0 y1 y2 y3 y4 y5 y6 y7 xd;generalize w7.drewN nq=w8 at *
    go_wp2_with (go_at_call 151;refine HR8.out.mono ?_;rintro e w9 h9;obtain⟨b9,rfl⟩:=h9.val)
    go_ret
    exact h9.after HZ8.out om ⟨Nat.le_refl _,om⟩
   ·go_upto_region 14 with(go_quiet (fail))
    have xd:=Ext.drewN w7 nq;have HZ8:=lh (HZ7.out.ext xd hgl);have HS8:=lh (HS7.out.ext xd);have HX8:=lh (HX7.out.trans xd);have HC8:=lh (HC7.out.ext xd);have HO8:=lh (HON.out.ext xd);have HP8:=lh (HP7.out.ext xd);have HB8:=lh (HB7.out.ext xd);have u5:=xd.cell y5;have u11:=xd.cell c11;clear c0 c1 c2 c3 c4 c5 c6 c7 c8 c9 c10 c11 y0 y1 y2 y3 y4 y5 y6 y7 xd HS7 HX7 HC7 HON HP7 HB7 HB97 HZ7;generalize w7.drewN nq=w8 at *;have HBK:Hid (∀w',ZF gs w8 w'→Blk w' g 261 (goalC 1 nd k fr p)):=lh (fun w' z=>z.blk HS8.out HB8.out de);have HRO:=lh (HR.out (st+1) om hlt w8 (some gO) (n+1+1) i cA cc cl ns HX8.out HS8.out HO8.out hi HC8.out hcl om);have HRN:=lh (HR.out (st+1) om hlt w8 p n i cA cc cl ns HX8.out HS8.out HP8.out hi HC8.out hcl om);by_cases hmd1:nd.md=1
    ·have hmd2:(nd.md == 1)=true:=by simp[hmd1]
     cases more
     ·exact Z5z1
     ·go_wp2_with (first|(have hq:=HN9;go_at_call 151;obtain⟨st9,ns9,s9,x9,z9,a1,a2,a3,a4⟩:=HN9.out si;refine(HR.out st9 om a4 w9 (some gO) (n+1+1) i cA cc cl ns9 x9 s9 (((HO8.out.zf HS8.out z9)).mono om) hi (HC8.out.zf HS8.out z9) hcl om).mono ?_;rintro e w10 h10;obtain⟨b10,rfl⟩:=h10.val;have H10:=lh (RetF.after (st:=st) (ns:=ns) h10 (HZ8.out.trans z9) om ⟨om,om⟩);clear h10)|(go_at_call 151;refine HRN.out.mono ?_;rintro e w9 h9;obtain⟨b9,rfl⟩:=h9.val;have HN9:=lh (RetF.noI h9);have cn11:w9.cell? ⟨g,11,none⟩=some (.pointer (p.map (fun g=>⟨g,0,none⟩))):=(HBK.out w9 h9.zf).cell 11;have H9:=lh (RetF.after (st:=st) (ns:=ns) h9 HZ8.out om ⟨Nat.le_refl _,om⟩);clear h9;cases b9))
      all_goals
       go_ret
       first|exact H10.out|exact H9.out
    ·have hmd2:(nd.md == 1)=false:=by simp[hmd1]
     cases more
     ·exact Z5z1
     ·go_wp2_with (first|(have hq:=HN9;go_at_call 151;obtain⟨st9,ns9,s9,x9,z9,a1,a2,a3,a4⟩:=HN9.out si;refine(HR.out st9 om a4 w9 p n i cA cc cl ns9 x9 s9 (((HP8.out.zf HS8.out z9)).mono om) hi (HC8.out.zf HS8.out z9) hcl om).mono ?_;rintro e w10 h10;obtain⟨b10,rfl⟩:=h10.val;have H10:=lh (RetF.after (st:=st) (ns:=ns) h10 (HZ8.out.trans z9) om ⟨om,om⟩);clear h10)|(go_at_call 151;refine HRO.out.mono ?_;rintro e w9 h9;obtain⟨b9,rfl⟩:=h9.val;have HN9:=lh (RetF.noI h9);have cn11:w9.cell? ⟨g,11,none⟩=some (.pointer (p.map (fun g=>⟨g,0,none⟩))):=(HBK.out w9 h9.zf).cell 11;have H9:=lh (RetF.after (st:=st) (ns:=ns) h9 HZ8.out om ⟨Nat.le_refl _,om⟩);clear h9;cases b9))
      all_goals
       go_ret
       first|exact H10.out|exact H9.out
 ·go_wp2_with fail
  go_ret
  exact⟨true,st+1,true,ns,rfl,by have h:=HS3.out;simpa[hlt] using h,HX3.out,(ZF.of_ext HEN.out hgl).trans HZ3.out,om,om,om,.inr ⟨rfl,rfl,om⟩⟩
end
section
open Go.RowKit
attribute [local go_sem ↓] Go.wp_at_zero Go.wp_at_succ
theorem wp_appN {P:Program}{w0 base w:World}{T:Nat}{o:Oper}{a:Act}{K:Act→World→Prop}{Q:Exit→Act→World→Prop}(s x:Operand)(t:Nat)
 (ho:o.op=.call { callee:=.builtin .append,args:=#[s,x],argTypes:=#[t,t] })
 (i:TypeInfo) (ht:P.underlying t=some (.slice T)) (hi:P.info? T=some i) (hz:i.zero=some (.agg #[.int .i64 0,.int .i64 0,.int .i64 0,.int .i64 0,.slice none 0 0]))
 (hsize:i.size=5) (hby:i.bytes=56)
 (A:Option Addr) (c:Nat) (hs:List Hin) (hA:a.eval s=.slice A hs.length c) (hown:CdI w0 base w T A c hs)
 (B:Option Addr) (d:Nat) (ks:List Hin) (hx:a.eval x=.slice B ks.length d) (hr:CellsAt w B (flatN ks)) (hok:∀h∈ks,HinOk w0 h)
 (hb:hs.length+ks.length≤1000000) (ys:List Hin) (hys:ys=hs++ks)
 (h:∀A' c' w',CdI w0 base w' T A' c' ys→(∀b,A.map (·.block)=some b→base.heap.size≤b)→w.grownBy w' (A.map (·.block))→(A'.map (·.block)=A.map (·.block)∨A'.map (·.block)=some w.heap.size)→K (a.put o.dst (.slice A' ys.length c')) w'):o.wp P a w K Q:=by
 have hrow:=OwnS.row hown.own;refine wp_app _ s x t ho base.heap.size T i _ 5 56 ht hi hz hsize hby rfl om A hs.length c (flatN hs) hA hown.own B ks.length d (flatN ks) hx (flatN_len ks) hr (flatN_one ks) um om hown.ext.size ?_;intro A' c' w' ho' hg' hat';have hx':=hown.ext.grown hg' hrow;have hl:ys.length=hs.length+ks.length:=by rw[hys];simp
 rw[←hl];refine h A' c' w' ⟨?_,?_,hx'⟩ hrow hg' hat'
 ·rw[hl,hys,flatN_append];exact ho'
 ·rw[hys];intro z hz;rcases List.mem_append.1 hz with hz|hz
  ·exact hown.ok z hz
  ·exact hok z hz
theorem xcode_5 (w0:World)(bd:Nat)(S:Nat→Prop)(d B:Nat)(IH:CodeAll bd S w0 d B)(hB:2≤B)(w:World)(x0:Ext w0 w)(A:Option Addr)(c:Nat)(l:List Sp)(K:Option Addr)(kc:Nat)(ks:List Value)(mn mx md nn:Int)(neg:Bool)(fm:Int)
 (hn:0≤nn∧nn≤9) (h1k:1≤ks.length) (hkl:ks.length≤kc∧kc≤maxLen) (hcl:CellsAt w0 K (ks.flatMap cellsOf)) (hks:∀u∈ks,TreeAt bd S w0 d u) (hf:0≤fm) (hfB:fm+(B:Nat)+2≤1000000) :
 Calls Tryz.prog 65 #[.agg #[.int .i64 5,.slice A l.length c,.slice K ks.length kc,.int .i64 mn,.int .i64 mx,.int .i64 md,.int .i64 nn,.bool neg],.int .i64 fm] w (RetCd 123 w0 (B+2) w):=by
 obtain⟨iI,jI0,jI1,jI2,jI3⟩:=info_parts infoIn;have B0:=Blk.new w 26 #[.int .i64 5,.slice A l.length c,.slice K ks.length kc,.int .i64 mn,.int .i64 mx,.int .i64 md,.int .i64 nn,.bool neg];have E0:=Ext.alloc w (.cells #[.int .i64 5,.slice A l.length c,.slice K ks.length kc,.int .i64 mn,.int .i64 mx,.int .i64 md,.int .i64 nn,.bool neg] 26);have HIH:=lh IH;have HKL:ks.length≤kc∧kc≤9223372036854775807:=⟨hkl.1,by have:=hkl.2;unfold maxLen at this;omega⟩;have hlt0:(0:Int)<ks.length:=om;have hlt0n:0<ks.length:=om;obtain⟨b,o,hK,n,ht,k0,k1,k2,k3,k4,k5,k6,k7⟩:=kid8x (x0.trans E0) hcl hks (i:=0) om;subst hK;simp only[Nat.zero_mul,Nat.add_zero] at k0 k1 k2 k3 k4 k5 k6 k7;have HT:=lh ht;have ewp:IntKind.i64.wrap (fm+1)=fm+1:=wj;have ew1:IntKind.i64.wrap (2*nn)=2*nn:=wj;have ew2:IntKind.i64.wrap (2*nn-2)=2*nn-2:=wj;have ew3:IntKind.i64.wrap (2*nn-1)=2*nn-1:=wj;clear hcl hks hkl ht IH h1k;go_enter Tryz.func65,Tryz.ntmps65
 go_upto_region 1 with fail
 obtain⟨gx,hgx⟩:∃gx,gx=w.heap.size:=⟨_,rfl⟩
 rw[←hgx] at B0 ⊢;clear hgx;generalize w.alloc (.cells #[.int .i64 5,.slice A l.length c,.slice (some ⟨b,o,none⟩) ks.length kc,.int .i64 mn,.int .i64 mx,.int .i64 md,.int .i64 nn,.bool neg] 26)=wa at *;have X0:=x0.trans E0;have HX0:=lh X0;have z0:wa.cell? ⟨gx,0,none⟩=some (.int .i64 5):=B0.cell 0;have z2:wa.cell? ⟨gx,2,none⟩=some (.slice (some ⟨b,o,none⟩) ks.length kc):=B0.cell 2;have z6:wa.cell? ⟨gx,6,none⟩=some (.int .i64 nn):=B0.cell 6;have HE0:=lh E0
 go_upto_region 21 with fail
 have q2:=kc0 z2;have q6:=kc0 z6;have qk0:=kc0 k0;have qk1:=kc0 k1;have qk2:=kc0 k2;have qk3:=kc0 k3;have qk4:=kc0 k4;have qk5:=kc0 k5;have qk6:=kc0 k6;have qk7:=kc0 k7;obtain⟨ys9,HY9⟩:∃ys,Hid (ys=[]++[(⟨4,0,0,2*nn-2,none,0,[]⟩:Hin)]):=⟨_,lh rfl⟩;have hl9:Hid (ys9.length=1):=lh (by rw[HY9.out];rfl);refine Xr.start [] kr ?_;refine Xtk 0 ?_
 iterate 5(refine Xtn ?_)
 refine Xtk 8 ?_
 iterate 5(refine Xtn ?_)
 refine Xr.lazy 6 108 7 (fun g=>.slice (some ⟨g,0,none⟩) 1 1) 123 #[.int .i64 4,.int .i64 0,.int .i64 0,.int .i64 (2*nn-2),.slice none 0 0] rfl si dK si (fun w'=>by go_simp) ?_;refine Xr.stepZ rfl dK (fun _=>by rfl) (fun w4 g6 hE4 hK4 hg6 hB6 hno K hKK=>?_);refine wp_appN (w0:=w0) (base:=wa) _ _ _ rfl iI Tryz.underlying31 jI0 jI1 jI2 jI3 none 0 [] rfl (CdI.nil hK4.nil) _ 1 [⟨4,0,0,2*nn-2,none,0,[]⟩] rfl (hin_blk hB6) (fun h hh=>by rw[List.mem_singleton.1 hh];exact HinOk.plain w0 (by simp only[I64];omega)) si ys9 HY9.out ?_;intro A7 c7 w7 h7 hr7 hg7 hat7;have x47:Ext w4 w7:=(Ext.rfl' w4).grown hg7 si;refine hKK _ _ (KpP.of_ext x47) (hK4.ext x47) ?_;clear hKK;refine ptm ?_;refine Xcl 14 fun w10 hE10 hK10 K hKK=>?_;go_simp;refine(HIH.out w10 _ (HX0.out.trans hK10.nil) HT.out (fm+1) om om).mono ?_;rintro e w11 ⟨A14,c14,hs14,rfl,hl14,h14⟩;refine hKK _ _ h14.ext ?_;clear hKK;refine ptm ?_;have x1011:=h14.ext;obtain⟨ys10,HY10⟩:∃ys,Hid (ys=ys9++hs14):=⟨_,lh rfl⟩;have hl10:Hid (ys10.length=1+hs14.length):=lh (by rw[HY10.out,List.length_append,hl9.out]);have hup7:∀k,A7.map (·.block)=some k→k<w7.heap.size:=fun k hk=>(OwnS.blt h7.own hk).1;refine Xsp 15 fun w12 hE12 hK12 K hKK=>?_;refine wp_appN (w0:=w0) (base:=wa) _ _ _ rfl iI Tryz.underlying31 jI0 jI1 jI2 jI3 A7 c7 ys9 rfl (h7.up (hE10.trans (x1011.trans hE12))) A14 c14 hs14 rfl (OwnS.cells (h14.up hE12).own) h14.ok (by have:=hl9.out;omega) ys10 HY10.out ?_;intro A15 c15 w15 h15 hr15 hg15 hat15;refine hKK _ _ (WI_grown hg15 (fun i hi=>.inr ⟨(w4.heap.size,w7.heap.size),by simp,by rcases hat7 with h|h<;>rw[h] at hi<;>simp at hi;omega,hup7 i hi⟩)) (Kp.of_ext h15.ext) ?_
 clear hKK;refine ptm ?_;refine Xtk 16 ?_;refine Xdn fun w16 hE16 hK16=>?_;have H16:=lh (h15.up hE16);have z6c:=q6 w16 hK16;clear h15 hg15 hr15 hat15 h14 h7 hg7 hr7 hat7 x47 hE4 hK4 hE10 hK10 hE12 hK12 hup7;have hc16:=H16.out.len;obtain⟨ys11,HY11⟩:∃ys,Hid (ys=ys10++[(⟨4,0,0,2*nn-1,none,0,[]⟩:Hin)]):=⟨_,lh rfl⟩;have hl11:Hid (ys11.length=2+hs14.length):=lh (by rw[HY11.out,List.length_append,hl10.out];simp;omega)
 go_wp2_with (at_builtin;refine wpList_appN (w0:=w0) rfl _ _ _ rfl iI Tryz.underlying31 jI0 jI1 jI2 jI3 A15 c15 ys10 rfl (H16.out.up (Ext.alloc w16 _)) _ 1 [⟨4,0,0,2*nn-1,none,0,[]⟩] rfl (hin_blk (Blk.new _ _ _)) (fun h hh=>by rw[List.mem_singleton.1 hh];exact HinOk.plain w0 (by simp only[I64];omega)) (by have:=hl10.out;simp only[List.length_singleton];omega) ys11 HY11.out ?_;intro A17 c17 w17 h17 x17 hr17 hg17)
 go_ret
 exact⟨A17,c17,ys11,rfl,by have:=hl11.out;omega,h17.low HE0.out⟩
end
section
open Go.RowKit
attribute [local go_sem ↓] Go.wp_at_zero Go.wp_at_succ
def setIn (w:World)(g:Nat)(h:Hin):World:=
 (((((w.setCell ⟨g,0,none⟩ (.int .i64 h.op)).setCell ⟨g,1,none⟩ (.int .i64 h.x)).setCell ⟨g,2,none⟩ (.int .i64 h.y)).setCell ⟨g,3,none⟩ (.int .i64 h.n)).setCell ⟨g,4,none⟩ (.slice h.A h.l.length h.c))
def Hin.cs (h:Hin):Array Value:=#[.int .i64 h.op,.int .i64 h.x,.int .i64 h.y,.int .i64 h.n,.slice h.A h.l.length h.c]
theorem setIn_blk {w:World}{g T:Nat}{a0 a1 a2 a3 a4:Value}(h:Blk w g T #[a0,a1,a2,a3,a4])(n:Hin):Blk (setIn w g n) g T n.cs:=by
 have h:=(((((h.set 0 (.int .i64 n.op)).set 1 (.int .i64 n.x)).set 2 (.int .i64 n.y)).set 3 (.int .i64 n.n)).set 4 (.slice n.A n.l.length n.c))
 simpa[setIn,Hin.cs] using h
theorem setIn_ext {a w:World}{g:Nat}(h:Ext a w)(hg:a.heap.size≤g)(n:Hin):Ext a (setIn w g n):=
 (((((h.setNew (p:=⟨g,0,none⟩) hg _).setNew (p:=⟨g,1,none⟩) hg _).setNew (p:=⟨g,2,none⟩) hg _).setNew (p:=⟨g,3,none⟩) hg _).setNew (p:=⟨g,4,none⟩) hg _)
theorem in_cells {w:World}{g T:Nat}{n:Hin}(h:Blk w g T n.cs):w.cell? ⟨g,0,none⟩=some (.int .i64 n.op)∧w.cell? ⟨g,1,none⟩=some (.int .i64 n.x)∧w.cell? ⟨g,2,none⟩=some (.int .i64 n.y)∧w.cell? ⟨g,3,none⟩=some (.int .i64 n.n)∧w.cell? ⟨g,4,none⟩=some (.slice n.A n.l.length n.c):=
 ⟨h.cell 0,h.cell 1,h.cell 2,h.cell 3,h.cell 4⟩
theorem in_frz {w:World}{g T:Nat}{cs:Array Value}(h:Blk w g T cs):w.frozen? ⟨g,0,none⟩=false∧w.frozen? ⟨g,1,none⟩=false∧w.frozen? ⟨g,2,none⟩=false∧w.frozen? ⟨g,3,none⟩=false∧w.frozen? ⟨g,4,none⟩=false:=
 ⟨h.frz 0,h.frz 1,h.frz 2,h.frz 3,h.frz 4⟩
theorem C6z1 {P:Prop} (h:P:=by
 have H6:=lh h6;have z26:=x6.cell z2;obtain⟨b',o',hK',n,ht,k0,k1,k2,k3,k4,k5,k6,k7⟩:=kid8x (HX0.out.trans x6) HC.out HK.out hlt0n;injection hK' with hK';injection hK' with e1 e2 _
 subst e1;subst e2;simp only[Nat.zero_mul,Nat.add_zero] at k0 k1 k2 k3 k4 k5 k6 k7;have HT:=lh ht;have HX6:=lh (HX0.out.trans x6);have HX16:=lh x6;clear ht h6 x6 hr6 hg6 y0 y1 y2 y3 y4 bn HIn;have hc6:=H6.out.len
 go_wp2_with (first|(go_at_call 65;refine(HIH.out w6 _ HX6.out HT.out (fm+(hs.length:Int)+1) om om).mono ?_;rintro e w7 ⟨A7,c7,hs7,rfl,hl7,h7⟩;have H7:=lh h7;have hc7:=h7.len;have x7:=h7.ext;clear h7)|(at_builtin;obtain⟨ys2,HY2⟩:∃ys,Hid (ys=ys1++hs7):=⟨_,lh rfl⟩;refine wpList_appN rfl _ _ _ rfl iI Tryz.underlying31 jI0 jI1 jI2 jI3 A6 c6 ys1 rfl (H6.out.up x7) A7 c7 hs7 rfl (OwnS.cells H7.out.own) H7.out.ok (by have:=hl1.out;omega) ys2 HY2.out ?_;intro A8 c8 w8 h8 x8 hr8 hg8;have H8:=lh h8;have HX8:=lh x8;clear h8 hg8 hr8 x8))
 have hyl:ys2.length=hs.length+1+hs7.length:=by rw[HY2.out,List.length_append,hl1.out]
 go_roundw
 case rel=>exact⟨k+1,A8,c8,ys2,by go_num,rfl,om,.inr om,om,HX8.out,H8⟩
 case measure=>simp[intOf];omega):P:=h
theorem C6z2 {P:Prop} (h:P:=by
 have H7:=lh h7;have hc7:=h7.len;clear h7 x7 hr7 hg7 H6 HG6 HIn H8n y0 y1 y2 y3 y4 bn
 go_wp2_with (at_builtin;refine wpList_appN (w0:=w0) rfl _ _ _ rfl iI Tryz.underlying31 jI0 jI1 jI2 jI3 A7 c7 ys2 rfl (H7.out.up (Ext.alloc w7 _)) _ 1 [⟨3,fm+(hs.length:Int),0,0,none,0,[]⟩] rfl (hin_blk (Blk.new _ _ _)) (fun h hh=>by rw[List.mem_singleton.1 hh];exact HinOk.plain w0 (by simp only[I64];omega)) (by have:=hl2.out;simp only[List.length_singleton];omega) ys3 HY3.out ?_;intro A9 c9 w9 h9 x9 hr9 hg9)
 go_ret
 exact⟨A9,c9,ys3,rfl,by have h3:=hl3.out;have h8:=hl8;exact(Nat.eq_zero_or_pos m).elim (fun e=>by rw[e] at hlm;omega) (fun e=>om),h9.low HE0.out⟩):P:=h
theorem xrep_any (w0:World)(bd:Nat)(S:Nat→Prop)(d B:Nat)(IH:CodeAll bd S w0 d B)(hB:2≤B)(hbd:2≤bd)(w:World)(x0:Ext w0 w)(A:Option Addr)(c:Nat)(l:List Sp)(K:Option Addr)(kc:Nat)(ks:List Value)(m:Nat)(mx md nn:Int)(neg:Bool)(fm:Int)
 (ht4:TreeAt bd S w0 (d+1) (.agg #[.int .i64 4,.slice A l.length c,.slice K ks.length kc,.int .i64 (m:Int),.int .i64 mx,.int .i64 md,.int .i64 nn,.bool neg])) (h1k:1≤ks.length) (hm:m≤bd) (hmx : -1≤mx∧mx≤bd) (hmm:mx = -1→m+1≤bd) (hmd:0≤md∧md≤1) (hkl:ks.length≤kc∧kc≤maxLen) (hcl:CellsAt w0 K (ks.flatMap cellsOf)) (hks:∀u∈ks,TreeAt bd S w0 d u) (hf:0≤fm) (hfB:fm+(B*bd:Nat)≤1000000) :
 Calls Tryz.prog 112 #[.agg #[.int .i64 4,.slice A l.length c,.slice K ks.length kc,.int .i64 (m:Int),.int .i64 mx,.int .i64 md,.int .i64 nn,.bool neg],.int .i64 fm] w (RetCd 123 w0 (B*bd) w):=by
 obtain⟨iI,jI0,jI1,jI2,jI3⟩:=info_parts infoIn;have B0:=Blk.new w 26 #[.int .i64 4,.slice A l.length c,.slice K ks.length kc,.int .i64 (m:Int),.int .i64 mx,.int .i64 md,.int .i64 nn,.bool neg];have E0:=Ext.alloc w (.cells #[.int .i64 4,.slice A l.length c,.slice K ks.length kc,.int .i64 (m:Int),.int .i64 mx,.int .i64 md,.int .i64 nn,.bool neg] 26);have HIH:=lh IH;have HC:=lh hcl;have HK:=lh hks;have HT4:=lh ht4;have HMM:=lh hmm;have HKL:ks.length≤kc∧kc≤9223372036854775807:=⟨hkl.1,by have:=hkl.2;unfold maxLen at this;omega⟩;have hlt0:(0:Int)<ks.length:=om;have hlt0n:0<ks.length:=om;have hBm:B*m≤B*bd:=mul_le2 hm;have hB2:B*2≤B*bd:=mul_le2 hbd;obtain⟨b,o,hK⟩:∃b o,K=some ⟨b,o,none⟩:=by
  obtain⟨b,o,hK,_⟩:=kid8x (x0.trans E0) hcl hks (i:=0) om;exact⟨b,o,hK⟩
 subst hK;clear hcl hks hkl IH h1k ht4 hmm;go_enter Tryz.func112,Tryz.ntmps112
 go_upto_region 1 with fail
 obtain⟨gx,hgx⟩:∃gx,gx=w.heap.size:=⟨_,rfl⟩
 rw[←hgx] at B0 ⊢;clear hgx;generalize w.alloc (.cells #[.int .i64 4,.slice A l.length c,.slice (some ⟨b,o,none⟩) ks.length kc,.int .i64 (m:Int),.int .i64 mx,.int .i64 md,.int .i64 nn,.bool neg] 26)=wa at *;have X0:=x0.trans E0;have HX0:=lh X0;have z2:wa.cell? ⟨gx,2,none⟩=some (.slice (some ⟨b,o,none⟩) ks.length kc):=B0.cell 2;have z3:wa.cell? ⟨gx,3,none⟩=some (.int .i64 (m:Int)):=B0.cell 3;have z4:wa.cell? ⟨gx,4,none⟩=some (.int .i64 mx):=B0.cell 4;have z5:wa.cell? ⟨gx,5,none⟩=some (.int .i64 md):=B0.cell 5;have HB0:=lh B0;have HE0:=lh E0;clear B0 E0 X0
 go_upto_region 3 with fail
 go_loopw [6,5] (fun v6 v5 wr=>∃(i:Nat) (A5:Option Addr) (c5:Nat) (hs:List Hin),v6=.int .i64 i∧v5=.slice A5 hs.length c5∧i≤m∧hs.length+2*i≤B*i∧Ext wa wr∧Hid (CdI w0 wa wr 123 A5 c5 hs)) (fun v _ _=>m-(intOf v).toNat)
 case atStart=>exact⟨0,none,0,[],rfl,rfl,om,by simp,Ext.rfl' _,lh (CdI.nil (Ext.rfl' wa))⟩
 case round=>
  obtain⟨i,A5,c5,hs,rfl,rfl,hi,hlen,x1,HI⟩:=hrel;have hcaps:=HI.out.len;have z2r:=x1.cell z2;have z3r:=x1.cell z3;have z4r:=x1.cell z4;have z5r:=x1.cell z5;obtain⟨b',o',hK',n,ht,k0,k1,k2,k3,k4,k5,k6,k7⟩:=kid8x (HX0.out.trans x1) HC.out HK.out hlt0n;injection hK' with hK';injection hK' with e1 e2 _
  subst e1;subst e2;simp only[Nat.zero_mul,Nat.add_zero] at k0 k1 k2 k3 k4 k5 k6 k7;have HT:=lh ht;have HXR:=lh (HX0.out.trans x1);have ewp:IntKind.i64.wrap (fm+(hs.length:Int))=fm+(hs.length:Int):=by have:=mul_le2 (B:=B) hi;rw[IntKind.wrap_i64];omega
  clear ht;by_cases hlt:i<m
  ·have hiI:(i:Int)<(m:Int):=om;have hm1:=mul_step B i;have hm2:B*(i+1)≤B*m:=mul_le2 hlt
   go_wp2_with (first|(go_at_call 65;refine(HIH.out wr _ HXR.out HT.out (fm+(hs.length:Int)) om om).mono ?_;rintro e w3 ⟨A3,c3,hs3,rfl,hl3,h3⟩;have H3:=lh h3;have hc3:=h3.len;have x3:=h3.ext;clear h3)|(at_builtin;obtain⟨ys,HY⟩:∃ys,Hid (ys=hs++hs3):=⟨_,lh rfl⟩;refine wpList_appN rfl _ _ _ rfl iI Tryz.underlying31 jI0 jI1 jI2 jI3 A5 c5 hs rfl (HI.out.up x3) A3 c3 hs3 rfl (OwnS.cells H3.out.own) H3.out.ok om ys HY.out ?_;intro A8 c8 w8 h8 x8 hr8 hg8;have H8:=lh h8;have HG8:=lh hg8;have HR8:=lh hr8;clear h8 hg8 hr8))
   have hyl:ys.length=hs.length+hs3.length:=by rw[HY.out];simp
   go_roundw
   case rel=>exact⟨i+1,A8,c8,ys,by go_num,rfl,om,om,(x1.trans x3).grown HG8.out (fun k hk=>HR8.out k hk),H8⟩
   case measure=>simp[intOf];omega
  ·have hiI:¬(i:Int)<(m:Int):=om;have hlm:hs.length+2*m≤B*m:=by
    have e:i=m:=om;rw[e] at hlen;exact hlen
   clear hlen;by_cases hm1:mx = -1
   ·subst hm1;have hm1b:m+1≤bd:=HMM.out rfl;have hBm1:B*(m+1)≤B*bd:=mul_le2 hm1b;have hms:=mul_step B m;have hq:hs.length+1+B≤B*bd:=(Nat.eq_zero_or_pos m).elim (fun e=>by rw[e] at hlm;omega) (fun e=>om);have ewq:IntKind.i64.wrap (fm+(hs.length:Int)+1)=fm+(hs.length:Int)+1:=wj
    go_upto_region 9 with(go_at_call 65;refine(HIH.out wr _ HXR.out HT.out (fm+(hs.length:Int)+1) om om).mono ?_;rintro e w8 ⟨A8,c8,hs8,rfl,hl8,h8⟩)
    have x8:=h8.ext;have H8:=lh h8;have hc8:=h8.len;have z58:=x8.cell z5r;have ewe:IntKind.i64.wrap (fm+(hs.length:Int)+(hs8.length:Int))=fm+(hs.length:Int)+(hs8.length:Int):=wj;have ewf:IntKind.i64.wrap (fm+(hs.length:Int)+(hs8.length:Int)+2)=fm+(hs.length:Int)+(hs8.length:Int)+2:=wj;clear h8 k0 k1 k2 k3 k4 k5 k6 k7 z2r z3r z4r z5r;have XI:=Ext.alloc w8 (.cells #[.int .i64 2,.int .i64 (fm+(hs.length:Int)+1),.int .i64 (fm+(hs.length:Int)+(hs8.length:Int)+2),.int .i64 0,.slice none 0 0] 123);have BI:=Blk.new w8 123 #[.int .i64 2,.int .i64 (fm+(hs.length:Int)+1),.int .i64 (fm+(hs.length:Int)+(hs8.length:Int)+2),.int .i64 0,.slice none 0 0];have z5b:=XI.cell z58
    go_upto_region 11 with fail
    obtain⟨gI,hgI0⟩:∃g,g=w8.heap.size:=⟨_,rfl⟩
    rw[←hgI0] at BI ⊢;have hgI:w8.heap.size≤gI:=om;clear hgI0;generalize w8.alloc (.cells #[.int .i64 2,.int .i64 (fm+(hs.length:Int)+1),.int .i64 (fm+(hs.length:Int)+(hs8.length:Int)+2),.int .i64 0,.slice none 0 0] 123)=wb at *;obtain⟨y0,y1,y2,y3,y4⟩:wb.cell? ⟨gI,0,none⟩=some (.int .i64 2)∧wb.cell? ⟨gI,1,none⟩=some (.int .i64 (fm+(hs.length:Int)+1))∧wb.cell? ⟨gI,2,none⟩=some (.int .i64 (fm+(hs.length:Int)+(hs8.length:Int)+2))∧wb.cell? ⟨gI,3,none⟩=some (.int .i64 0)∧wb.cell? ⟨gI,4,none⟩=some (.slice none 0 0):=⟨BI.cell 0,BI.cell 1,BI.cell 2,BI.cell 3,BI.cell 4⟩;by_cases hmd1:md=1
    ·subst hmd1;obtain⟨f0,f1,f2,f3,f4⟩:=in_frz BI
     go_upto_region 13 with fail
     have bn:=setIn_blk BI ⟨2,(fm+(hs.length:Int)+(hs8.length:Int)+2),(fm+(hs.length:Int)+1),0,none,0,[]⟩;have xn:=setIn_ext XI hgI ⟨2,(fm+(hs.length:Int)+(hs8.length:Int)+2),(fm+(hs.length:Int)+1),0,none,0,[]⟩;change Code.wp _ _ _ _ (setIn wb gI ⟨2,(fm+(hs.length:Int)+(hs8.length:Int)+2),(fm+(hs.length:Int)+1),0,none,0,[]⟩);clear y0 y1 y2 y3 y4 f0 f1 f2 f3 f4 BI XI;generalize setIn wb gI ⟨2,(fm+(hs.length:Int)+(hs8.length:Int)+2),(fm+(hs.length:Int)+1),0,none,0,[]⟩=wn at *;obtain⟨y0,y1,y2,y3,y4⟩:=in_cells bn;simp only[List.length_nil] at y4;have HIn:=lh (HI.out.up (x8.trans xn));have H8n:=lh (H8.out.up xn);have HAP:Hid (∀b,A5.map (·.block)=some b→A8.map (·.block)=some b→False):=lh (fun b h1 h2=>by have h3:=(OwnS.blt HI.out.own h1).1;have h4:=OwnS.row H8.out.own b h2;omega);obtain⟨ys1,HY1⟩:∃ys,Hid (ys=hs++[(⟨2,(fm+(hs.length:Int)+(hs8.length:Int)+2),(fm+(hs.length:Int)+1),0,none,0,[]⟩:Hin)]):=⟨_,lh rfl⟩;obtain⟨ys2,HY2⟩:∃ys,Hid (ys=ys1++hs8):=⟨_,lh rfl⟩;obtain⟨ys3,HY3⟩:∃ys,Hid (ys=ys2++[(⟨3,fm+(hs.length:Int),0,0,none,0,[]⟩:Hin)]):=⟨_,lh rfl⟩;have hl1:Hid (ys1.length=hs.length+1):=lh (by rw[HY1.out,List.length_append];simp);have hl2:Hid (ys2.length=hs.length+1+hs8.length):=lh (by rw[HY2.out,List.length_append,hl1.out]);have hl3:Hid (ys3.length=hs.length+hs8.length+2):=lh (by rw[HY3.out,List.length_append,hl2.out];simp;omega)
     go_upto_region 14 with(first|(at_builtin;refine wpList_appN (w0:=w0) rfl _ _ _ rfl iI Tryz.underlying31 jI0 jI1 jI2 jI3 A5 c5 hs rfl (HIn.out.up (Ext.alloc wn _)) _ 1 [⟨2,(fm+(hs.length:Int)+(hs8.length:Int)+2),(fm+(hs.length:Int)+1),0,none,0,[]⟩] rfl (hin_blk (Blk.new _ _ _)) (fun h hh=>by rw[List.mem_singleton.1 hh];exact HinOk.plain w0 (by simp only[I64];omega)) (by simp only[List.length_singleton];omega) ys1 HY1.out ?_;intro A6 c6 w6 h6 x6 hr6 hg6;have H6:=lh h6;have HG6:=lh hg6;clear h6 x6 hr6 hg6)|(at_builtin;refine wpList_appN (w0:=w0) rfl _ _ _ rfl iI Tryz.underlying31 jI0 jI1 jI2 jI3 A6 c6 ys1 rfl H6.out A8 c8 hs8 rfl (OwnS.cells (OwnS.kp (OwnS.ext H8n.out.own (Ext.alloc wn _)) (KpP.of_grown HG6.out) (fun b h1 h2=>HAP.out b h2 h1))) H8n.out.ok (by have:=hl1.out;omega) ys2 HY2.out ?_;intro A7 c7 w7 h7 x7 hr7 hg7))
     exact C6z2
    ·have hmd0:(md == 1)=false:=by simp[hmd1]
     go_upto_region 13 with fail
     have bn:=BI;have xn:=XI;clear BI XI;generalize wb=wn at *;have HIn:=lh (HI.out.up (x8.trans xn));have H8n:=lh (H8.out.up xn);have HAP:Hid (∀b,A5.map (·.block)=some b→A8.map (·.block)=some b→False):=lh (fun b h1 h2=>by have h3:=(OwnS.blt HI.out.own h1).1;have h4:=OwnS.row H8.out.own b h2;omega);obtain⟨ys1,HY1⟩:∃ys,Hid (ys=hs++[(⟨2,(fm+(hs.length:Int)+1),(fm+(hs.length:Int)+(hs8.length:Int)+2),0,none,0,[]⟩:Hin)]):=⟨_,lh rfl⟩;obtain⟨ys2,HY2⟩:∃ys,Hid (ys=ys1++hs8):=⟨_,lh rfl⟩;obtain⟨ys3,HY3⟩:∃ys,Hid (ys=ys2++[(⟨3,fm+(hs.length:Int),0,0,none,0,[]⟩:Hin)]):=⟨_,lh rfl⟩;have hl1:Hid (ys1.length=hs.length+1):=lh (by rw[HY1.out,List.length_append];simp);have hl2:Hid (ys2.length=hs.length+1+hs8.length):=lh (by rw[HY2.out,List.length_append,hl1.out]);have hl3:Hid (ys3.length=hs.length+hs8.length+2):=lh (by rw[HY3.out,List.length_append,hl2.out];simp;omega)
     go_upto_region 14 with(first|(at_builtin;refine wpList_appN (w0:=w0) rfl _ _ _ rfl iI Tryz.underlying31 jI0 jI1 jI2 jI3 A5 c5 hs rfl (HIn.out.up (Ext.alloc wn _)) _ 1 [⟨2,(fm+(hs.length:Int)+1),(fm+(hs.length:Int)+(hs8.length:Int)+2),0,none,0,[]⟩] rfl (hin_blk (Blk.new _ _ _)) (fun h hh=>by rw[List.mem_singleton.1 hh];exact HinOk.plain w0 (by simp only[I64];omega)) (by simp only[List.length_singleton];omega) ys1 HY1.out ?_;intro A6 c6 w6 h6 x6 hr6 hg6;have H6:=lh h6;have HG6:=lh hg6;clear h6 x6 hr6 hg6)|(at_builtin;refine wpList_appN (w0:=w0) rfl _ _ _ rfl iI Tryz.underlying31 jI0 jI1 jI2 jI3 A6 c6 ys1 rfl H6.out A8 c8 hs8 rfl (OwnS.cells (OwnS.kp (OwnS.ext H8n.out.own (Ext.alloc wn _)) (KpP.of_grown HG6.out) (fun b h1 h2=>HAP.out b h2 h1))) H8n.out.ok (by have:=hl1.out;omega) ys2 HY2.out ?_;intro A7 c7 w7 h7 x7 hr7 hg7))
     exact C6z2
   ·have hm1f:(mx == -1)=false:=by simp[hm1]
    obtain⟨q,rfl⟩:∃q:Nat,mx=q:=⟨mx.toNat,om⟩;clear k0 k1 k2 k3 k4 k5 k6 k7;have BR:=HB0.out.ext x1;have r0:=BR.cell 0;have r1:=BR.cell 1;have r6:=BR.cell 6;have r7:=BR.cell 7;clear BR;have HT4r:=lh (HT4.out.ext HXR.out);have HSZ:=lh (xsize_any bd S (d+1) wr _ HT4r.out);unfold Nd.val at HSZ
    go_upto_region 17 with(go_at_call 64;refine HSZ.out.mono ?_;rintro e w8 ⟨sz,rfl,hsz,x8⟩;have z38:=x8.cell z3r;have z48:=x8.cell z4r)
    have hen:=i64_wrap64 (fm+sz);generalize wrap64 (fm+sz)=en at *;have x18:=x1.trans x8;have HI8:=lh (HI.out.up x8);have him:i=m:=om;clear hlt hiI;subst him;clear z38 z48 r0 r1 r6 r7 z2r z3r z4r z5r HT4r HSZ HI x1 HXR
    go_loopw [12,5] (fun v12 v5 wq=>∃(k:Nat) (A5:Option Addr) (c5:Nat) (hs:List Hin),v12=.int .i64 k∧v5=.slice A5 hs.length c5∧i≤k∧(k=i∨k≤q)∧hs.length+i+k≤B*k∧Ext wa wq∧Hid (CdI w0 wa wq 123 A5 c5 hs)) (fun v _ _=>q-(intOf v).toNat)
    case atStart=>exact⟨i,A5,c5,hs,rfl,rfl,Nat.le_refl _,.inl rfl,om,x18,HI8⟩
    case round=>
     clear HI8 x18 hlm hcaps;obtain⟨k,A5,c5,hs,rfl,rfl,hik,hkq,hlen,x1,HI⟩:=hrel;have hcaps:=HI.out.len;have z2r:=x1.cell z2;have z4r:=x1.cell z4;have z5r:=x1.cell z5;by_cases hlt:k<q
     ·have hiI:(k:Int)<(q:Int):=om;have hm1:=mul_step B k;have hm2:B*(k+1)≤B*bd:=mul_le2 om;have hq:hs.length+1+B≤B*bd:=(Nat.eq_zero_or_pos k).elim (fun e=>by rw[e] at hlen;omega) (fun e=>om);have HXR:=lh (HX0.out.trans x1);have ewp:IntKind.i64.wrap (fm+(hs.length:Int))=fm+(hs.length:Int):=wj;have ewq:IntKind.i64.wrap (fm+(hs.length:Int)+1)=fm+(hs.length:Int)+1:=wj;have XI:=Ext.alloc wr (.cells #[.int .i64 2,.int .i64 (fm+(hs.length:Int)+1),.int .i64 en,.int .i64 0,.slice none 0 0] 123);have BI:=Blk.new wr 123 #[.int .i64 2,.int .i64 (fm+(hs.length:Int)+1),.int .i64 en,.int .i64 0,.slice none 0 0];have z5b:=XI.cell z5r
      go_upto_region 21 with fail
      obtain⟨gI,hgI0⟩:∃g,g=wr.heap.size:=⟨_,rfl⟩
      rw[←hgI0] at BI ⊢;have hgI:wr.heap.size≤gI:=om;clear hgI0;generalize wr.alloc (.cells #[.int .i64 2,.int .i64 (fm+(hs.length:Int)+1),.int .i64 en,.int .i64 0,.slice none 0 0] 123)=wb at *;obtain⟨y0,y1,y2,y3,y4⟩:wb.cell? ⟨gI,0,none⟩=some (.int .i64 2)∧wb.cell? ⟨gI,1,none⟩=some (.int .i64 (fm+(hs.length:Int)+1))∧wb.cell? ⟨gI,2,none⟩=some (.int .i64 en)∧wb.cell? ⟨gI,3,none⟩=some (.int .i64 0)∧wb.cell? ⟨gI,4,none⟩=some (.slice none 0 0):=⟨BI.cell 0,BI.cell 1,BI.cell 2,BI.cell 3,BI.cell 4⟩;by_cases hmd1:md=1
      ·subst hmd1;obtain⟨f0,f1,f2,f3,f4⟩:=in_frz BI
       go_upto_region 23 with fail
       have bn:=setIn_blk BI ⟨2,en,(fm+(hs.length:Int)+1),0,none,0,[]⟩;have xn:=setIn_ext XI hgI ⟨2,en,(fm+(hs.length:Int)+1),0,none,0,[]⟩;change Code.wp _ _ _ _ (setIn wb gI ⟨2,en,(fm+(hs.length:Int)+1),0,none,0,[]⟩);clear y0 y1 y2 y3 y4 f0 f1 f2 f3 f4 BI XI;generalize setIn wb gI ⟨2,en,(fm+(hs.length:Int)+1),0,none,0,[]⟩=wn at *;obtain⟨y0,y1,y2,y3,y4⟩:=in_cells bn;simp only[List.length_nil] at y4;have HIn:=lh (HI.out.up xn);obtain⟨ys1,HY1⟩:∃ys,Hid (ys=hs++[(⟨2,en,(fm+(hs.length:Int)+1),0,none,0,[]⟩:Hin)]):=⟨_,lh rfl⟩;have hl1:Hid (ys1.length=hs.length+1):=lh (by rw[HY1.out,List.length_append];simp)
       go_upto_region 24 with(at_builtin;refine wpList_appN (w0:=w0) rfl _ _ _ rfl iI Tryz.underlying31 jI0 jI1 jI2 jI3 A5 c5 hs rfl (HIn.out.up (Ext.alloc wn _)) _ 1 [⟨2,en,(fm+(hs.length:Int)+1),0,none,0,[]⟩] rfl (hin_blk (Blk.new _ _ _)) (fun h hh=>by rw[List.mem_singleton.1 hh];exact HinOk.plain w0 (by have hen':=hen;simp only[I64] at hen' ⊢;omega)) (by simp only[List.length_singleton];omega) ys1 HY1.out ?_;intro A6 c6 w6 h6 x6 hr6 hg6)
       exact C6z1
      ·have hmd0:(md == 1)=false:=by simp[hmd1]
       go_upto_region 23 with fail
       have bn:=BI;have xn:=XI;clear BI XI;generalize wb=wn at *;have HIn:=lh (HI.out.up xn);obtain⟨ys1,HY1⟩:∃ys,Hid (ys=hs++[(⟨2,(fm+(hs.length:Int)+1),en,0,none,0,[]⟩:Hin)]):=⟨_,lh rfl⟩;have hl1:Hid (ys1.length=hs.length+1):=lh (by rw[HY1.out,List.length_append];simp)
       go_upto_region 24 with(at_builtin;refine wpList_appN (w0:=w0) rfl _ _ _ rfl iI Tryz.underlying31 jI0 jI1 jI2 jI3 A5 c5 hs rfl (HIn.out.up (Ext.alloc wn _)) _ 1 [⟨2,(fm+(hs.length:Int)+1),en,0,none,0,[]⟩] rfl (hin_blk (Blk.new _ _ _)) (fun h hh=>by rw[List.mem_singleton.1 hh];exact HinOk.plain w0 (by have hen':=hen;simp only[I64] at hen' ⊢;omega)) (by simp only[List.length_singleton];omega) ys1 HY1.out ?_;intro A6 c6 w6 h6 x6 hr6 hg6)
       exact C6z1
     ·have hiI:¬(k:Int)<(q:Int):=om;have hm2:B*k≤B*bd:=mul_le2 om;have hm3:k≤1→B*k≤B*1:=fun h=>mul_le2 h
      go_wp2_with fail
      go_ret
      exact⟨A5,c5,hs,rfl,by exact(Nat.lt_or_ge 1 k).elim (fun h=>om) (fun h=>by have h9:=hm3 h;omega),HI.out.low HE0.out⟩
end
end Go.Proofs.YtmocoldobnimfaaGreat
