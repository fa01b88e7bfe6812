/- Texts of this proof: Z4 Z5. -/
import Derived.Test.YtmocoldobnimfaaGreatMS17
set_option linter.all false
set_option maxRecDepth 100000
set_option maxHeartbeats 16000000
namespace Go.Proofs.YtmocoldobnimfaaGreat
section
open Go.RowKit
attribute [local go_sem ↓] Go.wp_at_zero Go.wp_at_succ
theorem WF.wrap {w0 w w6 w7 w8:World}{gs tn tc st ns fuel:Nat}{tA:Option Addr}{most:Int}{e:Ending}(h:WF w0 gs tA tn tc most fuel st ns w6 e w7)(x:Ext w w6)(y:Ext w7 w8)(hg:gs<w.heap.size):WF w0 gs tA tn tc most fuel st ns w e w8:=by
 obtain⟨b,st',em,ns',h1,h2,h3,h4,h5⟩:=h;exact⟨b,st',em,ns',h1,h2.ext y,h3.trans y,(ZF.of_ext x hg).trans (h4.ext y (Nat.lt_of_lt_of_le hg x.size)),h5⟩
theorem WF.val {w0 w w':World}{gs tn tc st ns fuel:Nat}{tA:Option Addr}{most:Int}{e:Ending}(h:WF w0 gs tA tn tc most fuel st ns w e w'):∃b:Bool,e=.returned (.bool b):=by
 obtain⟨b,_,_,_,h1,_⟩:=h;exact⟨b,h1⟩
theorem ZF.kpL {gs:Nat}{w w':World}{L:List Nat}(h:ZF gs w w')(e:zL w gs=L):Kp L w w':=e▸h.kp
theorem ZF.wi {gs:Nat}{w w':World}{L:List Nat}{I:List (Nat×Nat)}(h:ZF gs w w')(e:zL w gs=L):WI L I w w':=by
 have k:=h.kpL e;exact⟨k.os,k.tape,k.output,k.size,fun i hi hn=>k.block i hi (fun hm=>hn (.inl hm))⟩
theorem WF.zf {w0 w w':World}{gs tn tc st ns fuel:Nat}{tA:Option Addr}{most:Int}{e:Ending}(h:WF w0 gs tA tn tc most fuel st ns w e w'):ZF gs w w':=by
 obtain⟨_,_,_,_,_,_,_,h4,_⟩:=h;exact h4
theorem KQ {w:World}{g:Nat}{kind k fr:Int}{nd:Nd}{p:Option Nat}(h:Blk w g 261 (Wx kind nd k fr p)) :
 w.cell? ⟨g,0,none⟩=some (.int .i64 kind)/\w.cell? ⟨g,1,none⟩=some (.int .i64 nd.op)/\w.cell? ⟨g,2,none⟩=some (.slice nd.A nd.l.length nd.c)/\w.cell? ⟨g,3,none⟩=some (.slice nd.K nd.ks.length nd.kc)/\
 w.cell? ⟨g,4,none⟩=some (.int .i64 nd.mn)/\w.cell? ⟨g,5,none⟩=some (.int .i64 nd.mx)/\w.cell? ⟨g,6,none⟩=some (.int .i64 nd.md)/\w.cell? ⟨g,7,none⟩=some (.int .i64 nd.n)/\w.cell? ⟨g,8,none⟩=some (.bool nd.neg)/\
 w.cell? ⟨g,9,none⟩=some (.int .i64 k)/\w.cell? ⟨g,10,none⟩=some (.int .i64 fr)/\w.cell? ⟨g,11,none⟩=some (.pointer (p.map (fun g=>⟨g,0,none⟩))):=
 ⟨h.cell 0,h.cell 1,h.cell 2,h.cell 3,h.cell 4,h.cell 5,h.cell 6,h.cell 7,h.cell 8,h.cell 9,h.cell 10,h.cell 11⟩
theorem PV (R:Ending->World->Prop)(w:World)(gs g:Nat)(nd:Nd)(k fr:Int)(p:Option Nat)(i:Int)(cA:Option Addr)(cn cc:Nat)(hb:Blk w g 261 (Wx 1 nd k fr p))
 (hR:Calls Tryz.prog 189 #[.pointer (some ⟨gs,0,none⟩),.pointer (some ⟨g,0,none⟩),.int .i64 i,.slice cA cn cc] w R) (hv:∀e w',R e w'->∃b:Bool,e=.returned (.bool b)) :
 Calls Tryz.prog 151 #[.pointer (some ⟨gs,0,none⟩),.pointer (some ⟨g,0,none⟩),.int .i64 i,.slice cA cn cc] w R:=by
 have c0:w.cell? ⟨g,0,none⟩=some (.int .i64 1):=hb.cell 0;have HR:=lh hR;have HV:=lh hv;clear hR hv hb;go_enter Tryz.func151,Tryz.ntmps151
 go_wp2_with (go_at_call 189;refine HR.out.mono ?_;rintro e w2 h2;obtain⟨b,rfl⟩:=HV.out _ _ h2)
 exact h2
theorem fW (R:Ending->World->Prop)(w:World)(gs g:Nat)(nd:Nd)(k fr:Int)(p:Option Nat)(i:Int)(cA:Option Addr)(cn cc:Nat)(hb:Blk w g 261 (Wx 0 nd k fr p))
 (hR:Calls Tryz.prog 191 #[.pointer (some ⟨gs,0,none⟩),.pointer (some ⟨g,0,none⟩),.int .i64 i,.slice cA cn cc] w R) (hv:∀e w',R e w'->∃b:Bool,e=.returned (.bool b)) :
 Calls Tryz.prog 151 #[.pointer (some ⟨gs,0,none⟩),.pointer (some ⟨g,0,none⟩),.int .i64 i,.slice cA cn cc] w R:=by
 have c0:w.cell? ⟨g,0,none⟩=some (.int .i64 0):=hb.cell 0;have HR:=lh hR;have HV:=lh hv;clear hR hv hb;go_enter Tryz.func151,Tryz.ntmps151
 go_wp2_with (go_at_call 191;refine HR.out.mono ?_;rintro e w2 h2;obtain⟨b,rfl⟩:=HV.out _ _ h2)
 exact h2
theorem fZ {P:Prop} (h:P:=by
 go_upto_region 11 with(go_quiet (fail))
 have xd:=Ext.drewN w nq;have HB1:=lh (hb.ext xd);have HR1:=lh (fun w' g' (x:Ext (w.drewN nq) w')=>HR.out w' g' (xd.trans x));have hzl:=ZO xd hgl;have hgl1:gs<(w.drewN nq).heap.size:=Nat.lt_of_lt_of_le hgl xd.size;have HXD:=lh xd;clear c0 c1 c2 c3 c4 c5 c6 c7 c8 c9 c10 c11 hb xd HR;generalize w.drewN nq=wa at *;obtain⟨c0,c1,c2,c3,c4,c5,c6,c7,c8,c9,c10,c11⟩:=KQ HB1.out;have k1:=kx0 c1;have k2:=kx0 c2;have k3:=kx0 c3;have k4:=kx0 c4;have k5:=kx0 c5;have k6:=kx0 c6;have k7:=kx0 c7;have k8:=kx0 c8;have k9:=kx0 c9;have k11:=kx0 c11;refine Xs.start (zL wa gs) 18 kr ?_;refine Xst 0 ?_;refine Xst 1 ?_;refine Xst 2 ?_;refine Xst 3 ?_;refine Xst 4 ?_;refine Xst 5 ?_;refine Xst 6 ?_;refine Xst 7 ?_;refine Xst 8 ?_;refine Xst 9 ?_;refine Xst 10 ?_;refine Xst 11 ?_;refine Xst 12 ?_;refine Xst 13 ?_;refine Xst 14 ?_;refine Xst 16 ?_;refine Xst 17 ?_;refine jD 15 fun w4 hE4 hX4 K hKK=>?_;have EN:=Ext.alloc w4 (.cells (Wx 1 nd (k+1) 0 p) 261);have BN:=Blk.new w4 261 (Wx 1 nd (k+1) 0 p);go_simp;refine hKK _ _ EN ?_;clear hKK;refine ptm ?_;refine Xs.stop dK (fun w5 hE5 hX5=>?_);refine Xsp 18 fun w6 hE6 hK6 K hKK=>?_;have x6:=hX5.trans hE6;have b6:=(BN.ext hE5).ext hE6;go_simp;refine(HR1.out w6 _ x6 b6).mono ?_;rintro e w7 h7;obtain⟨b,rfl⟩:=h7.val;refine hKK _ _ (h7.zf.wi (ZO x6 hgl1)) (hK6.trans (h7.zf.kpL (ZO x6 hgl1))) ?_;clear hKK;refine ptm ?_;refine Xtk 19 ?_;refine Xdn fun w8 hE8 hK8=>?_;have HF:=lh (h7.wrap (HXD.out.trans x6) hE8 hgl)
 go_wp2_with fail
 go_ret
 exact HF.out):P:=h
theorem fJ (w0 w:World)(gs:Nat)(tA:Option Addr)(tn tc:Nat)(most:Int)(fuel st ns g:Nat)(nd:Nd)(k fr:Int)(p:Option Nat)(i:Int)(cA:Option Addr)(cn cc:Nat)(hb:Blk w g 261 (Wx 2 nd k fr p))
 (x0:Ext w0 w) (hs:SrM w w0.heap.size gs tA tn tc most fuel st false ns) (hst:st<=fuel) (hk:0<=k/\k<=1000000000)
 (hR:∀w' g',Ext w w'->Blk w' g' 261 (Wx 1 nd (k+1) 0 p)->Calls Tryz.prog 151 #[.pointer (some ⟨gs,0,none⟩),.pointer (some ⟨g',0,none⟩),.int .i64 i,.slice cA cn cc] w' (WF w0 gs tA tn tc most fuel st ns w')) :
 Calls Tryz.prog 151 #[.pointer (some ⟨gs,0,none⟩),.pointer (some ⟨g,0,none⟩),.int .i64 i,.slice cA cn cc] w (WF w0 gs tA tn tc most fuel st ns w):=by
 have hgl:=hs.gs_lt;obtain⟨c0,c1,c2,c3,c4,c5,c6,c7,c8,c9,c10,c11⟩:=KQ hb;have HR:=lh hR;have HS:=lh hs;have HX:=lh x0;have ewk:IntKind.i64.wrap (k+1)=k+1:=wj;clear hR hs x0;by_cases hm:nd.mn<=k
 ·by_cases hi:i=fr
  ·go_enter Tryz.func151,Tryz.ntmps151;have hi2:(i == fr)=true:=by simp[hi]
   go_wp2_with (go_quiet (fail))
   go_ret
   have xd:=Ext.drewN w nq;exact⟨false,st,false,ns,rfl,HS.out.ext xd,HX.out.trans xd,ZF.of_ext xd hgl,om,om,om,.inl ⟨rfl,hst⟩⟩
  ·go_enter Tryz.func151,Tryz.ntmps151;have hi2:(i == fr)=false:=by simp[hi]
   exact fZ
 ·go_enter Tryz.func151,Tryz.ntmps151;exact fZ
theorem fK (w0 w:World)(gs:Nat)(tA:Option Addr)(tn tc:Nat)(most:Int)(fuel st ns g:Nat)(nd:Nd)(k fr:Int)(p:Option Nat)(i:Int)(cA:Option Addr)(cc:Nat)(cl:List Sp)(hb:Blk w g 261 (Wx 3 nd k fr p))
 (x0:Ext w0 w) (hs:SrM w w0.heap.size gs tA tn tc most fuel st false ns) (hc:KY w cA cc cl) (hcl:cl.length<=1000) (hn:I64 nd.n) (hf:I64 fr) (hi:I64 i)
 (hR:∀w' cA' cc' cl',Ext w w'->KY w' cA' cc' cl'->cl'.length=cl.length->Calls Tryz.prog 151 #[.pointer (some ⟨gs,0,none⟩),.pointer (p.map (fun g=>⟨g,0,none⟩)),.int .i64 i,.slice cA' cl'.length cc'] w' (WF w0 gs tA tn tc most fuel st ns w')) :
 Calls Tryz.prog 151 #[.pointer (some ⟨gs,0,none⟩),.pointer (some ⟨g,0,none⟩),.int .i64 i,.slice cA cl.length cc] w (WF w0 gs tA tn tc most fuel st ns w):=by
 have hgl:=hs.gs_lt;obtain⟨c0,c1,c2,c3,c4,c5,c6,c7,c8,c9,c10,c11⟩:=KQ hb;have HR:=lh hR;have HI:=lh (⟨hn,hf,hi⟩:I64 nd.n/\I64 fr/\I64 i);have HC:=lh hc;have k7:=kx0 c7;have k10:=kx0 c10;have k11:=kx0 c11;clear hR hs x0 hc hn hf hi hb;go_enter Tryz.func151,Tryz.ntmps151
 go_upto_region 13 with fail
 refine Xs.start (zL w gs) 18 kr ?_;refine Xst 0 ?_;refine Xst 1 ?_;refine Xst 2 ?_;refine Xst 3 ?_;refine Xst 4 ?_;refine Xst 5 ?_;refine Xst 6 ?_;refine Xst 7 ?_;refine Xst 8 ?_;refine Xst 9 ?_;refine Xst 10 ?_;refine Xst 11 ?_;refine Xst 12 ?_;refine Xst 13 ?_;refine Xst 14 ?_;refine Xst 15 ?_;refine Xst 16 ?_;refine jD 17 fun w4 hE4 hX4 K hKK=>?_;go_simp;refine(O6 w4 cA cc cl nd.n fr i (HC.out.ext hX4) hcl HI.out.1 HI.out.2.1 HI.out.2.2).mono ?_;rintro e w5 ⟨cA5,cc5,cl5,rfl,hl5,hc5,x5⟩;refine hKK _ _ x5 ?_;clear hKK;refine ptm ?_;refine Xs.stop dK (fun w5 hE5 hX5=>?_);refine Xsp 18 fun w6 hE6 hK6 K hKK=>?_;have x6:=hX5.trans hE6;have b6:=(hc5.ext hE5).ext hE6;go_simp;have HRR:=HR.out w6 _ _ _ x6 b6 hl5;rw[hl5] at HRR;refine HRR.mono ?_;rintro e w7 h7;obtain⟨b,rfl⟩:=h7.val;refine hKK _ _ (h7.zf.wi (ZO x6 hgl)) (hK6.trans (h7.zf.kpL (ZO x6 hgl))) ?_;clear hKK;refine ptm ?_;refine Xtk 19 ?_;refine Xdn fun w8 hE8 hK8=>?_;have HF:=lh (h7.wrap x6 hE8 hgl)
 go_wp2_with fail
 go_ret
 exact HF.out
def Av (bd:Nat)(w0:World)(gs:Nat)(tA:Option Addr)(tn tc:Nat)(most:Int)(fuel st:Nat):Prop:=
 ∀(w:World) (p:Option Nat) (n:Nat) (i:Nat) (cA:Option Addr) (cc:Nat) (cl:List Sp) (ns:Nat),Ext w0 w->SrM w w0.heap.size gs tA tn tc most fuel st false ns->Wv bd w0 w st n p->i<=tn->KY w cA cc cl->cl.length<=1000->ns<=3*st->
  Calls Tryz.prog 151 #[.pointer (some ⟨gs,0,none⟩),.pointer (p.map (fun g=>⟨g,0,none⟩)),.int .i64 i,.slice cA cl.length cc] w (WF w0 gs tA tn tc most fuel st ns w)
theorem WF.after {w0 w w1 w':World}{gs tn tc st st1 ns ns1 fuel:Nat}{tA:Option Addr}{most:Int}{e:Ending}(h:WF w0 gs tA tn tc most fuel st1 ns1 w1 e w')(z:ZF gs w w1)(h1:st<=st1)(h2:ns<=ns1/\ns1<=ns+3*(st1-st)):WF w0 gs tA tn tc most fuel st ns w e w':=by
 obtain⟨b,st',em,ns',rfl,k1,k2,k3,k4,k5,k6,k7⟩:=h;exact⟨b,st',em,ns',rfl,k1,k2,z.trans k3,om,om,om,k7⟩
theorem WF.ext {w0 w w' w2:World}{gs tn tc st ns fuel:Nat}{tA:Option Addr}{most:Int}{e:Ending}(h:WF w0 gs tA tn tc most fuel st ns w e w')(x:Ext w' w2):WF w0 gs tA tn tc most fuel st ns w e w2:=by
 have hg:gs<w.heap.size\/True:=.inr trivial;obtain⟨b,st',em,ns',rfl,k1,k2,k3,k4,k5,k6,k7⟩:=h;refine⟨b,st',em,ns',rfl,k1.ext x,k2.trans x,?_,k4,k5,k6,k7⟩;exact⟨k3.kp.ext x,fun y hy=>by rw[ZO x k1.gs_lt] at hy;exact k3.old y hy⟩
def U2 (w0:World)(gs:Nat)(tA:Option Addr)(tn tc:Nat)(most:Int)(fuel st ns:Nat)(w w':World):Prop:=
 ∃(st' ns':Nat),SrM w' w0.heap.size gs tA tn tc most fuel st' false ns'/\Ext w0 w'/\ZF gs w w'/\st<=st'/\ns<=ns'/\ns'<=ns+3*(st'-st)+1/\st'<=fuel
theorem WF.no {w0 w w':World}{gs tn tc st ns fuel:Nat}{tA:Option Addr}{most:Int}(h:WF w0 gs tA tn tc most fuel st ns w (.returned (.bool false)) w'):U2 w0 gs tA tn tc most fuel st ns w w':=by
 obtain⟨b,st',em,ns',hb,k1,k2,k3,k4,k5,k6,k7⟩:=h;injection hb with hb;injection hb with hb
 subst hb;rcases k7 with⟨rfl,k7⟩|⟨_,h,_⟩
 ·exact⟨st',ns',k1,k2,k3,k4,k5,k6,k7⟩
 ·cases h
theorem WF.noI {w0 w w':World}{gs tn tc st ns fuel:Nat}{tA:Option Addr}{most:Int}{b:Bool}(h:WF w0 gs tA tn tc most fuel st ns w (.returned (.bool b)) w')(hb:b=false):U2 w0 gs tA tn tc most fuel st ns w w':=by
 subst hb;exact h.no
structure yV (bd:Nat)(w0:World)(d:Nat)(nd:Nd):Prop where
 ok:MK bd nd
 sl:SL w0 nd.A nd.c nd.l
 kl:nd.ks.length<=nd.kc/\nd.kc<=maxLen
 cl:QP w0 nd.K (nd.ks.flatMap Q8)
 ks:∀u∈nd.ks,Qx bd (fun _=>True) w0 d u
theorem yV.tree {bd:Nat}{w0:World}{d:Nat}{nd:Nd}(h:yV bd w0 d nd):Qx bd (fun _=>True) w0 (d+1) nd.val:=
 .mk nd h.ok h.sl h.kl.1 h.kl.2 h.cl h.ks (fun _ _ _=>trivial) (fun _ _ _=>trivial)
theorem Qx.nd {bd:Nat}{w0:World}{d:Nat}{v:Value}(h:Qx bd (fun _=>True) w0 (d+1) v):∃nd,v=nd.val/\yV bd w0 d nd:=by
 obtain⟨nd,e,h1,h2,h3,h4,h5,h6⟩:=h.node;exact⟨nd,e,h1,h2,⟨h3,h4⟩,h5,h6⟩
theorem PX {m n:Nd}(e:m.val=n.val)(kind k fr:Int)(p:Option Nat):Wx kind m k fr p=Wx kind n k fr p:=by
 obtain⟨h1,h2,h3,h4,h5,h6,h7,h8,h9,h10,h11,h12⟩:=Nd.val_inj e;simp[Wx,h1,h2,h3,h4,h5,h6,h7,h8,h9,h10,h11,h12]
theorem Wv.first {bd n g:Nat}{w0 w:World}{kb:Int}(h:Wv bd w0 w kb n (some g)):∃(kind k fr:Int) (nd:Nd) (d m:Nat) (p:Option Nat),n=m+1/\Blk w g 261 (Wx kind nd k fr p)/\yV bd w0 d nd/\
 (kind=0\/(kind=1/\nd.op=4/\0<=k/\k<=kb)\/(kind=2/\nd.op=4/\0<=k/\k+1<=kb)\/kind=3)/\I64 fr/\Wv bd w0 w kb m p:=by
 cases h with
 | mk g kind k fr nd d h1 h2 h3 h4 h5=>
  obtain⟨e,rfl⟩:=h2.pos;obtain⟨nn,hv,hn⟩:=h2.nd;have hop:=(Nd.val_inj hv).1;rw[PX hv] at h1;rw[hop] at h3;exact⟨kind,k,fr,nn,_,_,_,rfl,h1,hn,h3,h4,h5⟩
theorem fV {P:Prop} (h:P:=by
 go_wp2_with (go_at_call 151;refine HRN.out.mono ?_;rintro e w9 h9;obtain⟨b9,rfl⟩:=h9.val;have HN9:=lh (WF.noI h9);have cn11:w9.cell? ⟨g,11,none⟩=some (.pointer (p.map (fun g=>⟨g,0,none⟩))):=(HBK.out w9 h9.zf).cell 11;have H9:=lh (WF.after (st:=st) (ns:=ns) h9 HZ8.out om ⟨Nat.le_refl _,om⟩);clear h9;cases b9)
 all_goals
  go_ret
  first|exact H10.out|exact H9.out):P:=h
theorem yX (bd:Nat)(w0:World)(gs:Nat)(tA:Option Addr)(tn tc:Nat)(most:Int)(fuel st:Nat)(hf:fuel<=100000000)(htn:tn<=100000000)(hbd:bd<=1000)(HRUN:∀st',st<st'->st'<=fuel->Av bd w0 gs tA tn tc most fuel st')
 (w:World) (g:Nat) (nd:Nd) (d:Nat) (k fr:Int) (p:Option Nat) (n i:Nat) (cA:Option Addr) (cc:Nat) (cl:List Sp) (ns:Nat) (hb:Blk w g 261 (Wx 1 nd k fr p)) (ht:yV bd w0 d nd) (hop:nd.op=4)
 (hk:0<=k/\k<=st) (hp:Wv bd w0 w st n p) (x0:Ext w0 w) (hs:SrM w w0.heap.size gs tA tn tc most fuel st false ns) (hst:st<=fuel) (hi:i<=tn) (hc:KY w cA cc cl) (hcl:cl.length<=1000) (hns:ns<=3*st) :
 Calls Tryz.prog 189 #[.pointer (some ⟨gs,0,none⟩),.pointer (some ⟨g,0,none⟩),.int .i64 i,.slice cA cl.length cc] w (WF w0 gs tA tn tc most fuel st ns w):=by
 have hone:=ht.ok.one (.inl hop);have hmd:=ht.ok.md;have hmn:=ht.ok.mn;have hmx:=ht.ok.mx;have hkl:=ht.kl;have HT:=lh ht;have HR:=lh HRUN;have HP:=lh hp;have HC:=lh hc;have HS:=lh hs;have HX:=lh x0;obtain⟨c0,c1,c2,c3,c4,c5,c6,c7,c8,c9,c10,c11⟩:=KQ hb;have HB:=lh hb;have hgl:=hs.gs_lt;have EN:=Ext.alloc w (.cells nd.cs.toArray 26);have BN:=Blk.new w 26 nd.cs.toArray;have hm2:(nd.md == 2)=false:=by simp;omega
 have HOP:=lh hop;clear ht HRUN hp hc hs x0 hb hop;go_enter Tryz.func189,Tryz.ntmps189
 go_upto_region 2 with fail
 change Code.wp _ _ _ _ (w.alloc (.cells nd.cs.toArray 26));obtain⟨g9,hg9⟩:∃g,g=w.heap.size:=⟨_,rfl⟩
 rw[<-hg9] at BN ⊢;clear hg9;generalize w.alloc (.cells nd.cs.toArray 26)=wa at *;have HBa:=lh (HB.out.ext EN);have HB9:=lh BN;have HEN:=lh EN;have HSa:=lh (HS.out.ext EN);have hgla:gs<wa.heap.size:=Nat.lt_of_lt_of_le hgl EN.size;obtain⟨y0,y1,y2,y3,y4,y5,y6,y7⟩:=Wk BN;clear c0 c1 c2 c3 c4 c5 c6 c7 c8 c9 c10 c11 BN EN
 go_upto_region 9 with(go_at_call 211;refine(Dj w0 wa gs tA tn tc most fuel st ns HSa.out (HX.out.trans HEN.out) hst om).mono ?_;rintro e w3 ⟨rfl,hs3,x3,z3⟩;have HS3:=lh hs3;have HX3:=lh x3;have HZ3:=lh z3;clear hs3 x3 z3;by_cases hlt:st+1<=fuel)
 ·have HB3:=lh (HZ3.out.blk HSa.out HBa.out de);have HB93:=lh (HZ3.out.blk HSa.out HB9.out de);have HS31:Hid (SrM w3 w0.heap.size gs tA tn tc most fuel (st+1) false ns):=lh (by have h:=HS3.out;simpa[hlt] using h);have HC3:=lh ((HC.out.ext HEN.out).zf HSa.out HZ3.out);have HP3:=lh (((HP.out.ext HEN.out).zf HSa.out HZ3.out).mono (kb':=((st+1:Nat):Int)) om);have HZW:=lh ((ZF.of_ext HEN.out hgl).trans HZ3.out);have hgl3:=HS31.out.gs_lt;clear y0 y1 y2 y3 y4 y5 y6 y7;obtain⟨c0,c1,c2,c3,c4,c5,c6,c7,c8,c9,c10,c11⟩:=KQ HB3.out;obtain⟨y0,y1,y2,y3,y4,y5,y6,y7⟩:=Wk HB93.out;obtain⟨b,o,hK,n0,ht0,k0,k1,k2,k3,k4,k5,k6,k7⟩:=VL HX3.out HT.out.cl HT.out.ks (i:=0) om;simp only[Nat.zero_mul,Nat.add_zero] at k0 k1 k2 k3 k4 k5 k6 k7;have HT0:=lh ht0;have HK:=lh hK;clear hK;have hkl0:0<nd.ks.length:=om;clear HS3 HS HSa HB9 HBa ht0
  go_cut [13] from 51 to 62 (fun v wx=>∃b:Bool,v=.bool b/\Ext w3 wx)
  case first=>
   by_cases hx:nd.mx = -1
   ·have hx1:(nd.mx == -1)=true:=by simp[hx]
    go_wp2_with (go_quiet (fail))
    go_meet
    exact⟨_,rfl,Ext.drewN _ _⟩
   ·have hx1:(nd.mx == -1)=false:=by simp[hx]
    go_wp2_with (go_quiet (fail))
    go_meet
    exact⟨_,rfl,Ext.drewN _ _⟩
  case rest=>
   obtain⟨more,rfl,x4⟩:=hcut;have q9:=fun(w':World) (h:Kp [] wc w')=>h.cell (x4.cell c9) si;have q11:=fun(w':World) (h:Kp [] wc w')=>h.cell (x4.cell c11) si;have p0:=fun(w':World) (h:Kp [] wc w')=>h.cell (x4.cell y0) si;have p1:=fun(w':World) (h:Kp [] wc w')=>h.cell (x4.cell y1) si;have p2:=fun(w':World) (h:Kp [] wc w')=>h.cell (x4.cell y2) si;have p3:=fun(w':World) (h:Kp [] wc w')=>h.cell (x4.cell y3) si;have p4:=fun(w':World) (h:Kp [] wc w')=>h.cell (x4.cell y4) si;have p5:=fun(w':World) (h:Kp [] wc w')=>h.cell (x4.cell y5) si;have p6:=fun(w':World) (h:Kp [] wc w')=>h.cell (x4.cell y6) si;have p7:=fun(w':World) (h:Kp [] wc w')=>h.cell (x4.cell y7) si;have e0:=fun(w':World) (h:Kp [] wc w')=>h.cell (x4.cell k0) si;have e1:=fun(w':World) (h:Kp [] wc w')=>h.cell (x4.cell k1) si;have e2:=fun(w':World) (h:Kp [] wc w')=>h.cell (x4.cell k2) si;have e3:=fun(w':World) (h:Kp [] wc w')=>h.cell (x4.cell k3) si;have e4:=fun(w':World) (h:Kp [] wc w')=>h.cell (x4.cell k4) si;have e5:=fun(w':World) (h:Kp [] wc w')=>h.cell (x4.cell k5) si;have e6:=fun(w':World) (h:Kp [] wc w')=>h.cell (x4.cell k6) si;have e7:=fun(w':World) (h:Kp [] wc w')=>h.cell (x4.cell k7) si;rw[HK.out] at p2;clear c0 c1 c2 c3 c4 c5 c6 c7 c8 c9 c10 c11 y0 y1 y2 y3 y4 y5 y6 y7 k0 k1 k2 k3 k4 k5 k6 k7
   go_upto_region 11 with fail
   refine Xr.start [] kr ?_;refine Xtk 0 ?_
   iterate 14(refine Xtn ?_)
   refine Xcl 15 fun w5 hE5 hK5 K hKK=>?_;have EG:Hid (Wx 2 nd k i p=#[.int .i64 2,.int .i64 nd.op,.slice nd.A nd.l.length nd.c,.slice (some ⟨b,o,none⟩) nd.ks.length nd.kc,.int .i64 nd.mn,.int .i64 nd.mx,.int .i64 nd.md,.int .i64 nd.n,.bool nd.neg,.int .i64 k,.int .i64 (i:Int),SH p]):=lh (by simp[Wx,HK.out]);have E5:=Ext.alloc w5 (.cells (Wx 2 nd k i p) 261);have B5:=Blk.new w5 261 (Wx 2 nd k i p);rw[EG.out] at E5 B5;go_simp;refine hKK _ _ E5 ?_;clear hKK;refine ptm ?_;refine Xtk 16 ?_;refine Xcl 17 fun w6 hE6 hK6 K hKK=>?_;have E6:=Ext.alloc w6 (.cells (Wx 0 n0 0 0 (some w5.heap.size)) 261);have B6:=Blk.new w6 261 (Wx 0 n0 0 0 (some w5.heap.size));go_simp;refine hKK _ _ E6 ?_;clear hKK;refine ptm ?_;refine Xtk 18 ?_;refine Xdn fun w7 hE7 hK7=>?_;have HX37:=lh (x4.trans (hE5.trans (E5.trans (hE6.trans (E6.trans hE7)))));have Bi:=B5.ext (hE6.trans (E6.trans hE7));have Bo:=B6.ext hE7
   rw[<-EG.out] at Bi;clear hK5 hK6 hK7 hE5 E5 hE6 E6 hE7 B5 B6 x4;generalize w6.heap.size=gO at *;generalize w5.heap.size=gi at *;have HON:Hid (Wv bd w0 w7 ((st+1:Nat):Int) (n+1+1) (some gO)):=lh (Wv.mk gO 0 0 0 n0 d Bo HT0.out (.inl rfl) (by simp[I64]) (.mk gi 2 k i nd (d+1) Bi HT.out.tree (.inr (.inr (.inl ⟨rfl,HOP.out,hk.1,om⟩))) (by unfold I64;omega) (HP3.out.ext HX37.out)));have HB7:=lh (HB3.out.ext HX37.out);have HB97:=lh (HB93.out.ext HX37.out);have HS7:=lh (HS31.out.ext HX37.out);have HX7:=lh (HX3.out.trans HX37.out);have HC7:=lh (HC3.out.ext HX37.out);have HP7:=lh (HP3.out.ext HX37.out);have HZ7:=lh (HZW.out.ext HX37.out hgl);clear q9 q11 p0 p1 p2 p3 p4 p5 p6 p7 e0 e1 e2 e3 e4 e5 e6 e7 Bi Bo HB3 HB93 HS31 HC3 HP3 HX3 HZW HX37 hgl3 HZ3;clear w5 w6;obtain⟨c0,c1,c2,c3,c4,c5,c6,c7,c8,c9,c10,c11⟩:=KQ HB7.out;obtain⟨y0,y1,y2,y3,y4,y5,y6,y7⟩:=Wk HB97.out;by_cases hmin:k<nd.mn
   ·go_upto_region 13 with(go_quiet (fail))
    have xd:=Ext.drewN w7 nq;have HZ8:=lh (HZ7.out.ext xd hgl);have HR8:=lh (HR.out (st+1) om hlt (w7.drewN nq) (some gO) (n+1+1) i cA cc cl ns (HX7.out.trans xd) (HS7.out.ext xd) (HON.out.ext xd) hi (HC7.out.ext xd) hcl om);clear c0 c1 c2 c3 c4 c5 c6 c7 c8 c9 c10 c11 y0 y1 y2 y3 y4 y5 y6 y7 xd;generalize w7.drewN nq=w8 at *
    go_wp2_with (go_at_call 151;refine HR8.out.mono ?_;rintro e w9 h9;obtain⟨b9,rfl⟩:=h9.val)
    go_ret
    exact h9.after HZ8.out om ⟨Nat.le_refl _,om⟩
   ·go_upto_region 14 with(go_quiet (fail))
    have xd:=Ext.drewN w7 nq;have HZ8:=lh (HZ7.out.ext xd hgl);have HS8:=lh (HS7.out.ext xd);have HX8:=lh (HX7.out.trans xd);have HC8:=lh (HC7.out.ext xd);have HO8:=lh (HON.out.ext xd);have HP8:=lh (HP7.out.ext xd);have HB8:=lh (HB7.out.ext xd);have u5:=xd.cell y5;have u11:=xd.cell c11;clear c0 c1 c2 c3 c4 c5 c6 c7 c8 c9 c10 c11 y0 y1 y2 y3 y4 y5 y6 y7 xd HS7 HX7 HC7 HON HP7 HB7 HB97 HZ7;generalize w7.drewN nq=w8 at *;have HBK:Hid (∀w',ZF gs w8 w'->Blk w' g 261 (Wx 1 nd k fr p)):=lh (fun w' z=>z.blk HS8.out HB8.out de);have HRO:=lh (HR.out (st+1) om hlt w8 (some gO) (n+1+1) i cA cc cl ns HX8.out HS8.out HO8.out hi HC8.out hcl om);have HRN:=lh (HR.out (st+1) om hlt w8 p n i cA cc cl ns HX8.out HS8.out HP8.out hi HC8.out hcl om);by_cases hmd1:nd.md=1
    ·have hmd2:(nd.md == 1)=true:=by simp[hmd1]
     cases more
     ·exact fV
     ·go_wp2_with (first|(have hq:=HN9;go_at_call 151;obtain⟨st9,ns9,s9,x9,z9,a1,a2,a3,a4⟩:=HN9.out si;refine(HR.out st9 om a4 w9 (some gO) (n+1+1) i cA cc cl ns9 x9 s9 (((HO8.out.zf HS8.out z9)).mono om) hi (HC8.out.zf HS8.out z9) hcl om).mono ?_;rintro e w10 h10;obtain⟨b10,rfl⟩:=h10.val;have H10:=lh (WF.after (st:=st) (ns:=ns) h10 (HZ8.out.trans z9) om ⟨om,om⟩);clear h10)|(go_at_call 151;refine HRN.out.mono ?_;rintro e w9 h9;obtain⟨b9,rfl⟩:=h9.val;have HN9:=lh (WF.noI h9);have cn11:w9.cell? ⟨g,11,none⟩=some (.pointer (p.map (fun g=>⟨g,0,none⟩))):=(HBK.out w9 h9.zf).cell 11;have H9:=lh (WF.after (st:=st) (ns:=ns) h9 HZ8.out om ⟨Nat.le_refl _,om⟩);clear h9;cases b9))
      all_goals
       go_ret
       first|exact H10.out|exact H9.out
    ·have hmd2:(nd.md == 1)=false:=by simp[hmd1]
     cases more
     ·exact fV
     ·go_wp2_with (first|(have hq:=HN9;go_at_call 151;obtain⟨st9,ns9,s9,x9,z9,a1,a2,a3,a4⟩:=HN9.out si;refine(HR.out st9 om a4 w9 p n i cA cc cl ns9 x9 s9 (((HP8.out.zf HS8.out z9)).mono om) hi (HC8.out.zf HS8.out z9) hcl om).mono ?_;rintro e w10 h10;obtain⟨b10,rfl⟩:=h10.val;have H10:=lh (WF.after (st:=st) (ns:=ns) h10 (HZ8.out.trans z9) om ⟨om,om⟩);clear h10)|(go_at_call 151;refine HRO.out.mono ?_;rintro e w9 h9;obtain⟨b9,rfl⟩:=h9.val;have HN9:=lh (WF.noI h9);have cn11:w9.cell? ⟨g,11,none⟩=some (.pointer (p.map (fun g=>⟨g,0,none⟩))):=(HBK.out w9 h9.zf).cell 11;have H9:=lh (WF.after (st:=st) (ns:=ns) h9 HZ8.out om ⟨Nat.le_refl _,om⟩);clear h9;cases b9))
      all_goals
       go_ret
       first|exact H10.out|exact H9.out
 ·go_wp2_with fail
  go_ret
  exact⟨true,st+1,true,ns,rfl,by have h:=HS3.out;simpa[hlt] using h,HX3.out,(ZF.of_ext HEN.out hgl).trans HZ3.out,om,om,om,.inr ⟨rfl,rfl,om⟩⟩
end
