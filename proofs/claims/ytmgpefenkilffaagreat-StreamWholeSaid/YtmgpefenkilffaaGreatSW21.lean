/- Texts of this proof: K10 C6 C7 Z5. -/
import Derived.Test.YtmgpefenkilffaaGreatSW18
set_option linter.all false
set_option maxRecDepth 100000
set_option maxHeartbeats 16000000
namespace Go.Proofs.YtmgpefenkilffaaGreat
section
open Go.RowKit
attribute [local go_sem ↓] Go.wp_at_zero Go.wp_at_succ
theorem progE_badH {runes:Bool}{caps:Int}{hs:List Hin}(h:¬8192<hs.length)(h2:¬(hs.length=0\/caps<0\/9<caps)){k:Nat}(hk:k<hs.length)(h3:¬InsOk runes caps hs.length hs[k].ins):progE runes caps (insL hs)=1:=by
 have hil:=insL_len hs;refine progE_bad (k:=k) om om om ?_;simp only[insL_getElem,insL_len];exact h3
theorem progE_endH {runes:Bool}{caps:Int}{hs:List Hin}(h:¬8192<hs.length)(h2:¬(hs.length=0\/caps<0\/9<caps))(h3:∀k (hk:k<hs.length),InsOk runes caps hs.length hs[k].ins)(hl:hs.length-1<hs.length) :
 progE runes caps (insL hs)=if hs[hs.length-1].op=0\/hs[hs.length-1].op=2\/hs[hs.length-1].op=3 then 0 else 1:=by
 have hil:=insL_len hs;have h1:=progE_end (runes:=runes) (caps:=caps) (G:=insL hs) om om (fun k hk=>by
  simp only[insL_getElem,insL_len];exact h3 k om) om
 rw[h1];simp only[insL_getElem,insL_len,Hin.ins]
def setIn (w:World)(g:Nat)(h:Hin):World:=
 (((((w.setCell ⟨g,0,none⟩ (.int .i64 h.op)).setCell ⟨g,1,none⟩ (.int .i64 h.x)).setCell ⟨g,2,none⟩ (.int .i64 h.y)).setCell ⟨g,3,none⟩ (.int .i64 h.n)).setCell ⟨g,4,none⟩ (.slice h.A h.l.length h.c))
def Hin.cs (h:Hin):Array Value:=#[.int .i64 h.op,.int .i64 h.x,.int .i64 h.y,.int .i64 h.n,.slice h.A h.l.length h.c]
theorem setIn_blk {w:World}{g T:Nat}{a0 a1 a2 a3 a4:Value}(h:Blk w g T #[a0,a1,a2,a3,a4])(n:Hin):Blk (setIn w g n) g T n.cs:=by
 have h:=(((((h.set 0 (.int .i64 n.op)).set 1 (.int .i64 n.x)).set 2 (.int .i64 n.y)).set 3 (.int .i64 n.n)).set 4 (.slice n.A n.l.length n.c))
 simpa[setIn,Hin.cs] using h
theorem setIn_ext {a w:World}{g:Nat}(h:Ext a w)(hg:a.heap.size<=g)(n:Hin):Ext a (setIn w g n):=
 (((((h.setNew (p:=⟨g,0,none⟩) hg _).setNew (p:=⟨g,1,none⟩) hg _).setNew (p:=⟨g,2,none⟩) hg _).setNew (p:=⟨g,3,none⟩) hg _).setNew (p:=⟨g,4,none⟩) hg _)
theorem in_cells {w:World}{g T:Nat}{n:Hin}(h:Blk w g T n.cs):w.cell? ⟨g,0,none⟩=some (.int .i64 n.op)/\w.cell? ⟨g,1,none⟩=some (.int .i64 n.x)/\w.cell? ⟨g,2,none⟩=some (.int .i64 n.y)/\w.cell? ⟨g,3,none⟩=some (.int .i64 n.n)/\w.cell? ⟨g,4,none⟩=some (.slice n.A n.l.length n.c):=
 ⟨h.cell 0,h.cell 1,h.cell 2,h.cell 3,h.cell 4⟩
theorem in_frz {w:World}{g T:Nat}{cs:Array Value}(h:Blk w g T cs):w.frozen? ⟨g,0,none⟩=false/\w.frozen? ⟨g,1,none⟩=false/\w.frozen? ⟨g,2,none⟩=false/\w.frozen? ⟨g,3,none⟩=false/\w.frozen? ⟨g,4,none⟩=false:=
 ⟨h.frz 0,h.frz 1,h.frz 2,h.frz 3,h.frz 4⟩
def lenB (bd:Nat):Nat->Nat
 | 0=>1
 | d+1=>lenB bd d*bd
theorem lenB_pos {bd:Nat}(h:3<=bd):∀d,1<=lenB bd d/\(d≠0->3<=lenB bd d)
 | 0=>⟨by simp[lenB],by simp⟩
 | d+1=>by
  have ih:=(lenB_pos h d).1;have:1*bd<=lenB bd d*bd:=Nat.mul_le_mul_right _ ih;simp only[lenB];omega
def RunOk (bd:Nat)(w0:World)(gs:Nat)(tA:Option Addr)(tn tc:Nat)(most:Int)(fuel st:Nat):Prop:=
 ∀(w:World) (p:Option Nat) (n:Nat) (i:Nat) (cA:Option Addr) (cc:Nat) (cl:List Sp) (ns:Nat),Ext w0 w->SrM w w0.heap.size gs tA tn tc most fuel st false ns->GoalAt bd w0 w st n p->i<=tn->CapAt w cA cc cl->cl.length<=1000->ns<=3*st->
  Calls Tryz.prog 216 #[.pointer (some ⟨gs,0,none⟩),.pointer (p.map (fun g=>⟨g,0,none⟩)),.int .i64 i,.slice cA cl.length cc] w (RetF w0 gs tA tn tc most fuel st ns w)
theorem RetF.after {w0 w w1 w':World}{gs tn tc st st1 ns ns1 fuel:Nat}{tA:Option Addr}{most:Int}{e:Ending}(h:RetF w0 gs tA tn tc most fuel st1 ns1 w1 e w')(z:ZF gs w w1)(h1:st<=st1)(h2:ns<=ns1/\ns1<=ns+3*(st1-st)):RetF w0 gs tA tn tc most fuel st ns w e w':=by
 obtain⟨b,st',em,ns',rfl,k1,k2,k3,k4,k5,k6,k7⟩:=h;exact⟨b,st',em,ns',rfl,k1,k2,z.trans k3,om,om,om,k7⟩
theorem RetF.ext {w0 w w' w2:World}{gs tn tc st ns fuel:Nat}{tA:Option Addr}{most:Int}{e:Ending}(h:RetF w0 gs tA tn tc most fuel st ns w e w')(x:Ext w' w2):RetF w0 gs tA tn tc most fuel st ns w e w2:=by
 have hg:gs<w.heap.size\/True:=.inr trivial;obtain⟨b,st',em,ns',rfl,k1,k2,k3,k4,k5,k6,k7⟩:=h;refine⟨b,st',em,ns',rfl,k1.ext x,k2.trans x,?_,k4,k5,k6,k7⟩;exact⟨k3.kp.ext x,fun y hy=>by rw[zL_ext x k1.gs_lt] at hy;exact k3.old y hy⟩
def RetNo (w0:World)(gs:Nat)(tA:Option Addr)(tn tc:Nat)(most:Int)(fuel st ns:Nat)(w w':World):Prop:=
 ∃(st' ns':Nat),SrM w' w0.heap.size gs tA tn tc most fuel st' false ns'/\Ext w0 w'/\ZF gs w w'/\st<=st'/\ns<=ns'/\ns'<=ns+3*(st'-st)+1/\st'<=fuel
theorem RetF.no {w0 w w':World}{gs tn tc st ns fuel:Nat}{tA:Option Addr}{most:Int}(h:RetF w0 gs tA tn tc most fuel st ns w (.returned (.bool false)) w'):RetNo w0 gs tA tn tc most fuel st ns w w':=by
 obtain⟨b,st',em,ns',hb,k1,k2,k3,k4,k5,k6,k7⟩:=h;injection hb with hb;injection hb with hb
 subst hb;rcases k7 with⟨rfl,k7⟩|⟨_,h,_⟩
 ·exact⟨st',ns',k1,k2,k3,k4,k5,k6,k7⟩
 ·cases h
theorem RetF.noI {w0 w w':World}{gs tn tc st ns fuel:Nat}{tA:Option Addr}{most:Int}{b:Bool}(h:RetF w0 gs tA tn tc most fuel st ns w (.returned (.bool b)) w')(hb:b=false):RetNo w0 gs tA tn tc most fuel st ns w w':=by
 subst hb;exact h.no
structure NdAt (bd:Nat)(w0:World)(d:Nat)(nd:Nd):Prop where
 ok:NdOk bd nd
 sl:SL w0 nd.A nd.c nd.l
 kl:nd.ks.length<=nd.kc/\nd.kc<=maxLen
 cl:CellsAt w0 nd.K (nd.ks.flatMap cellsOf)
 ks:∀u∈nd.ks,TreeAt bd (fun _=>True) w0 d u
theorem NdAt.tree {bd:Nat}{w0:World}{d:Nat}{nd:Nd}(h:NdAt bd w0 d nd):TreeAt bd (fun _=>True) w0 (d+1) nd.val:=
 .mk nd h.ok h.sl h.kl.1 h.kl.2 h.cl h.ks (fun _ _ _=>trivial) (fun _ _ _=>trivial)
theorem TreeAt.nd {bd:Nat}{w0:World}{d:Nat}{v:Value}(h:TreeAt bd (fun _=>True) w0 (d+1) v):∃nd,v=nd.val/\NdAt bd w0 d nd:=by
 obtain⟨nd,e,h1,h2,h3,h4,h5,h6⟩:=h.node;exact⟨nd,e,h1,h2,⟨h3,h4⟩,h5,h6⟩
theorem goalC_val {m n:Nd}(e:m.val=n.val)(kind k fr:Int)(p:Option Nat):goalC kind m k fr p=goalC kind n k fr p:=by
 obtain⟨h1,h2,h3,h4,h5,h6,h7,h8,h9,h10,h11,h12⟩:=Nd.val_inj e;simp[goalC,h1,h2,h3,h4,h5,h6,h7,h8,h9,h10,h11,h12]
theorem GoalAt.first {bd n g:Nat}{w0 w:World}{kb:Int}(h:GoalAt bd w0 w kb n (some g)):∃(kind k fr:Int) (nd:Nd) (d m:Nat) (p:Option Nat),n=m+1/\Blk w g 345 (goalC kind nd k fr p)/\NdAt bd w0 d nd/\
 (kind=0\/(kind=1/\nd.op=4/\0<=k/\k<=kb)\/(kind=2/\nd.op=4/\0<=k/\k+1<=kb)\/kind=3)/\I64 fr/\GoalAt bd w0 w kb m p:=by
 cases h with
 | mk g kind k fr nd d h1 h2 h3 h4 h5=>
  obtain⟨e,rfl⟩:=h2.pos;obtain⟨nn,hv,hn⟩:=h2.nd;have hop:=(Nd.val_inj hv).1;rw[goalC_val hv] at h1;rw[hop] at h3;exact⟨kind,k,fr,nn,_,_,_,rfl,h1,hn,h3,h4,h5⟩
theorem Z5z1 {P:Prop} (h:P:=by
 go_wp2_with (go_at_call 216;refine HRN.out.mono ?_;rintro e w9 h9;obtain⟨b9,rfl⟩:=h9.val;have HN9:=lh (RetF.noI h9);have cn11:w9.cell? ⟨g,11,none⟩=some (.pointer (p.map (fun g=>⟨g,0,none⟩))):=(HBK.out w9 h9.zf).cell 11;have H9:=lh (RetF.after (st:=st) (ns:=ns) h9 HZ8.out om ⟨Nat.le_refl _,om⟩);clear h9;cases b9)
 all_goals
  go_ret
  first|exact H10.out|exact H9.out):P:=h
theorem zrep_any (bd:Nat)(w0:World)(gs:Nat)(tA:Option Addr)(tn tc:Nat)(most:Int)(fuel st:Nat)(hf:fuel<=100000000)(htn:tn<=100000000)(hbd:bd<=1000)(HRUN:∀st',st<st'->st'<=fuel->RunOk bd w0 gs tA tn tc most fuel st')
 (w:World) (g:Nat) (nd:Nd) (d:Nat) (k fr:Int) (p:Option Nat) (n i:Nat) (cA:Option Addr) (cc:Nat) (cl:List Sp) (ns:Nat) (hb:Blk w g 345 (goalC 1 nd k fr p)) (ht:NdAt bd w0 d nd) (hop:nd.op=4)
 (hk:0<=k/\k<=st) (hp:GoalAt bd w0 w st n p) (x0:Ext w0 w) (hs:SrM w w0.heap.size gs tA tn tc most fuel st false ns) (hst:st<=fuel) (hi:i<=tn) (hc:CapAt w cA cc cl) (hcl:cl.length<=1000) (hns:ns<=3*st) :
 Calls Tryz.prog 278 #[.pointer (some ⟨gs,0,none⟩),.pointer (some ⟨g,0,none⟩),.int .i64 i,.slice cA cl.length cc] w (RetF w0 gs tA tn tc most fuel st ns w):=by
 have hone:=ht.ok.one (.inl hop);have hmd:=ht.ok.md;have hmn:=ht.ok.mn;have hmx:=ht.ok.mx;have hkl:=ht.kl;have HT:=lh ht;have HR:=lh HRUN;have HP:=lh hp;have HC:=lh hc;have HS:=lh hs;have HX:=lh x0;obtain⟨c0,c1,c2,c3,c4,c5,c6,c7,c8,c9,c10,c11⟩:=goal_cells hb;have HB:=lh hb;have hgl:=hs.gs_lt;have EN:=Ext.alloc w (.cells nd.cs.toArray 61);have BN:=Blk.new w 61 nd.cs.toArray;have hm2:(nd.md == 2)=false:=by simp;omega
 have HOP:=lh hop;clear ht HRUN hp hc hs x0 hb hop;go_enter Tryz.func278,Tryz.ntmps278
 go_upto_region 2 with fail
 change Code.wp _ _ _ _ (w.alloc (.cells nd.cs.toArray 61));obtain⟨g9,hg9⟩:∃g,g=w.heap.size:=⟨_,rfl⟩
 rw[<-hg9] at BN ⊢;clear hg9;generalize w.alloc (.cells nd.cs.toArray 61)=wa at *;have HBa:=lh (HB.out.ext EN);have HB9:=lh BN;have HEN:=lh EN;have HSa:=lh (HS.out.ext EN);have hgla:gs<wa.heap.size:=Nat.lt_of_lt_of_le hgl EN.size;obtain⟨y0,y1,y2,y3,y4,y5,y6,y7⟩:=nd_cells BN;clear c0 c1 c2 c3 c4 c5 c6 c7 c8 c9 c10 c11 BN EN
 go_upto_region 9 with(go_at_call 314;refine(zstep_any w0 wa gs tA tn tc most fuel st ns HSa.out (HX.out.trans HEN.out) hst om).mono ?_;rintro e w3 ⟨rfl,hs3,x3,z3⟩;have HS3:=lh hs3;have HX3:=lh x3;have HZ3:=lh z3;clear hs3 x3 z3;by_cases hlt:st+1<=fuel)
 ·have HB3:=lh (HZ3.out.blk HSa.out HBa.out de);have HB93:=lh (HZ3.out.blk HSa.out HB9.out de);have HS31:Hid (SrM w3 w0.heap.size gs tA tn tc most fuel (st+1) false ns):=lh (by have h:=HS3.out;simpa[hlt] using h);have HC3:=lh ((HC.out.ext HEN.out).zf HSa.out HZ3.out);have HP3:=lh (((HP.out.ext HEN.out).zf HSa.out HZ3.out).mono (kb':=((st+1:Nat):Int)) om);have HZW:=lh ((ZF.of_ext HEN.out hgl).trans HZ3.out);have hgl3:=HS31.out.gs_lt;clear y0 y1 y2 y3 y4 y5 y6 y7;obtain⟨c0,c1,c2,c3,c4,c5,c6,c7,c8,c9,c10,c11⟩:=goal_cells HB3.out;obtain⟨y0,y1,y2,y3,y4,y5,y6,y7⟩:=nd_cells HB93.out;obtain⟨b,o,hK,n0,ht0,k0,k1,k2,k3,k4,k5,k6,k7⟩:=kid8x HX3.out HT.out.cl HT.out.ks (i:=0) om;simp only[Nat.zero_mul,Nat.add_zero] at k0 k1 k2 k3 k4 k5 k6 k7;have HT0:=lh ht0;have HK:=lh hK;clear hK;have hkl0:0<nd.ks.length:=om;clear HS3 HS HSa HB9 HBa ht0
  go_cut [13] from 51 to 62 (fun v wx=>∃b:Bool,v=.bool b/\Ext w3 wx)
  case first=>
   by_cases hx:nd.mx = -1
   ·have hx1:(nd.mx == -1)=true:=by simp[hx]
    go_wp2_with (go_quiet (fail))
    go_meet
    exact⟨_,rfl,Ext.drewN _ _⟩
   ·have hx1:(nd.mx == -1)=false:=by simp[hx]
    go_wp2_with (go_quiet (fail))
    go_meet
    exact⟨_,rfl,Ext.drewN _ _⟩
  case rest=>
   obtain⟨more,rfl,x4⟩:=hcut;have q9:=fun(w':World) (h:Kp [] wc w')=>h.cell (x4.cell c9) si;have q11:=fun(w':World) (h:Kp [] wc w')=>h.cell (x4.cell c11) si;have p0:=fun(w':World) (h:Kp [] wc w')=>h.cell (x4.cell y0) si;have p1:=fun(w':World) (h:Kp [] wc w')=>h.cell (x4.cell y1) si;have p2:=fun(w':World) (h:Kp [] wc w')=>h.cell (x4.cell y2) si;have p3:=fun(w':World) (h:Kp [] wc w')=>h.cell (x4.cell y3) si;have p4:=fun(w':World) (h:Kp [] wc w')=>h.cell (x4.cell y4) si;have p5:=fun(w':World) (h:Kp [] wc w')=>h.cell (x4.cell y5) si;have p6:=fun(w':World) (h:Kp [] wc w')=>h.cell (x4.cell y6) si;have p7:=fun(w':World) (h:Kp [] wc w')=>h.cell (x4.cell y7) si;have e0:=fun(w':World) (h:Kp [] wc w')=>h.cell (x4.cell k0) si;have e1:=fun(w':World) (h:Kp [] wc w')=>h.cell (x4.cell k1) si;have e2:=fun(w':World) (h:Kp [] wc w')=>h.cell (x4.cell k2) si;have e3:=fun(w':World) (h:Kp [] wc w')=>h.cell (x4.cell k3) si;have e4:=fun(w':World) (h:Kp [] wc w')=>h.cell (x4.cell k4) si;have e5:=fun(w':World) (h:Kp [] wc w')=>h.cell (x4.cell k5) si;have e6:=fun(w':World) (h:Kp [] wc w')=>h.cell (x4.cell k6) si;have e7:=fun(w':World) (h:Kp [] wc w')=>h.cell (x4.cell k7) si;rw[HK.out] at p2;clear c0 c1 c2 c3 c4 c5 c6 c7 c8 c9 c10 c11 y0 y1 y2 y3 y4 y5 y6 y7 k0 k1 k2 k3 k4 k5 k6 k7
   go_upto_region 11 with fail
   refine Xr.start [] kr ?_;refine Xtk 0 ?_
   iterate 14(refine Xtn ?_)
   refine Xcl 15 fun w5 hE5 hK5 K hKK=>?_;have EG:Hid (goalC 2 nd k i p=#[.int .i64 2,.int .i64 nd.op,.slice nd.A nd.l.length nd.c,.slice (some ⟨b,o,none⟩) nd.ks.length nd.kc,.int .i64 nd.mn,.int .i64 nd.mx,.int .i64 nd.md,.int .i64 nd.n,.bool nd.neg,.int .i64 k,.int .i64 (i:Int),ptrO p]):=lh (by simp[goalC,HK.out]);have E5:=Ext.alloc w5 (.cells (goalC 2 nd k i p) 345);have B5:=Blk.new w5 345 (goalC 2 nd k i p);rw[EG.out] at E5 B5;go_simp;refine hKK _ _ E5 ?_;clear hKK;refine ptm ?_;refine Xtk 16 ?_;refine Xcl 17 fun w6 hE6 hK6 K hKK=>?_;have E6:=Ext.alloc w6 (.cells (goalC 0 n0 0 0 (some w5.heap.size)) 345);have B6:=Blk.new w6 345 (goalC 0 n0 0 0 (some w5.heap.size));go_simp;refine hKK _ _ E6 ?_;clear hKK;refine ptm ?_;refine Xtk 18 ?_;refine Xdn fun w7 hE7 hK7=>?_;have HX37:=lh (x4.trans (hE5.trans (E5.trans (hE6.trans (E6.trans hE7)))));have Bi:=B5.ext (hE6.trans (E6.trans hE7));have Bo:=B6.ext hE7
   rw[<-EG.out] at Bi;clear hK5 hK6 hK7 hE5 E5 hE6 E6 hE7 B5 B6 x4;generalize w6.heap.size=gO at *;generalize w5.heap.size=gi at *;have HON:Hid (GoalAt bd w0 w7 ((st+1:Nat):Int) (n+1+1) (some gO)):=lh (GoalAt.mk gO 0 0 0 n0 d Bo HT0.out (.inl rfl) (by simp[I64]) (.mk gi 2 k i nd (d+1) Bi HT.out.tree (.inr (.inr (.inl ⟨rfl,HOP.out,hk.1,om⟩))) (by unfold I64;omega) (HP3.out.ext HX37.out)));have HB7:=lh (HB3.out.ext HX37.out);have HB97:=lh (HB93.out.ext HX37.out);have HS7:=lh (HS31.out.ext HX37.out);have HX7:=lh (HX3.out.trans HX37.out);have HC7:=lh (HC3.out.ext HX37.out);have HP7:=lh (HP3.out.ext HX37.out);have HZ7:=lh (HZW.out.ext HX37.out hgl);clear q9 q11 p0 p1 p2 p3 p4 p5 p6 p7 e0 e1 e2 e3 e4 e5 e6 e7 Bi Bo HB3 HB93 HS31 HC3 HP3 HX3 HZW HX37 hgl3 HZ3;clear w5 w6;obtain⟨c0,c1,c2,c3,c4,c5,c6,c7,c8,c9,c10,c11⟩:=goal_cells HB7.out;obtain⟨y0,y1,y2,y3,y4,y5,y6,y7⟩:=nd_cells HB97.out;by_cases hmin:k<nd.mn
   ·go_upto_region 13 with(go_quiet (fail))
    have xd:=Ext.drewN w7 nq;have HZ8:=lh (HZ7.out.ext xd hgl);have HR8:=lh (HR.out (st+1) om hlt (w7.drewN nq) (some gO) (n+1+1) i cA cc cl ns (HX7.out.trans xd) (HS7.out.ext xd) (HON.out.ext xd) hi (HC7.out.ext xd) hcl om);clear c0 c1 c2 c3 c4 c5 c6 c7 c8 c9 c10 c11 y0 y1 y2 y3 y4 y5 y6 y7 xd;generalize w7.drewN nq=w8 at *
    go_wp2_with (go_at_call 216;refine HR8.out.mono ?_;rintro e w9 h9;obtain⟨b9,rfl⟩:=h9.val)
    go_ret
    exact h9.after HZ8.out om ⟨Nat.le_refl _,om⟩
   ·go_upto_region 14 with(go_quiet (fail))
    have xd:=Ext.drewN w7 nq;have HZ8:=lh (HZ7.out.ext xd hgl);have HS8:=lh (HS7.out.ext xd);have HX8:=lh (HX7.out.trans xd);have HC8:=lh (HC7.out.ext xd);have HO8:=lh (HON.out.ext xd);have HP8:=lh (HP7.out.ext xd);have HB8:=lh (HB7.out.ext xd);have u5:=xd.cell y5;have u11:=xd.cell c11;clear c0 c1 c2 c3 c4 c5 c6 c7 c8 c9 c10 c11 y0 y1 y2 y3 y4 y5 y6 y7 xd HS7 HX7 HC7 HON HP7 HB7 HB97 HZ7;generalize w7.drewN nq=w8 at *;have HBK:Hid (∀w',ZF gs w8 w'->Blk w' g 345 (goalC 1 nd k fr p)):=lh (fun w' z=>z.blk HS8.out HB8.out de);have HRO:=lh (HR.out (st+1) om hlt w8 (some gO) (n+1+1) i cA cc cl ns HX8.out HS8.out HO8.out hi HC8.out hcl om);have HRN:=lh (HR.out (st+1) om hlt w8 p n i cA cc cl ns HX8.out HS8.out HP8.out hi HC8.out hcl om);by_cases hmd1:nd.md=1
    ·have hmd2:(nd.md == 1)=true:=by simp[hmd1]
     cases more
     ·exact Z5z1
     ·go_wp2_with (first|(have hq:=HN9;go_at_call 216;obtain⟨st9,ns9,s9,x9,z9,a1,a2,a3,a4⟩:=HN9.out si;refine(HR.out st9 om a4 w9 (some gO) (n+1+1) i cA cc cl ns9 x9 s9 (((HO8.out.zf HS8.out z9)).mono om) hi (HC8.out.zf HS8.out z9) hcl om).mono ?_;rintro e w10 h10;obtain⟨b10,rfl⟩:=h10.val;have H10:=lh (RetF.after (st:=st) (ns:=ns) h10 (HZ8.out.trans z9) om ⟨om,om⟩);clear h10)|(go_at_call 216;refine HRN.out.mono ?_;rintro e w9 h9;obtain⟨b9,rfl⟩:=h9.val;have HN9:=lh (RetF.noI h9);have cn11:w9.cell? ⟨g,11,none⟩=some (.pointer (p.map (fun g=>⟨g,0,none⟩))):=(HBK.out w9 h9.zf).cell 11;have H9:=lh (RetF.after (st:=st) (ns:=ns) h9 HZ8.out om ⟨Nat.le_refl _,om⟩);clear h9;cases b9))
      all_goals
       go_ret
       first|exact H10.out|exact H9.out
    ·have hmd2:(nd.md == 1)=false:=by simp[hmd1]
     cases more
     ·exact Z5z1
     ·go_wp2_with (first|(have hq:=HN9;go_at_call 216;obtain⟨st9,ns9,s9,x9,z9,a1,a2,a3,a4⟩:=HN9.out si;refine(HR.out st9 om a4 w9 p n i cA cc cl ns9 x9 s9 (((HP8.out.zf HS8.out z9)).mono om) hi (HC8.out.zf HS8.out z9) hcl om).mono ?_;rintro e w10 h10;obtain⟨b10,rfl⟩:=h10.val;have H10:=lh (RetF.after (st:=st) (ns:=ns) h10 (HZ8.out.trans z9) om ⟨om,om⟩);clear h10)|(go_at_call 216;refine HRO.out.mono ?_;rintro e w9 h9;obtain⟨b9,rfl⟩:=h9.val;have HN9:=lh (RetF.noI h9);have cn11:w9.cell? ⟨g,11,none⟩=some (.pointer (p.map (fun g=>⟨g,0,none⟩))):=(HBK.out w9 h9.zf).cell 11;have H9:=lh (RetF.after (st:=st) (ns:=ns) h9 HZ8.out om ⟨Nat.le_refl _,om⟩);clear h9;cases b9))
      all_goals
       go_ret
       first|exact H10.out|exact H9.out
 ·go_wp2_with fail
  go_ret
  exact⟨true,st+1,true,ns,rfl,by have h:=HS3.out;simpa[hlt] using h,HX3.out,(ZF.of_ext HEN.out hgl).trans HZ3.out,om,om,om,.inr ⟨rfl,rfl,om⟩⟩
end
end Go.Proofs.YtmgpefenkilffaaGreat
