/- Texts of this proof: Z6 Z7. -/
import Derived.Test.YtmgpefenkilffaaGreatSW21
set_option linter.all false
set_option maxRecDepth 100000
set_option maxHeartbeats 16000000
namespace Go.Proofs.YtmgpefenkilffaaGreat
section
open Go.RowKit
attribute [local go_sem ↓] Go.wp_at_zero Go.wp_at_succ
theorem SrM.text {w:World}{base gs tn tc st ns:Nat}{tA:Option Addr}{most fuel:Int}{em:Bool}(h:SrM w base gs tA tn tc most fuel st em ns):w.cell? ⟨gs,0,none⟩=some (.slice tA tn tc):=by
 obtain⟨⟨eA,ec,ends,cA,cc,cps,h1,_⟩,_⟩:=h;exact h1.cell 0
section
variable {P:Program} {ops:Array Oper} {Q:Exit->Act->World->Prop} {w0:World} {s:Nat}
variable {n:Nat} {ls:List Nat} {a:Act} {w:World} {L:List Nat}
theorem Xs.skip (i:Nat)(d:Option Tmp){oi:Oper}(hi:ops[i]? = some oi)(hd:oi.dst=d)
 (hok:okTakeS ops s ls i=true) (hw:Region.wanted oi (yielded ops a.tmps)=false) (h:Xs L s w0 P ops Q n (i::ls) (a.put d undef) w):Xs L s w0 P ops Q (n+1) ls a w:=
 Xs.takeY i d hi hd hok (.inr ⟨hw,rfl⟩) h
end
def ZNdOk (op:Int):Prop:=∀(bd:Nat) (w0:World) (gs:Nat) (tA:Option Addr) (ts:List Int) (tc:Nat) (htx:IL w0 tA tc ts) (most:Int) (fuel st:Nat) (hf:fuel<=100000000) (htn:ts.length<=100000000) (hbd:bd<=1000) (HRUN:∀st',st<st'->st'<=fuel->RunOk bd w0 gs tA ts.length tc most fuel st') (w:World) (g:Nat) (nd:Nd) (d:Nat) (k fr:Int) (p:Option Nat) (n i:Nat) (cA:Option Addr) (cc:Nat) (cl:List Sp) (ns:Nat) (hb:Blk w g 345 (goalC 0 nd k fr p)) (ht:NdAt bd w0 d nd) (hop:nd.op=op) (hp:GoalAt bd w0 w st n p) (x0:Ext w0 w) (hs:SrM w w0.heap.size gs tA ts.length tc most fuel st false ns) (hst:st<=fuel) (hi:i<=ts.length) (hc:CapAt w cA cc cl) (hcl:cl.length<=1000) (hns:ns<=3*st),Calls Tryz.prog 280 #[.pointer (some ⟨gs,0,none⟩),.pointer (some ⟨g,0,none⟩),.int .i64 i,.slice cA cl.length cc] w (RetF w0 gs tA ts.length tc most fuel st ns w)
theorem zpre {P:Prop}(h:P:=by
 have hone:=ht.ok.one;have hfew:=ht.ok.few;have halt:=ht.ok.alt;have hkl:=ht.kl;have HT:=lh ht;have HR:=lh HRUN;have HP:=lh hp;have HC:=lh hc;have HS:=lh hs;have HX:=lh x0;have HTX:=lh htx;have hll:=htx.len;obtain⟨c0,c1,c2,c3,c4,c5,c6,c7,c8,c9,c10,c11⟩:=goal_cells hb;have HB:=lh hb;have hgl:=hs.gs_lt;have EN:=Ext.alloc w (.cells nd.cs.toArray 61);have BN:=Blk.new w 61 nd.cs.toArray;have HOP:=lh hop;have hop4:(nd.op == 4)=false:=by rw[hop];rfl
 clear ht HRUN hp hc hs x0 hb hop htx;go_enter Tryz.func280,Tryz.ntmps280
 go_upto_region 2 with fail
 change Code.wp _ _ _ _ (w.alloc (.cells nd.cs.toArray 61));obtain⟨g9,hg9⟩:∃g,g=w.heap.size:=⟨_,rfl⟩
 rw[<-hg9] at BN ⊢;clear hg9;generalize w.alloc (.cells nd.cs.toArray 61)=wa at *;have HBa:=lh (HB.out.ext EN);have HB9:=lh BN;have HEN:=lh EN;have HSa:=lh (HS.out.ext EN);have hgla:gs<wa.heap.size:=Nat.lt_of_lt_of_le hgl EN.size;obtain⟨y0,y1,y2,y3,y4,y5,y6,y7⟩:=nd_cells BN;clear c0 c1 c2 c3 c4 c5 c6 c7 c8 c9 c10 c11 BN EN
 go_upto_region 6 with(go_at_call 314;refine(zstep_any w0 wa gs tA ts.length tc most fuel st ns HSa.out (HX.out.trans HEN.out) hst om).mono ?_;rintro e w3 ⟨rfl,hs3,x3,z3⟩;have HS3:=lh hs3;have HX3:=lh x3;have HZ3:=lh z3;clear hs3 x3 z3;by_cases hlt:st+1<=fuel)
 ·have HB3:=lh (HZ3.out.blk HSa.out HBa.out de);have HB93:=lh (HZ3.out.blk HSa.out HB9.out de);have HS31:Hid (SrM w3 w0.heap.size gs tA ts.length tc most fuel (st+1) false ns):=lh (by have h:=HS3.out;simpa[hlt] using h);have HC3:=lh ((HC.out.ext HEN.out).zf HSa.out HZ3.out);have HP3:=lh (((HP.out.ext HEN.out).zf HSa.out HZ3.out).mono (kb':=((st+1:Nat):Int)) om);have HZW:=lh ((ZF.of_ext HEN.out hgl).trans HZ3.out);have hgl3:=HS31.out.gs_lt;clear y0 y1 y2 y3 y4 y5 y6 y7;obtain⟨c0,c1,c2,c3,c4,c5,c6,c7,c8,c9,c10,c11⟩:=goal_cells HB3.out;obtain⟨y0,y1,y2,y3,y4,y5,y6,y7⟩:=nd_cells HB93.out;have tx0:=HS31.out.text;rw[HOP.out] at y0;clear HS3 HS HSa HB9 HBa;exact zk
 ·skip
  go_ret
  exact⟨true,st+1,true,ns,rfl,by have h:=HS3.out;simpa[hlt] using h,HX3.out,(ZF.of_ext HEN.out hgl).trans HZ3.out,om,om,om,.inr ⟨rfl,rfl,om⟩⟩):P:=h
theorem Zt0.zk {P:Prop}(h:P:=by
 have HR8:=lh (HR.out (st+1) om hlt w3 p n i cA cc cl ns HX3.out HS31.out HP3.out hi HC3.out hcl om)
 go_wp2_with (go_at_call 216;refine HR8.out.mono ?_;rintro e w9 h9;obtain⟨b9,rfl⟩:=h9.val)
 go_ret
 exact h9.after HZW.out om ⟨Nat.le_refl _,om⟩):P:=h
theorem Z6z1 {P:Prop} (h:P:=by
 intro bd w0 gs tA ts tc htx most fuel st hf htn hbd HRUN w g nd d k fr p n i cA cc cl ns hb ht hop hp x0 hs hst hi hc hcl hns;exact zpre):P:=h
open Zt0 in
theorem znode_0:ZNdOk 0:=by
 exact Z6z1
theorem Z6z2 {P:Prop} (h:P:=by
 refine Xtn ?_;refine Xdn fun w8 hE8 hK8=>?_;have x58:=hX5.trans hE8
 go_wp2_with fail
 go_ret
 exact⟨false,st+1,false,ns,rfl,HS31.out.ext x58,HX3.out.trans x58,HZW.out.ext x58 hgl,om,om,om,.inl ⟨rfl,hlt⟩⟩):P:=h
theorem Zt1.zk {P:Prop}(h:P:=by
 go_upto_region 8 with fail
 by_cases hlt2:i<ts.length
 ·obtain⟨tb,to_,hTA,tcell⟩:=HTX.out.get hlt2;have ht3:=HX3.out.cell tcell;have hltI:(i:Int)<(ts.length:Int):=om;have ewi:IntKind.i64.wrap ((i:Int)+1)=(i:Int)+1:=wj;have eci:(((i+1:Nat)):Int)=(i:Int)+1:=om;have q9:=kx0 c9;have q11:=kx0 c11;have p0:=kx0 y0;have p1:=kx0 y1;have p2:=kx0 y2;have p3:=kx0 y3;have p4:=kx0 y4;have p5:=kx0 y5;have p6:=kx0 y6;have p7:=kx0 y7;have pt:=kx0 tx0
  rw[<-HOP.out] at p0;rw[hTA] at pt;have HTA:=lh hTA;clear hTA;have ps:=kx0 ht3;generalize ts[i]=sym at *;have HI:=fun(w':World) (x:Ext w3 w')=>lh (zin_any nd.A nd.c nd.l sym w' (HT.out.sl.ext (HX3.out.trans x)));clear c0 c1 c2 c3 c4 c5 c6 c7 c8 c9 c10 c11 y0 y1 y2 y3 y4 y5 y6 y7 tx0 tcell ht3;refine Xs.start (zL w3 gs) 28 kr ?_;refine Xst 0 ?_;refine Xst 1 ?_;refine Xst 2 ?_;refine Xst 3 ?_;refine Xst 4 ?_;refine Xst 5 ?_;refine Xst 6 ?_;refine Xst 7 ?_;refine Xst 8 ?_;refine Xst 9 ?_;refine Xst 10 ?_;refine Xst 11 ?_;refine Xst 12 ?_;refine Xst 13 ?_;refine Xst 14 ?_;refine Xst 15 ?_;refine Xst 16 ?_;refine Xscl 17 fun w4 hE4 hX4 K hKK=>?_;go_simp;refine(HI w4 hX4).out.mono ?_;rintro e w44 ⟨b4,rfl,x44⟩;refine hKK _ _ x44 ?_;clear hKK;refine ptm ?_;cases b4
  ·refine Xst 18 ?_;refine Xst 19 ?_;refine Xs.skip 20 (some 67) rfl rfl dK (by rfl) ?_;refine ptm ?_;refine Xs.skip 21 (some 68) rfl rfl dK (by rfl) ?_;refine ptm ?_;refine Xs.skip 22 (some 69) rfl rfl dK (by rfl) ?_;refine ptm ?_;refine Xs.skip 23 (some 70) rfl rfl dK (by rfl) ?_;refine ptm ?_;refine Xs.skip 24 (some 71) rfl rfl dK (by rfl) ?_;refine ptm ?_;refine Xs.skip 25 (some 72) rfl rfl dK (by rfl) ?_;refine ptm ?_;refine Xs.skip 26 (some 73) rfl rfl dK (by rfl) ?_;refine ptm ?_;refine Xs.skip 27 (some 74) rfl rfl dK (by rfl) ?_;refine ptm ?_;refine Xs.stop dK (fun w5 hE5 hX5=>?_);refine Xr.skip 28 (some 75) rfl rfl dK (by rfl) ?_;refine ptm ?_;refine Xtk 29 ?_;exact Z6z2
  ·refine Xst 18 ?_;refine Xst 19 ?_;refine Xst 20 ?_;refine Xst 21 ?_;refine Xst 22 ?_;refine Xst 23 ?_;refine Xst 24 ?_;refine Xst 25 ?_;refine Xst 26 ?_;refine Xst 27 ?_;refine Xs.stop dK (fun w5 hE5 hX5=>?_);refine Xsp 28 fun w6 hE6 hK6 K hKK=>?_;have x6:=hX5.trans hE6;have HR8:=(HR.out (st+1) om hlt w6 p n (i+1) cA cc cl ns (HX3.out.trans x6) (HS31.out.ext x6) (HP3.out.ext x6) hlt2 (HC3.out.ext x6) hcl om);rw[eci] at HR8;go_simp;refine HR8.mono ?_;rintro e w7 h7;obtain⟨b7,rfl⟩:=h7.val;refine hKK _ _ (h7.zf.wi (zL_ext x6 hgl3)) (hK6.trans (h7.zf.kpL (zL_ext x6 hgl3))) ?_;clear hKK HR8;refine ptm ?_;refine Xtk 29 ?_;refine Xtn ?_;refine Xdn fun w8 hE8 hK8=>?_;have HF:=lh (RetF.after (st:=st) (ns:=ns) (h7.ext hE8) (HZW.out.ext x6 hgl) om ⟨Nat.le_refl _,om⟩)
   go_wp2_with fail
   go_ret
   exact HF.out
 ·have hltI:¬(i:Int)<(ts.length:Int):=om
  go_wp2_with (go_quiet (fail))
  go_ret
  have xd:=Ext.drewN w3 nq;exact⟨false,st+1,false,ns,rfl,HS31.out.ext xd,HX3.out.trans xd,HZW.out.ext xd hgl,om,om,om,.inl ⟨rfl,hlt⟩⟩):P:=h
open Zt1 in
theorem znode_1:ZNdOk 1:=by
 exact Z6z1
theorem Zt2.zk {P:Prop}(h:P:=by
 clear c9;have HB3':=HB3
 go_upto_region 12 with fail
 go_loopw [11,10] (fun v11 v10 wr=>∃(x:Int) (q:Option Nat) (m:Nat),v11=.int .i64 x/\v10=.pointer (q.map (fun g=>⟨g,0,none⟩))/\-1<=x/\x<nd.ks.length/\Ext w3 wr/\Hid (GoalAt bd w0 wr ((st+1:Nat):Int) m q)) (fun v _ _=>(intOf v+1).toNat)
 case atStart=>
  refine⟨(nd.ks.length:Int)-1,p,n,?_,rfl,om,om,Ext.rfl' _,HP3⟩
  go_num
 case round=>
  obtain⟨x,q,m,rfl,rfl,hx1,hx2,x1,HQ⟩:=hrel;by_cases hx0:0<=x
  ·obtain⟨j,rfl⟩:∃j:Nat,x=j:=⟨x.toNat,om⟩;have hj:j<nd.ks.length:=om;obtain⟨b,o,hK,n0,ht0,k0,k1,k2,k3,k4,k5,k6,k7⟩:=kid8x (HX3.out.trans x1) HT.out.cl HT.out.ks hj;have y2r:=x1.cell y2;rw[hK] at y2r;have HK:=lh hK;have HT0:=lh ht0;clear hK ht0;have ewj:IntKind.i64.wrap ((j:Int)-1)=(j:Int)-1:=wj;have EB:=Ext.alloc wr (.cells (goalC 0 n0 0 0 q) 345);have BB:=Blk.new wr 345 (goalC 0 n0 0 0 q);have HON:=lh (GoalAt.mk (kb:=((st+1:Nat):Int)) wr.heap.size 0 0 0 n0 d BB HT0.out (.inl rfl) (by simp[I64]) (HQ.out.ext EB))
   go_wp2_with fail
   go_roundw
   case rel=>exact⟨(j:Int)-1,some wr.heap.size,m+1,by go_num,rfl,om,om,x1.trans EB,HON⟩
   case measure=>first|(simp[intOf];done)|(simp[intOf];omega)
  ·have HR8:=lh (HR.out (st+1) om hlt wr q m i cA cc cl ns (HX3.out.trans x1) (HS31.out.ext x1) HQ.out hi (HC3.out.ext x1) hcl om)
   go_wp2_with (go_at_call 216;refine HR8.out.mono ?_;rintro e w9 h9;obtain⟨b9,rfl⟩:=h9.val)
   go_ret
   exact h9.after (HZW.out.ext x1 hgl) om ⟨Nat.le_refl _,om⟩):P:=h
open Zt2 in
theorem znode_2:ZNdOk 2:=by
 exact Z6z1
theorem Zt3.zk {P:Prop}(h:P:=by
 have halt2:=halt HOP.out
 go_upto_region 18 with fail
 go_loopw [12] (fun v12 wr=>∃(j st1 ns1:Nat),v12=.int .i64 j/\j<=nd.ks.length/\st+1<=st1/\st1<=fuel/\ns<=ns1/\ns1<=ns+3*(st1-(st+1))+j/\Hid (SrM wr w0.heap.size gs tA ts.length tc most fuel st1 false ns1)/\Hid (Ext w0 wr)/\Hid (ZF gs w3 wr)) (fun v _=>nd.ks.length-(intOf v).toNat)
 case atStart=>exact⟨0,st+1,ns,rfl,om,om,hlt,om,om,HS31,HX3,lh (ZF.refl _ hgl3)⟩
 case round=>
  clear c0 c1 c2 c3 c4 c5 c6 c7 c8 c9 c10 c11 y0 y1 y2 y3 y4 y5 y6 y7 tx0;obtain⟨j,st1,ns1,rfl,hj,hs1,hs2,hn1,hn2,HSR,HXR,HZR⟩:=hrel;have HB3r:=lh (HZR.out.blk HS31.out HB3.out de);have HB93r:=lh (HZR.out.blk HS31.out HB93.out de);have hglr:=HSR.out.gs_lt;obtain⟨c0,c1,c2,c3,c4,c5,c6,c7,c8,c9,c10,c11⟩:=goal_cells HB3r.out;obtain⟨y0,y1,y2,y3,y4,y5,y6,y7⟩:=nd_cells HB93r.out;by_cases hjl:j<nd.ks.length
  ·have hjI:(j:Int)<(nd.ks.length:Int):=om;obtain⟨b,o,hK,n0,ht0,k0,k1,k2,k3,k4,k5,k6,k7⟩:=kid8x HXR.out HT.out.cl HT.out.ks hjl;have HK:=lh hK;have HT0:=lh ht0;rw[HK.out] at y2;clear hK ht0;have HCr:=lh (HC3.out.zf HS31.out HZR.out);have HPr:=lh ((HP3.out.zf HS31.out HZR.out).mono (kb':=(st1:Int)) om);have q11:=kx0 c11;have p2:=kx0 y2;have e0:=kx0 k0;have e1:=kx0 k1;have e2:=kx0 k2;have e3:=kx0 k3;have e4:=kx0 k4;have e5:=kx0 k5;have e6:=kx0 k6;have e7:=kx0 k7
   go_upto_region 20 with fail
   clear c0 c1 c2 c3 c4 c5 c6 c7 c8 c9 c10 c11 y0 y1 y2 y3 y4 y5 y6 y7 k0 k1 k2 k3 k4 k5 k6 k7;refine Xs.start (zL wr gs) 14 kr ?_;refine Xst 0 ?_;refine Xst 1 ?_;refine Xst 2 ?_;refine Xst 3 ?_;refine Xst 4 ?_;refine Xst 5 ?_;refine Xst 6 ?_;refine Xst 7 ?_;refine Xst 8 ?_;refine Xst 9 ?_;refine Xst 10 ?_;refine Xst 12 ?_;refine Xst 13 ?_;refine Xscl 11 fun w4 hE4 hX4 K hKK=>?_;have E5:=Ext.alloc w4 (.cells (goalC 0 n0 0 0 p) 345);have B5:=Blk.new w4 345 (goalC 0 n0 0 0 p);go_simp;refine hKK _ _ E5 ?_;clear hKK;refine ptm ?_;refine Xs.stop dK (fun w5 hE5 hX5=>?_);have Bi:=B5.ext hE5;have HON:=lh (GoalAt.mk (kb:=(st1:Int)) w4.heap.size 0 0 0 n0 d Bi HT0.out (.inl rfl) (by simp[I64]) (HPr.out.ext hX5));refine Xsp 14 fun w6 hE6 hK6 K hKK=>?_;have x6:=hX5.trans hE6;have HR8:=HR.out st1 om hs2 w6 (some w4.heap.size) (n+1) i cA cc cl ns1 (HXR.out.trans x6) (HSR.out.ext x6) (HON.out.ext hE6) hi (HCr.out.ext x6) hcl om;go_simp;refine HR8.mono ?_;rintro e w7 h7;obtain⟨b7,rfl⟩:=h7.val;refine hKK _ _ (h7.zf.wi (zL_ext x6 hglr)) (hK6.trans (h7.zf.kpL (zL_ext x6 hglr))) ?_;clear hKK HR8;refine ptm ?_;refine Xdn fun w8 hE8 hK8=>?_;have h8:=h7.ext hE8;have HN:=lh (RetF.noI h8);have HZ6:=lh (ZF.of_ext x6 hglr);have HF:=lh (RetF.after (st:=st) (ns:=ns) h8 (HZW.out.trans (HZR.out.trans HZ6.out)) om ⟨om,om⟩);clear h8 h7 hE8 hK8 hK6 hE6 hX5 hE5 Bi E5 B5 hE4 hX4 x6 HON;cases b7
   ·go_wp2_with fail
    obtain⟨st9,ns9,s9,x9,z9,a1,a2,a3,a4⟩:=HN.out si;go_roundw
    case rel=>exact⟨j+1,st9,ns9,by go_num,om,om,a4,om,om,lh s9,lh x9,lh ((HZR.out.trans HZ6.out).trans z9)⟩
    case measure=>simp[intOf];omega
   ·go_wp2_with fail
    go_ret
    exact HF.out
  ·have hjI:¬(j:Int)<(nd.ks.length:Int):=om
   go_wp2_with fail
   go_ret
   exact⟨false,st1,false,ns1,rfl,HSR.out,HXR.out,HZW.out.trans HZR.out,om,om,om,.inl ⟨rfl,hs2⟩⟩):P:=h
open Zt3 in
theorem znode_3:ZNdOk 3:=by
 exact Z6z1
theorem znode_4:ZNdOk 4:=by
 intro bd w0 gs tA ts tc htx most fuel st hf htn hbd HRUN w g nd d k fr p n i cA cc cl ns hb ht hop hp x0 hs hst hi hc hcl hns;have hone:=ht.ok.one;have hfew:=ht.ok.few;have halt:=ht.ok.alt;have hkl:=ht.kl;have HT:=lh ht;have HR:=lh HRUN;have HP:=lh hp;have HC:=lh hc;have HS:=lh hs;have HX:=lh x0;have HTX:=lh htx;have hll:=htx.len;obtain⟨c0,c1,c2,c3,c4,c5,c6,c7,c8,c9,c10,c11⟩:=goal_cells hb;have HB:=lh hb;have hgl:=hs.gs_lt;have EN:=Ext.alloc w (.cells nd.cs.toArray 61);have BN:=Blk.new w 61 nd.cs.toArray;have HOP:=lh hop;have hop4:(nd.op == 4)=true:=by rw[hop];rfl
 clear ht HRUN hp hc hs x0 hb hop htx;go_enter Tryz.func280,Tryz.ntmps280
 go_upto_region 2 with fail
 change Code.wp _ _ _ _ (w.alloc (.cells nd.cs.toArray 61));obtain⟨g9,hg9⟩:∃g,g=w.heap.size:=⟨_,rfl⟩
 rw[<-hg9] at BN ⊢;clear hg9;generalize w.alloc (.cells nd.cs.toArray 61)=wa at *;have HBa:=lh (HB.out.ext EN);have HB9:=lh BN;have HEN:=lh EN;have HSa:=lh (HS.out.ext EN);have hgla:gs<wa.heap.size:=Nat.lt_of_lt_of_le hgl EN.size;obtain⟨y0,y1,y2,y3,y4,y5,y6,y7⟩:=nd_cells BN;have c11a:=EN.cell c11
 go_upto_region 3 with fail
 have q11:=kx0 c11a;have p0:=kx0 y0;have p1:=kx0 y1;have p2:=kx0 y2;have p3:=kx0 y3;have p4:=kx0 y4;have p5:=kx0 y5;have p6:=kx0 y6;have p7:=kx0 y7;clear c0 c1 c2 c3 c4 c5 c6 c7 c8 c9 c10 c11 y0 y1 y2 y3 y4 y5 y6 y7 c11a BN EN;refine Xs.start (zL wa gs) 10 kr ?_;refine Xst 0 ?_;refine Xst 1 ?_;refine Xst 2 ?_;refine Xst 3 ?_;refine Xst 4 ?_;refine Xst 5 ?_;refine Xst 6 ?_;refine Xst 8 ?_;refine Xst 9 ?_;refine Xscl 7 fun w4 hE4 hX4 K hKK=>?_;have E5:=Ext.alloc w4 (.cells (goalC 1 nd 0 0 p) 345);have B5:=Blk.new w4 345 (goalC 1 nd 0 0 p);go_simp;refine hKK _ _ E5 ?_;clear hKK;refine ptm ?_;refine Xs.stop dK (fun w5 hE5 hX5=>?_);have Bi:=B5.ext hE5;refine Xsp 10 fun w6 hE6 hK6 K hKK=>?_;have x6:=HEN.out.trans (hX5.trans hE6);have x6a:=hX5.trans hE6;have HR8:=zrep_any bd w0 gs tA ts.length tc most fuel st hf htn hbd HR.out w6 w4.heap.size nd d 0 0 p n i cA cc cl ns (Bi.ext hE6) HT.out HOP.out om (HP.out.ext x6) (HX.out.trans x6) (HS.out.ext x6) hst hi (HC.out.ext x6) hcl hns;go_simp;refine HR8.mono ?_;rintro e w7 h7;obtain⟨b7,rfl⟩:=h7.val;refine hKK _ _ (h7.zf.wi (zL_ext x6a hgla)) (hK6.trans (h7.zf.kpL (zL_ext x6a hgla))) ?_;clear hKK HR8;refine ptm ?_;refine Xtk 11 ?_;refine Xdn fun w8 hE8 hK8=>?_;have HF:=lh (RetF.after (st:=st) (ns:=ns) (h7.ext hE8) (ZF.of_ext x6 hgl) (Nat.le_refl _) ⟨Nat.le_refl _,om⟩)
 go_wp2_with fail
 go_ret
 exact HF.out
theorem Zt5.zk {P:Prop}(h:P:=by
 have hone5:=hone (.inr HOP.out)
 go_upto_region 24 with fail
 have q9:=kx0 c9;have q11:=kx0 c11;have p0:=kx0 y0;have p1:=kx0 y1;have p2:=kx0 y2;have p3:=kx0 y3;have p4:=kx0 y4;have p5:=kx0 y5;have p6:=kx0 y6;have p7:=kx0 y7;have pt:=kx0 tx0;obtain⟨b,o,hK,n0,ht0,k0,k1,k2,k3,k4,k5,k6,k7⟩:=kid8x HX3.out HT.out.cl HT.out.ks (i:=0) om;simp only[Nat.zero_mul,Nat.add_zero] at k0 k1 k2 k3 k4 k5 k6 k7;have HT0:=lh ht0;have hkl0:0<nd.ks.length:=om;have HK:=lh hK;clear hK ht0;have e0:=kx0 k0;have e1:=kx0 k1;have e2:=kx0 k2;have e3:=kx0 k3;have e4:=kx0 k4;have e5:=kx0 k5;have e6:=kx0 k6;have e7:=kx0 k7;rw[HK.out] at p2
 rw[<-HOP.out] at p0;clear c0 c1 c2 c3 c4 c5 c6 c7 c8 c9 c10 c11 y0 y1 y2 y3 y4 y5 y6 y7 k0 k1 k2 k3 k4 k5 k6 k7;refine Xs.start (zL w3 gs) 17 kr ?_;refine Xst 0 ?_;refine Xst 1 ?_;refine Xst 2 ?_;refine Xst 3 ?_;refine Xst 4 ?_;refine Xst 5 ?_;refine Xst 6 ?_;refine Xst 7 ?_;refine Xst 8 ?_;refine Xst 9 ?_;refine Xst 10 ?_;refine Xst 11 ?_;refine Xst 15 ?_;refine Xst 16 ?_;refine Xscl 12 fun w4 hE4 hX4 K hKK=>?_;have EG:Hid (goalC 3 nd 0 (i:Int) p=#[.int .i64 3,.int .i64 nd.op,.slice nd.A nd.l.length nd.c,.slice (some ⟨b,o,none⟩) nd.ks.length nd.kc,.int .i64 nd.mn,.int .i64 nd.mx,.int .i64 nd.md,.int .i64 nd.n,.bool nd.neg,.int .i64 0,.int .i64 (i:Int),ptrO p]):=lh (by simp[goalC,HK.out]);have E5:=Ext.alloc w4 (.cells (goalC 3 nd 0 i p) 345);have B5:=Blk.new w4 345 (goalC 3 nd 0 i p);rw[EG.out] at E5 B5;go_simp;refine hKK _ _ E5 ?_;clear hKK;refine ptm ?_;refine Xst 13 ?_;refine Xscl 14 fun w44 hE44 hX44 K hKK=>?_;have E6:=Ext.alloc w44 (.cells (goalC 0 n0 0 0 (some w4.heap.size)) 345);have B6:=Blk.new w44 345 (goalC 0 n0 0 0 (some w4.heap.size));go_simp;refine hKK _ _ E6 ?_;clear hKK;refine ptm ?_;refine Xs.stop dK (fun w5 hE5 hX5=>?_);have Bi:=B5.ext (hE44.trans (E6.trans hE5));have Bo:=B6.ext hE5
 rw[<-EG.out] at Bi;have HON:Hid (GoalAt bd w0 w5 ((st+1:Nat):Int) (n+1+1) (some w44.heap.size)):=lh (GoalAt.mk w44.heap.size 0 0 0 n0 d Bo HT0.out (.inl rfl) (by simp[I64]) (.mk w4.heap.size 3 0 i nd (d+1) Bi HT.out.tree (.inr (.inr (.inr rfl))) (by unfold I64;omega) (HP3.out.ext hX5)));refine Xsp 17 fun w6 hE6 hK6 K hKK=>?_;have x6:=hX5.trans hE6;have HR8:=(HR.out (st+1) om hlt w6 (some w44.heap.size) (n+1+1) i cA cc cl ns (HX3.out.trans x6) (HS31.out.ext x6) (HON.out.ext hE6) hi (HC3.out.ext x6) hcl om);go_simp;refine HR8.mono ?_;rintro e w7 h7;obtain⟨b7,rfl⟩:=h7.val;refine hKK _ _ (h7.zf.wi (zL_ext x6 hgl3)) (hK6.trans (h7.zf.kpL (zL_ext x6 hgl3))) ?_;clear hKK HR8;refine ptm ?_;refine Xtk 18 ?_;refine Xdn fun w8 hE8 hK8=>?_;have HF:=lh (RetF.after (st:=st) (ns:=ns) (h7.ext hE8) (HZW.out.ext x6 hgl) om ⟨Nat.le_refl _,om⟩)
 go_wp2_with fail
 go_ret
 exact HF.out):P:=h
open Zt5 in
theorem znode_5:ZNdOk 5:=by
 exact Z6z1
theorem Zt11.zk {P:Prop}(h:P:=by
 go_upto_region 55 with fail
 have q9:=kx0 c9;have q11:=kx0 c11;have p0:=kx0 y0;have p1:=kx0 y1;have p2:=kx0 y2;have p3:=kx0 y3;have p4:=kx0 y4;have p5:=kx0 y5;have p6:=kx0 y6;have p7:=kx0 y7;have pt:=kx0 tx0
 rw[<-HOP.out] at p0;have HO:=fun(w':World) (x:Ext w3 w')=>lh (zholds_any nd.n tA tc ts i w' (HTX.out.ext (HX3.out.trans x)) hi);clear c0 c1 c2 c3 c4 c5 c6 c7 c8 c9 c10 c11 y0 y1 y2 y3 y4 y5 y6 y7;refine Xs.start (zL w3 gs) 16 kr ?_;refine Xst 0 ?_;refine Xst 1 ?_;refine Xst 2 ?_;refine Xst 3 ?_;refine Xst 4 ?_;refine Xst 5 ?_;refine Xst 6 ?_;refine Xscl 7 fun w4 hE4 hX4 K hKK=>?_;go_simp;refine(HO w4 hX4).out.mono ?_;rintro e w44 ⟨b4,rfl,x44⟩;refine hKK _ _ x44 ?_;clear hKK;refine ptm ?_;cases b4
 ·refine Xst 8 ?_;refine Xs.skip 9 (some 324) rfl rfl dK (by rfl) ?_;refine ptm ?_;refine Xs.skip 10 (some 325) rfl rfl dK (by rfl) ?_;refine ptm ?_;refine Xs.skip 11 (some 326) rfl rfl dK (by rfl) ?_;refine ptm ?_;refine Xs.skip 12 (some 327) rfl rfl dK (by rfl) ?_;refine ptm ?_;refine Xs.skip 13 (some 328) rfl rfl dK (by rfl) ?_;refine ptm ?_;refine Xs.skip 14 (some 329) rfl rfl dK (by rfl) ?_;refine ptm ?_;refine Xs.skip 15 (some 330) rfl rfl dK (by rfl) ?_;refine ptm ?_;refine Xs.stop dK (fun w5 hE5 hX5=>?_);refine Xr.skip 16 (some 331) rfl rfl dK (by rfl) ?_;refine ptm ?_;refine Xtk 17 ?_;exact Z6z2
 ·refine Xst 8 ?_;refine Xst 9 ?_;refine Xst 10 ?_;refine Xst 11 ?_;refine Xst 12 ?_;refine Xst 13 ?_;refine Xst 14 ?_;refine Xst 15 ?_;refine Xs.stop dK (fun w5 hE5 hX5=>?_);refine Xsp 16 fun w6 hE6 hK6 K hKK=>?_;have x6:=hX5.trans hE6;have HR8:=(HR.out (st+1) om hlt w6 p n i cA cc cl ns (HX3.out.trans x6) (HS31.out.ext x6) (HP3.out.ext x6) hi (HC3.out.ext x6) hcl om);go_simp;refine HR8.mono ?_;rintro e w7 h7;obtain⟨b7,rfl⟩:=h7.val;refine hKK _ _ (h7.zf.wi (zL_ext x6 hgl3)) (hK6.trans (h7.zf.kpL (zL_ext x6 hgl3))) ?_;clear hKK HR8;refine ptm ?_;refine Xtk 17 ?_;refine Xtn ?_;refine Xdn fun w8 hE8 hK8=>?_;have HF:=lh (RetF.after (st:=st) (ns:=ns) (h7.ext hE8) (HZW.out.ext x6 hgl) om ⟨Nat.le_refl _,om⟩)
  go_wp2_with fail
  go_ret
  exact HF.out):P:=h
open Zt11 in
theorem znode_11:ZNdOk 11:=by
 exact Z6z1
end
section
open Go.RowKit
theorem znode_any (bd:Nat)(w0:World)(gs:Nat)(tA:Option Addr)(ts:List Int)(tc:Nat)(htx:IL w0 tA tc ts)(most:Int)(fuel st:Nat)(hf:fuel<=100000000)(htn:ts.length<=100000000)(hbd:bd<=1000)(HRUN:∀st',st<st'->st'<=fuel->RunOk bd w0 gs tA ts.length tc most fuel st')
 (w:World) (g:Nat) (nd:Nd) (d:Nat) (k fr:Int) (p:Option Nat) (n i:Nat) (cA:Option Addr) (cc:Nat) (cl:List Sp) (ns:Nat) (hb:Blk w g 345 (goalC 0 nd k fr p)) (ht:NdAt bd w0 d nd)
 (hp:GoalAt bd w0 w st n p) (x0:Ext w0 w) (hs:SrM w w0.heap.size gs tA ts.length tc most fuel st false ns) (hst:st<=fuel) (hi:i<=ts.length) (hc:CapAt w cA cc cl) (hcl:cl.length<=1000) (hns:ns<=3*st) :
 Calls Tryz.prog 280 #[.pointer (some ⟨gs,0,none⟩),.pointer (some ⟨g,0,none⟩),.int .i64 i,.slice cA cl.length cc] w (RetF w0 gs tA ts.length tc most fuel st ns w):=by
 rcases ht.ok.op with h|h|h|h|h|h|h
 ·exact znode_0 bd w0 gs tA ts tc htx most fuel st hf htn hbd HRUN w g nd d k fr p n i cA cc cl ns hb ht h hp x0 hs hst hi hc hcl hns
 ·exact znode_1 bd w0 gs tA ts tc htx most fuel st hf htn hbd HRUN w g nd d k fr p n i cA cc cl ns hb ht h hp x0 hs hst hi hc hcl hns
 ·exact znode_2 bd w0 gs tA ts tc htx most fuel st hf htn hbd HRUN w g nd d k fr p n i cA cc cl ns hb ht h hp x0 hs hst hi hc hcl hns
 ·exact znode_3 bd w0 gs tA ts tc htx most fuel st hf htn hbd HRUN w g nd d k fr p n i cA cc cl ns hb ht h hp x0 hs hst hi hc hcl hns
 ·exact znode_4 bd w0 gs tA ts tc htx most fuel st hf htn hbd HRUN w g nd d k fr p n i cA cc cl ns hb ht h hp x0 hs hst hi hc hcl hns
 ·exact znode_5 bd w0 gs tA ts tc htx most fuel st hf htn hbd HRUN w g nd d k fr p n i cA cc cl ns hb ht h hp x0 hs hst hi hc hcl hns
 ·exact znode_11 bd w0 gs tA ts tc htx most fuel st hf htn hbd HRUN w g nd d k fr p n i cA cc cl ns hb ht h hp x0 hs hst hi hc hcl hns
theorem run_step (bd:Nat)(w0:World)(gs:Nat)(tA:Option Addr)(ts:List Int)(tc:Nat)(htx:IL w0 tA tc ts)(most:Int)(fuel st:Nat)(hf:fuel<=100000000)(htn:ts.length<=100000000)(hbd:bd<=1000)(hst:st<=fuel)(HRUN:∀st',st<st'->st'<=fuel->RunOk bd w0 gs tA ts.length tc most fuel st') :
 ∀(n:Nat) (w:World) (p:Option Nat) (i:Nat) (cA:Option Addr) (cc:Nat) (cl:List Sp) (ns:Nat),Ext w0 w->SrM w w0.heap.size gs tA ts.length tc most fuel st false ns->GoalAt bd w0 w st n p->i<=ts.length->CapAt w cA cc cl->cl.length<=1000->ns<=3*st->
 Calls Tryz.prog 216 #[.pointer (some ⟨gs,0,none⟩),.pointer (p.map (fun g=>⟨g,0,none⟩)),.int .i64 i,.slice cA cl.length cc] w (RetF w0 gs tA ts.length tc most fuel st ns w):=by
 intro n;induction n with
 | zero=>
  intro w p i cA cc cl ns x0 hs hp hi hc hcl hns
  cases hp with
  | nil=>exact zrun_nil w0 w gs tA ts.length tc most fuel st ns i cA cc cl x0 hs hst om om
 | succ n ih=>
  intro w p i cA cc cl ns x0 hs hp hi hc hcl hns
  cases p with
  | none=>cases hp
  | some g=>
   obtain⟨kind,k,fr,nd,d,m,p,hm,hb,ht,hk,hfr,hp2⟩:=hp.first;have hm':n=m:=om;subst hm';have hn:=ht.ok.n;rcases hk with rfl|⟨rfl,hop,hk0,hk1⟩|⟨rfl,hop,hk0,hk1⟩|rfl
   ·exact zrun_0 _ w gs g nd k fr p i cA cl.length cc hb (znode_any bd w0 gs tA ts tc htx most fuel st hf htn hbd HRUN w g nd d k fr p n i cA cc cl ns hb ht hp2 x0 hs hst hi hc hcl hns) (fun e w' h=>h.val)
   ·exact zrun_1 _ w gs g nd k fr p i cA cl.length cc hb (zrep_any bd w0 gs tA ts.length tc most fuel st hf htn hbd HRUN w g nd d k fr p n i cA cc cl ns hb ht hop ⟨hk0,hk1⟩ hp2 x0 hs hst hi hc hcl hns) (fun e w' h=>h.val)
   ·refine zrun_2 w0 w gs tA ts.length tc most fuel st ns g nd k fr p i cA cl.length cc hb x0 hs hst om (fun w' g' x hb'=>?_);exact zrun_1 _ w' gs g' nd (k+1) 0 p i cA cl.length cc hb' (zrep_any bd w0 gs tA ts.length tc most fuel st hf htn hbd HRUN w' g' nd d (k+1) 0 p n i cA cc cl ns hb' ht hop ⟨om,hk1⟩ (hp2.ext x) (x0.trans x) (hs.ext x) hst hi (hc.ext x) hcl hns) (fun e w' h=>h.val)
   ·refine zrun_3 w0 w gs tA ts.length tc most fuel st ns g nd k fr p i cA cc cl hb x0 hs hc hcl (by unfold I64;omega) hfr (by unfold I64;omega) (fun w' cA' cc' cl' x hc' hl'=>?_);exact ih w' p i cA' cc' cl' ns (x0.trans x) (hs.ext x) (hp2.ext x) hi hc' om hns
theorem run_all (bd:Nat)(w0:World)(gs:Nat)(tA:Option Addr)(ts:List Int)(tc:Nat)(htx:IL w0 tA tc ts)(most:Int)(fuel:Nat)(hf:fuel<=100000000)(htn:ts.length<=100000000)(hbd:bd<=1000):∀(m st:Nat),fuel-st<=m->st<=fuel->RunOk bd w0 gs tA ts.length tc most fuel st:=by
 intro m;induction m with
 | zero=>
  intro st h hst;exact fun w p n i cA cc cl ns=>run_step bd w0 gs tA ts tc htx most fuel st hf htn hbd hst (fun st' h1 h2=>absurd h1 om) n w p i cA cc cl ns
 | succ m ih=>
  intro st h hst;exact fun w p n i cA cc cl ns=>run_step bd w0 gs tA ts tc htx most fuel st hf htn hbd hst (fun st' h1 h2=>ih st' om h2) n w p i cA cc cl ns
end
end Go.Proofs.YtmgpefenkilffaaGreat
