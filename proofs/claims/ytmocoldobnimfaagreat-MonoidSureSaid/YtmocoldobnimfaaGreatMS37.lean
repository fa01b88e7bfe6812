/- Texts of this proof: DG. -/
import Derived.Test.YtmocoldobnimfaaGreatMS35
set_option linter.all false
set_option maxRecDepth 100000
set_option maxHeartbeats 16000000
namespace Go.Proofs.YtmocoldobnimfaaGreat
section
open Go.RowKit
attribute [local go_sem ↓] Go.wp_at_zero Go.wp_at_succ
def wL (w:World)(g q:Nat)(x:Int):World:=((((w.setCell ⟨g,q,none⟩ (.int .i64 3)).setCell ⟨g,q+1,none⟩ (.int .i64 x)).setCell ⟨g,q+2,none⟩ (.int .i64 0)).setCell ⟨g,q+3,none⟩ (.int .i64 0)).setCell ⟨g,q+4,none⟩ (.slice none 0 0)
theorem AN:∀(hs:List Hin) (i:Nat) (x:Int) (hi:i<hs.length),
 ((((((QT hs).set (i*5) (.int .i64 3)).set (i*5+1) (.int .i64 x)).set (i*5+2) (.int .i64 0)).set (i*5+3) (.int .i64 0)).set (i*5+4) (.slice none 0 0))=QT (hs.set i ⟨3,x,0,0,none,0,[]⟩)
 | [],i,x,hi=>by simp at hi
 | h::hs,0,x,_=>by simp[jH]
 | h::hs,i+1,x,hi=>by
  have ih:=AN hs i x (by simpa using hi);have e0:(i+1)*5=i*5+1+1+1+1+1:=om;have e1:i*5+1+1+1+1+1+1=i*5+1+1+1+1+1+1:=rfl;have e2:i*5+1+1+1+1+1+2=i*5+2+1+1+1+1+1:=om;have e3:i*5+1+1+1+1+1+3=i*5+3+1+1+1+1+1:=om;have e4:i*5+1+1+1+1+1+4=i*5+4+1+1+1+1+1:=om;rw[e0,e2,e3,e4,jH];simp only[List.set_cons_succ,ih,jH]
theorem Ek {p:Nat->Prop}{a w:World}{g:Nat}(h:KpP p a w)(hg:p g)(q:Nat)(x:Int):KpP p a (wL w g q x):=
 (((((h.set (x:=⟨g,q,none⟩) (.inl hg) _).set (x:=⟨g,q+1,none⟩) (.inl hg) _).set (x:=⟨g,q+2,none⟩) (.inl hg) _).set (x:=⟨g,q+3,none⟩) (.inl hg) _).set (x:=⟨g,q+4,none⟩) (.inl hg) _)
theorem RL {a w:World}{g:Nat}(h:Ext a w)(hg:a.heap.size<=g)(q:Nat)(x:Int):Ext a (wL w g q x):=
 (((((h.setNew (p:=⟨g,q,none⟩) hg _).setNew (p:=⟨g,q+1,none⟩) hg _).setNew (p:=⟨g,q+2,none⟩) hg _).setNew (p:=⟨g,q+3,none⟩) hg _).setNew (p:=⟨g,q+4,none⟩) hg _)
theorem QQ.set5 {w:World}{base e n c g:Nat}{hs:List Hin}(h:QQ w base e 5 (some ⟨g,0,none⟩) n c (QT hs)){i:Nat}(hi:i<hs.length)(x:Int) :
 QQ (wL w g (i*5) x) base e 5 (some ⟨g,0,none⟩) n c (QT (hs.set i ⟨3,x,0,0,none,0,[]⟩)):=by
 have hl:=JG hs;have one:∀{w:World} {xs:List Value} (h:QQ w base e 5 (some ⟨g,0,none⟩) n c xs) (q:Nat) (hq:q<xs.length) (v:Value),QQ (w.setCell ⟨g,q,none⟩ v) base e 5 (some ⟨g,0,none⟩) n c (xs.set q v):=fun{w xs} h q hq v=>by
  obtain⟨g',he,_,_,_,_,hst⟩:=QQ.store h hq;injection he with he;injection he with he _ _
  subst he;exact hst v
 have h5:=one (one (one (one (one h (i*5) om (.int .i64 3)) (i*5+1) (by simp;omega) (.int .i64 x)) (i*5+2) (by simp;omega) (.int .i64 0)) (i*5+3) (by simp;omega) (.int .i64 0)) (i*5+4) (by simp;omega) (.slice none 0 0);rw[AN hs i x hi] at h5;exact h5
theorem GpO.jump {base w:World}{g c:Nat}{hs:List Hin}(h:GpO base w (some ⟨g,0,none⟩) c hs){i:Nat}(hi:i<hs.length){x:Int}(hx:I64 x):GpO base (wL w g (i*5) x) (some ⟨g,0,none⟩) c (hs.set i ⟨3,x,0,0,none,0,[]⟩):=by
 have k:=Ek (p:=(·=g)) (KpP.refl _ w) rfl (i*5) x;have hne:∀(b:Nat) (cur:Array Value),w.heap[b]? = some (.cells cur 38 (0,0))->¬(b=g):=fun b cur e hb=>by
  subst hb;obtain⟨_,cur2,e2⟩:=QQ.blt h.own rfl;have e3:=e.symm.trans e2;injection e3 with e3;injection e3 with _ e3 _
  exact absurd e3 de
 refine⟨by rw[List.length_set];exact QQ.set5 h.own hi x,fun z hz=>?_,fun z hz b hb=>?_⟩
 ·rcases List.mem_or_eq_of_mem_set hz with hz|rfl
  ·exact⟨(h.ok z hz).1,(h.ok z hz).2.1.kpZ k (fun _ b hb=>by
    obtain⟨cur,e⟩:=h.typ z hz b hb;exact hne b cur e),(h.ok z hz).2.2⟩
  ·exact ZJ.plain _ (by unfold I64 at *;omega)
 ·rcases List.mem_or_eq_of_mem_set hz with hz|rfl
  ·obtain⟨cur,e⟩:=h.typ z hz b hb;exact⟨cur,(k.block b (Array.getElem?_eq_some_iff.1 e).1 (hne b cur e)).trans e⟩
  ·simp at hb
theorem RM {w:World}{g T n c:Nat}{a:Option Addr}{k:Int}{r:Bool}(h:Blk w g T #[.slice a n c,.int .i64 k,.bool r]){q:Nat}{u v:Int}(e1:w.cell? ⟨g,q,none⟩=some (.int .i64 u))(e2:w.cell? ⟨g,q+1,none⟩=some (.int .i64 v)):False:=by
 rw[h.cell q] at e1;rw[h.cell (q+1)] at e2;have hq:q=0\/q=1\/2<=q:=om;rcases hq with rfl|rfl|hq
 ·simp at e1
 ·simp at e2
 ·rw[Array.getElem?_eq_none (by simp;omega)] at e2;cases e2
theorem VF.kp3 {E:List Int}{w w':World}{A a:Option Addr}{c g T m d:Nat}{k:Int}{r:Bool}{hs:List Hin}(h:VF E w A c hs)(hb:Blk w g T #[.slice a m d,.int .i64 k,.bool r])(kk:KpP (·=g) w w'):VF E w' A c hs:=by
 refine⟨⟨h.pl.le,h.pl.cap,h.pl.rng,fun z hz=>(h.pl.sl z hz).kpZ kk (fun hn b hb2 e=>?_),fun hn=>?_⟩,h.sets,h.len⟩
 ·obtain⟨b',o,hA,hc⟩:=(h.pl.sl z hz).at_ hn;rw[hA] at hb2;have e2:b'=b:=by simpa using hb2
  have e3:b=g:=e;subst e3 e2;have h0:=hc 0 (List.length_pos_iff.2 hn);exact RM hb h0.1 h0.2
 ·obtain⟨b,o,rfl,hc⟩:=h.pl.at_ hn;refine⟨b,o,rfl,fun i hi=>?_⟩;have hne:¬(b=g):=fun e=>by
   subst e;have h0:=hc i hi;exact RM hb h0.1 h0.2.1
  have hbk:=kk.block b (World.block_lt_of_cell? _ _ (hc i hi).1) hne;have hce:∀q,w'.cell? ⟨b,q,none⟩=w.cell? ⟨b,q,none⟩:=fun q=>World.cell?_of_block (w:=w) (show w'.heap[(⟨b,q,none⟩:Addr).block]? = _ from hbk);simp only[hce];exact hc i hi
def lC (w:World)(e:Ending)(w':World):Prop:=
 ∃(A:Option Addr) (c:Nat) (hs:List Hin) (caps:Int) (rn:Bool) (T:Option Addr) (tc:Nat) (ts:List Int),e=.returned (.tuple #[.agg #[.slice A hs.length c,.int .i64 caps,.bool rn],.slice T ts.length tc])/\
  VF Jz w' A c hs/\I64 caps/\IL w' T tc ts/\(∀x∈ts,0<=x/\x<=200)/\ts.length<=12/\Ext w w'
theorem RN (w:World)(LA:Option Addr)(lc:Nat)(ls:List Int)(MA:Option Addr)(mc:Nat)(ms:List Int)(plain:Bool)(hl:IL w LA lc ls)(hm:IL w MA mc ms) :
 Calls Tryz.prog 24 #[.slice LA ls.length lc,.slice MA ms.length mc,.bool plain] w (lC w):=by
 have hll:=hl.len;have hmm:=hm.len;have E0:=Ext.alloc w (.cells #[.slice none 0 0,.int .i64 0,.bool false] 33);have B0:=Blk.new w 33 #[.slice none 0 0,.int .i64 0,.bool false];go_enter Tryz.func24,Tryz.ntmps24
 go_upto_region 1 with fail
 obtain⟨g6,hg6⟩:∃g,g=w.heap.size:=⟨_,rfl⟩
 rw[<-hg6] at B0 ⊢;have hg6l:w.heap.size<=g6:=om;clear hg6;generalize w.alloc (.cells #[.slice none 0 0,.int .i64 0,.bool false] 33)=w0 at *;have HL0:=lh (hl.ext E0);have HX0:=lh E0;have HB0:=lh B0;have HPL:=lh (NP w0 LA lc ls MA mc ms false (hl.ext E0) (hm.ext E0));clear hl hm E0 B0
 go_upto_region 2 with(go_at_call 15;refine HPL.out.mono ?_;rintro e w1 ⟨n,gr,TA,tc,ts,he,ht,hgr,hT,hfr,htb,htl,x1⟩;have HFR:=lh (fun b hb=>Nat.lt_of_lt_of_le HB0.out.lt (hfr b hb):∀b,TA.map (·.block)=some b->g6<b);have he2:e=.returned (.tuple #[.agg (ptC n gr false),.slice TA ts.length tc]):=he;subst he2;clear he;unfold ptC)
 change Code.wp _ _ _ _ (w1.alloc (.cells (ptC n gr false) 28));have E2:=Ext.alloc w1 (.cells (ptC n gr false) 28);have B2:=Blk.new w1 28 (ptC n gr false);have HX2:=lh (HX0.out.trans (x1.trans E2));have HT2:=lh (ht.ext E2);have HTX:=lh (⟨hT.ext E2,htb,htl⟩:IL (w1.alloc (.cells (ptC n gr false) 28)) TA tc ts/\(∀x∈ts,0<=x/\x<=200)/\ts.length<=12);have HB2:=lh (HB0.out.ext (x1.trans E2));have HL2:=lh (HL0.out.ext (x1.trans E2));have htl2:=hT.len;clear hT hfr htb htl x1 ht HPL HX0 HB0 HL0;obtain⟨g2,hg2⟩:∃g,g=w1.heap.size:=⟨_,rfl⟩
 rw[<-hg2] at B2 ⊢;clear hg2 E2;generalize w1.alloc (.cells (ptC n gr false) 28)=w2 at *;cases plain
 ·have HSM:=lh (Rx w2 LA lc ls HL2.out);clear B2 HT2 HL2
  go_upto_region 5 with fail
  go_upto_region 6 with(go_at_call 19;refine HSM.out.mono ?_;rintro e w3 ⟨A,c,hs,cp,rn,rfl,hg3,hn1,hn2,hc0,hc2,x3⟩)
  have E4:=Ext.alloc w3 (.cells #[.slice A hs.length c,.int .i64 cp,.bool rn] 33);have B4:=Blk.new w3 33 #[.slice A hs.length c,.int .i64 cp,.bool rn];have HO4:=lh (hg3.ext E4);have X24:=lh (x3.trans E4);obtain⟨g4,hg4⟩:∃g,g=w3.heap.size:=⟨_,rfl⟩
  rw[<-hg4] at B4 ⊢;have hg4l:w2.heap.size<=g4:=by have:=x3.size;omega
  clear hg4 E4 x3 hg3 HSM;generalize w3.alloc (.cells #[.slice A hs.length c,.int .i64 cp,.bool rn] 33)=w4 at *;have HG4:=lh B4;clear B4;obtain⟨N,hN⟩:∃N,N=hs.length:=⟨_,rfl⟩;have HLN:Hid (hs.length=N):=lh hN.symm
  rw[<-hN] at hn1 hn2 HG4 ⊢;clear hN
  go_upto_region 7 with fail
  go_loopw [13] (fun v13 wr=>∃(i:Nat) (hs:List Hin),v13=.int .i64 i/\i<=N/\Hid (hs.length=N)/\Hid (Blk wr g4 33 #[.slice A N c,.int .i64 cp,.bool rn])/\Hid (GpO w2 wr A c hs)/\Ext w2 wr) (fun v _=>N-(intOf v).toNat)
  case atStart=>exact⟨0,hs,rfl,om,HLN,HG4,HO4,X24.out⟩
  case round=>
   clear HO4 HLN HG4;obtain⟨i,hs,rfl,hi,HLN,HG4,HO4,x1⟩:=hrel;by_cases hlt:i<N
   ·have hltI:(i:Int)<(N:Int):=om;obtain⟨z0,z1,z2,zf0,zf1,zf2,_⟩:=HG4.out.c3;obtain⟨gl,hA2,hbg,cl,fl,hltl,_⟩:=QQ.store HO4.out.own (i:=i*5) (by rw[JG,HLN.out];omega);subst hA2;have hiN:i<hs.length:=by have:=HLN.out;omega
    obtain⟨f0,_⟩:=CF hs i hiN;have cl2:wr.cell? ⟨gl,i*5,none⟩=some (.int .i64 hs[i].op):=by rw[cl,<-List.getElem?_eq_getElem];exact f0
    have hne:g4≠gl:=fun e=>QK HO4.out.own HG4.out de (by rw[e];rfl);have hcc:=QQ.caps HO4.out.own;obtain⟨op,hop⟩:∃op,op=hs[i].op:=⟨_,rfl⟩
    rw[<-hop] at cl2;clear cl f0 hop;have HO:=HO4;have HG:=HG4;clear HO4 HG4;by_cases h5:op=5
    ·have hb:(op == 5)=true:=by simp[h5]
     have ewi:IntKind.i64.wrap ((i:Int)+1)=(i:Int)+1:=wj;have hN0:(N:Int)≠0:=om;have hNn:¬N=0:=om;obtain⟨x,hx⟩:∃x:Int,((i:Int)+1).tmod (N:Int)=x:=⟨_,rfl⟩;have hxb:0<=x/\x<12:=by rw[<-hx,Int.tmod_eq_emod_of_nonneg om];exact⟨Int.emod_nonneg _ hN0,by have:=Int.emod_lt_of_pos ((i:Int)+1) (show(0:Int)<N by omega);omega⟩
     have ewx:IntKind.i64.wrap x=x:=wj
     go_upto_region 10 with fail
     have k0:=fun(w':World) (h:Kp [gl] wr w')=>h.cell z0 (by simp;omega);have k1:=fun(w':World) (h:Kp [gl] wr w')=>h.cell z1 (by simp;omega);have k2:=fun(w':World) (h:Kp [gl] wr w')=>h.cell z2 (by simp;omega);refine Xr.start [gl] kr ?_;refine Xtk 0 ?_
     iterate 10(refine Xtn ?_)
     refine Xsp 11 fun w7 hE7 hK7 K hKK=>?_;have HO7:=HO.out.ext hE7;have one:∀k,k<5->∃v,w7.cell? ⟨gl,i*5+k,none⟩=some v/\w7.frozen? ⟨gl,i*5+k,none⟩=false:=fun k hk=>by
      obtain⟨g',he,_,h1,h2,_,_⟩:=QQ.store HO7.own (i:=i*5+k) (by rw[JG];omega);injection he with he;injection he with he _ _
      subst he;exact⟨_,h1,h2⟩
     obtain⟨v0,y0,q0⟩:=one 0 om;obtain⟨v1,y1,q1⟩:=one 1 om;obtain⟨v2,y2,q2⟩:=one 2 om;obtain⟨v3,y3,q3⟩:=one 3 om;obtain⟨v4,y4,q4⟩:=one 4 om;simp only[Nat.add_zero] at y0 q0;have HO8:=lh HO7;clear one HO7;go_simp;have hkS:=Ek (p:=(·=gl)) (KpP.refl _ w7) rfl (i*5) x;refine hKK _ _ (KpP.mono hkS (fun b hb=>.inl (by simpa using hb))) (hK7.kpP hkS (fun b hb=>by simpa using hb)) ?_;clear hKK;have HG9:=lh (hkS.blk (HG.out.ext hE7) hne);have HO9:=lh (GpO.jump HO8.out hiN (x:=x) (by unfold I64;omega));have X9:=RL (x1.trans hE7) hbg (i*5) x;change Xr _ _ _ _ _ _ _ _ _ _ _ (wL w7 gl (i*5) x);generalize wL w7 gl (i*5) x=w9 at *;clear y0 y1 y2 y3 y4 q0 q1 q2 q3 q4 HO8 hkS;refine ptm ?_;refine Xdn fun w10 hE10 hK10=>?_;have HG10:=lh (HG9.out.ext hE10);have HO10:=lh (HO9.out.ext hE10);have X10:=X9.trans hE10;have HL10:Hid ((hs.set i ⟨3,x,0,0,none,0,[]⟩).length=N):=lh (by rw[List.length_set];exact HLN.out);clear k0 k1 k2 HG9 HO9 X9 hE10 hK10 hE7 hK7 HG HO
     go_wp2_with fail
     go_roundw
     case rel=>exact⟨i+1,_,by go_num,om,HL10,HG10,HO10,X10⟩
     case measure=>simp[intOf];omega
    ·have hb:(op == 5)=false:=by simp[h5]
     clear h5
     go_wp2_with fail
     go_roundw
     case rel=>exact⟨i+1,hs,by go_num,om,HLN,HG,HO,x1⟩
     case measure=>simp[intOf];omega
   ·have hltI:¬(i:Int)<(N:Int):=om;have BB4:=HG4.out;have BB:=HB2.out.ext x1;obtain⟨e0,e1,e2,_⟩:=BB4.c3;obtain⟨t0,t1,t2,tf0,tf1,tf2,_⟩:=BB.c3
    go_wp2_with fail
    have b9:=JL BB A N c cp rn;have k9:=Xv (p:=(·=g6)) (KpP.refl _ wr) rfl A N c cp rn;have x9:=JM (HX2.out.trans x1) hg6l A N c cp rn;have ht9:=(HTX.out.1.ext x1).kpG k9 (fun b hb e=>by have:=HFR.out b hb;have e2:b=g6:=e;omega);have hg9:=(HO4.out.gp (by rw[HLN.out];omega)).kp3 BB k9;change bodyPost _ _ _ _ _ (Kq wr g6 A N c cp rn);generalize Kq wr g6 A N c cp rn=w9 at *;obtain⟨r0,r1,r2,_⟩:=b9.c3;exact bodyPost_ret (v:=.tuple #[.agg #[.slice A N c,.int .i64 cp,.bool rn],.slice TA ts.length tc]) (by simp[results,Tryz.results24,go_sem,r0,r1,r2]) rfl ⟨A,c,hs,cp,rn,TA,tc,ts,by rw[HLN.out],hg9,by unfold I64;omega,ht9,HTX.out.2.1,HTX.out.2.2,x9⟩
 ·have HCM:=lh (IZ 3 _ om 6 de om w2 n gr false HT2.out (by unfold I64;omega));obtain⟨p0,p1,p2,p3,p4,p5,p6,p7,p8,p9⟩:=Zq B2
  go_upto_region 3 with fail
  go_upto_region 4 with(go_at_call 16;refine HCM.out.mono ?_;rintro e w3 ⟨A3,c3,hs3,cp3,rn3,k3,rfl,hg3,hc3,x3⟩)
  have E4:=Ext.alloc w3 (.cells #[.slice A3 hs3.length c3,.int .i64 cp3,.bool rn3] 33);have B4:=Blk.new w3 33 #[.slice A3 hs3.length c3,.int .i64 cp3,.bool rn3];change Code.wp _ _ _ _ (w3.alloc (.cells #[.slice A3 hs3.length c3,.int .i64 cp3,.bool rn3] 33));have HX4:=lh (HX2.out.trans (x3.trans E4));have HG4:=lh (hg3.ext E4);have HC3:=lh hc3;have HB4:=lh (HB2.out.ext (x3.trans E4));have HT4:=lh (HTX.out.1.ext (x3.trans E4));have HTS:=lh HTX.out.2;clear hg3 hc3 x3 HX2 HCM HT2 B2 HB2 HTX HL2 E4 p0 p1 p2 p3 p4 p5 p6 p7 p8 p9;obtain⟨g10,hg10⟩:∃g,g=w3.heap.size:=⟨_,rfl⟩
  rw[<-hg10] at B4 ⊢;clear hg10;generalize w3.alloc (.cells #[.slice A3 hs3.length c3,.int .i64 cp3,.bool rn3] 33)=w4 at *;obtain⟨e0,e1,e2,_⟩:=B4.c3;have BB:=HB4.out;obtain⟨t0,t1,t2,tf0,tf1,tf2,_⟩:=BB.c3
  go_wp2_with fail
  have b9:=JL BB A3 hs3.length c3 cp3 rn3;have x9:=JM HX4.out hg6l A3 hs3.length c3 cp3 rn3;have k9:=Xv (p:=(·=g6)) (KpP.refl _ w4) rfl A3 hs3.length c3 cp3 rn3;have hg9:=HG4.out.kp3 BB k9;have ht9:=HT4.out.kpG k9 (fun b hb e=>by have:=HFR.out b hb;have e2:b=g6:=e;omega);change bodyPost _ _ _ _ _ (Kq w4 g6 A3 hs3.length c3 cp3 rn3);generalize Kq w4 g6 A3 hs3.length c3 cp3 rn3=w9 at *;obtain⟨r0,r1,r2,_⟩:=b9.c3;exact bodyPost_ret (v:=.tuple #[.agg #[.slice A3 hs3.length c3,.int .i64 cp3,.bool rn3],.slice TA ts.length tc]) (by simp[results,Tryz.results24,go_sem,r0,r1,r2]) rfl ⟨A3,c3,hs3,cp3,rn3,TA,tc,ts,rfl,hg9,HC3.out,ht9,HTS.out.1,HTS.out.2,x9⟩
end
