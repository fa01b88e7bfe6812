/- Texts of this proof: K2 K3 K4 K5 K6 K13 K12 K7 E15 MSh. -/
import Derived.Test.YtmocoldobnimfaaGreatMS07
import Derived.Deep.RegionHeld3
import Derived.Deep.DrawnRows
set_option linter.all false
set_option maxRecDepth 100000
set_option maxHeartbeats 16000000
namespace Go.Proofs.YtmocoldobnimfaaGreat
section
open Go.RowKit
attribute [local go_sem ↓] Go.wp_at_zero Go.wp_at_succ
theorem CT {G:List Ins}:∀{l:List Nat} {k:Nat} (hk:k<l.length),(∀j (hj:j<l.length),j<k->isD G l[j]=false)->isD G l[k]=true->VY G l=l.take (k+1)
 | p::r,0,_,_,h=>by
  unfold VY;have h':isD G p=true:=h;rw[if_pos h'];rfl
 | p::r,k+1,hk,h0,h=>by
  unfold VY;have h1:isD G p=false:=h0 0 si om;rw[h1];simp only[Bool.false_eq_true,if_false];rw[CT (l:=r) (k:=k) (by simpa using hk) (fun j hj hjk=>h0 (j+1) (by simpa using hj) om) h]
  rfl
theorem wC {hs:List Hin}{p:Nat}(h:p<hs.length):isD (QW hs) p=decide (hs[p].op=0):=by
 unfold isD;rw[qG h];rfl
theorem IL.takeN {w:World}{A:Option Addr}{c:Nat}{xs:List Int}(h:IL w A c xs)(j:Nat):IL w A c (xs.take j):=by
 have h1:=h.le;refine⟨by simp;omega,h.cap,fun x hx=>h.rng x (List.mem_of_mem_take hx),fun hn=>?_⟩;obtain⟨b,o,rfl,hc⟩:=h.at_ (by rintro rfl;simp at hn);refine⟨b,o,rfl,fun i hi=>?_⟩;rw[List.getElem_take];exact hc i (by simp at hi;omega)
theorem Mj (l:List Nat)(k:Nat):(QJ l).take k=QJ (l.take k):=by simp[QJ]
theorem YH {l:List Nat}{k:Nat}(h:k<l.length):(QJ l)[k]'(by rw[WY];exact h)=(l[k]:Int):=by simp[QJ]
def Xx (A:Option Addr):List Nat:=(A.map (·.block)).toList
theorem Zx {A:Option Addr}{b:Nat}:b∈Xx A<->A.map (·.block)=some b:=by unfold Xx;simp
theorem Kp.thenQ {L:List Nat}{p:Nat->Prop}{a b c:World}(h:Kp L a b)(k:KpP p b c)(hp:∀i,p i->i∈L\/a.heap.size<=i):Kp L a c:=
 ⟨k.os.trans h.os,k.tape.trans h.tape,k.output.trans h.output,Nat.le_trans h.size k.size,fun i hi hn=>(k.block i (Nat.lt_of_lt_of_le hi h.size) (fun hm=>by
  rcases hp i hm with h1|h1
  ·exact hn h1
  ·omega)).trans (h.block i hi hn)⟩
def Vz (G:List Ins)(N:Nat)(fs:List Nat)(i:Nat):List Nat×List Nat:=(fs.take i).foldl (WZ G N) ([],[])
theorem Oy {G:List Ins}{N:Nat}{fs:List Nat}{i:Nat}(h:i<fs.length):Vz G N fs (i+1)=WZ G N (Vz G N fs i) fs[i]:=by
 unfold Vz;rw[List.take_succ_eq_append_getElem h,List.foldl_append];rfl
theorem SY {G:List Ins}{fs:List Nat}:QX G fs=VY G (Vz G (G.length+1) fs fs.length).1:=by
 unfold QX UP Vz;rw[List.take_length]
def FX (s:List Nat)(w:World)(e:Ending)(w':World):Prop:=∃(A:Option Addr) (c:Nat),e=.returned (.slice A (QJ s).length c)/\IL w' A c (QJ s)/\Ext w w'/\Fr w A
structure StI (a0:World)(G:List Ins)(r:List Nat×List Nat)(A:Option Addr)(c:Nat)(B:Option Addr)(d:Nat)(w:World):Prop where
 l:WO w a0.heap.size 3 A c (QJ r.1)
 s:WO w a0.heap.size 3 B d (QJ r.2)
 ap:∀b,A.map (·.block)=some b->B.map (·.block)≠some b
 ok:Zy G.length r.2
 len:r.1.length<=r.2.length
theorem vj (gA:Option Addr)(gc:Nat)(hs:List Hin)(runes:Bool)(caps:Int)(hG:GOk runes caps (QW hs))(w:World)(hP:PL w gA gc hs)(F:Option Addr)(fc:Nat)(fs:List Nat)(hF:IL w F fc (QJ fs))(hfs:∀i∈fs,i<hs.length) :
 Calls Tryz.prog 40 #[QN gA hs.length gc caps runes,.slice F (QJ fs).length fc] w (FX (QX (QW hs) fs) w):=by
 have hcap:=hP.len;have hcF:=hF.len;have HLF:=lh (WY fs);have bG:=Blk.new w 33 #[.slice gA hs.length gc,.int .i64 caps,.bool runes];have eG:=Ext.alloc w (.cells #[.slice gA hs.length gc,.int .i64 caps,.bool runes] 33);have hwlt:w.heap.size<(w.alloc (.cells #[.slice gA hs.length gc,.int .i64 caps,.bool runes] 33)).heap.size:=by simp
 unfold QN;have HADD:=fun(a0:World) (h:PL a0 gA gc hs) f l seen pc w A B c d h1 h2 h3 h4 h5 h6 h7 h8 h9=>lh (CS a0 gA gc hs runes caps hG h f l seen pc w A B c d h1 h2 h3 h4 h5 h6 h7 h8 h9);unfold QN at HADD;obtain⟨S,hS⟩:∃S,S=QX (QW hs) fs:=⟨_,rfl⟩
 rw[<-hS];have HS:=lh hS;clear hS;have HG:=lh hG;have HFS:=lh hfs;clear hG hfs;go_enter Tryz.func40,Tryz.ntmps40
 go_upto_region 4 with fail
 have hP0:=hP.ext eG;have hF0:=hF.ext eG;generalize w.alloc (.cells #[.slice gA hs.length gc,.int .i64 caps,.bool runes] 33)=w0 at *;have hal:(QJ fs).length=fs.length:=WY fs;have HAL:=lh hal;clear hal;generalize hfn:(QJ fs).length=fn at *;replace hfn:=lh hfn
 go_loopw [5,6,7] (fun v5 v6 v7 wr=>∃(i:Nat) (A:Option Addr) (c:Nat) (B:Option Addr) (d:Nat),v7=.int .i64 i/\i<=fn/\v5=.slice A (QJ (Vz (QW hs) (hs.length+1) fs i).1).length c/\v6=.slice B (QJ (Vz (QW hs) (hs.length+1) fs i).2).length d/\
  Hid (StI w0 (QW hs) (Vz (QW hs) (hs.length+1) fs i) A c B d wr)/\Ext w0 wr) (fun _ _ v _=>fn-(intOf v).toNat)
 case atStart=>exact⟨0,none,0,none,0,rfl,om,rfl,rfl,lh ⟨QQ.nil _ _ _ _,QQ.nil _ _ _ _,by simp,Zy.nil _,Nat.le_refl _⟩,Ext.rfl' _⟩
 case round=>
  obtain⟨i,A,c,B,d,rfl,hi,rfl,rfl,HI,x1⟩:=hrel;by_cases hlt:i<fn
  ·have hiI:(i:Int)<fn:=om;have hif:i<fs.length:=by rw[<-HAL.out];exact hlt
   have hil:i<(QJ fs).length:=by rw[WY];exact hif
   obtain⟨fb,fo,rfl,f0⟩:=hF0.get hil;rw[YH hif] at f0;have hpc:=HFS.out _ (List.getElem_mem hif);have HR:=lh (Oy (G:=QW hs) (N:=hs.length+1) hif);have HN:=lh (Qw hs);generalize Vz (QW hs) (hs.length+1) fs i=r at *;have HC:=fun(w':World) (h1:WO w' w0.heap.size 3 A c (QJ r.1)) (h2:WO w' w0.heap.size 3 B d (QJ r.2)) (h3:Ext w0 w')=>HADD w0 hP0 (hs.length+1) r.1 r.2 fs[i] w' A B c d (by rw[<-HN.out];exact HI.out.ok) om hpc HI.out.len h1 h2 HI.out.ap (fun j hj=>by
    have h4:=HI.out.ok.2 j hj;have h5:=HG.out.len;omega) h3
   rw[<-HR.out] at HC;generalize fs[i]=pn at *;have hLB:∀b∈Xx A++Xx B,w0.heap.size<=b/\b<wr.heap.size:=fun b hb=>by
    rcases List.mem_append.1 hb with h|h
    ·have h:=Zx.1 h;exact⟨QQ.row HI.out.l b h,(QQ.blt HI.out.l h).1⟩
    ·have h:=Zx.1 h;exact⟨QQ.row HI.out.s b h,(QQ.blt HI.out.s h).1⟩
   have hTW:∀b,two A B b->b∈Xx A++Xx B:=fun b hb=>by
    rcases hb with h|h
    ·exact List.mem_append_left _ (Zx.2 h)
    ·exact List.mem_append_right _ (Zx.2 h)
   have hl1:=HI.out.l;have hl2:=HI.out.s;have HIl:=lh hl1;have HIs:=lh hl2;clear hl1 hl2;obtain⟨L1,hL1⟩:∃L1,L1=QJ r.1:=⟨_,rfl⟩;obtain⟨L2,hL2⟩:∃L2,L2=QJ r.2:=⟨_,rfl⟩
   rw[<-hL1,<-hL2] at HC ⊢
   rw[<-hL1] at HIl
   rw[<-hL2] at HIs;obtain⟨R1,hR1⟩:∃R1,R1=QJ (Vz (QW hs) (hs.length+1) fs (i+1)).1:=⟨_,rfl⟩;obtain⟨R2,hR2⟩:∃R2,R2=QJ (Vz (QW hs) (hs.length+1) fs (i+1)).2:=⟨_,rfl⟩
   rw[<-hR1,<-hR2] at HC;replace hR1:=lh hR1;replace hR2:=lh hR2;replace HC:=lh HC;have HOK:=lh (show Zy (QW hs).length (Vz (QW hs) (hs.length+1) fs (i+1)).2/\(Vz (QW hs) (hs.length+1) fs (i+1)).1.length<=(Vz (QW hs) (hs.length+1) fs (i+1)).2.length by
    rw[HR.out];refine⟨XU _ _ _ HI.out.ok,?_⟩;have:=V8 (QW hs) (hs.length+1) r pn;have:=HI.out.len;omega)
   clear hL1 hL2 HR;generalize hLL:Xx A++Xx B=LL at *;clear hLL;have hfb:fb<w0.heap.size:=World.block_lt_of_cell? _ _ f0;have bG1:=bG.ext x1;obtain⟨r0,r1,r2,r0f,r1f,r2f,rz⟩:=bG1.c3;have f1:=x1.cell f0;have n1:w.heap.size∉LL:=fun h=>by have:=(hLB _ h).1;omega
   have n2:fb∉LL:=fun h=>by have:=(hLB _ h).1;omega
   have k0:=fun(w':World) (h:Kp LL wr w')=>h.cell r0 n1;have k1:=fun(w':World) (h:Kp LL wr w')=>h.cell r1 n1;have k2:=fun(w':World) (h:Kp LL wr w')=>h.cell r2 n1;have k3:=fun(w':World) (h:Kp LL wr w')=>h.cell f1 n2;clear r0 r1 r2 r0f r1f r2f f0 f1 hpc hif hil;have hLB2:=lh hLB;have hTW2:=lh hTW;clear hLB hTW HI
   go_wp2_with fail
   refine Xr.start LL kr ?_;refine Xtk 0 ?_
   iterate 6(refine Xtn ?_)
   refine Xsp 7 fun w2 hE2 hK2 K hKK=>?_;go_simp;refine(HC.out w2 (QQ.ext HIl.out hE2) (QQ.ext HIs.out hE2) (x1.trans hE2)).out.mono ?_;rintro e w3 ⟨A',c',B',d',rfl,H⟩;refine hKK _ _ (KpP.mono H.kp (fun b hb=>.inl (hTW2.out b hb))) (hK2.thenQ H.kp (fun b hb=>.inl (hTW2.out b hb))) ?_;clear hKK;refine ptm ?_;refine Xtk 8 ?_
   iterate 4(refine Xtn ?_)
   refine Xdn fun w4 hE4 hK4=>?_;have x4:Ext w0 w4:=hK4.to_ext x1 (fun b hb=>(hLB2.out b hb).1);have HI4:=lh (show StI w0 (QW hs) (Vz (QW hs) (hs.length+1) fs (i+1)) A' c' B' d' w4 from⟨by rw[<-hR1.out];exact QQ.ext H.l hE4,by rw[<-hR2.out];exact QQ.ext H.s hE4,H.ap,HOK.out.1,HOK.out.2⟩);clear k0 k1 k2 k3 HC HIl HIs hE2 hK2 hE4 hK4 H HOK n1 n2 bG1 rz
   go_wp2_with fail
   go_roundw
   case rel=>exact⟨i+1,A',c',B',d',by go_num,om,by rw[hR1.out],by rw[hR2.out],HI4,x4⟩
   case measure=>simp[intOf];omega
  ·obtain⟨wz,hwz⟩:∃wz,wz=wr:=⟨_,rfl⟩;subst hwz;have hie:i=fn:=om;have hiI:¬(i:Int)<fn:=om;have hfl:fn=fs.length:=HAL.out;have HSA:=lh (show S=VY (QW hs) (Vz (QW hs) (hs.length+1) fs i).1 by rw[HS.out,SY,Qw,hie,hfl]);have HIN:=lh (show ∀p∈(Vz (QW hs) (hs.length+1) fs i).1,p<hs.length from fun p hp=>by
    obtain⟨h,_⟩:=xM (QW hs) (hs.length+1) (fs.take i) ([],[]) si p hp
    rwa [Qw] at h)
   clear hie hfl HADD;generalize Vz (QW hs) (hs.length+1) fs i=r at *;obtain⟨l,sn⟩:=r
   simp only at HSA HIN ⊢
   have hgl:=HG.out.len;rw[Qw] at hgl;have hil:IL wz A c (QJ l):=IL.of_own HI.out.l (vz (fun p hp=>by have:=HIN.out p hp;omega));have hrow:=QQ.row HI.out.l;have HROW:=lh hrow;have hcl:=WY l;obtain⟨L1,hL1⟩:∃L1,L1=QJ l:=⟨_,rfl⟩
   rw[<-hL1] at hil hcl ⊢;have HL1:=lh hL1;have HCL:=lh hcl;have hcil:=hil.len;have bG1:=bG.ext x1;have hP1:=(hP0.ext x1);clear HI hrow hL1 hcl
   go_upto_region 8 with fail
   go_loopw [8] (fun v wq=>∃k:Nat,v=.int .i64 k/\k<=L1.length/\Hid (∀j (hj:j<l.length),j<k->isD (QW hs) l[j]=false)/\Ext wz wq) (fun v _=>L1.length-(intOf v).toNat)
   case atStart=>exact⟨0,rfl,om,lh (fun j _ h=>om),Ext.rfl' _⟩
   case round=>
    obtain⟨k,rfl,hk,hno,y1⟩:=hrel;have bG2:=bG1.ext y1;obtain⟨r0,r1,r2,r0f,r1f,r2f,rz⟩:=bG2.c3;by_cases hkt:k<L1.length
    ·have hkI:(k:Int)<L1.length:=om;have hkl:k<l.length:=by rw[<-HCL.out];exact hkt
     obtain⟨lb,lo,hAe,g0⟩:=(hil.ext y1).get hkt;have hge:L1[k]=(l[k]:Int):=by
      have:=YH hkl;simp only[HL1.out];exact this
     have hpn:=HIN.out _ (List.getElem_mem hkl);have hwf:=hil.wf hkt;rw[hge] at g0 hwf;obtain⟨pb,po,hge2,c0,c1,c2,c3,c4⟩:=(hP1.ext y1).get hpn;have HD:=fun(h:isD (QW hs) l[k]=true)=>lh (CT hkl hno.out h);have HDN:=fun(h:isD (QW hs) l[k]=false)=>lh (show ∀j (hj:j<l.length),j<k+1->isD (QW hs) l[j]=false from fun j hj hjk=>by
      rcases Nat.lt_or_ge j k with h1|h1
      ·exact hno.out j hj h1
      ·have:j=k:=om;subst this;exact h)
     have hiD:=wC hpn;have hpI:(l[k]:Int)<hs.length:=om;have hpI0:(0:Int)<=(l[k]:Int):=om;generalize l[k]=pn at *;rw[hiD] at HD HDN;generalize hs[pn]=hh at *;obtain⟨zop,zx,zy,zn,zA,zc,zl⟩:=hh
     simp only at c0 HD HDN
     clear c1 c2 c3 c4 hge hiD hpn hwf;subst hAe;have k0:=kc0 r0;have k1:=kc0 g0;have k2:=kc0 c0;have hge3:=hge2;subst hge2;by_cases hz:zop=0
     ·have hz2:(zop == 0)=true:=by simp[hz]
      have HCT:=(HD (decide_eq_true hz)).out;have HST:=lh (show QJ S=L1.take (k+1) by rw[HSA.out,HCT,HL1.out,Mj]);have hcap2:(k:Int)+1<=c:=om;have HLT:=lh (show(L1.take (k+1)).length=k+1 by rw[List.length_take];omega);clear HD HDN hz HCT
      go_wp2_with fail
      refine Xr.start [] kr ?_;refine Xtk 0 ?_
      iterate 9(refine Xtn ?_)
      refine Xdn fun w4 hE4 hK4=>?_;have y4:=y1.trans hK4.nil;clear k0 k1 k2
      go_wp2_with fail
      go_ret
      unfold FX;rw[HST.out];exact⟨_,c,by rw[HLT.out];rfl,(hil.ext y4).takeN _,(eG.trans x1).trans y4,fun b hb=>by have:=HROW.out b hb;omega⟩
     ·have hz2:(zop == 0)=false:=by simp[hz]
      have HNO:=HDN (decide_eq_false hz);clear HD HDN hz
      go_wp2_with fail
      refine Xr.start [] kr ?_;refine Xtk 0 ?_
      iterate 9(refine Xtn ?_)
      refine Xdn fun w4 hE4 hK4=>?_;have y4:=y1.trans hK4.nil;clear k0 k1 k2
      go_wp2_with fail
      go_roundw
      case rel=>exact⟨k+1,by go_num,om,HNO,y4⟩
      case measure=>simp[intOf];omega
    ·have hkI:¬(k:Int)<L1.length:=om;have HST:=lh (show QJ S=L1 by
      rw[HSA.out,kU (fun p hp=>by
       obtain⟨j,hj,rfl⟩:=List.mem_iff_getElem.1 hp;exact hno.out j hj (by have:=HCL.out;omega)),HL1.out])
     go_wp2_with fail
     go_ret
     unfold FX;rw[HST.out];exact⟨A,c,rfl,hil.ext y1,(eG.trans x1).trans y1,fun b hb=>by have:=HROW.out b hb;omega⟩
theorem eJ {P:Prop} (h:P:=by
 refine Xr.start [] kr ?_;refine Xtk 0 ?_
 iterate 3(refine Xtn ?_)
 iterate 12(first|refine Xtn ?_|refine Xsn ?_)
 iterate 2(refine Xtn ?_)
 refine Xdn fun w4 hE4 hK4=>?_
 go_wp2_with fail
 go_ret
 exact⟨rfl,eG.trans hK4.nil⟩):P:=h
theorem GQ (gA:Option Addr)(gc:Nat)(hs:List Hin)(runes:Bool)(caps:Int)(w:World)(hP:PL w gA gc hs)(A:Option Addr)(c:Nat)(l:List Nat)(hL:IL w A c (QJ l))(hl:∀p∈l,p<hs.length) :
 Calls Tryz.prog 88 #[QN gA hs.length gc caps runes,.slice A (QJ l).length c] w (QD (.bool (Qk (QW hs) l)) w):=by
 have hcap:=hP.len;have hcF:=hL.len;have bG:=Blk.new w 33 #[.slice gA hs.length gc,.int .i64 caps,.bool runes];have eG:=Ext.alloc w (.cells #[.slice gA hs.length gc,.int .i64 caps,.bool runes] 33);unfold QN;rcases List.eq_nil_or_concat l with rfl|⟨u,p,rfl⟩
 ·have HD:=lh (show Qk (QW hs) []=false from rfl);rw[HD.out];have e0:(QJ []).length=0:=rfl;rw[e0];clear hL hl hcF e0;go_enter Tryz.func88,Tryz.ntmps88
  go_upto_region 1 with fail
  have hP0:=hP.ext eG;obtain⟨r0,r1,r2,r0f,r1f,r2f,rz⟩:=bG.c3;generalize w.alloc (.cells #[.slice gA hs.length gc,.int .i64 caps,.bool runes] 33)=w0 at *;exact eJ
 ·have hp:=hl p si;have HD:=lh (show Qk (QW hs) (u.concat p)=decide (hs[p].op=0) by
   unfold Qk;rw[List.concat_eq_append,List.getLast?_append];simp only[List.getLast?_singleton,Option.some_or];exact wC hp)
  rw[HD.out];have hlen:(QJ (u.concat p)).length=u.length+1:=by simp[QJ]
  have HLN:=lh hlen;obtain⟨lb,lo,rfl,g0⟩:=hL.get (k:=u.length) om;have hge:(QJ (u.concat p))[u.length]'om=(p:Int):=by simp[QJ]
  rw[hge] at g0;obtain⟨pb,po,rfl,c0,c1,c2,c3,c4⟩:=hP.get hp;rw[HLN.out];rw[HLN.out] at hcF;clear hge hlen HLN;generalize u.length=m at *;have hwm:IntKind.i64.wrap ((m:Int)+1-1)=(m:Int):=wj;have hwm2:IntKind.i64.wrap (m:Int)=(m:Int):=wj;have hm1:(m:Int)<(m:Int)+1:=om;have hm2:(m:Int)+1>0:=om;have hm3:(0:Int)<(m:Int)+1:=om;have hpI:(p:Int)<hs.length:=om;clear hl hL;generalize hs[p]=hh at *;obtain⟨zop,zx,zy,zn,zA,zc,zl⟩:=hh
  simp only at c0 ⊢
  clear c1 c2 c3 c4;go_enter Tryz.func88,Tryz.ntmps88
  go_upto_region 1 with fail
  have c0':=eG.cell c0;have g0':=eG.cell g0;obtain⟨r0,r1,r2,r0f,r1f,r2f,rz⟩:=bG.c3;generalize w.alloc (.cells #[.slice (some ⟨pb,po,none⟩) hs.length gc,.int .i64 caps,.bool runes] 33)=w0 at *;have k0:=kc0 r0;have k1:=kc0 g0';have k2:=kc0 c0';exact eJ
def ZL (G:List Ins)(c:Int)(l:List Nat)(i:Nat):List Nat:=((l.take i).filter (Jv G c)).map (·+1)
theorem GW {G:List Ins}{c:Int}{l:List Nat}{i:Nat}(h:i<l.length)(hs:Jv G c l[i]=true):ZL G c l (i+1)=ZL G c l i++[l[i]+1]:=by
 unfold ZL;rw[List.take_succ_eq_append_getElem h,List.filter_append,List.map_append];simp[hs]
theorem Lk {G:List Ins}{c:Int}{l:List Nat}{i:Nat}(h:i<l.length)(hs:Jv G c l[i]=false):ZL G c l (i+1)=ZL G c l i:=by
 unfold ZL;rw[List.take_succ_eq_append_getElem h,List.filter_append,List.map_append];simp[hs]
theorem GZ (G:List Ins)(c:Int)(l:List Nat):QZ G l c=QX G (ZL G c l l.length):=by
 unfold QZ ZL;rw[List.take_length]
theorem xR (G:List Ins)(c:Int)(l:List Nat)(i:Nat):(ZL G c l i).length<=i:=by
 unfold ZL;rw[List.length_map];exact Nat.le_trans (List.length_filter_le _ _) (by rw[List.length_take];omega)
theorem zK {hs:List Hin}{p:Nat}(h:p<hs.length)(c:Int):Jv (QW hs) c p=(decide (hs[p].op=1)&&has hs[p].l c):=by
 unfold Jv;rw[qG h];rfl
theorem Lv {hs:List Hin}{runes:Bool}{caps:Int}(hG:GOk runes caps (QW hs)){c:Int}{l:List Nat}(hl:∀p∈l,p<hs.length)(i:Nat):∀q∈ZL (QW hs) c l i,q<hs.length:=by
 intro q hq;unfold ZL at hq;obtain⟨p,hp,rfl⟩:=List.mem_map.1 hq;obtain⟨hp1,hp2⟩:=List.mem_filter.1 hp;have hpl:=hl p (List.mem_of_mem_take hp1);rw[zK hpl] at hp2;simp only[Bool.and_eq_true,decide_eq_true_eq] at hp2;have:=hG.next (k:=p) (by rw[Qw];exact hpl) (by rw[WM];exact .inl hp2.1)
 rwa [Qw] at this
theorem Sq {P:Prop} (h:P:=by
 go_wp2_with fail
 go_roundw
 case rel=>exact⟨i+1,B,d,by go_num,om,by rw[HU2.out],by rw[HU2.out];exact HB5,X5⟩
 case measure=>simp[intOf];omega):P:=h
theorem xT (gA:Option Addr)(gc:Nat)(hs:List Hin)(runes:Bool)(caps:Int)(hG:GOk runes caps (QW hs))(w:World)(hP:PL w gA gc hs)(A:Option Addr)(c:Nat)(l:List Nat)(hL:IL w A c (QJ l))(hl:∀p∈l,p<hs.length)(hll:l.length<=8192)(x:Int) :
 Calls Tryz.prog 77 #[QN gA hs.length gc caps runes,.slice A (QJ l).length c,.int .i64 x] w (FX (QZ (QW hs) l x) w):=by
 have hcap:=hP.len;have hcF:=hL.len;have HAL:=lh (WY l);have bG:=Blk.new w 33 #[.slice gA hs.length gc,.int .i64 caps,.bool runes];have eG:=Ext.alloc w (.cells #[.slice gA hs.length gc,.int .i64 caps,.bool runes] 33);have hlt9:=Lv hG (c:=x) hl;have HST:=fun(w:World) (hP:PL w gA gc hs) F fc fs hF hfs=>lh (vj gA gc hs runes caps hG w hP F fc fs hF hfs);unfold QN at HST ⊢;obtain⟨S,hS⟩:∃S,S=QZ (QW hs) l x:=⟨_,rfl⟩
 rw[<-hS];have HS:=lh hS;have HL9:=lh hlt9;have HLL:=lh hl;have HGL:=lh hG.len;have hll2:(QJ l).length<=8192:=by rw[WY];exact hll
 clear hS hG hlt9 hl hll;go_enter Tryz.func77,Tryz.ntmps77
 go_upto_region 3 with fail
 have hP0:=hP.ext eG;have hL0:=hL.ext eG;have hsz:w.heap.size<(w.alloc (.cells #[.slice gA hs.length gc,.int .i64 caps,.bool runes] 33)).heap.size:=by simp
 generalize w.alloc (.cells #[.slice gA hs.length gc,.int .i64 caps,.bool runes] 33)=w0 at *;generalize hfn:(QJ l).length=fn at *;replace hfn:=lh hfn
 go_loopw [7,8] (fun v7 v8 wr=>∃(i:Nat) (B:Option Addr) (d:Nat),v8=.int .i64 i/\i<=fn/\v7=.slice B (QJ (ZL (QW hs) x l i)).length d/\Hid (WO wr w0.heap.size 3 B d (QJ (ZL (QW hs) x l i)))/\Ext w0 wr) (fun _ v _=>fn-(intOf v).toNat)
 case atStart=>exact⟨0,none,0,rfl,om,rfl,lh (QQ.nil _ _ _ _),Ext.rfl' _⟩
 case round=>
  obtain⟨i,B,d,rfl,hi,rfl,HB,x1⟩:=hrel;by_cases hlt:i<fn
  ·have hiI:(i:Int)<fn:=om;have hil:i<l.length:=by rw[<-HAL.out];exact hlt
   have hlen2:i<(QJ l).length:=by rw[WY];exact hil
   obtain⟨fb,fo,rfl,f0⟩:=(hL0.ext x1).get hlen2;rw[YH hil] at f0;have hpc:=HLL.out _ (List.getElem_mem hil);have HY:=fun h=>lh (GW (G:=QW hs) (c:=x) hil h);have HN:=fun h=>lh (Lk (G:=QW hs) (c:=x) hil h);rw[zK hpc] at HY HN;have HUL:=xR (QW hs) x l i;obtain⟨pb,po,rfl,c0,c1,c2,c3,c4⟩:=(hP0.ext x1).get hpc;have hsl:=(hP0.ext x1).sl _ (List.getElem_mem hpc);have hpI:(l[i]:Int)<hs.length:=om;have hpI0:(0:Int)<=(l[i]:Int):=om;have hp8:l[i]<1000000:=by have:=HGL.out;rw[Qw] at this;omega
   generalize l[i]=pn at *;generalize hs[pn]=hh at *;obtain⟨zop,zx,zy,zn,zA,zc,zl⟩:=hh
   simp only at c0 c1 c2 c3 c4 hsl HY HN
   obtain⟨U,hU⟩:∃U,U=QJ (ZL (QW hs) x l i):=⟨_,rfl⟩;have hUl:U.length<=8192:=by rw[hU,WY];omega
   rw[<-hU] at HB ⊢;replace hU:=lh hU;have bG1:=bG.ext x1;obtain⟨r0,r1,r2,r0f,r1f,r2f,rz⟩:=bG1.c3;have k0:=kc0 r0;have k1:=kc0 f0;have k2:=kc0 c0;have k3:=kc0 c1;have k4:=kc0 c2;have k5:=kc0 c3;have k6:=kc0 c4;clear HUL
   go_upto_region 5 with fail
   refine Xr.start [] kr ?_;refine Xtk 0 ?_
   iterate 7(refine Xtn ?_)
   refine Xr.lazy 8 9 9 (fun g=>.pointer (some ⟨g,0,none⟩)) 123 #[.int .i64 0,.int .i64 0,.int .i64 0,.int .i64 0,.slice none 0 0] rfl si dK si (fun w'=>by go_simp) ?_;refine Xr.stepZ rfl dK (fun _=>by rfl) (fun w2 gx hE2 hK2 hgx hx _ K hKK=>?_);obtain⟨s0,s1,s2,s3,s4,s5⟩:=Bz hx;have t0:=hx.frz 0;have t1:=hx.frz 1;have t2:=hx.frz 2;have t3:=hx.frz 3;have t4:=hx.frz 4;go_simp;refine hKK _ _ (VU (VU (VU (VU (VU (Q4 _ _ _) 0 _) 1 _) 2 _) 3 _) 4 _) (Kp.setN (Kp.setN (Kp.setN (Kp.setN (Kp.setN hK2 hgx 0 _) hgx 1 _) hgx 2 _) hgx 3 _) hgx 4 _) ?_;have bx5:=((((hx.set 0 (.int .i64 zop)).set 1 (.int .i64 zx)).set 2 (.int .i64 zy)).set 3 (.int .i64 zn)).set 4 (.slice zA zl.length zc);simp only[List.setIfInBounds_toArray,List.set_cons_zero,List.set_cons_succ] at bx5;clear hKK s0 s1 s2 s3 s4 s5 t0 t1 t2 t3 t4 hx;refine ptm ?_;generalize ((((w2.setCell ⟨gx,0,none⟩ (.int .i64 zop)).setCell ⟨gx,1,none⟩ (.int .i64 zx)).setCell ⟨gx,2,none⟩ (.int .i64 zy)).setCell ⟨gx,3,none⟩ (.int .i64 zn)).setCell ⟨gx,4,none⟩ (.slice zA zl.length zc)=w3 at *;refine Xdn fun w4 hE4 hK4=>?_;have bx:=bx5.ext hE4;have y4:=hK4.nil;obtain⟨s0,s1,s2,s3,s4,s5⟩:=Bz bx;have HB4:=lh (QQ.ext HB.out y4);have X4:=x1.trans y4;have HH:=lh (FG zA zc zl x w4 (hsl.ext y4));have g4:=y4.cell f0;clear k0 k1 k2 k3 k4 k5 k6 hE2 hK2 hE4 hK4 bx5 hgx bG1 r0 r1 r2 r0f r1f r2f rz c0 c1 c2 c3 c4 f0 HB;by_cases hhs:has zl x=true
   ·rw[hhs] at HH HY HN;by_cases hop:zop=1
    ·have hop2:(zop == 1)=true:=by simp[hop]
     have HYY:=HY (by simp[hop]);have HU2:=lh (show QJ (ZL (QW hs) x l (i+1))=U++[((pn+1:Nat):Int)] by rw[HYY.out,qX,hU.out]);have ewp:IntKind.i64.wrap ((pn:Int)+1)=(pn:Int)+1:=wj;have ecp:((pn+1:Nat):Int)=(pn:Int)+1:=om;rw[ecp] at HU2;clear HY HN hop HYY ecp
     go_wp2_with fail
     refine HH.out.mono ?_;rintro e w5 ⟨rfl,x5⟩;have s0':=x5.cell s0;have g5:=x5.cell g4;have HB5:=lh (QQ.ext HB4.out x5);have X5:=X4.trans x5;clear s0 s1 s2 s3 s4 g4 HB4 HH
     go_wp2_with ((at_builtin;refine KN rfl _ _ _ rfl 3 YF Tryz.underlying22 w0 X5 ((pn:Int)+1) (by first|rfl|simp[ewp]) B d U rfl HB5.out rfl om (QJ (ZL (QW hs) x l (i+1))) HU2.out ?_;intro B2 d2 w6 hoB x6 hgB hatB))
     go_roundw
     case rel=>exact⟨i+1,B2,d2,by go_num,om,rfl,lh hoB,x6⟩
     case measure=>simp[intOf];omega
    ·have hop2:(zop == 1)=false:=by simp[hop]
     have HNN:=HN (by simp[hop]);have HU2:=lh (show QJ (ZL (QW hs) x l (i+1))=U by rw[HNN.out,hU.out]);clear HY HN hop HNN
     go_wp2_with fail
     refine HH.out.mono ?_;rintro e w5 ⟨rfl,x5⟩;have s0':=x5.cell s0;have HB5:=lh (QQ.ext HB4.out x5);have X5:=X4.trans x5;clear s0 s1 s2 s3 s4 g4 HB4 HH;exact Sq
   ·have hhs2:has zl x=false:=by simpa using hhs
    rw[hhs2] at HH HY HN;have HNN:=HN si;have HU2:=lh (show QJ (ZL (QW hs) x l (i+1))=U by rw[HNN.out,hU.out]);clear HY HN hhs hhs2 HNN
    go_wp2_with fail
    refine HH.out.mono ?_;rintro e w5 ⟨rfl,x5⟩;have s0':=x5.cell s0;have HB5:=lh (QQ.ext HB4.out x5);have X5:=X4.trans x5;clear s0 s1 s2 s3 s4 g4 HB4 HH;by_cases hop:zop=1
    ·have hop2:(zop == 1)=true:=by simp[hop]
     clear hop;exact Sq
    ·have hop2:(zop == 1)=false:=by simp[hop]
     clear hop;exact Sq
  ·have hiI:¬(i:Int)<fn:=om;have hie:i=l.length:=by have:=HAL.out;omega
   have HSE:=lh (show S=QX (QW hs) (ZL (QW hs) x l i) by rw[HS.out,GZ,hie]);have hlt9:=HL9.out i;have HI:=IL.of_own HB.out (vz (fun p hp=>by
    have h1:=hlt9 p hp;have h2:=HGL.out;rw[Qw] at h2;omega))
   have HSTA:=HST wr (hP0.ext x1) B d _ HI hlt9
   rw[<-HSE.out] at HSTA;obtain⟨r0,r1,r2,r0f,r1f,r2f,rz⟩:=(bG.ext x1).c3;clear hie hlt9 HI HST HSE HS
   go_wp2_with fail
   refine HSTA.out.mono ?_;rintro e w5 ⟨A5,c5,rfl,h5,x5,f5⟩
   go_wp2_with fail
   go_ret
   exact⟨A5,c5,rfl,h5,(eG.trans x1).trans x5,f5.mono (eG.trans x1)⟩
structure Hl where
 A:Option Addr
 c:Nat
 l:List Nat
def Zz (hs:List Hl):List Value:=hs.map fun h=>.slice h.A (QJ h.l).length h.c
theorem CU (l:List Hl):(Zz l).length=l.length:=by simp[Zz]
structure LN (w:World)(A:Option Addr)(c:Nat)(hs:List Hl):Prop where
 le:hs.length<=c
 cap:c<=maxLen
 il:∀h∈hs,IL w h.A h.c (QJ h.l)
 at_:hs≠[]->∃b o,A=some ⟨b,o,none⟩/\∀i (h:i<hs.length),w.cell? ⟨b,o+i,none⟩=some (.slice hs[i].A (QJ hs[i].l).length hs[i].c)
namespace LN
variable {w w':World} {A:Option Addr} {c:Nat} {hs:List Hl}
theorem ext (h:LN w A c hs)(k:Ext w w'):LN w' A c hs:=by
 refine⟨h.le,h.cap,fun z hz=>(h.il z hz).ext k,fun hn=>?_⟩;obtain⟨b,o,rfl,hc⟩:=h.at_ hn;exact⟨b,o,rfl,fun i hi=>k.cell (hc i hi)⟩
theorem len (h:LN w A c hs):hs.length<=c/\c<=9223372036854775807:=⟨h.le,by have:=h.cap;unfold maxLen at this;omega⟩
theorem get {k:Nat}(h:LN w A c hs)(hk:k<hs.length):∃b o,A=some ⟨b,o,none⟩/\w.cell? ⟨b,o+k,none⟩=some (.slice hs[k].A (QJ hs[k].l).length hs[k].c):=by
 obtain⟨b,o,rfl,hc⟩:=h.at_ (by intro h0;subst h0;simp at hk);exact⟨b,o,rfl,hc k hk⟩
theorem of_own {base T:Nat}(h:QQ w base T 1 A hs.length c (Zz hs))(hil:∀z∈hs,IL w z.A z.c (QJ z.l)):LN w A c hs:=by
 have hc:=QQ.caps h;refine⟨hc.1,by unfold maxLen;omega,hil,fun hn=>?_⟩;obtain⟨b,o,hA,hcell⟩:=QQ.cells h (by intro e;have:=CU hs;rw[e] at this;simp at this;exact hn (List.length_eq_zero_iff.1 om));refine⟨b,o,hA,fun i hi=>?_⟩;have:=hcell i (by rw[CU];exact hi)
 simpa[Zz] using this
end LN
def QV (hs:List Hl):List (List Nat):=hs.map (·.l)
theorem QF (hs:List Hl):(QV hs).length=hs.length:=by simp[QV]
theorem DQ:∀{a b:List Nat},QJ a=QJ b->a=b
 | [],[],_=>rfl
 | [],y::b,h=>by simp[QJ] at h
 | x::a,[],h=>by simp[QJ] at h
 | x::a,y::b,h=>by
  simp only[QJ,List.map_cons,List.cons.injEq] at h;have h1:x=y:=by have:=h.1;omega
  rw[h1,DQ (a:=a) (b:=b) h.2]
theorem DW (a b:List Nat):(QJ a == QJ b)=decide (a=b):=by
 rw[Bool.eq_iff_iff];simp only[beq_iff_eq,decide_eq_true_eq];exact⟨DQ,fun e=>by rw[e]⟩
theorem eK {P:Prop} (h:P:=by
 obtain⟨z,hz⟩:∃z,z=hs[k]:=⟨_,rfl⟩
 rw[<-hz] at g0 HQ;clear hz he
 go_wp2_with fail
 refine HQ.out.mono ?_;rintro e w2 hq;obtain⟨rfl,x2⟩:=hq.v;clear hq;have xf:=x1.trans x2
 go_wp2_with fail
 go_roundw
 case rel=>exact⟨k+1,by go_num,om,HNO,xf⟩
 case measure=>simp[intOf];omega):P:=h
theorem Sz (A:Option Addr)(c:Nat)(hs:List Hl)(S:Option Addr)(sc:Nat)(s:List Nat)(w:World)(hL:LN w A c hs)(hS:IL w S sc (QJ s)) :
 Calls Tryz.prog 90 #[.slice A hs.length c,.slice S (QJ s).length sc] w (QD (.bool (decide (s∈QV hs))) w):=by
 have hcap:=hL.len;go_enter Tryz.func90,Tryz.ntmps90
 go_upto_region 2 with fail
 go_loopw [5] (fun v wr=>∃k:Nat,v=.int .i64 k/\k<=hs.length/\Hid (∀j (hj:j<hs.length),j<k->hs[j].l≠s)/\Ext w wr) (fun v _=>hs.length-(intOf v).toNat)
 case atStart=>exact⟨0,rfl,om,lh (fun j _ h=>om),Ext.rfl' _⟩
 case round=>
  obtain⟨k,rfl,hk,hno,x1⟩:=hrel;by_cases hlt:k<hs.length
  ·have hkI:(k:Int)<hs.length:=om;obtain⟨b,o,rfl,g0⟩:=(hL.ext x1).get hlt;have HQ:=lh (vV hs[k].A S hs[k].c sc (QJ hs[k].l) (QJ s) wr ((hL.ext x1).il _ (List.getElem_mem hlt)) (hS.ext x1));rw[DW] at HQ;by_cases he:hs[k].l=s
   ·have HR:=lh (show decide (s∈QV hs)=true from decide_eq_true (List.mem_map.2 ⟨_,List.getElem_mem hlt,he⟩));rw[decide_eq_true he] at HQ;generalize hs[k]=h at *;clear he
    go_wp2_with fail
    refine HQ.out.mono ?_;rintro e w2 hq;obtain⟨rfl,x2⟩:=hq.v;clear hq
    go_wp2_with fail
    go_ret
    exact⟨by rw[HR.out];rfl,x1.trans x2⟩
   ·have HNO:=lh (show ∀j (hj:j<hs.length),j<k+1->hs[j].l≠s from fun j hj hjk=>by
     rcases Nat.lt_or_ge j k with h1|h1
     ·exact hno.out j hj h1
     ·have:j=k:=om;subst this;exact he)
    rw[decide_eq_false he] at HQ;have hd:=HQ.out;clear hd;exact eK
  ·have hkI:¬(k:Int)<hs.length:=om;have HR:=lh (show decide (s∈QV hs)=false from decide_eq_false (fun h=>by
    obtain⟨z,hz,he⟩:=List.mem_map.1 h;obtain⟨j,hj,rfl⟩:=List.mem_iff_getElem.1 hz;exact hno.out j hj om he))
   go_wp2_with fail
   go_ret
   exact⟨by rw[HR.out];rfl,x1⟩
def JU (gA:Option Addr)(n gc:Nat)(caps:Int)(runes:Bool)(SA:Option Addr)(sn sc:Nat)(YA:Option Addr)(yn yc:Nat)(OA:Option Addr)(on oc:Nat):Value:=
 .agg #[.slice gA n gc,.int .i64 caps,.bool runes,.slice SA sn sc,.slice YA yn yc,.slice OA on oc]
def plc (L:List (List Nat))(s:List Nat):Int:=if s∈L then(L.idxOf s:Nat) else -1
theorem eV {hs:List Hl}{s:List Nat}{k:Nat}(hk:k<hs.length)(h0:∀j (hj:j<hs.length),j<k->hs[j].l≠s)(h:hs[k].l=s):plc (QV hs) s=k:=by
 have hm:s∈QV hs:=List.mem_map.2 ⟨_,List.getElem_mem hk,h⟩;unfold plc;rw[if_pos hm];have h1:=List.idxOf_lt_length_of_mem hm;have h2:(QV hs)[(QV hs).idxOf s]=s:=List.getElem_idxOf h1;have h3:¬(QV hs).idxOf s<k:=fun hlt=>by
  rw[QF] at h1;have:=h0 _ h1 hlt;simp only[QV,List.getElem_map] at h2;exact this h2
 have h4:¬k<(QV hs).idxOf s:=fun hlt=>by
  have:=List.not_of_lt_findIdx (p:=(· == s)) hlt;simp[QV,h] at this
 have:(QV hs).idxOf s=k:=om;rw[this]
theorem eY {hs:List Hl}{s:List Nat}(h0:∀j (hj:j<hs.length),hs[j].l≠s):plc (QV hs) s = -1:=by
 unfold plc;rw[if_neg];intro h;obtain⟨z,hz,he⟩:=List.mem_map.1 h;obtain⟨j,hj,rfl⟩:=List.mem_iff_getElem.1 hz;exact h0 j hj he
theorem Ox (gA:Option Addr)(n gc:Nat)(caps:Int)(runes:Bool)(A:Option Addr)(c:Nat)(hs:List Hl)(YA:Option Addr)(yn yc:Nat)(OA:Option Addr)(on oc:Nat)(S:Option Addr)(sc:Nat)(s:List Nat)(w:World)(hL:LN w A c hs)(hS:IL w S sc (QJ s)) :
 Calls Tryz.prog 78 #[JU gA n gc caps runes A hs.length c YA yn yc OA on oc,.slice S (QJ s).length sc] w (QD (.int .i64 (plc (QV hs) s)) w):=by
 have hcap:=hL.len;unfold JU;have bG:=Blk.new w 53 #[.slice gA n gc,.int .i64 caps,.bool runes,.slice A hs.length c,.slice YA yn yc,.slice OA on oc];have eG:=Ext.alloc w (.cells #[.slice gA n gc,.int .i64 caps,.bool runes,.slice A hs.length c,.slice YA yn yc,.slice OA on oc] 53);have hL0:=hL.ext eG;have hS0:=hS.ext eG;go_enter Tryz.func78,Tryz.ntmps78
 go_upto_region 2 with fail
 generalize w.alloc (.cells #[.slice gA n gc,.int .i64 caps,.bool runes,.slice A hs.length c,.slice YA yn yc,.slice OA on oc] 53)=w0 at *;have g3:w0.cell? ⟨w.heap.size,3,none⟩=some (.slice A hs.length c):=bG.cell 3
 go_loopw [5] (fun v wr=>∃k:Nat,v=.int .i64 k/\k<=hs.length/\Hid (∀j (hj:j<hs.length),j<k->hs[j].l≠s)/\Ext w0 wr) (fun v _=>hs.length-(intOf v).toNat)
 case atStart=>exact⟨0,rfl,om,lh (fun j _ h=>om),Ext.rfl' _⟩
 case round=>
  obtain⟨k,rfl,hk,hno,x1⟩:=hrel;have g3':=x1.cell g3;by_cases hlt:k<hs.length
  ·have hkI:(k:Int)<hs.length:=om;obtain⟨b,o,rfl,g0⟩:=(hL0.ext x1).get hlt;have HQ:=lh (vV hs[k].A S hs[k].c sc (QJ hs[k].l) (QJ s) wr ((hL0.ext x1).il _ (List.getElem_mem hlt)) (hS0.ext x1));rw[DW] at HQ;by_cases he:hs[k].l=s
   ·have HR:=lh (eV hlt hno.out he);rw[decide_eq_true he] at HQ;obtain⟨z,hz⟩:∃z,z=hs[k]:=⟨_,rfl⟩
    rw[<-hz] at g0 HQ;clear he hz
    go_wp2_with fail
    refine HQ.out.mono ?_;rintro e w2 hq;obtain⟨rfl,x2⟩:=hq.v;clear hq
    go_wp2_with fail
    go_ret
    exact⟨by rw[HR.out];rfl,(eG.trans x1).trans x2⟩
   ·have HNO:=lh (show ∀j (hj:j<hs.length),j<k+1->hs[j].l≠s from fun j hj hjk=>by
     rcases Nat.lt_or_ge j k with h1|h1
     ·exact hno.out j hj h1
     ·have:j=k:=om;subst this;exact he)
    rw[decide_eq_false he] at HQ;exact eK
  ·have hkI:¬(k:Int)<hs.length:=om;have HR:=lh (eY (hs:=hs) (s:=s) (fun j hj=>hno.out j hj om))
   go_wp2_with fail
   go_ret
   exact⟨by rw[HR.out];rfl,eG.trans x1⟩
end
section
open Go.RowKit
structure Hz where
 A:Option Addr
 c:Nat
 l:List Int
def VH (hs:List Hz):List Value:=hs.map fun h=>.slice h.A h.l.length h.c
theorem DZ (l:List Hz):(VH l).length=l.length:=by simp[VH]
def Hl.z (h:Hl):Hz:=⟨h.A,h.c,QJ h.l⟩
theorem jZ (hs:List Hl):VH (hs.map Hl.z)=Zz hs:=by simp[VH,Zz,Hl.z]
structure SZ (w:World)(base:Nat)(A:Option Addr)(c:Nat)(hs:List Hz):Prop where
 own:QQ w base 22 1 A hs.length c (VH hs)
 il:∀h∈hs,IL w h.A h.c h.l
 ap:∀h∈hs,h.l≠[]->∀b,h.A.map (·.block)=some b->A.map (·.block)≠some b
theorem IL.kpz {p:Nat->Prop}{w w':World}{A:Option Addr}{c:Nat}{xs:List Int}(h:IL w A c xs)(k:KpP p w w')(hn:xs≠[]->∀b,A.map (·.block)=some b->¬p b):IL w' A c xs:=by
 refine⟨h.le,h.cap,h.rng,fun hx=>?_⟩;obtain⟨b,o,rfl,hc⟩:=h.at_ hx;refine⟨b,o,rfl,fun i hi=>?_⟩;have h1:=hc i hi;rw[World.cell?_of_block (w:=w) (k.block b (World.block_lt_of_cell? _ _ h1) (hn hx b rfl))];exact h1
theorem IL.bltz {w:World}{A:Option Addr}{c:Nat}{xs:List Int}(h:IL w A c xs)(hx:xs≠[]){b:Nat}(hb:A.map (·.block)=some b):b<w.heap.size:=by
 obtain⟨b',o,rfl,hc⟩:=h.at_ hx;have:b'=b:=by simpa using hb
 subst this;exact World.block_lt_of_cell? _ _ (hc 0 (List.length_pos_iff.2 hx))
namespace SZ
variable {w w':World} {base c:Nat} {A:Option Addr} {hs:List Hz}
theorem ext (h:SZ w base A c hs)(x:Ext w w'):SZ w' base A c hs:=⟨QQ.ext h.own x,fun z hz=>(h.il z hz).ext x,h.ap⟩
theorem nil (w:World)(base:Nat):SZ w base none 0 []:=⟨QQ.nil _ _ _ _,by simp,by simp⟩
theorem kp {p:Nat->Prop}(h:SZ w base A c hs)(k:KpP p w w')(h1:∀b,A.map (·.block)=some b->¬p b)(h2:∀z∈hs,z.l≠[]->∀b,z.A.map (·.block)=some b->¬p b):SZ w' base A c hs:=
 ⟨QQ.kp h.own k h1,fun z hz=>(h.il z hz).kpz k (h2 z hz),h.ap⟩
theorem one {z:Hz}{g:Nat}(hb:Blk w g 22 #[.slice z.A z.l.length z.c])(hg:base<=g)(hz:IL w z.A z.c z.l)(hn:z.l≠[]->∀b,z.A.map (·.block)=some b->b≠g):SZ w base (some ⟨g,0,none⟩) 1 [z]:=by
 refine⟨QQ.of_blk (size:=1) (c:=1) (n:=1) hb hg rfl (Nat.le_refl _) um,?_,?_⟩
 ·intro y hy;have:y=z:=by simpa using hy
  subst this;exact hz
 ·intro y hy hx b hb2 e;have:y=z:=by simpa using hy
  subst this;have:g=b:=by simpa using e
  exact hn hx b hb2 this.symm
theorem push {z:Hz}(h:SZ w base A c hs)(hz:IL w z.A z.c z.l)(hza:z.l≠[]->∀b,z.A.map (·.block)=some b->A.map (·.block)≠some b){A':Option Addr}{c':Nat}
 (ho:QQ w' base 22 1 A' (hs.length+1) c' (VH hs++[.slice z.A z.l.length z.c])) (hg:(w.alloc (.cells #[.slice z.A z.l.length z.c] 22)).grownBy w' (A.map (·.block)))
 (hat:A'.map (·.block)=A.map (·.block)\/A'.map (·.block)=some (w.alloc (.cells #[.slice z.A z.l.length z.c] 22)).heap.size):SZ w' base A' c' (hs++[z]):=by
 have kk:=KpP.of_grown hg;have ex:=Ext.alloc w (.cells #[.slice z.A z.l.length z.c] 22);have off:∀y:Hz,IL w y.A y.c y.l->(y.l≠[]->∀b,y.A.map (·.block)=some b->A.map (·.block)≠some b)->IL w' y.A y.c y.l/\(y.l≠[]->∀b,y.A.map (·.block)=some b->A'.map (·.block)≠some b):=fun y h1 h2=>by
  refine⟨(h1.ext ex).kpz kk h2,fun hx b hb e=>?_⟩;rcases hat with e2|e2
  ·rw[e2] at e;exact h2 hx b hb e
  ·rw[e2] at e;injection e with e
   have:=h1.bltz hx hb;simp only[World.size_alloc] at e;omega
 refine⟨?_,fun y hy=>?_,fun y hy=>?_⟩
 ·rw[List.length_append];have e:VH (hs++[z])=VH hs++[.slice z.A z.l.length z.c]:=by simp[VH]
  rw[e];exact ho
 ·rcases List.mem_append.1 hy with hy|hy
  ·exact(off y (h.il y hy) (h.ap y hy)).1
  ·have:y=z:=by simpa using hy
   subst this;exact(off y hz hza).1
 ·rcases List.mem_append.1 hy with hy|hy
  ·exact(off y (h.il y hy) (h.ap y hy)).2
  ·have:y=z:=by simpa using hy
   subst this;exact(off y hz hza).2
theorem cells (h:SZ w base A c hs):QP w A (VH hs):=QQ.cells h.own
theorem get {k:Nat}(h:SZ w base A c hs)(hk:k<hs.length):∃b o,A=some ⟨b,o,none⟩/\w.cell? ⟨b,o+k,none⟩=some (.slice hs[k].A hs[k].l.length hs[k].c):=by
 obtain⟨b,o,hA,hcell⟩:=h.cells (by intro e;have:=DZ hs;rw[e] at this;simp at this;omega);refine⟨b,o,hA,?_⟩;have:=hcell k (by rw[DZ];exact hk)
 simpa[VH] using this
theorem ln {hl:List Hl}(h:SZ w base A c (hl.map Hl.z)):LN w A c hl:=by
 have ho:=h.own;rw[jZ,List.length_map] at ho;exact LN.of_own ho (fun z hz=>h.il z.z (List.mem_map_of_mem hz))
end SZ
structure WdI (f:St->Int->St)(cs:List Int)(dn:St->Bool)(R:List St)(s:St)(hs:List St)(ws:List (List Int))(i k:Nat):Prop where
 len:ws.length=hs.length
 head:s∈hs
 nd:hs.Nodup
 inR:∀x∈hs,x=s\/x∈R
 word:∀j (h1:j<hs.length) (h2:j<ws.length),ws[j].foldl f s=hs[j]/\∀c∈ws[j],c∈cs
 clo:∀j (h1:j<hs.length) q (h2:q<cs.length),j<i\/(j=i/\q<k)->dn (f hs[j] cs[q])=false/\(f hs[j] cs[q]=[]\/f hs[j] cs[q]∈hs)
namespace WdI
variable {f:St->Int->St} {cs:List Int} {dn:St->Bool} {R:List St} {s:St} {hs:List St} {ws:List (List Int)} {i k:Nat}
theorem start (f:St->Int->St)(cs:List Int)(dn:St->Bool)(R:List St)(s:St):WdI f cs dn R s [s] [[]] 0 0:=by
 refine⟨rfl,by simp,by simp,fun x hx=>.inl (by simpa using hx),fun j h1 h2=>?_,fun j h1 q h2 h=>om⟩;have:j=0:=by simpa using h1
 subst this;simp
theorem bound (h:WdI f cs dn R s hs ws i k)(hR:R.length<=1024):hs.length<=1025:=by
 have:=List.Nodup.length_le_of_subset (l₁:=hs) (l₂:=s::R) h.nd (fun x hx=>by rcases h.inR x hx with rfl|h1<;>simp[*]);simp only[List.length_cons] at this;omega
theorem skip (h:WdI f cs dn R s hs ws i k)(hi:i<hs.length)(hk:k<cs.length)(hd:dn (f hs[i] cs[k])=false)(ht:f hs[i] cs[k]=[]\/f hs[i] cs[k]∈hs):WdI f cs dn R s hs ws i (k+1):=by
 refine⟨h.len,h.head,h.nd,h.inR,h.word,fun j h1 q h2 hjq=>?_⟩;by_cases he:j=i/\q=k
 ·obtain⟨rfl,rfl⟩:=he;exact⟨hd,ht⟩
 ·exact h.clo j h1 q h2 om
theorem add (h:WdI f cs dn R s hs ws i k)(hi:i<hs.length)(hk:k<cs.length)(hd:dn (f hs[i] cs[k])=false)(hn:f hs[i] cs[k]∉hs)(hR:f hs[i] cs[k]∈R)(hw:i<ws.length) :
 WdI f cs dn R s (hs++[f hs[i] cs[k]]) (ws++[ws[i]++[cs[k]]]) i (k+1):=by
 refine⟨by simp[h.len],by simp[h.head],?_,fun x hx=>?_,fun j h1 h2=>?_,fun j h1 q h2 hjq=>?_⟩
 ·rw[List.nodup_append];exact⟨h.nd,by simp,fun a ha b hb=>by
   have:b=f hs[i] cs[k]:=by simpa using hb
   subst this;rintro rfl;exact hn ha⟩
 ·rcases List.mem_append.1 hx with hx|hx
  ·exact h.inR x hx
  ·have:x=f hs[i] cs[k]:=by simpa using hx
   exact .inr (this▸hR)
 ·by_cases hj:j<hs.length
  ·have hj2:j<ws.length:=by rw[h.len];exact hj
   rw[List.getElem_append_left hj2,List.getElem_append_left hj];exact h.word j hj hj2
  ·have hjl:j=hs.length:=by simp at h1;omega
   subst hjl;have e1:(hs++[f hs[i] cs[k]])[hs.length]'h1=f hs[i] cs[k]:=by simp
   have e2:(ws++[ws[i]++[cs[k]]])[hs.length]'h2=ws[i]++[cs[k]]:=by
    rw[List.getElem_append_right (by rw[h.len];exact Nat.le_refl _)];simp[h.len]
   rw[e1,e2,List.foldl_append,(h.word i hi hw).1];refine⟨rfl,fun c hc=>?_⟩;rcases List.mem_append.1 hc with hc|hc
   ·exact(h.word i hi hw).2 c hc
   ·have:c=cs[k]:=by simpa using hc
    subst this;exact List.getElem_mem hk
 ·have hjl:j<=i:=om;have hj:j<hs.length:=om;rw[List.getElem_append_left hj];by_cases he:j=i/\q=k
  ·obtain⟨rfl,rfl⟩:=he;exact⟨hd,.inr si⟩
  ·obtain⟨h3,h4⟩:=h.clo j hj q h2 om;exact⟨h3,h4.imp id (fun h5=>by simp[h5])⟩
theorem row (h:WdI f cs dn R s hs ws i k)(hk:cs.length<=k):WdI f cs dn R s hs ws (i+1) 0:=
 ⟨h.len,h.head,h.nd,h.inR,h.word,fun j h1 q h2 hjq=>h.clo j h1 q h2 om⟩
theorem none_ (h:WdI f cs dn R s hs ws i k)(hi:hs.length<=i):¬Opn f cs dn s:=
 RT (S:=hs) (fun x hx c hc=>by
  obtain⟨j,hj,rfl⟩:=List.mem_iff_getElem.1 hx;obtain⟨q,hq,rfl⟩:=List.mem_iff_getElem.1 hc;exact h.clo j hj q hq (.inl om)) h.head
end WdI
theorem qY {G:List Ins}(fs:List Nat):(QX G fs).length<=G.length:=by
 have h1:∀(r:List Nat) (s:List Nat×List Nat),Zy G.length s.2->s.1.length<=s.2.length->(r.foldl (WZ G (G.length+1)) s).1.length<=G.length:=by
  intro r;induction r with
  | nil=>intro s hs hl;have:=hs.len;simp only[List.foldl_nil];omega
  | cons p r ih=>
   intro s hs hl;rw[List.foldl_cons];refine ih _ (XU _ _ _ hs) ?_;have:=V8 G (G.length+1) s p;omega
 have h2:∀l:List Nat,(VY G l).length<=l.length:=by
  intro l;induction l with
  | nil=>simp[VY]
  | cons p r ih=>
   unfold VY
   split
   ·simp
   ·simp only[List.length_cons];omega
 exact Nat.le_trans (h2 _) (h1 fs ([],[]) (Zy.nil _) (Nat.le_refl _))
theorem YI {hs:List Hin}(fs:List Nat):∀p∈QX (QW hs) fs,p<hs.length:=fun p hp=>by
 obtain⟨h,_⟩:=CG (QW hs) fs p hp
 rwa [Qw] at h
end
section
open Go.RowKit
attribute [local go_sem ↓] Go.wp_at_zero Go.wp_at_succ
theorem DJ {f:St->Int->St}{dn:St->Bool}:∀(l:List Int) (k:Nat) (s:St) (last c:Int),WE f dn (l++[c]) k s last =
 (f (WE f dn l k s last).1 c,if dn (f (WE f dn l k s last).1 c)=true then((k+l.length+1:Nat):Int) else(WE f dn l k s last).2)
 | [],k,s,last,c=>rfl
 | x::l,k,s,last,c=>by
  rw[List.cons_append,WE,DJ l (k+1),WE,List.length_cons];have e:k+1+l.length+1=k+(l.length+1)+1:=om;rw[e]
def rrun (G:List Ins)(s:St)(ts:List Int)(fr:Int):St×Int:=WE (QZ G) (Qk G) ts 0 s (if Qk G s=true/\fr=0 then 0 else -1)
theorem Lw (G:List Ins)(s:St)(ts:List Int)(fr:Int) : -1<=(rrun G s ts fr).2/\(rrun G s ts fr).2<=ts.length:=by
 have gen:∀(l:List Int) (k:Nat) (s:St) (last:Int),-1<=last->last<=k->-1<=(WE (QZ G) (Qk G) l k s last).2/\(WE (QZ G) (Qk G) l k s last).2<=(k+l.length:Nat):=by
  intro l;induction l with
  | nil=>intro k s last h1 h2;simp only[WE,List.length_nil];omega
  | cons c l ih=>
   intro k s last h1 h2;rw[WE,List.length_cons];have:=ih (k+1) (QZ G s c) (if Qk G (QZ G s c)=true then((k+1:Nat):Int) else last) (by split<;>omega) (by split<;>omega);omega
 unfold rrun;have:=gen ts 0 s (if Qk G s=true/\fr=0 then 0 else -1) (by split<;>omega) (by split<;>omega)
 simpa using this
def GJ (n:Nat)(s:St):Prop:=(∀p∈s,p<n)/\s.length<=8192
theorem Sj {runes:Bool}{caps:Int}{hs:List Hin}(hG:GOk runes caps (QW hs))(s:St)(c:Int):GJ hs.length (QZ (QW hs) s c):=by
 refine⟨YI _,?_⟩;have h1:=qY (G:=QW hs) ((s.filter (Jv (QW hs) c)).map (·+1));have h2:=hG.len;unfold QZ;omega
theorem Bj {runes:Bool}{caps:Int}{hs:List Hin}(hG:GOk runes caps (QW hs)):∀(l:List Int) (k:Nat) (s:St) (last:Int),GJ hs.length s->GJ hs.length (WE (QZ (QW hs)) (Qk (QW hs)) l k s last).1
 | [],_,_,_,h=>h
 | _::l,k,s,_,_=>by rw[WE];exact Bj hG l (k+1) _ _ (Sj hG s _)
def eq (r:St×Int)(w:World)(e:Ending)(w':World):Prop:=∃(A:Option Addr) (c:Nat),e=.returned (.tuple #[.slice A (QJ r.1).length c,.int .i64 r.2])/\IL w' A c (QJ r.1)/\Ext w w'
theorem UR {P:Prop} (h:P:=by
 clear HR HTS
 go_wp2_with fail
 refine HD5.out.mono ?_;rintro e w6 ⟨rfl,x6⟩;have xf:=(y1.trans y5).trans x6;have HBf:=lh (HB5.out.ext x6)
 go_wp2_with fail
 go_roundw
 case rel=>exact⟨i+1,B,d,by go_num,om,by rw[HRR.out],by rw[HRR.out],by rw[HRR.out];exact HBf,xf⟩
 case measure=>simp[intOf];omega):P:=h
theorem Mk {P:Prop} (h:P:=by
 go_enter Tryz.func39,Tryz.ntmps39
 go_wp2_with fail
 refine HD0.out.mono ?_;rintro e w1 ⟨rfl,x1⟩;clear HD0
 go_upto_region 6 with fail
 have bG1:=bG.ext x1;have hP1:=hP0.ext x1;have hT1:=hT0.ext x1;have hS1:=hS0.ext x1;have HLE0:=lh (show(WE (QZ (QW hs)) (Qk (QW hs)) (ts.take 0) 0 s l0).2=l0 from rfl)
 go_loopw [1,10,12] (fun v1 v10 v12 wr=>∃(i:Nat) (A:Option Addr) (c:Nat),v12=.int .i64 i/\i<=ts.length/\v1=.slice A (QJ (WE (QZ (QW hs)) (Qk (QW hs)) (ts.take i) 0 s l0).1).length c/\v10=.int .i64 (WE (QZ (QW hs)) (Qk (QW hs)) (ts.take i) 0 s l0).2/\
  Hid (IL wr A c (QJ (WE (QZ (QW hs)) (Qk (QW hs)) (ts.take i) 0 s l0).1))/\Ext w1 wr) (fun _ _ v _=>ts.length-(intOf v).toNat)
 case atStart=>exact⟨0,A,c,rfl,om,rfl,by rw[HLE0.out,HLE.out],lh hS1,Ext.rfl' _⟩
 case round=>
  clear HLE HLE0;obtain⟨i,A1,c1,rfl,hi,rfl,rfl,HI,y1⟩:=hrel;have bG2:=bG1.ext y1;obtain⟨r0,r1,r2,r0f,r1f,r2f,rz⟩:=bG2.c3;by_cases hlt:i<ts.length
  ·have hiI:(i:Int)<ts.length:=om;obtain⟨tb,to_,rfl,t0⟩:=(hT1.ext y1).get hlt;have HR:=lh (DJ (f:=QZ (QW hs)) (dn:=Qk (QW hs)) (ts.take i) 0 s l0 ts[i]);have HTS:=lh (show ts.take (i+1)=ts.take i++[ts[i]] from List.take_succ_eq_append_getElem hlt);have HTL:=lh (show(ts.take i).length=i by rw[List.length_take];omega);have HO:=(HOK i).out;generalize hr:WE (QZ (QW hs)) (Qk (QW hs)) (ts.take i) 0 s l0=r at *;obtain⟨rs,rl⟩:=r
   simp only at HI HO HR ⊢
   clear hr;generalize ts[i]=y at *;have HN:=fun(w':World) (x:Ext wr w')=>HNX w' ((hP1.ext y1).ext x) A1 c1 rs (HI.out.ext x) HO.1 HO.2 y;have htp:∀p∈QZ (QW hs) rs y,p<hs.length:=YI _;have HDD:=fun(w':World) (x:Ext wr w') (B:Option Addr) (d:Nat) (h:IL w' B d (QJ (QZ (QW hs) rs y)))=>HDN w' ((hP1.ext y1).ext x) B d _ h htp;obtain⟨t,ht⟩:∃t,t=QZ (QW hs) rs y:=⟨_,rfl⟩
   rw[<-ht] at HN HDD HR;clear ht htp;have k0:=kc0 r0;have k1:=kc0 r1;have k2:=kc0 r2;have k3:=kc0 t0
   go_wp2_with fail
   refine Xr.start [] kr ?_;refine Xtk 0 ?_
   iterate 5(refine Xtn ?_)
   refine Xcl 6 fun w3 hE3 hK3 K hKK=>?_;go_simp;refine(HN w3 hE3).out.mono ?_;rintro e w4 ⟨B,d,rfl,hB,x4,_⟩;refine hKK _ _ x4 ?_;clear hKK;refine ptm ?_;refine Xtk 7 ?_;refine Xdn fun w5 hE5 hK5=>?_;have y5:=hK5.nil;have hB5:=hB.ext hE5;have bG5:=bG2.ext y5;have HD5:=HDD w5 y5 B d hB5;have HB5:=lh hB5;clear k0 k1 k2 k3 r0 r1 r2 r0f r1f r2f rz t0 hE3 hK3 hE5 hK5 HN HDD HI hB hB5 x4;obtain⟨r0,r1,r2,r0f,r1f,r2f,rz⟩:=bG5.c3;generalize hdt:Qk (QW hs) t=dt at *;have HDT:=lh hdt;clear hdt;cases dt
   ·have HRR:=lh (show WE (QZ (QW hs)) (Qk (QW hs)) (ts.take (i+1)) 0 s l0=(t,rl) by rw[HTS.out,HR.out];rfl);exact UR
   ·have HRR:=lh (show WE (QZ (QW hs)) (Qk (QW hs)) (ts.take (i+1)) 0 s l0=(t,(i:Int)+1) by
     rw[HTS.out,HR.out,HTL.out]
     simp)
    exact UR
  ·have hiI:¬(i:Int)<ts.length:=om;have HTA:=lh (show ts.take i=ts from List.take_of_length_le om);rw[HTA.out] at HI ⊢;have HIA:=HI
   go_wp2_with fail
   go_ret2
   exact⟨A1,c1,rfl,HIA.out,(eG.trans x1).trans y1⟩):P:=h
theorem Sk (gA:Option Addr)(gc:Nat)(hs:List Hin)(runes:Bool)(caps:Int)(hG:GOk runes caps (QW hs))(w:World)(hP:PL w gA gc hs)(A:Option Addr)(c:Nat)(s:List Nat)(hS:IL w A c (QJ s))(hs0:GJ hs.length s)(T:Option Addr)(tc:Nat)(ts:List Int)(hT:IL w T tc ts)(fr:Int) :
 Calls Tryz.prog 39 #[QN gA hs.length gc caps runes,.slice A (QJ s).length c,.slice T ts.length tc,.int .i64 fr] w (eq (rrun (QW hs) s ts fr) w):=by
 have hcap:=hP.len;have hcT:=hT.len;have bG:=Blk.new w 33 #[.slice gA hs.length gc,.int .i64 caps,.bool runes];have eG:=Ext.alloc w (.cells #[.slice gA hs.length gc,.int .i64 caps,.bool runes] 33);have HNX:=fun(w:World) (hP:PL w gA gc hs) A c l hL hl hll x=>lh (xT gA gc hs runes caps hG w hP A c l hL hl hll x);have HDN:=fun(w:World) (hP:PL w gA gc hs) A c l hL hl=>lh (GQ gA gc hs runes caps w hP A c l hL hl);have HOK:=fun(k:Nat)=>lh (Bj hG (ts.take k) 0 s (if Qk (QW hs) s=true/\fr=0 then 0 else -1) hs0);unfold QN at HNX HDN ⊢;have hP0:=hP.ext eG;have hS0:=hS.ext eG;have hT0:=hT.ext eG;have HD0:=HDN _ hP0 A c s hS0 hs0.1;unfold rrun;obtain⟨l0,hl0⟩:∃l0:Int,l0=(if Qk (QW hs) s=true/\fr=0 then 0 else -1):=⟨_,rfl⟩
 rw[<-hl0]
 rw[<-hl0] at HOK;have HL0:=lh hl0;clear hl0 hs0 hG;have X:∀W,Ext w W->True:=fun _ _=>trivial;clear X;obtain⟨sd,hsd⟩:∃sd,sd=Qk (QW hs) s:=⟨_,rfl⟩
 rw[<-hsd] at HD0;have HSD:=lh hsd;clear hsd;cases sd
 ·have HLE:=lh (show l0 = -1 by rw[HL0.out,if_neg];rintro⟨h,_⟩;rw[<-HSD.out] at h;cases h);clear HL0 HSD;exact Mk
 ·by_cases hf:fr=0
  ·have HLE:=lh (show l0=0 by rw[HL0.out,if_pos ⟨HSD.out.symm,hf⟩]);subst hf;clear HL0 HSD;exact Mk
  ·have HLE:=lh (show l0 = -1 by rw[HL0.out,if_neg (fun h=>hf h.2)]);have hf2:(fr == 0)=false:=by simp[hf]
   clear HL0 HSD hf;exact Mk
theorem zV {P:Prop} (h:P:=by
 go_enter Tryz.func76,Tryz.ntmps76
 go_wp2
 go_ret
 exact⟨rfl,Ext.rfl' _⟩):P:=h
theorem OB (x:Int)(runes:Bool)(w:World):Calls Tryz.prog 76 #[.int .i64 x,.bool runes] w (QD (.bool (Qy runes x)) w):=by
 cases runes
 ·by_cases h1:0<=x
  ·by_cases h2:x<=255
   ·rw[show Qy false x=true by simp[Qy];omega];exact zV
   ·rw[show Qy false x=false by simp[Qy];omega];exact zV
  ·rw[show Qy false x=false by simp[Qy];omega];exact zV
 ·by_cases h1:0<=x
  ·by_cases h2:x<55296
   ·rw[show Qy true x=true by simp[Qy];omega];exact zV
   ·by_cases h3:57343<x
    ·by_cases h4:x<=1114111
     ·rw[show Qy true x=true by simp[Qy];omega];exact zV
     ·rw[show Qy true x=false by simp[Qy];omega];exact zV
    ·rw[show Qy true x=false by simp[Qy];omega];exact zV
  ·rw[show Qy true x=false by simp[Qy];omega];have h3:¬57343<x:=om;exact zV
theorem aT (gA:Option Addr)(n gc:Nat)(caps:Int)(runes:Bool)(w:World):Calls Tryz.prog 68 #[QN gA n gc caps runes] w (QD (.int .i64 (Wj runes)) w):=by
 unfold QN;cases runes
 ·go_enter Tryz.func68,Tryz.ntmps68
  go_wp2
  go_ret
  exact⟨rfl,Ext.alloc _ _⟩
 ·go_enter Tryz.func68,Tryz.ntmps68
  go_wp2
  go_ret
  exact⟨rfl,Ext.alloc _ _⟩
def ez (runes:Bool)(w:World)(e:Ending)(w':World):Prop:=
 ∃(a b:Nat),e=.returned (.func (Fn.func 165) #[] #[.pointer (some ⟨a,0,none⟩),.pointer (some ⟨b,0,none⟩)])/\w'.cell? ⟨a,0,none⟩=some (.int .i64 (Wj runes))/\w'.cell? ⟨b,0,none⟩=some (.bool runes)/\Ext w w'
theorem IE (runes:Bool)(w:World):Calls Tryz.prog 130 #[.bool runes] w (ez runes w):=by
 have hb:=Blk.new w 4 #[.bool runes];have e1:=Ext.alloc w (.cells #[.bool runes] 4);have h1:=fun(t:Int)=>(hb.ext (Ext.alloc (w.alloc (.cells #[.bool runes] 4)) (.cells #[.int .i64 t] 3))).cell 0;have h2:=fun(t:Int)=>(Blk.new (w.alloc (.cells #[.bool runes] 4)) 3 #[.int .i64 t]).cell 0;simp only[World.size_alloc] at h2;replace h1:=lh h1;replace h2:=lh h2;clear hb e1;cases runes
 ·go_enter Tryz.func130,Tryz.ntmps130
  go_wp2
  go_ret
  exact⟨_,_,rfl,h2.out 255,h1.out 255,(Ext.alloc _ _).trans (Ext.alloc _ _)⟩
 ·go_enter Tryz.func130,Tryz.ntmps130
  go_wp2
  go_ret
  exact⟨_,_,rfl,h2.out 1114111,h1.out 1114111,(Ext.alloc _ _).trans (Ext.alloc _ _)⟩
theorem Mv {P:Prop} (h:P:=by
 go_enter Tryz.func166,Tryz.ntmps166
 go_wp2
 go_ret
 exact⟨rfl,Ext.rfl' _⟩):P:=h
theorem Sv (x:Int)(w:World):Calls Tryz.prog 166 #[.int .i64 x] w (QD (.bool (decide (55296<=x/\x<=57343))) w):=by
 by_cases h1:55296<=x
 ·by_cases h2:x<=57343
  ·rw[decide_eq_true ⟨h1,h2⟩];exact Mv
  ·rw[decide_eq_false (fun h=>h2 h.2)];exact Mv
 ·rw[decide_eq_false (fun h=>h1 h.1)];exact Mv
theorem AJ {P:Prop} (h:P:=by
 go_enter Tryz.func165,Tryz.ntmps165
 go_wp2
 go_ret
 exact⟨rfl,Ext.rfl' _⟩):P:=h
theorem US {P:Prop} (h:P:=by
 clear h3;go_enter Tryz.func165,Tryz.ntmps165
 go_wp2_with fail
 refine(hs _).out.mono ?_;rintro e w1 ⟨rfl,x1⟩
 go_wp2_with fail
 go_ret
 exact⟨rfl,x1⟩):P:=h
theorem Sw (x:Int)(runes:Bool)(a b:Nat)(w:World)(ha:w.cell? ⟨a,0,none⟩=some (.int .i64 (Wj runes)))(hb:w.cell? ⟨b,0,none⟩=some (.bool runes)) :
 Calls Tryz.prog 165 #[.int .i64 x,.pointer (some ⟨a,0,none⟩),.pointer (some ⟨b,0,none⟩)] w (QD (.bool (!Qy runes x)) w):=by
 have hs:=fun(w':World)=>lh (Sv x w');cases runes
 ·have ht:Wj false=255:=rfl;rw[ht] at ha;clear ht hs;by_cases h1:x<0
  ·rw[show Qy false x=false by simp[Qy];omega];exact AJ
  ·by_cases h2:255<x
   ·rw[show Qy false x=false by simp[Qy];omega];exact AJ
   ·rw[show Qy false x=true by simp[Qy];omega];exact AJ
 ·have ht:Wj true=1114111:=rfl;rw[ht] at ha;clear ht;by_cases h1:x<0
  ·rw[show Qy true x=false by simp[Qy];omega];exact AJ
  ·by_cases h2:1114111<x
   ·rw[show Qy true x=false by simp[Qy];omega];exact AJ
   ·by_cases h3:55296<=x/\x<=57343
    ·rw[decide_eq_true h3] at hs;rw[show Qy true x=false by simp[Qy];omega];exact US
    ·rw[decide_eq_false h3] at hs;rw[show Qy true x=true by simp[Qy];omega];exact US
theorem Sy {runes:Bool}{l:List Int}{k:Nat}(hk:k<l.length)(h:Qy runes l[k]=false):l.all (Qy runes)=false:=by
 rw[List.all_eq_false];exact⟨l[k],List.getElem_mem hk,by simp[h]⟩
theorem OC {runes:Bool}{l:List Int}{k:Nat}(hk:k<l.length)(h0:(l.take k).all (Qy runes)=true)(h:Qy runes l[k]=true):(l.take (k+1)).all (Qy runes)=true:=by
 rw[List.take_succ_eq_append_getElem hk,List.all_append,h0];simp[h]
theorem Mw (A:Option Addr)(c:Nat)(l:List Int)(runes:Bool)(a b:Nat)(w:World)(hl:IL w A c l)(ha:w.cell? ⟨a,0,none⟩=some (.int .i64 (Wj runes)))(hb:w.cell? ⟨b,0,none⟩=some (.bool runes)) :
 Calls Tryz.prog 164 #[.slice A l.length c,.func (Fn.func 165) #[] #[.pointer (some ⟨a,0,none⟩),.pointer (some ⟨b,0,none⟩)]] w fun e w'=>∃k:Int,e=.returned (.int .i64 k)/\(decide (0<=k) = !l.all (Qy runes))/\Ext w w':=by
 obtain⟨a1,a2⟩:=hl.len;go_enter Tryz.func164,Tryz.ntmps164
 go_wp2
 go_loopw [8] (fun i wr=>∃k:Nat,k<=l.length/\i=.int .i64 k/\Hid ((l.take k).all (Qy runes)=true)/\Ext w wr) (fun i _=>l.length-(intOf i).toNat)
 case atStart=>exact⟨0,Nat.zero_le _,rfl,rfl,Ext.rfl' _⟩
 case round=>
  obtain⟨k,hk,rfl,ht,hext⟩:=hrel;by_cases hlt:k<l.length
  ·obtain⟨p1,o1,rfl,g1⟩:=hl.get hlt;replace g1:=hext.cell g1;have hlt2:(k:Int)<l.length:=om;have HC:=lh (Sw l[k] runes a b wr (hext.cell ha) (hext.cell hb));by_cases hs:Qy runes l[k]=true
   ·have hs2:=lh (OC hlt ht.out hs);rw[hs] at HC;generalize l[k]=y at *;clear hs ht
    go_wp2_with fail
    refine HC.out.mono ?_;rintro e w1 ⟨rfl,hx1⟩;have xf:=hext.trans hx1
    go_wp2
    go_roundw
    case rel=>exact⟨k+1,om,by go_num,hs2,xf⟩
    case measure=>simp[intOf];omega
   ·have hs1:Qy runes l[k]=false:=by simpa using hs
    have hbad:=lh (Sy hlt hs1);rw[hs1] at HC;generalize l[k]=y at *;clear hs ht hs1
    go_wp2_with fail
    refine HC.out.mono ?_;rintro e w1 ⟨rfl,hx1⟩
    go_wp2
    go_ret
    exact⟨_,rfl,by rw[hbad.out];simp,hext.trans hx1⟩
  ·go_wp2
   go_ret
   have h1:=ht.out;rw[List.take_of_length_le om] at h1;exact⟨_,rfl,by rw[h1];simp,hext⟩
theorem ED (A:Option Addr)(c:Nat)(l:List Int)(runes:Bool)(a b:Nat)(w:World)(hl:IL w A c l)(ha:w.cell? ⟨a,0,none⟩=some (.int .i64 (Wj runes)))(hb:w.cell? ⟨b,0,none⟩=some (.bool runes)) :
 Calls Tryz.prog 129 #[.slice A l.length c,.func (Fn.func 165) #[] #[.pointer (some ⟨a,0,none⟩),.pointer (some ⟨b,0,none⟩)]] w (QD (.bool (!l.all (Qy runes))) w):=by
 have HX:=lh (Mw A c l runes a b w hl ha hb);generalize l.all (Qy runes)=al at *;cases al
 ·go_enter Tryz.func129,Tryz.ntmps129
  go_wp2_with fail
  refine HX.out.mono ?_;rintro e w2 ⟨k,rfl,hk,x2⟩;have hk0:decide (0<=k)=true:=hk;clear hk
  go_wp2_with fail
  go_ret
  exact⟨rfl,x2⟩
 ·go_enter Tryz.func129,Tryz.ntmps129
  go_wp2_with fail
  refine HX.out.mono ?_;rintro e w2 ⟨k,rfl,hk,x2⟩;have hk0:decide (0<=k)=false:=hk;clear hk
  go_wp2_with fail
  go_ret
  exact⟨rfl,x2⟩
def XC (runes:Bool)(l:List Int):Int:=if 65536<l.length then 4 else if l.all (Qy runes)=true then 0 else 5
theorem UT {P:Prop} (h:P:=by
 go_enter Tryz.func79,Tryz.ntmps79
 go_wp2_with fail
 refine HO.out.mono ?_;rintro e w1 ⟨a,b,rfl,h1,h2,x1⟩;have HX2:=HX a b w1 x1 h1 h2;clear HX
 go_wp2_with fail
 refine HX2.out.mono ?_;rintro e w2 ⟨rfl,x2⟩
 go_wp2_with fail
 go_ret
 exact⟨rfl,x1.trans x2⟩):P:=h
theorem jI (A:Option Addr)(c:Nat)(l:List Int)(runes:Bool)(w:World)(hl:IL w A c l):Calls Tryz.prog 79 #[.slice A l.length c,.bool runes] w (QD (.int .i64 (XC runes l)) w):=by
 have hcap:=hl.len;by_cases hb:65536<l.length
 ·have hbI:(65536:Int)<l.length:=om;have e:XC runes l=4:=by unfold XC;rw[if_pos hb]
  rw[e];clear e;go_enter Tryz.func79,Tryz.ntmps79
  go_wp2
  go_ret
  exact⟨rfl,Ext.rfl' _⟩
 ·have hbI:¬(65536:Int)<l.length:=om;have HO:=lh (IE runes w);have e:XC runes l=if l.all (Qy runes)=true then 0 else 5:=by unfold XC;rw[if_neg hb]
  rw[e];clear e hb;have HX:=fun(a b:Nat) (w':World) (x:Ext w w') h1 h2=>lh (ED A c l runes a b w' (hl.ext x) h1 h2);generalize l.all (Qy runes)=al at *;cases al
  ·exact UT
  ·exact UT
theorem Ly {w:World}{o:Oper}{a:Act}{K:Act->World->Prop}{Q:Exit->Act->World->Prop}(s x:Operand)(t:Nat)
 (ho:o.op=.call { callee:=.builtin .append,args:=#[s,x],argTypes:=#[t,t] }) (ht:Tryz.prog.underlying t=some (.slice 3))
 (base:Nat) (hbase:base<=w.heap.size) (A:Option Addr) (c:Nat) (xs:List Int) (hs:a.eval s=.slice A xs.length c) (hown:WO w base 3 A c xs)
 (B:Option Addr) (d:Nat) (ys:List Int) (hx:a.eval x=.slice B ys.length d) (hy:QP w B (ys.map (Value.int .i64))) (hb:xs.length+ys.length<=1000000000) (zs:List Int) (hz:zs=xs++ys) (dd:Option Tmp) (hd:o.dst=dd)
 (h:∀A' c' w',WO w' base 3 A' c' zs->w.grownBy w' (A.map (·.block))->(A'.map (·.block)=A.map (·.block)\/A'.map (·.block)=some w.heap.size)->K (a.put dd (.slice A' zs.length c')) w'):o.wp Tryz.prog a w K Q:=by
 subst hd;obtain⟨iB,jB0,jB1,jB2,jB3⟩:=info_parts YF;refine VT w s x t ho base 3 iB _ 1 8 ht jB0 jB1 jB2 jB3 rfl om A xs.length c (xs.map (Value.int .i64)) hs hown B ys.length d (ys.map (Value.int .i64)) hx si hy (ZP _) um om hbase ?_;intro A' c' w' ho' hg hat;subst hz;have hl:(xs++ys).length=xs.length+ys.length:=by simp
 rw[<-hl] at ho' ⊢;refine h A' c' w' ?_ hg hat;unfold WO;rw[List.map_append];exact ho'
theorem OD {w:World}{g T:Nat}{v:Int}(h:Blk w g T #[.int .i64 v]):QP w (some ⟨g,0,none⟩) ([v].map (Value.int .i64)):=fun _=>⟨g,0,rfl,fun i hi=>by
 have:i=0:=by simpa using hi
 subst this;rw[h.cell];rfl⟩
theorem OE:(Tryz.prog.info? 22).map (fun i=>(i.zero,i.size,i.bytes))=some (some (.slice none 0 0),1,24):=by kernel_rfl
structure WdM (w:World)(base:Nat)(A:Option Addr)(c:Nat)(xs:List Hl)(B:Option Addr)(d:Nat)(ws:List Hz):Prop where
 st:SZ w base A c (xs.map Hl.z)
 wd:SZ w base B d ws
 ab:∀b,A.map (·.block)=some b->B.map (·.block)≠some b
 sa:∀z∈xs,QJ z.l≠[]->∀b,z.A.map (·.block)=some b->B.map (·.block)≠some b
 wa:∀z∈ws,z.l≠[]->∀b,z.A.map (·.block)=some b->A.map (·.block)≠some b
 wl:∀z∈ws,z.l.length<=ws.length
namespace WdM
variable {w w':World} {base c d:Nat} {A B:Option Addr} {xs:List Hl} {ws:List Hz}
theorem ext (h:WdM w base A c xs B d ws)(x:Ext w w'):WdM w' base A c xs B d ws:=⟨h.st.ext x,h.wd.ext x,h.ab,h.sa,h.wa,h.wl⟩
theorem pushS {z:Hl}(h:WdM w base A c xs B d ws)(hz:IL w z.A z.c (QJ z.l))(hza:QJ z.l≠[]->∀b,z.A.map (·.block)=some b->A.map (·.block)≠some b/\B.map (·.block)≠some b){A':Option Addr}{c':Nat}
 (ho:QQ w' base 22 1 A' (xs.length+1) c' (Zz xs++[.slice z.A (QJ z.l).length z.c])) (hg:(w.alloc (.cells #[.slice z.A (QJ z.l).length z.c] 22)).grownBy w' (A.map (·.block)))
 (hat:A'.map (·.block)=A.map (·.block)\/A'.map (·.block)=some (w.alloc (.cells #[.slice z.A (QJ z.l).length z.c] 22)).heap.size):WdM w' base A' c' (xs++[z]) B d ws:=by
 have kk:=KpP.of_grown hg;have ex:=Ext.alloc w (.cells #[.slice z.A (QJ z.l).length z.c] 22);have hp:=SZ.push (z:=z.z) (w':=w') h.st hz (fun hx b hb=>(hza hx b hb).1) (A':=A') (c':=c') (by rw[List.length_map,jZ];exact ho) hg hat;have e:xs.map Hl.z++[z.z]=(xs++[z]).map Hl.z:=by simp
 rw[e] at hp;refine⟨hp,(h.wd.ext ex).kp kk (fun b hb e=>h.ab b e hb) (fun y hy hx b hb e=>h.wa y hy hx b hb e),fun b hb e2=>?_,fun y hy hx b hb=>?_,fun y hy hx b hb e2=>?_,h.wl⟩
 ·rcases hat with e3|e3
  ·rw[e3] at hb;exact h.ab b hb e2
  ·rw[e3] at hb;injection hb with hb
   have:=(QQ.blt h.wd.own e2).1;simp only[World.size_alloc] at hb;omega
 ·rcases List.mem_append.1 hy with hy|hy
  ·exact h.sa y hy hx b hb
  ·have:y=z:=by simpa using hy
   subst this;exact(hza hx b hb).2
 ·rcases hat with e3|e3
  ·rw[e3] at e2;exact h.wa y hy hx b hb e2
  ·rw[e3] at e2;injection e2 with e2
   have:=(h.wd.il y hy).bltz hx hb;simp only[World.size_alloc] at e2;omega
theorem pushW {z:Hz}(h:WdM w base A c xs B d ws)(hzl:z.l.length<=ws.length+1)(hz:IL w z.A z.c z.l)(hza:z.l≠[]->∀b,z.A.map (·.block)=some b->A.map (·.block)≠some b/\B.map (·.block)≠some b){B':Option Addr}{d':Nat}
 (ho:QQ w' base 22 1 B' (ws.length+1) d' (VH ws++[.slice z.A z.l.length z.c])) (hg:(w.alloc (.cells #[.slice z.A z.l.length z.c] 22)).grownBy w' (B.map (·.block)))
 (hat:B'.map (·.block)=B.map (·.block)\/B'.map (·.block)=some (w.alloc (.cells #[.slice z.A z.l.length z.c] 22)).heap.size):WdM w' base A c xs B' d' (ws++[z]):=by
 have kk:=KpP.of_grown hg;have ex:=Ext.alloc w (.cells #[.slice z.A z.l.length z.c] 22);have hp:=SZ.push (z:=z) (w':=w') h.wd hz (fun hx b hb=>(hza hx b hb).2) (A':=B') (c':=d') ho hg hat;refine⟨(h.st.ext ex).kp kk (fun b hb e=>h.ab b hb e) (fun y hy hx b hb e=>?_),hp,fun b hb e2=>?_,fun y hy hx b hb e2=>?_,fun y hy hx b hb=>?_,fun y hy=>?_⟩
 ·obtain⟨q,hq,rfl⟩:=List.mem_map.1 hy;exact h.sa q hq hx b hb e
 ·rcases hat with e3|e3
  ·rw[e3] at e2;exact h.ab b hb e2
  ·rw[e3] at e2;injection e2 with e2
   have:=(QQ.blt h.st.own hb).1;simp only[World.size_alloc] at e2;omega
 ·rcases hat with e3|e3
  ·rw[e3] at e2;exact h.sa y hy hx b hb e2
  ·rw[e3] at e2;injection e2 with e2
   have:=(h.st.il y.z (List.mem_map_of_mem hy)).bltz hx hb;simp only[World.size_alloc] at e2;omega
 ·rcases List.mem_append.1 hy with hy|hy
  ·exact h.wa y hy hx b hb
  ·have:y=z:=by simpa using hy
   subst this;exact(hza hx b hb).1
 ·rw[List.length_append];rcases List.mem_append.1 hy with hy|hy
  ·have:=h.wl y hy;simp only[List.length_cons,List.length_nil];omega
  ·have:y=z:=by simpa using hy
   subst this;simpa using hzl
end WdM
def lH (f:St->Int->St)(cs:List Int)(dn:St->Bool)(s:St)(w:World)(e:Ending)(w':World):Prop:=
 ∃(A:Option Addr) (c:Nat) (wd:List Int) (b:Bool),e=.returned (.tuple #[.slice A wd.length c,.bool b])/\IL w' A c wd/\Ext w w'/\(b=true->wd≠[]/\(∀x∈wd,x∈cs)/\dn (wd.foldl f s)=true)/\(b=false->wd=[]/\¬Opn f cs dn s)/\wd.length<=2000
theorem Sx {P:Prop} (h:P:=by
 go_wp2_with fail
 go_roundw
 case rel=>exact⟨k+1,some ⟨sb,so,none⟩,c1,xs,some ⟨vb,vo,none⟩,d1,ws,by go_num,om,hi,rfl,rfl,HSK2,HMf,xf⟩
 case measure=>simp[intOf];omega):P:=h
theorem GK (gA:Option Addr)(gc:Nat)(hs:List Hin)(runes:Bool)(caps:Int)(hG:GOk runes caps (QW hs))(w:World)(hP:PL w gA gc hs)(SA:Option Addr)(sn sc:Nat)(YA:Option Addr)(yc:Nat)(ys:List Int)(hY:IL w YA yc ys)(hyl:ys.length<=10000)(OA:Option Addr)(on oc:Nat)
 (A:Option Addr) (c:Nat) (s:List Nat) (hS:IL w A c (QJ s)) (hsl:∀p∈s,p<hs.length) (hs8:s.length<=8192) (R:List St) (hR:R.length<=1024) (hRc:∀x∈R,∀y∈ys,QZ (QW hs) x y=[]\/QZ (QW hs) x y∈R) (hsR:∀y∈ys,QZ (QW hs) s y=[]\/QZ (QW hs) s y∈R)
 (hRl:∀x∈R,(∀p∈x,p<hs.length)/\x.length<=8192) :
 Calls Tryz.prog 41 #[JU gA hs.length gc caps runes SA sn sc YA ys.length yc OA on oc,.slice A (QJ s).length c] w (lH (QZ (QW hs)) ys (Qk (QW hs)) s w):=by
 obtain⟨iN,jN0,jN1,jN2,jN3⟩:=info_parts YF;obtain⟨iL,jL0,jL1,jL2,jL3⟩:=info_parts OE;have hcap:=hP.len;have hcY:=hY.len;have hcS:=hS.len;have HSL:=lh (WY s);have bG:=Blk.new w 53 #[.slice gA hs.length gc,.int .i64 caps,.bool runes,.slice SA sn sc,.slice YA ys.length yc,.slice OA on oc];have eG:=Ext.alloc w (.cells #[.slice gA hs.length gc,.int .i64 caps,.bool runes,.slice SA sn sc,.slice YA ys.length yc,.slice OA on oc] 53);have HNX:=fun(w:World) (hP:PL w gA gc hs) A c l hL hl hll x=>lh (xT gA gc hs runes caps hG w hP A c l hL hl hll x);have HDN:=fun(w:World) (hP:PL w gA gc hs) A c l hL hl=>lh (GQ gA gc hs runes caps w hP A c l hL hl);have HFD:=fun(A:Option Addr) c (hs:List Hl) S sc s w hL hS=>lh (Sz A c hs S sc s w hL hS);unfold QN at HNX HDN;unfold JU;have HRC:=lh hRc;have HSR:=lh hsR;have HRL:=lh hRl;have HSS:=lh hsl;have HGG:=lh hG;clear hRc hsR hRl hsl hG;go_enter Tryz.func41,Tryz.ntmps41
 go_upto_region 1 with fail
 have hP0:=hP.ext eG;have hY0:=hY.ext eG;have hS0:=hS.ext eG;generalize w.alloc (.cells #[.slice gA hs.length gc,.int .i64 caps,.bool runes,.slice SA sn sc,.slice YA ys.length yc,.slice OA on oc] 53)=w0 at *;have b1:=Blk.new w0 22 #[.slice A (QJ s).length c];have e1:=Ext.alloc w0 (.cells #[.slice A (QJ s).length c] 22);have SZ1:=lh (SZ.one (z:=⟨A,c,QJ s⟩) b1 (Nat.le_refl _) (hS0.ext e1) (fun hx b hb=>by have:=hS0.bltz hx hb;omega))
 go_upto_region 2 with fail
 have n1:w0.heap.size<(w0.alloc (.cells #[.slice A (QJ s).length c] 22)).heap.size:=by simp
 obtain⟨g1,hg1⟩:∃g1,g1=w0.heap.size:=⟨_,rfl⟩
 rw[<-hg1] at SZ1 ⊢;generalize w0.alloc (.cells #[.slice A (QJ s).length c] 22)=w1 at *;have b2:=Blk.new w1 22 #[.slice none 0 0];have e2:=Ext.alloc w1 (.cells #[.slice none 0 0] 22);have SZ2:=lh (SZ.one (base:=g1) (z:=⟨none,0,[]⟩) b2 om (IL.nil _) (fun hx=>absurd rfl hx))
 go_upto_region 4 with fail
 have SZ1b:=lh (SZ1.out.ext e2);have x2:=e1.trans e2;obtain⟨g2,hg2⟩:∃g2,g2=w1.heap.size:=⟨_,rfl⟩
 rw[<-hg2] at SZ2 ⊢;generalize w1.alloc (.cells #[.slice none 0 0] 22)=w2 at *;have hn2:w0.heap.size<w1.heap.size:=om;have HG1:=lh hg1;clear SZ1 b1 b2 e1 e2;have HM0:=lh (show WdM w2 w0.heap.size (some ⟨g1,0,none⟩) 1 [⟨A,c,s⟩] (some ⟨g2,0,none⟩) 1 [⟨none,0,[]⟩] from by
  have h1:=SZ1b.out;have h2:=SZ2.out;rw[show g1=w0.heap.size from HG1.out] at h2;have h1:SZ w2 w0.heap.size (some ⟨g1,0,none⟩) 1 [⟨A,c,QJ s⟩]:=by
   have h3:=h1;have h4:=HG1.out;clear h2
   revert h3
   generalize (some (⟨g1,0,none⟩:Addr))=AA;rw[h4];exact fun h=>h
  refine⟨h1,h2,fun b hb e=>?_,fun z hz hx b hb e=>?_,fun z hz hx b hb=>?_,fun z hz=>?_⟩
  ·have e1:g1=b:=by simpa using hb
   have e2:g2=b:=by simpa using e
   have:=HG1.out;omega
  ·have:z=⟨A,c,s⟩:=by simpa using hz
   subst this;have e2:g2=b:=by simpa using e
   have:=hS0.bltz hx hb;omega
  ·have:z=⟨none,0,[]⟩:=by simpa using hz
   subst this;exact absurd rfl hx
  ·have:z=⟨none,0,[]⟩:=by simpa using hz
   subst this;simp)
 have HI0:=lh (WdI.start (QZ (QW hs)) ys (Qk (QW hs)) R s);have X2:=eG.trans x2;have hw02:w.heap.size<w0.heap.size:=bG.lt;clear SZ1b SZ2 hS0 hg2 n1 hg1 HG1 hn2
 go_loopw [6,7,8] (fun v6 v7 v8 wr=>∃(i:Nat) (A:Option Addr) (c:Nat) (xs:List Hl) (B:Option Addr) (d:Nat) (ws:List Hz),v8=.int .i64 i/\i<=xs.length/\v6=.slice A xs.length c/\v7=.slice B ws.length d/\
  Hid (WdI (QZ (QW hs)) ys (Qk (QW hs)) R s (QV xs) (ws.map (·.l)) i 0)/\Hid (WdM wr w0.heap.size A c xs B d ws)/\Ext w0 wr) (fun _ _ v _=>1026-(intOf v).toNat)
 case atStart=>exact⟨0,_,1,[⟨A,c,s⟩],_,1,[⟨none,0,[]⟩],rfl,by simp,rfl,rfl,HI0,HM0,x2⟩
 case round=>
  clear HI0 HM0;obtain⟨i,A1,c1,xs,B1,d1,ws,rfl,hi,rfl,rfl,HI,HM,x1⟩:=hrel;have hxl:=HI.out.bound hR;rw[QF] at hxl;by_cases hlt:i<xs.length
  ·have hiI:(i:Int)<xs.length:=om;have HI1:=HI;have HM1:=HM
   go_upto_region 7 with fail
   clear HI HM;obtain⟨wz,hwz⟩:∃wz,wz=wr:=⟨_,rfl⟩;subst hwz
   go_loopw [6,7,9] (fun v6 v7 v9 wr=>∃(k:Nat) (A:Option Addr) (c:Nat) (xs:List Hl) (B:Option Addr) (d:Nat) (ws:List Hz),v9=.int .i64 k/\k<=ys.length/\i<xs.length/\v6=.slice A xs.length c/\v7=.slice B ws.length d/\
    Hid (WdI (QZ (QW hs)) ys (Qk (QW hs)) R s (QV xs) (ws.map (·.l)) i k)/\Hid (WdM wr w0.heap.size A c xs B d ws)/\Ext w0 wr) (fun _ _ v _=>ys.length-(intOf v).toNat)
   case atStart=>exact⟨0,A1,c1,xs,B1,d1,ws,rfl,om,hlt,rfl,rfl,HI1,HM1,x1⟩
   case round=>
    clear HI1 HM1 x1 hxl hi hlt hiI;obtain⟨k,A1,c1,xs,B1,d1,ws,rfl,hk,hi,rfl,rfl,HI,HM,x1⟩:=hrel;have hxl:=HI.out.bound hR;rw[QF] at hxl;have hiI:(i:Int)<xs.length:=om;have hwl:ws.length=xs.length:=by have:=HI.out.len;rw[List.length_map,QF] at this;exact this
    have HWL:=lh hwl;have bG3:=bG.ext x1;have r4:wr.cell? ⟨w.heap.size,4,none⟩=some (.slice YA ys.length yc):=bG3.cell 4;by_cases hkt:k<ys.length
    ·have hkI:(k:Int)<ys.length:=om;have hin:=HI.out.inR xs[i].l (List.mem_map_of_mem (List.getElem_mem hi));have hgx:(QV xs)[i]'(by rw[QF];exact hi)=xs[i].l:=by simp[QV]
     have hgw:(ws.map (·.l))[i]'(by rw[List.length_map];omega)=(ws[i]'om).l:=by simp
     have HSK:=fun hd ht=>lh (HI.out.skip (by rw[QF];exact hi) hkt hd ht);have HAD:=fun hd hn hr=>lh (HI.out.add (by rw[QF];exact hi) hkt hd hn hr (by rw[List.length_map];omega));have HWD:=HI.out.word i (by rw[QF];exact hi) (by rw[List.length_map];omega);rw[hgx] at HSK HAD HWD;rw[hgw] at HAD HWD;have hwlen:=HM.out.wl _ (List.getElem_mem (show i<ws.length by omega));have hxp:(∀p∈xs[i].l,p<hs.length)/\xs[i].l.length<=8192:=by
      rcases hin with h|h
      ·rw[h];exact⟨HSS.out,hs8⟩
      ·exact HRL.out _ h
     have htR:QZ (QW hs) xs[i].l ys[k]=[]\/QZ (QW hs) xs[i].l ys[k]∈R:=by
      rcases hin with h|h
      ·rw[h];exact HSR.out _ (List.getElem_mem hkt)
      ·exact HRC.out _ h _ (List.getElem_mem hkt)
     have htp:∀p∈QZ (QW hs) xs[i].l ys[k],p<hs.length:=YI _;have hym:=List.getElem_mem hkt;obtain⟨sb,so,rfl,s0⟩:=HM.out.st.ln.get hi;obtain⟨vb,vo,rfl,v0⟩:=HM.out.wd.get (k:=i) om;obtain⟨yb,yo,rfl,y0⟩:=(hY0.ext x1).get hkt;have hyI:=(hY0.ext x1).wf hkt;have hilx:=HM.out.st.il _ (List.mem_map_of_mem (List.getElem_mem hi));have hilw:=HM.out.wd.il _ (List.getElem_mem (show i<ws.length by omega));simp only[Hl.z] at hilx;have HST:=lh (lh HM);generalize xs[i]=X at *;generalize ws[i]'om=W at *;generalize ys[k]=y at *;obtain⟨XA,xc,xl⟩:=X;obtain⟨WA,wc,wl⟩:=W
     simp only at s0 v0 hilx hilw HSK HAD HWD hwlen hxp htR htp
     clear hgx hgw hin HI;have r0:wr.cell? ⟨w.heap.size,0,none⟩=some (.slice gA hs.length gc):=bG3.cell 0;have r1:wr.cell? ⟨w.heap.size,1,none⟩=some (.int .i64 caps):=bG3.cell 1;have r2:wr.cell? ⟨w.heap.size,2,none⟩=some (.bool runes):=bG3.cell 2;have k0:=kc0 r0;have k1:=kc0 r1;have k2:=kc0 r2;have k4:=kc0 r4;have k5:=kc0 s0;have k6:=kc0 y0;have HNC:=fun(w':World) (h:Ext wr w')=>HNX w' ((hP0.ext x1).ext h) XA xc xl (hilx.ext h) hxp.1 hxp.2 y;obtain⟨t,ht⟩:∃t,t=QZ (QW hs) xl y:=⟨_,rfl⟩
     rw[<-ht] at HSK HAD htR htp HNC;replace ht:=lh ht;replace htp:=lh htp;replace htR:=lh htR;replace HWD:=lh HWD;replace hxp:=lh hxp;replace hwl:=lh hwl
     go_wp2_with fail
     clear r0 r1 r2 r4;refine Xr.start [] kr ?_;refine Xtk 0 ?_
     iterate 10(refine Xtn ?_)
     refine Xcl 11 fun w3 hE3 hK3 K hKK=>?_;go_simp;refine(HNC w3 hE3).out.mono ?_;rintro e w4 ⟨T,tc,rfl,hT,x4,fT⟩;refine hKK _ _ x4 ?_;clear hKK;refine ptm ?_;refine Xtk 12 ?_;refine Xdn fun w5 hE5 hK5=>?_;have y5:=hK5.nil;have hT5:=hT.ext hE5;have HM5:=lh (HM.out.ext y5);have bG5:=bG3.ext y5;have hsb:sb<wr.heap.size:=World.block_lt_of_cell? _ _ s0;have hvb:vb<wr.heap.size:=World.block_lt_of_cell? _ _ v0;have hwl3:wl.length<=1025:=by have:=HWL.out;omega
     have hTf:∀b,T.map (·.block)=some b->wr.heap.size<=b:=fun b hb=>Nat.le_trans hE3.size (fT b hb);have HTF:=lh hTf;have hT5s:=hT5.len;have v5:=y5.cell v0;have yy5:=y5.cell y0;have hiw5:=hilw.ext y5;have X5:=x1.trans y5;have r0:w5.cell? ⟨w.heap.size,0,none⟩=some (.slice gA hs.length gc):=bG5.cell 0;have r1:w5.cell? ⟨w.heap.size,1,none⟩=some (.int .i64 caps):=bG5.cell 1;have r2:w5.cell? ⟨w.heap.size,2,none⟩=some (.bool runes):=bG5.cell 2;have r4:w5.cell? ⟨w.heap.size,4,none⟩=some (.slice (some ⟨yb,yo,none⟩) ys.length yc):=bG5.cell 4;have hsz5:=y5.size;clear k0 k1 k2 k4 k5 k6 HNC hE3 hK3 hE5 hK5 hT hTf s0 v0 y0 hilx hilw HM HST bG3 fT x4
     go_upto_region 11 with fail
     have k0:=kc0 r4;have k1:=kc0 v5;have k2:=kc0 yy5;have hiI2:(i:Int)<ws.length:=by have:=HWL.out;omega
     refine Xr.start [] kr ?_;refine Xtk 0 ?_
     iterate 4(refine Xtn ?_)
     refine Xtk 6 ?_
     iterate 4(refine Xtn ?_)
     refine Xr.lazy 11 53 12 (fun g=>.slice (some ⟨g,0,none⟩) 1 1) 3 #[.int .i64 y] rfl si dK si (fun w'=>by go_simp) ?_;refine Xcl 5 fun w6 hE6 hK6 K hKK=>?_;refine Ly _ _ _ rfl Tryz.underlying22 w5.heap.size hE6.size none 0 [] rfl (QQ.nil _ _ _ _) WA wc wl rfl (hiw5.ext hE6).cells (by simp only[List.length_nil];omega) wl rfl (some 47) rfl ?_;intro A' c' w7 ho hg hat;have hE7:Ext w6 w7:=(Ext.rfl' w6).grown hg si;refine hKK _ _ hE7 ?_;clear hKK;refine ptm ?_;refine Xr.stepZ rfl dK (fun _=>by rfl) (fun w8 gq hE8 hK8 hgq hq hno K hKK=>?_);refine Ly _ _ _ rfl Tryz.underlying22 w5.heap.size hK8.size A' c' wl rfl (QQ.ext ho hE8) (some ⟨gq,0,none⟩) 1 [y] rfl (OD hq) (by simp only[List.length_cons,List.length_nil];omega) (wl++[y]) rfl (some 54) rfl ?_;intro A2 c2 w9 ho2 hg2 hat2;refine hKK _ _ (YQ hg2 (fun b hb=>.inr ⟨(w6.heap.size,w7.heap.size),by simp,?_,(QQ.blt ho hb).1⟩)) (hK8.grownL hg2 (fun b hb=>.inr (QQ.row ho b hb))) ?_
     ·rcases hat with h|h
      ·rw[h] at hb;simp at hb
      ·rw[h] at hb;have:w6.heap.size=b:=by simpa using hb
       simp only;omega
     clear hKK;obtain⟨W2,hW2⟩:∃W2,W2=wl++[y]:=⟨_,rfl⟩
     rw[<-hW2] at ho2 ⊢;replace hW2:=lh hW2;refine ptm ?_;refine Xtk 13 ?_;refine Xdn fun w10 hE10 hK10=>?_;have y10:=hK10.nil;have hI2:=IL.of_own (QQ.ext ho2 hE10) (by
      rw[hW2.out];intro x hx;rcases List.mem_append.1 hx with hx|hx
      ·exact hiw5.rng x hx
      ·have:x=y:=by simpa using hx
       subst this;exact hyI)
     have HW2F:=lh (show ∀b,A2.map (·.block)=some b->w5.heap.size<=b from QQ.row ho2);have bG10:=bG5.ext y10;have HM10:=lh (HM5.out.ext y10);have hT10:=hT5.ext y10;have X10:=X5.trans y10;have sz10:=y10.size;clear k0 k1 k2 r0 r1 r2 r4 hE6 hK6 ho hg hat hE7 hE8 hK8 hgq hq hno ho2 hg2 hat2 hE10 hK10 HM5 hT5 hiw5 v5 yy5 bG5 hiI2 y5 y10 X5;obtain⟨q0,q1,q2⟩:w10.cell? ⟨w.heap.size,0,none⟩=some (.slice gA hs.length gc)/\w10.cell? ⟨w.heap.size,1,none⟩=some (.int .i64 caps)/\w10.cell? ⟨w.heap.size,2,none⟩=some (.bool runes):=⟨bG10.cell 0,bG10.cell 1,bG10.cell 2⟩;have HD:=HDN w10 (hP0.ext X10) T tc t hT10 htp.out;have HTL:=lh (WY t);by_cases hd:Qk (QW hs) t=true
     ·rw[hd] at HD;have HF:=lh (show W2≠[]/\(∀x∈W2,x∈ys)/\Qk (QW hs) (W2.foldl (QZ (QW hs)) s)=true from by
       rw[hW2.out];refine⟨by simp,fun x hx=>?_,?_⟩
       ·rcases List.mem_append.1 hx with hx|hx
        ·exact HWD.out.2 x hx
        ·have:x=y:=by simpa using hx
         subst this;exact hym
       ·rw[List.foldl_append,HWD.out.1]
        show Qk (QW hs) (QZ (QW hs) xl y)=true
        rw[<-ht.out];exact hd)
      clear HSK HAD hd
      go_wp2_with fail
      refine HD.out.mono ?_;rintro e w11 ⟨rfl,x11⟩
      go_wp2_with fail
      go_ret2
      exact⟨A2,c2,W2,true,rfl,hI2.ext x11,(eG.trans X10).trans x11,fun _=>HF.out,fun h=>(by cases h),by rw[hW2.out,List.length_append];simp only[List.length_cons,List.length_nil];omega⟩
     ·have hd2:Qk (QW hs) t=false:=by simpa using hd
      rw[hd2] at HD;have HFF:=fun(w':World) (h:Ext w10 w')=>HFD (some ⟨sb,so,none⟩) c1 xs T tc t w' (HM10.out.ext h).st.ln (hT10.ext h);by_cases hm:t∈QV xs
      ·have HSK2:=HSK hd2 (.inr hm);rw[decide_eq_true hm] at HFF;clear hm HSK HAD hd hd2
       go_wp2_with fail
       refine HD.out.mono ?_;rintro e w11 ⟨rfl,x11⟩;have HF2:=HFF w11 x11;clear HFF
       go_wp2_with fail
       refine HF2.out.mono ?_;rintro e w12 ⟨rfl,x12⟩;have xf:=(X10.trans x11).trans x12;have HMf:=lh ((HM10.out.ext x11).ext x12);by_cases h0:0<(QJ t).length
       ·have h0I:(0:Int)<(QJ t).length:=om;exact Sx
       ·have h0I:¬(0:Int)<(QJ t).length:=om;exact Sx
      ·rw[decide_eq_false hm] at HFF;by_cases ht0:t=[]
       ·have HSK2:=HSK hd2 (.inl ht0);have h0I:¬(0:Int)<(QJ t).length:=by rw[ht0];simp[QJ]
        clear hm HSK HAD hd hd2 ht0
        go_wp2_with fail
        refine HD.out.mono ?_;rintro e w11 ⟨rfl,x11⟩;have HF2:=HFF w11 x11;clear HFF
        go_wp2_with fail
        refine HF2.out.mono ?_;rintro e w12 ⟨rfl,x12⟩;have xf:=(X10.trans x11).trans x12;have HMf:=lh ((HM10.out.ext x11).ext x12);exact Sx
       ·have h0I:(0:Int)<(QJ t).length:=by
         rw[WY];have:=List.length_pos_iff.2 ht0;omega
        have HAD2:=HAD hd2 hm (htR.out.resolve_left ht0);rw[show wl++[y]=W2 from hW2.out.symm] at HAD2;have hW2l:W2.length<=ws.length+1:=by rw[hW2.out,List.length_append];simp only[List.length_cons,List.length_nil];omega
        clear hm HSK HAD hd hd2 ht0
        go_wp2_with fail
        refine HD.out.mono ?_;rintro e w11 ⟨rfl,x11⟩;have HF2:=HFF w11 x11;clear HFF
        go_wp2_with fail
        refine HF2.out.mono ?_;rintro e w12 ⟨rfl,x12⟩;have HM12:=lh ((HM10.out.ext x11).ext x12);have X12:=(X10.trans x11).trans x12;have hT12:=(hT10.ext x11).ext x12;have hI12:=(hI2.ext x11).ext x12;have hownS:=lh (show QQ w12 w0.heap.size 22 1 (some ⟨sb,so,none⟩) xs.length c1 (Zz xs) from by
         have:=HM12.out.st.own
         rwa [jZ,List.length_map] at this)
        have hwS:ws.length<=1025:=by have:=HWL.out;omega
        clear HF2 HD bG10 q0 q1 q2
        go_upto_region 18 with((at_builtin;refine Qv _ rfl _ _ _ rfl w0.heap.size 22 iL (.slice none 0 0) 1 24 Tryz.underlying50 jL0 jL1 jL2 jL3 rfl om (some ⟨sb,so,none⟩) xs.length c1 (Zz xs) rfl (QQ.ext hownS.out (Ext.alloc _ _)) _ 1 1 [.slice T (QJ t).length tc] rfl rfl (QC (Blk.new _ _ _)) (by intro u hu;obtain rfl:=List.mem_singleton.1 hu;rfl) um om (X12.trans (Ext.alloc _ _)).size ?_;intro A3 c3 w13 ho13 hg13 hat13))
        have HM13:=lh (HM12.out.pushS (z:=⟨T,tc,t⟩) hT12 (fun hx b hb=>by
         have h1:=HTF.out b hb;refine⟨fun e=>?_,fun e=>?_⟩
         ·have:sb=b:=by simpa using e
          omega
         ·have:vb=b:=by simpa using e
          omega) ho13 hg13 hat13)
        have x13:Ext w0 w13:=Ext.app (X12.trans (Ext.alloc _ _)) (QQ.ext hownS.out (Ext.alloc _ _)) hg13;have kk13:=KpP.of_grown hg13;have hI13:IL w13 A2 c2 W2:=(hI12.ext (Ext.alloc _ _)).kpz kk13 (fun hx b hb e=>by
         have h1:=HW2F.out b hb;have:sb=b:=by simpa using e
         omega)
        have hA3:=lh (show ∀b,A2.map (·.block)=some b->W2≠[]->A3.map (·.block)≠some b from fun b hb hx e=>by
         have h1:=HW2F.out b hb;have h2:=hI12.bltz hx hb;rcases hat13 with h|h
         ·rw[h] at e;have:sb=b:=by simpa using e
          omega
         ·rw[h] at e;injection e with e
          simp only[World.size_alloc] at e;omega)
        have hownW:=lh (HM13.out.wd.own);clear ho13 hg13 hat13 kk13 hownS HM12 hT12 hI12 hT10 hI2 HM10 x11 x12 X10 X12;have HL2:=lh (show(xs++[(⟨T,tc,t⟩:Hl)]).length=xs.length+1 by simp);have HL3:=lh (show(ws++[(⟨A2,c2,W2⟩:Hz)]).length=ws.length+1 by simp);have HAD3:=lh (show WdI (QZ (QW hs)) ys (Qk (QW hs)) R s (QV (xs++[(⟨T,tc,t⟩:Hl)])) ((ws++[(⟨A2,c2,W2⟩:Hz)]).map (·.l)) i (k+1) from by
         have h1:=HAD2.out;have e1:QV (xs++[(⟨T,tc,t⟩:Hl)])=QV xs++[t]:=by simp[QV]
         have e2:(ws++[(⟨A2,c2,W2⟩:Hz)]).map (·.l)=ws.map (·.l)++[W2]:=by simp
         rw[e1,e2];exact h1)
        clear HAD2
        go_wp2_with ((at_builtin;refine Qv _ rfl _ _ _ rfl w0.heap.size 22 iL (.slice none 0 0) 1 24 Tryz.underlying50 jL0 jL1 jL2 jL3 rfl om (some ⟨vb,vo,none⟩) ws.length d1 (VH ws) rfl (QQ.ext hownW.out (Ext.alloc _ _)) _ 1 1 [.slice A2 W2.length c2] rfl rfl (QC (Blk.new _ _ _)) (by intro u hu;obtain rfl:=List.mem_singleton.1 hu;rfl) um om (x13.trans (Ext.alloc _ _)).size ?_;intro B3 d3 w14 ho14 hg14 hat14))
        have HM14:=lh (HM13.out.pushW (z:=⟨A2,c2,W2⟩) hW2l hI13 (fun hx b hb=>by
         have h1:=HW2F.out b hb;refine⟨hA3.out b hb hx,fun e=>?_⟩;have:vb=b:=by simpa using e
         omega) ho14 hg14 hat14)
        have x14:Ext w0 w14:=Ext.app (x13.trans (Ext.alloc _ _)) (QQ.ext hownW.out (Ext.alloc _ _)) hg14;have hi2:i<(xs++[(⟨T,tc,t⟩:Hl)]).length:=by rw[HL2.out];omega
        clear ho14 hg14 hat14 HM13 hownW;go_roundw
        case rel=>exact⟨k+1,A3,c3,xs++[⟨T,tc,t⟩],B3,d3,ws++[⟨A2,c2,W2⟩],by go_num,om,hi2,by rw[HL2.out],by rw[HL3.out],HAD3,HM14,x14⟩
        case measure=>simp[intOf];omega
    ·have hkI:¬(k:Int)<ys.length:=om;have HRW:=lh (HI.out.row om);clear hwl
     go_wp2_with fail
     go_roundw
     case rel=>exact⟨i+1,A1,c1,xs,B1,d1,ws,by go_num,om,rfl,rfl,HRW,HM,x1⟩
     case measure=>simp[intOf];omega
  ·have hiI:¬(i:Int)<xs.length:=om;have HNO:=lh (HI.out.none_ (by rw[QF];omega))
   go_wp2_with fail
   go_ret2
   exact⟨none,0,[],false,rfl,IL.nil _,eG.trans x1,fun h=>(by cases h),fun _=>⟨rfl,HNO.out⟩,by simp⟩
end
section
open Go.RowKit
theorem xU (A:Option Addr)(c:Nat)(l:List Sp)(a b:Int)(w:World)(hl:SL w A c l):Calls Tryz.prog 38 #[.slice A l.length c,.agg #[.int .i64 a,.int .i64 b]] w (QD (.bool (decide ((a,b)∈l))) w):=by
 have hll:=hl.len;have E3:=Ext.alloc w (.cells #[.int .i64 a,.int .i64 b] 82);have B3:=Blk.new w 82 #[.int .i64 a,.int .i64 b];have HL:=lh hl;obtain⟨R,hR⟩:∃R,R=decide ((a,b)∈l):=⟨_,rfl⟩
 rw[<-hR];have HR:=lh hR;clear hl hR;go_enter Tryz.func38,Tryz.ntmps38
 go_upto_region 1 with fail
 obtain⟨g3,h3⟩:∃g,g=w.heap.size:=⟨_,rfl⟩
 rw[<-h3] at B3 ⊢;clear h3;generalize w.alloc (.cells #[.int .i64 a,.int .i64 b] 82)=w1 at *;have HB:=lh B3;have HX:=lh E3;clear B3 E3
 go_wp2_with fail
 go_loopw [5] (fun v wr=>∃k:Nat,v=.int .i64 k/\k<=l.length/\Hid ((a,b)∉l.take k)/\Ext w1 wr) (fun v _=>l.length-(intOf v).toNat)
 case atStart=>exact⟨0,rfl,om,lh si,Ext.rfl' _⟩
 case round=>
  obtain⟨k,rfl,hk,HK,x1⟩:=hrel;by_cases hlt:k<l.length
  ·obtain⟨b1,o1,rfl,g1,g2⟩:=(HL.out.ext (HX.out.trans x1)).get hlt;have hI:(k:Int)<l.length:=om;have hT:Hid (l.take (k+1)=l.take k++[l[k]]):=lh (List.take_succ_eq_append_getElem hlt);have hM:=lh (List.getElem_mem hlt);have BB:=HB.out.ext x1;have g3':wr.cell? ⟨g3,0,none⟩=some (.int .i64 a):=BB.cell 0;have g4':wr.cell? ⟨g3,1,none⟩=some (.int .i64 b):=BB.cell 1;generalize l[k]=s at *;obtain⟨s1,s2⟩:=s
   simp only at g1 g2
   have k1:=kc0 g1;have k2:=kc0 g2;have k3:=kc0 g3';have k4:=kc0 g4';have HEQ:=F9 s1 s2 a b;obtain⟨q,hq⟩:∃q,q=(s1 == a&&s2 == b):=⟨_,rfl⟩
   rw[<-hq] at HEQ;have HQ:=lh hq;clear hq BB g1 g2 g3' g4'
   go_upto_region 4 with fail
   refine Xr.start [] kr ?_;refine Xtk 0 ?_
   iterate 5(refine Xtn ?_)
   refine Xdn fun w2 hE2 hK2=>?_;have x3:=x1.trans hK2.nil;clear k1 k2 k3 k4 hE2 hK2 HEQ
   cases q with
   | true=>
    go_wp2_with fail
    go_ret
    refine⟨?_,HX.out.trans x3⟩;have h:=HQ.out;simp only[Bool.true_eq,Bool.and_eq_true,beq_iff_eq] at h;rw[HR.out,decide_eq_true (by rw[<-h.1,<-h.2];exact hM.out)]
    rfl
   | false=>
    go_wp2_with fail
    go_roundw
    case rel=>exact⟨k+1,by go_num,om,lh (by
     rw[hT.out,List.mem_append];rintro(h|h)
     ·exact HK.out h
     ·have h2:(a,b)=(s1,s2):=by simpa using h
      injection h2 with e1 e2
      have h3:=HQ.out;rw[e1,e2] at h3;simp at h3),x3⟩
    case measure=>simp[intOf];omega
  ·have hI:¬(k:Int)<l.length:=om;have HN:Hid (R=false):=lh (by
    have h:=HK.out;rw[List.take_of_length_le om] at h;rw[HR.out,decide_eq_false h])
   go_wp2_with fail
   go_ret
   exact⟨by rw[HN.out];rfl,HX.out.trans x1⟩
end
