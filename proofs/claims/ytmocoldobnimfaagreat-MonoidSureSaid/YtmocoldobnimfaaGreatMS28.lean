/- Texts of this proof: Y37 Y34. -/
import Derived.Test.YtmocoldobnimfaaGreatMS25
set_option linter.all false
set_option maxRecDepth 100000
set_option maxHeartbeats 16000000
namespace Go.Proofs.YtmocoldobnimfaaGreat
section
open Go.RowKit
attribute [local go_sem ↓] Go.wp_at_zero Go.wp_at_succ
theorem VG.iff {E:Nat->Nat->Prop}{M T T':Nat->Prop}(h:VG E M T)(ht:∀x,T x<->T' x):VG E M T':=
 ⟨fun x hx=>by obtain⟨t,h1,h2⟩:=h.why x hx;exact⟨t,(ht t).1 h1,h2⟩,h.clo,fun t hT p hp=>h.all t ((ht t).2 hT) p hp⟩
theorem VG.start {E:Nat->Nat->Prop}{n:Nat}{T:Nat->Prop}(hT:∀x,¬T x):VG E (Mk1 (List.replicate n false)) T:=by
 have h0:∀x,¬Mk1 (List.replicate n false) x:=fun x h=>by
  unfold Mk1 at h;rw[List.getD_eq_getElem?_getD,List.getElem?_replicate] at h
  split at h<;>simp at h
 exact⟨fun x hx=>absurd hx (h0 x),fun x hx=>absurd hx (h0 x),fun t ht=>absurd ht (hT t)⟩
theorem dz (n:Nat)(h:n<=1000000)(W:World):(Instr.makeSlice 50 (.int .i64 (n:Int)) (.int .i64 (n:Int))).run Tryz.prog W=.ok (.slice (some ⟨W.heap.size,0,none⟩) n n) (W.alloc (.cells (Array.replicate n (.slice none 0 0)) 22)):=by
 obtain⟨i0,hi0,hz0,hz1,hz2⟩:=info_parts PN;have:=run_make (P:=Tryz.prog) W 50 22 i0 (.slice none 0 0) Tryz.underlying50 hi0 hz0 .i64 .i64 n n om (Int.le_refl _) (by rw[hz2];omega) om;rw[this,hz1];simp only[Int.toNat_natCast,Value.cells];rw[JJ]
 simp
def Hx (wr:World)(gX gx g gB n:Nat):Prop:=Blk wr gX 50 #[.slice (some ⟨gB,0,none⟩) n n]/\Blk wr gx 43 #[.pointer (some ⟨g,0,none⟩)]
def lY (g:Nat)(m:Ma)(nc:Nat)(w:World)(e:Ending)(w':World):Prop:=
 ∃(gO:Nat) (op:List Bool),e=.returned (.tuple #[])/\V9 w' g { m with oA:=some ⟨gO,0,none⟩,oc:=m.next.length,opn:=op }/\OpN m.next.length nc (Wq m.next) m.done op/\KpP (·=g) w w'
theorem RK (w:World)(g:Nat)(m:Ma)(nc:Nat)(hM:V9 w g m)(h0:m.oA=none/\m.oc=0/\m.opn=[])(hrow:∀h∈m.next,h.l.length=nc/\∀x∈h.l,-1<=x/\x<m.next.length)(hdl:m.done.length=m.next.length)(hn:m.next.length<=1024)(hnc:nc<=10000)
 (hkg:∀w',KpP (·=g) w w'->NXL w' m.nA m.nc m.next/\IB w' m.dA m.dc m.done) :
 Calls Tryz.prog 73 #[.pointer (some ⟨g,0,none⟩),.int .i64 nc] w (lY g m nc w):=by
 obtain⟨ho1,ho2,ho3⟩:=h0;have hgw:=hM.blk.lt;have HM:=lh hM;have HROW:=lh hrow;have HDL:=lh hdl;have HKG:=fun(w':World) (k:KpP (·=g) w w')=>lh (hkg w' k);have hnl:=hM.nx.len;have hdn:=hM.dn.len;rw[hdl] at hdn;have hmk:=dz m.next.length om;obtain⟨n,hnE⟩:∃n,Hid (m.next.length=n):=⟨_,lh rfl⟩;have E1:=Ext.alloc w (.cells #[.pointer (some ⟨g,0,none⟩)] 43);have B1:=Blk.new w 43 #[.pointer (some ⟨g,0,none⟩)];clear hM hrow hdl hkg;go_enter Tryz.func73,Tryz.ntmps73
 go_upto_region 1 with fail
 obtain⟨gx,hgx⟩:∃gx,gx=w.heap.size:=⟨_,rfl⟩
 rw[<-hgx] at B1 ⊢;have HGX:=lh hgx;have hgne:g≠gx:=om;clear hgx;generalize w.alloc (.cells #[.pointer (some ⟨g,0,none⟩)] 43)=w1 at *;have c1:w1.cell? ⟨gx,0,none⟩=some (.pointer (some ⟨g,0,none⟩)):=B1.cell 0;have HM1:=lh (HM.out.ext E1);have c3:w1.cell? ⟨g,3,none⟩=some (.slice m.nA m.next.length m.nc):=HM1.out.blk.cell 3;rw[hnE.out] at c3 hmk hn hnl hdn;have E2:=Ext.alloc w1 (.cells (Array.replicate n (.slice none 0 0)) 22);have B2:=Blk.new w1 22 (Array.replicate n (.slice none 0 0))
 go_upto_region 2 with fail
 obtain⟨gB,hgB⟩:∃gB,gB=w1.heap.size:=⟨_,rfl⟩
 rw[<-hgB] at B2 ⊢;have hsz2:(w1.alloc (.cells (Array.replicate n (.slice none 0 0)) 22)).heap.size=gB+1:=by rw[World.size_alloc,hgB]
 have hgBw:w.heap.size<=gB:=by have:=E1.size;omega
 have HGB:=lh hgB;clear hgB;generalize w1.alloc (.cells (Array.replicate n (.slice none 0 0)) 22)=w2 at *;have E3:=Ext.alloc w2 (.cells #[.slice (some ⟨gB,0,none⟩) n n] 50);have B3:=Blk.new w2 50 #[.slice (some ⟨gB,0,none⟩) n n];rw[hsz2] at B3;generalize w2.alloc (.cells #[.slice (some ⟨gB,0,none⟩) n n] 50)=w3 at *;obtain⟨gX,hgX⟩:∃gX,gX=gB+1:=⟨_,rfl⟩
 rw[<-hgX] at B3 ⊢;have E13:=E2.trans E3;have HM3:=lh (HM1.out.ext E13);have HX3:=lh B3;have Hx3:=lh (B1.ext E13);have HBF0:Hid (BfM w3 w.heap.size gB (List.replicate n vO)):=lh (BfM.start (B2.ext E3) _);obtain⟨NX,hNX⟩:∃NX,Hid (NX=nxN (Wq m.next)):=⟨_,lh rfl⟩;have HBN0:Hid (BfN NX nc 0 0 n (List.replicate n vO)):=lh BfN.start;have HE3:Hid (Ext w w3):=lh (E1.trans E13);have hgXx:gX≠gB:=om;clear E1 E2 E3 E13 B1 B2 B3 HM1 c1 c3 hsz2 hgX;have c1:w3.cell? ⟨gx,0,none⟩=some (.pointer (some ⟨g,0,none⟩)):=Hx3.out.cell 0;have c3:w3.cell? ⟨g,3,none⟩=some (.slice m.nA m.next.length m.nc):=HM3.out.blk.cell 3;rw[hnE.out] at c3
 go_upto_region 3 with fail
 clear c1 c3;have HW3:Hid (Hx w3 gX gx g gB n):=lh ⟨HX3.out,Hx3.out⟩
 go_loopw [23] (fun v wr=>∃(i:Nat) (rows:List Hz),v=.int .i64 i/\i<=n/\Hid (BfM wr w.heap.size gB rows)/\Hid (BfN NX nc i 0 n rows)/\Hid (Hx wr gX gx g gB n)/\Hid (Ext w wr)) (fun v _=>n-(intOf v).toNat)
 case atStart=>exact⟨0,_,rfl,om,HBF0,HBN0,HW3,HE3⟩
 case round=>
  obtain⟨i,rows,rfl,hi,HBF,HBN,HW,X1⟩:=hrel;clear HBF0 HBN0 HW3 HX3 Hx3 HE3;obtain⟨wm,hwm⟩:∃x,x=wr:=⟨_,rfl⟩;subst hwm;by_cases hlt:i<n
  ·have hiI:(i:Int)<n:=om;have hin:i<m.next.length:=by rw[hnE.out];exact hlt
   obtain⟨nb,no,hnA,cr,hkl⟩:=(HM.out.nx.ext X1.out).get hin;have hrr:=HROW.out _ (List.getElem_mem hin);have HNXI:=lh (show ∀k,NX i k=(m.next[i]).l.getD k 0 from fun k=>by rw[hNX.out];unfold nxN Wq;simp[List.getD_eq_getElem?_getD,hin]);have hin0:=hin;obtain⟨r,hr0⟩:∃r,Hid (m.next[i]=r):=⟨_,lh rfl⟩;rw[hr0.out] at cr hkl hrr HNXI;obtain⟨rA,rc,rl⟩:=r
   simp only at cr hkl hrr HNXI
   obtain⟨hrl,hrx⟩:=hrr;rw[hrl] at cr;have HKL:=lh hkl;have HRX:=lh hrx;have hklen:=hkl.len;rw[hrl] at hklen;clear hkl hrx
   go_upto_region 6 with fail
   have HKL0:=lh ((HM.out.nx.il _ (List.getElem_mem hin0)));rw[hr0.out] at HKL0
   simp only at HKL0
   go_loopw [29] (fun v wi=>∃(k:Nat) (rows:List Hz),v=.int .i64 k/\k<=nc/\Hid (BfM wi w.heap.size gB rows)/\Hid (BfN NX nc i k n rows)/\Hid (Hx wi gX gx g gB n)/\Hid (Ext w wi)) (fun v _=>nc-(intOf v).toNat)
   case atStart=>exact⟨0,rows,rfl,om,HBF,HBN,HW,X1⟩
   case round=>
    obtain⟨k,rows2,rfl,hk,HBF2,HBN2,HW2,X2⟩:=hrel;clear HBF HBN HW X1;by_cases hlt2:k<nc
    ·have hkI:(k:Int)<nc:=om;have hkr:k<rl.length:=om;obtain⟨kb,ko,hrA,ck⟩:=(HKL0.out.ext X2.out).get hkr;have hrA':=hrA;subst hrA';have hxr:=HRX.out _ (List.getElem_mem hkr);have HXV:=lh (show NX i k=rl[k] by rw[HNXI.out];simp[List.getD_eq_getElem?_getD,hkr]);generalize rl[k]=x at *;by_cases hx:x = -1
     ·subst hx;have HBN3:=lh (HBN2.out.no (by rw[HXV.out];omega))
      go_wp2_with fail
      go_roundw
      case rel=>exact⟨k+1,rows2,by go_num,om,HBF2,HBN3,HW2,X2⟩
      case measure=>simp[intOf];omega
     ·have hxf:(x == -1)=false:=by simp[hx]
      go_upto_region 10 with fail
      obtain⟨t,rfl⟩:∃t:Nat,x=t:=⟨x.toNat,om⟩;have htn:t<n:=by have:=hxr.2;rw[hnE.out] at this;omega
      have htI:(t:Int)<n:=om;have hrl2:=HBN2.out.len;have htr:t<rows2.length:=om;have hlen2:rows2[t].l.length<=20000000:=by
       rw[HBN2.out.get htr,JI];have h1:=SW (nx:=NX) (m:=nc) (i:=i) (k:=k) (t:=t);have h2:i*nc<=1024*10000:=Nat.mul_le_mul om hnc;omega
      have crow:=HBF2.out.blk.cellZ htr;have hown:=HBF2.out.own _ (List.getElem_mem htr);have HBNY:=fun A c=>lh (HBN2.out.yes htr HXV.out A c);have HBFP:=fun(wa w8 w9:World) (xa:Ext wr wa) (A8:Option Addr) (c8:Nat) (v:Value) (hv:v=.slice A8 (rows2[t].l++[(i:Int)]).length c8) (ho:WO w8 w.heap.size 3 A8 c8 (rows2[t].l++[(i:Int)])) (hg:wa.grownBy w8 (rows2[t].A.map (·.block))) (hat:A8.map (·.block)=rows2[t].A.map (·.block)\/A8.map (·.block)=some wa.heap.size) (x9:Ext w8 w9)=>lh (HBF2.out.put htr hv xa ho hg hat x9);obtain⟨z,hz⟩:∃z,Hid (rows2[t]=z):=⟨_,lh rfl⟩;rw[hz.out] at crow hown hlen2;simp only[hz.out] at HBNY HBFP;obtain⟨zA,zc,zl⟩:=z
      simp only at crow hown hlen2 HBNY HBFP
      have cX:wr.cell? ⟨gX,0,none⟩=some (.slice (some ⟨gB,0,none⟩) n n):=HW2.out.1.cell 0;have hgA:zA.map (·.block)≠some gX:=QK hown HW2.out.1 de;have hgAx:zA.map (·.block)≠some gx:=QK hown HW2.out.2 de;have hgAB:zA.map (·.block)≠some gB:=QK hown HBF2.out.blk de;have hgxB:gx≠gB:=Qq HW2.out.2 HBF2.out.blk de;have hgBl:=HBF2.out.blk.lt;have j0:=fun(w':World) (h:Kp (gB::Xx zA) wr w')=>h.cell cX (by simp[Zx,hgXx,hgA]);have hBw:w.heap.size<=wr.heap.size:=X2.out.size;have HOWN:=lh hown;replace hrl2:=lh hrl2;refine Xr.start (gB::Xx zA) kr ?_;refine Xtk 0 ?_
      iterate 4(refine Xtn ?_)
      refine Xtk 6 ?_;refine Xr.lazy 7 45 8 (fun q=>.slice (some ⟨q,0,none⟩) 1 1) 3 #[.int .i64 i] rfl (fun b hb=>?_) dK si (fun w'=>by go_simp) ?_
      ·rcases List.mem_cons.1 hb with rfl|hb
       ·exact hgBl
       ·exact(QQ.blt HOWN.out (Zx.1 hb)).1
      refine Xsp 5 fun w4 hE4 hK4 K hKK=>?_;have c44:=hE4.cell crow;go_simp;refine hKK _ _ (Q4 _ _ _) hK4 ?_;clear hKK c44;refine ptm ?_;refine Xr.stepZ rfl dK (fun _=>by rfl) (fun w5 g5 hE5 hK5 hg5 hB5 hno K hKK=>?_);have x5:=hE4.trans hE5;obtain⟨iB,jB0,jB1,jB2,jB3⟩:=info_parts YF;refine VT _ _ _ _ rfl w.heap.size 3 iB (.int .i64 0) 1 8 Tryz.underlying22 jB0 jB1 jB2 jB3 rfl om zA zl.length zc (zl.map (Value.int .i64)) rfl (QQ.ext HOWN.out x5) _ 1 1 [.int .i64 i] rfl rfl (QC hB5) (by intro u hu;simp only[List.mem_cons,List.not_mem_nil,or_false] at hu;rcases hu with rfl;rfl) um om (by have:=x5.size;omega) ?_;intro A9 c9 w9 ho9 hg9 hat9;refine hKK _ _ (FV (KpP.of_grown hg9) (fun i hi=>List.mem_cons_of_mem _ (Zx.2 hi))) (hK5.kpP (KpP.of_grown hg9) (fun i hi=>List.mem_cons_of_mem _ (Zx.2 hi))) ?_;clear hKK;refine ptm ?_;refine Xtk 9 ?_;have bg9:=(KpP.of_grown hg9).blk (HBF2.out.blk.ext x5) hgAB;refine Xsp 10 fun w10 hE10 hK10 K hKK=>?_;have cg10:=(bg9.ext hE10).cellZ htr;have fg10:=(bg9.ext hE10).frz t;go_simp;refine hKK _ _ (QM (Q4 _ _ _) List.mem_cons_self _ _) (hK10.setL List.mem_cons_self _ _) ?_;clear hKK;refine ptm ?_;refine Xdn fun w11 hE11 hK11=>?_;have HBF11:=lh ((HBFP w5 w9 w10 x5 A9 c9 (.slice A9 (zl.length+1) c9) si (by unfold WO;simpa using ho9) hg9 hat9 hE10).out.ext hE11);have HBN11:=HBNY A9 c9;have kg9:=KpP.of_grown hg9;have HW11:Hid (Hx w11 gX gx g gB n):=lh ⟨(((kg9.blk (HW2.out.1.ext x5) hgA).ext hE10).far (p:=⟨gB,t,none⟩) (by show gX≠gB;omega) _).ext hE11,(((kg9.blk (HW2.out.2.ext x5) hgAx).ext hE10).far (p:=⟨gB,t,none⟩) (by show gx≠gB;omega) _).ext hE11⟩
      have X11:Hid (Ext w w11):=lh ((((((X2.out.trans x5).kp kg9 (fun i hi=>QQ.row HOWN.out i hi)).trans hE10).setNew (p:=⟨gB,t,none⟩) hgBw _)).trans hE11);clear kg9 x5 hE4 hK4 hE5 hK5 hE10 hK10 hE11 hK11 cg10 fg10 bg9 ho9 hg9 hat9 hB5 hno hg5 j0 HBFP HBNY
      go_wp2_with fail
      refine⟨⟨_,_,_,⟨k+1,?_,om,_,HBF11,HBN11⟩,rfl,rfl,rfl⟩,by simp[intOf];omega⟩
      go_num
    ·have hkI:¬(k:Int)<nc:=om;obtain rfl:nc=k:=om;have HBN3:=lh HBN2.out.row
     go_wp2_with fail
     go_roundw
     case rel=>exact⟨i+1,rows2,by go_num,om,HBF2,HBN3,HW2,X2⟩
     case measure=>simp[intOf];omega
  ·have hiI:¬(i:Int)<n:=om;obtain rfl:n=i:=om;have hrl:=lh HBN.out.len;have HMr:=lh (HM.out.ext X1.out);have cx:wm.cell? ⟨gx,0,none⟩=some (.pointer (some ⟨g,0,none⟩)):=HW.out.2.cell 0;have c3:wm.cell? ⟨g,3,none⟩=some (.slice m.nA m.next.length m.nc):=HMr.out.blk.cell 3;have c5:wm.cell? ⟨g,5,none⟩=some (.slice m.oA m.opn.length m.oc):=HMr.out.blk.cell 5;have fg:=HMr.out.blk.frz 5;have hgl:=HMr.out.blk.lt;have hgxg:gx≠g:=fun e=>hgne e.symm;rw[hnE.out] at c3;have j0:=fun(w':World) (h:Kp [g] wm w')=>h.cell cx (by simp[hgxg]);have hmb:=GR n om
   go_upto_region 13 with fail
   refine Xr.start [g] kr ?_;refine Xtk 0 ?_
   iterate 3(refine Xtn ?_)
   refine Xsp 4 fun w4 hE4 hK4 K hKK=>?_;have c34:=hE4.cell c3;go_simp;refine hKK _ _ (Q4 _ _ _) hK4 ?_;clear hKK c34;refine ptm ?_;refine Xtk 5 ?_;refine Xcl 6 fun w5 hE5 hK5 K hKK=>?_;have EM:=Ext.alloc w5 (.cells (Ky (List.replicate n false)) 4);have BM:=Blk.new w5 4 (Ky (List.replicate n false));go_simp;refine hKK _ _ EM ?_;clear hKK;refine ptm ?_;obtain⟨gO,hgO⟩:∃q,q=w5.heap.size:=⟨_,rfl⟩
   rw[<-hgO] at BM ⊢;have hgOl:wm.heap.size<=gO:=by have:=(hE4.trans hE5).size;omega
   clear hgO;generalize w5.alloc (.cells (Ky (List.replicate n false)) 4)=w6 at *;refine Xtk 7 ?_;refine Xtn ?_;refine Xsp 9 fun w7 hE7 hK7 K hKK=>?_;have x7:=((hE4.trans hE5).trans EM).trans hE7;have c57:=x7.cell c5;have f57:=(HMr.out.blk.ext x7).frz 5;go_simp;refine hKK _ _ (QM (Q4 _ _ _) List.mem_cons_self _ _) (hK7.setL List.mem_cons_self _ _) ?_;clear hKK;refine ptm ?_;refine Xdn fun w8 hE8 hK8=>?_;have hbset:=(HMr.out.blk.ext x7).set 5 (.slice (some ⟨gO,0,none⟩) n n);have hset:Blk (w7.setCell ⟨g,5,none⟩ (.slice (some ⟨gO,0,none⟩) n n)) g 136 (kV m (some ⟨gO,0,none⟩) n):=by simpa[Bx,kV] using hbset
   have K8:KpP (·=g) wm (w7.setCell ⟨g,5,none⟩ (.slice (some ⟨gO,0,none⟩) n n)):=KpP.set (p:=(·=g)) (x:=⟨g,5,none⟩) (KpP.of_ext x7) (.inl rfl) _;have hBl:=HBF.out.blk.lt;have hXl:=HW.out.1.lt;have hxl:=HW.out.2.lt;have HBF8:=lh ((HBF.out.kp K8 (fun b hb cur T hh=>by
    have e:b=g:=hb;subst e;have h2:=HMr.out.blk;unfold Blk at h2;rw[h2] at hh;injection hh with hh;injection hh with _ e2 _
    subst e2;exact⟨by decide,by decide⟩)).ext hE8)
   have HW8:Hid (Hx w8 gX gx g gB n):=lh ⟨(K8.blk HW.out.1 (Qq HW.out.1 HMr.out.blk de)).ext hE8,(K8.blk HW.out.2 hgxg).ext hE8⟩;have HG8:=lh (hset.ext hE8);have HO8:Hid (Blk w8 gO 4 (Ky (List.replicate n false))):=lh (((BM.ext hE7).far (p:=⟨g,5,none⟩) (by show gO≠g;omega) _).ext hE8);have HK8:Hid (KpP (·=g) w w8):=lh (((KpP.of_ext X1.out).trans K8).trans (KpP.of_ext hE8));clear hbset hset K8 x7 hE4 hK4 hE5 hK5 hE7 hK7 hE8 hK8 c57 f57 EM BM c3 c5 cx fg j0;have EF:=Ext.alloc w8 (.cells #[.nilFunc] 144);have BF:=Blk.new w8 144 #[.nilFunc]
   go_upto_region 15 with fail
   obtain⟨gl,hgl⟩:∃q,q=w8.heap.size:=⟨_,rfl⟩
   rw[<-hgl] at BF ⊢;have hglw:wm.heap.size<=gl:=by have:=HK8.out.size;have:=HO8.out.lt;omega
   clear hgl;generalize w8.alloc (.cells #[.nilFunc] 144)=w9 at *;have za:w9.cell? ⟨gl,0,none⟩=some .nilFunc:=BF.cell 0;have fa:=BF.frz 0;have hst:(store ⟨gl,0,none⟩ (.func (.func 122) #[] #[.pointer (some ⟨gX,0,none⟩),.pointer (some ⟨gx,0,none⟩),.pointer (some ⟨gl,0,none⟩)])).run Tryz.prog w9=.ok () (w9.setCell ⟨gl,0,none⟩ (.func (.func 122) #[] #[.pointer (some ⟨gX,0,none⟩),.pointer (some ⟨gx,0,none⟩),.pointer (some ⟨gl,0,none⟩)])):=by
    rw[run_store Tryz.prog w9 _ _ _ rfl,za];simp[fa]
   go_upto_region 16 with fail
   have hOl:=HO8.out.lt;have HWA:Hid (LeM (w9.setCell ⟨gl,0,none⟩ (.func (.func 122) #[] #[.pointer (some ⟨gX,0,none⟩),.pointer (some ⟨gx,0,none⟩),.pointer (some ⟨gl,0,none⟩)])) ⟨w.heap.size,gX,gx,gl,g,gB,gO⟩ m rows (List.replicate n false)):=by
    have bf:=BF.set 0 (V5 ⟨w.heap.size,gX,gx,gl,g,gB,gO⟩);have d1:=Qq (HW8.out.1.ext EF) BF de;have d2:=Qq (HW8.out.2.ext EF) BF de;have d3:=Qq (HG8.out.ext EF) BF de;have d4:=Qq (HO8.out.ext EF) BF de;have d5:=Qq (HBF8.out.blk.ext EF) BF de;have kS:KpP (·=gl) w9 (w9.setCell ⟨gl,0,none⟩ (V5 ⟨w.heap.size,gX,gx,gl,g,gB,gO⟩)):=KpP.set (p:=(·=gl)) (x:=⟨gl,0,none⟩) (KpP.refl _ _) (.inl rfl) _;refine lh ⟨?_,(HW8.out.2.ext EF).far d2 _,by simpa[V5] using bf,?_,(HO8.out.ext EF).far d4 _,(HBF8.out.ext EF).kp kS (fun b hb cur T hh=>?_),by rw[hrl.out];simp⟩
    ·have b:=(HW8.out.1.ext EF).far (p:=⟨gl,0,none⟩) d1 (V5 ⟨w.heap.size,gX,gx,gl,g,gB,gO⟩);simp only[hrl.out];exact b
    ·have b:=(HG8.out.ext EF).far (p:=⟨gl,0,none⟩) d3 (V5 ⟨w.heap.size,gX,gx,gl,g,gB,gO⟩);simp only[hrl.out];exact b
    ·have e:b=gl:=hb;subst e;unfold Blk at BF;rw[BF] at hh;injection hh with hh;injection hh with _ e2 _
     subst e2;exact⟨by decide,by decide⟩
   have HKA:Hid (KpP (·=g) w (w9.setCell ⟨gl,0,none⟩ (.func (.func 122) #[] #[.pointer (some ⟨gX,0,none⟩),.pointer (some ⟨gx,0,none⟩),.pointer (some ⟨gl,0,none⟩)]))):=lh (KpP.set (x:=⟨gl,0,none⟩) (HK8.out.trans (KpP.of_ext EF)) (.inr (by have:=X1.out.size;show w.heap.size<=gl;omega)) _);generalize w9.setCell ⟨gl,0,none⟩ (.func (.func 122) #[] #[.pointer (some ⟨gX,0,none⟩),.pointer (some ⟨gx,0,none⟩),.pointer (some ⟨gl,0,none⟩)])=wa at *;clear hst za fa BF EF HO8 HG8 HW8 HBF8 HK8;have hgOw:w.heap.size<=gO:=by have:=X1.out.size;omega
   clear HBF HW X1 HMr;have HE:Hid (∀t q,t<n->(CV n nc (Wq m.next) q t<->q∈bef NX nc n t)):=lh (fun t q _=>by rw[Lq,hNX.out];exact Iff.rfl);have HN:Hid (∀t (ht:t<rows.length),rows[t].l=Q3 (bef NX nc n t)/\(bef NX nc n t).length<=1000000000/\∀q∈bef NX nc n t,q<rows.length):=lh (fun t ht=>by
    refine⟨by rw[HBN.out.get ht,CI],?_,fun q hq=>by rw[hrl.out];exact(Lq.1 hq).1⟩;have h1:=Bq (nx:=NX) (m:=nc) (t:=t) n;have h2:n*nc<=1024*10000:=Nat.mul_le_mul hn hnc;omega)
   have HLEAD:=fun(w':World) (op:List Bool) (t:Nat) (hL:LeM w' ⟨w.heap.size,gX,gx,gl,g,gB,gO⟩ m rows op) (ht:t<n)=>lh (UW ⟨w.heap.size,gX,gx,gl,g,gB,gO⟩ m rows (fun t=>bef NX nc n t) HN.out (CV n nc (Wq m.next)) (fun t q ht=>HE.out t q (by rw[hrl.out] at ht;exact ht)) (by rw[hrl.out];omega) (Xw op+1) w' op t hL (Nat.lt_succ_self _) (by rw[hrl.out];exact ht));have HF0:Hid (VG (CV n nc (Wq m.next)) (Mk1 (List.replicate n false)) (fun q=>q<0/\m.done.getD q false=true)):=lh (VG.start (fun x h=>absurd h.1 (Nat.not_lt_zero _)));have cx:wa.cell? ⟨gx,0,none⟩=some (.pointer (some ⟨g,0,none⟩)):=HWA.out.bm.cell 0;have c4:wa.cell? ⟨g,4,none⟩=some (.slice m.dA m.done.length m.dc):=HWA.out.bg.cell 4;have hdl:=HDL.out;rw[hnE.out] at hdl;rw[hdl] at c4;obtain⟨DA,hDA⟩:∃DA,Hid (m.dA=DA):=⟨_,lh rfl⟩;rw[hDA.out] at c4;have HKD:=fun(w':World) (k:KpP (·=g) w w')=>lh (show IB w' DA m.dc m.done from by have h:=(HKG w' k).out.2;rw[hDA.out] at h;exact h);have HDL2:=lh hdl;clear hdl
   go_upto_region 17 with fail
   clear cx c4
   go_loopw [65] (fun v wr=>∃(t:Nat) (op:List Bool),v=.int .i64 t/\t<=n/\Hid (LeM wr ⟨w.heap.size,gX,gx,gl,g,gB,gO⟩ m rows op)/\Hid (VG (CV n nc (Wq m.next)) (Mk1 op) (fun q=>q<t/\m.done.getD q false=true))/\Hid (KpP (·=g) w wr)) (fun v _=>n-(intOf v).toNat)
   case atStart=>exact⟨0,_,rfl,om,HWA,HF0,HKA⟩
   case round=>
    obtain⟨t,op,rfl,ht,HL,HF,HK⟩:=hrel;clear HWA HF0 HKA;obtain⟨wt,hwt⟩:∃x,x=wr:=⟨_,rfl⟩;subst hwt;by_cases hlt2:t<n
    ·have htI:(t:Int)<n:=om;have htd:t<m.done.length:=by rw[HDL2.out];exact hlt2
     obtain⟨db,dd,hdA,cd⟩:=(HKD wt HK.out).out.get htd;have hdA':=hdA;subst hdA';clear hdA;have HDV:=lh (show m.done.getD t false=m.done[t] by simp[List.getD_eq_getElem?_getD,htd]);generalize m.done[t]=bd at *;have HTS:Hid (∀q,q<t+1/\m.done.getD q false=true<->(q<t/\m.done.getD q false=true)\/(q=t/\bd=true)):=lh (fun q=>by
      constructor
      ·rintro⟨h1,h2⟩;by_cases e:q=t
       ·subst e;exact .inr ⟨rfl,by rw[<-HDV.out];exact h2⟩
       ·exact .inl ⟨om,h2⟩
      ·rintro(⟨h1,h2⟩|⟨rfl,h2⟩)
       ·exact⟨om,h2⟩
       ·exact⟨om,by rw[HDV.out];exact h2⟩)
     have cl:wt.cell? ⟨gl,0,none⟩=some (V5 ⟨w.heap.size,gX,gx,gl,g,gB,gO⟩):=HL.out.bl.cell 0;unfold V5 at cl;have eg:=PR;have HLC:=HLEAD wt op t HL.out hlt2;by_cases hb:bd=true
     ·subst hb
      go_wp2_with (go_at_fn 122;refine HLC.out.mono ?_;rintro e w7 ⟨op7,rfl,h7,k7,kk7⟩)
      have HL7:=lh h7;have HF7:=lh ((HF.out.step k7).iff (T':=fun q=>q<t+1/\m.done.getD q false=true) (fun q=>by rw[HTS.out q];simp));have HK7:Hid (KpP (·=g) w w7):=lh (KpP.chain HK.out kk7 (fun i hi=>.inr (by have e:i=gO:=hi;omega)));clear h7 k7 kk7 cl HLC;go_roundw
      case rel=>exact⟨t+1,op7,by go_num,om,HL7,HF7,HK7⟩
      case measure=>simp[intOf];omega
     ·have hb2:bd=false:=by simpa using hb
      subst hb2;have HF7:=lh (HF.out.iff (T':=fun q=>q<t+1/\m.done.getD q false=true) (fun q=>by rw[HTS.out q];simp));clear cl HLC
      go_wp2_with fail
      go_roundw
      case rel=>exact⟨t+1,op,by go_num,om,HL,HF7,HK⟩
      case measure=>simp[intOf];omega
    ·have htI:¬(t:Int)<n:=om;obtain rfl:n=t:=om
     go_wp2_with fail
     refine bodyPost_ret (v:=.tuple #[]) (by simp[results,Tryz.results73,go_sem]) rfl ⟨gO,op,rfl,⟨?_,(HKG wt HK.out).out.1,(HKG wt HK.out).out.2,?_⟩,⟨?_,fun j=>?_⟩,HK.out⟩
     ·have b:=HL.out.bg;simp only[hrl.out] at b;have e:=HL.out.ol;rw[hrl.out] at e;unfold kV at b;simp only[hnE.out] at b;simp only[Bx,e,hnE.out];exact b
     ·have e:=HL.out.ol;rw[hrl.out] at e;have b:=IB.of_blkB HL.out.bo (by rw[e];unfold maxLen;omega);rw[e] at b;simp only[hnE.out];exact b
     ·rw[hnE.out];have e:=HL.out.ol;rw[hrl.out] at e;exact e
     ·rw[hnE.out];exact HF.out.law j
theorem KX.blkK {gM g:Nat}{w w':World}{ds:Array Value}(k:KX gM w w')(h:Blk w g 21 ds):Blk w' g 21 ds:=by
 obtain⟨q,k,n⟩:=k;exact(k.block g h.lt (fun hq=>(n g hq _ _ h).1.2.2.1 rfl)).trans h
theorem dj:(Tryz.prog.info? 152).map (fun i=>(i.zero,i.size,i.bytes))=some (some (.slice none 0 0),1,24):=by kernel_rfl
theorem gF:(Tryz.prog.info? 4).map (fun i=>(i.zero,i.size,i.bytes))=some (some (.bool false),1,1):=by kernel_rfl
theorem aq {P:Prop} (h:P:=by
 go_wp2_with fail
 go_roundw
 case rel=>exact⟨j+1,B,d,by go_num,om,by rw[HU2.out],by rw[HU2.out];exact HBB,x1⟩
 case measure=>simp[intOf];omega):P:=h
theorem aj {P:Prop} (h:P:=by
 rcases hi with hi|hi|hi
 ·exact .inl (.inr (.inl hi))
 ·exact .inl (.inr (.inr (.inr hi)))
 ·right;rw[<-HXB.out];omega):P:=h
theorem I5 (w0 w:World)(p:BP)(gA:Option Addr)(gc:Nat)(hs:List Hin)(cs:List Int)(rows:List Kb)(h:BS w w0 p gA gc hs cs rows 0 none 0 [])(hbase:w.heap.size<=p.base)
 (runes0:Bool) (caps:Int) (hG:GOk runes0 caps (QW hs)) (hP:PL w0 gA gc hs) (hcs:cs.length<=10000) (g:Nat) (hg:w0.heap.size<=g) (runes:Bool) (rA:Option Addr) (rn rc:Nat) (f0:Int)
 (hm:ExM w g w.heap.size runes rA rn rc f0 none 0 [] none 0 []) :
 Calls Tryz.prog 72 #[.pointer (some ⟨g,0,none⟩),.pointer (some ⟨p.gb,0,none⟩),.int .i64 cs.length] w (lV w0 g w.heap.size runes rA rn rc (QW hs) cs (VS (QW hs) cs)):=by
 have hgl:=hP.len;have hn8:=hG.len;rw[Qw] at hn8;have hgw:g<w.heap.size:=hm.blk.lt;have hw0:w0.heap.size<=w.heap.size:=h.ext.size;have HRO:=fun(w':World) (k:KpP (QE g p) w w')=>lh (show VZ w' hs cs hs.length rows from h.ro.kpT k (fun b hb cur hh=>by
  rcases hb with rfl|rfl|rfl|rfl
  ·exact yA hm.blk de cur hh
  ·exact yA h.bb de cur hh
  ·obtain⟨ms,h5,_⟩:=h.bm;exact yA h5 de cur hh
  ·exact zQ h.nm.map cur hh))
 have HP:=lh hP;have HG:=lh hG;have HG0:Hid (0<=p.gM/\p.gM<w.heap.size):=lh (by
  obtain⟨ms,h5,_⟩:=h.bm;exact⟨Nat.zero_le _,h5.lt⟩)
 have BF:=Blk.new w 3 #[.int .i64 0];have EF:=Ext.alloc w (.cells #[.int .i64 0] 3);have HB1:=lh (h.extW EF);have HM1:=lh (hm.ext EF);have HK1:Hid (KpP (QE g p) w (w.alloc (.cells #[.int .i64 0] 3))):=lh (KpP.of_ext EF);obtain⟨RES,hRES⟩:∃RES,Hid (VS (QW hs) cs=RES):=⟨_,lh rfl⟩;rw[hRES.out];have HO:=lh (KE.start (QW hs) cs);rw[hRES.out] at HO;obtain⟨xb,hxb⟩:∃xb,xb=w.heap.size:=⟨_,rfl⟩
 rw[<-hxb] at hbase hgw hw0 HG0 HM1 BF ⊢;have HXB:=lh hxb;obtain⟨S0,hS0⟩:∃S0,Hid (QX (QW hs) [0]=S0):=⟨_,lh rfl⟩;have HS0:=lh (wH (QW hs) [0]);rw[Qw] at HS0;rw[hS0.out] at HO HS0;have HLS:=fun(F:Option Addr) (hF:IL (w.alloc (.cells #[.int .i64 0] 3)) F 1 (Q3 [0])) tF nF=>lh (D1 HB1.out hG hP ⟨om,om⟩ F 1 [0] hF tF nF (by simp;omega));rw[hS0.out] at HLS;clear h hm hP hG hxb;go_enter Tryz.func72,Tryz.ntmps72
 go_upto_region 1 with fail
 go_upto_region 2 with fail
 rw[<-HXB.out];generalize w.alloc (.cells #[.int .i64 0] 3)=wa at *;have tF:TyI wa (some ⟨xb,0,none⟩):=fun b hb=>by
  have e:xb=b:=by simpa using hb
  subst e;exact⟨_,BF⟩
 refine(HLS (some ⟨xb,0,none⟩) (IL.one (x:=0) BF (by unfold I64;omega)) tF (by have:=HG0.out;simp;omega)).out.mono ?_;rintro e w3 ⟨A,c,rfl,iA,tA,nA,B3,K3,X3⟩;have HM3:=lh (HM1.out.kx X3);have HB3:=lh B3;have HK3:=lh (KpP.chain HK1.out K3 (fun i hi=>.inl (hi.elim (fun e=>.inr (.inl e)) (fun e=>.inr (.inr (.inl e))))));clear HLS HB1 HM1 HK1 BF EF tF B3 K3 X3
 go_upto_region 2 with fail
 refine(Hq HB3.out si A c S0 iA (by have:=HS0.out.2;omega) (fun i hi=>by have:=HS0.out.1 i hi;omega) tA nA).mono ?_;rintro e w4 ⟨LA,Lc,sts,rfl,hst,B4,K4,X4⟩;have hst2:QV sts=grow [] S0:=hst
 rw[<-hst2] at HO;have HM4:=lh (HM3.out.kx X4);have HB4:=lh B4;have HK4:=lh (KpP.chain HK3.out K4 (fun i hi=>by
  exact aj))
 generalize idx (QV sts) S0=fs0 at *;have q2:w4.cell? ⟨g,2,none⟩=some (.int .i32 f0):=HM4.out.blk.cell 2;have f2:=HM4.out.blk.frz 2;clear HB3 HM3 HK3 iA tA nA hst hst2 B4 K4 X4
 go_upto_region 2 with fail
 have HM5:=lh (HM4.out.fst fs0);have k5:KpP (fun b=>(none:Option Addr).map (·.block)=some b\/b=g) w4 (w4.setCell ⟨g,2,none⟩ (.int .i32 fs0)):=KpP.set (x:=⟨g,2,none⟩) (KpP.refl _ _) (.inl (.inr rfl)) _;have HK5:=lh (KpP.chain HK4.out k5 (fun i hi=>.inl (.inl (by simpa using hi))));have HB5:=lh (HB4.out.mac (QQ.nil w4 xb 21 1) de hw0 HM4.out.blk hg k5 (HRO _ HK5.out).out);generalize w4.setCell ⟨g,2,none⟩ (.int .i32 fs0)=w5 at *;clear HM4 HB4 HK4 q2 f2 k5
 go_upto_region 3 with fail
 have hmk:=mkK cs.length om;have HLS2:=fun(w1:World) (LA:Option Addr) (Lc:Nat) (sts:List Hl) (mk:Int) (hB:BS w1 w0 p gA gc hs cs rows mk LA Lc sts) (hm:0<=mk/\mk<=1000000000) F fc fs hF tF nF hfs=>lh (D1 hB HG.out HP.out hm F fc fs hF tF nF hfs)
 go_loopw [7] (fun v wr=>∃(i:Nat) (LA:Option Addr) (Lc:Nat) (sts:List Hl) (mk:Int) (nA:Option Addr) (nc:Nat) (nxt:List Kr) (dA:Option Addr) (dc:Nat) (dn:List Bool),v=.int .i64 i/\Hid (BS wr w0 p gA gc hs cs rows mk LA Lc sts)/\Hid (ExM wr g xb runes rA rn rc fs0 nA nc nxt dA dc dn)/\Hid (KE (QW hs) cs RES (QV sts) i fs0 (Wq nxt) dn)/\Hid (1<=mk/\mk<=200+10000*(i:Int))/\Hid (KpP (QE g p) w wr)) (fun v _=>1030-(intOf v).toNat)
 case atStart=>exact⟨0,LA,Lc,sts,0+1,none,0,[],none,0,[],rfl,HB5,HM5,HO,lh om,HK5⟩
 case round=>
  obtain⟨i,LA',Lc',sts',mk,nA,nc,nxt,dA,dc,dn,rfl,HB,HM,HO2,HMK,HK⟩:=hrel;clear HB5 HM5 HO HK5;obtain⟨wR,hwR⟩:∃x,x=wr:=⟨_,rfl⟩;subst hwR;have qb5:wR.cell? ⟨p.gb,5,none⟩=some (.slice LA' sts'.length Lc'):=HB.out.bb.cell 5;have HLc:=QQ.caps HB.out.nm.own;by_cases hlt:i<sts'.length
  ·have hiI:(i:Int)<sts'.length:=om;have hi2:i<(Zz sts').length:=by simpa[Zz] using hlt
   obtain⟨lb,lo,hLA,cl⟩:=QQ.cells HB.out.nm.own (by intro e;rw[e] at hi2;simp at hi2);have hcl:=cl i hi2;have hz:(Zz sts')[i]=.slice sts'[i].A sts'[i].l.length sts'[i].c:=by simp[Zz,QJ]
   rw[hz] at hcl;have hLA':=hLA;subst hLA';have HIL:=lh (HB.out.nm.il _ (List.getElem_mem hlt));have HTY:=lh (HB.out.nm.ty _ (List.getElem_mem hlt));have HNM:=lh (HB.out.nm.nM _ (List.getElem_mem hlt));have hst:(QV sts')[i]'(by rw[QF];exact hlt)=sts'[i].l:=by simp[QV]
   have HZL:=lh (HO2.out.lt _ (List.getElem_mem (by rw[QF];exact hlt:i<(QV sts').length)));rw[hst,Qw] at HZL;have HST:=lh hst;obtain⟨z,hz9⟩:∃z,z=sts'[i]:=⟨_,rfl⟩
   rw[<-hz9] at hcl HIL HTY HNM HZL HST;have hzl:=HIL.out.len;rw[WY] at hzl;clear cl hz hst hz9 hi2;obtain⟨zA,zc,zl⟩:=z
   simp only at hcl HIL HTY HNM HZL HST hzl
   have EX:=Ext.alloc wR (.cells (Array.replicate cs.length (.int .i32 0)) 21);have BX:=Blk.new wR 21 (Array.replicate cs.length (.int .i32 0))
   go_upto_region 6 with fail
   go_upto_region 7 with fail
   obtain⟨gX,hgX⟩:∃gX,gX=wR.heap.size:=⟨_,rfl⟩
   rw[<-hgX] at BX ⊢;have HGX:=lh hgX;clear hgX;generalize wR.alloc (.cells (Array.replicate cs.length (.int .i32 0)) 21)=wy at *;have HBy:=lh (HB.out.extW EX);have HKy:=lh (KpP.trans HK.out (KpP.of_ext EX));have HXy:Hid (KX p.gM wR wy):=lh (KX.of_ext EX);have HRX:Hid (Blk wy gX 21 (W0 (qW (QW hs) cs (QV sts') zl 0))):=lh (by
    rw[PO]
    simpa[W0] using BX)
   have HS0':=lh (zF (QW hs) cs (QV sts') zl).symm;have HLE:=lh HO2.out.le;have HP9:=HP;have HGXw:Hid (w0.heap.size<=gX/\wR.heap.size<=gX):=lh (by
    have:=HGX.out;have:=HB.out.ext.size;omega)
   clear EX BX hcl qb5
   go_upto_region 8 with fail
   go_loopw [41] (fun v wm=>∃(k:Nat) (LA2:Option Addr) (Lc2:Nat) (sts2:List Hl) (mk2:Int),v=.int .i64 k/\k<=cs.length/\Hid (BS wm w0 p gA gc hs cs rows mk2 LA2 Lc2 sts2)/\Hid (QV sts2=W3 (QW hs) cs (QV sts') zl k)/\Hid ((QV sts2).length<=1024)/\Hid (Blk wm gX 21 (W0 (qW (QW hs) cs (QV sts') zl k)))/\Hid (mk2=mk+k)/\Hid (KpP (QE g p) w wm)/\Hid (KX p.gM wR wm)) (fun v _=>cs.length-(intOf v).toNat)
   case atStart=>exact⟨0,_,_,sts',mk,rfl,om,HBy,HS0',HLE,HRX,lh om,HKy,HXy⟩
   case round=>
    obtain⟨k,LA2,Lc2,sts2,mk2,rfl,hk,HB2,HS2,HL2,HX2,HM2,HK2,HKX2⟩:=hrel;clear HBy HKy HXy HRX HS0' HLE;obtain⟨wm,hwm⟩:∃x,x=wr:=⟨_,rfl⟩;subst hwm;by_cases hlt2:k<cs.length
    ·have hkI:(k:Int)<cs.length:=om;have HI2:=lh (KX.lst HKX2.out HIL.out HTY.out HNM.out).1;obtain⟨x,hx⟩:∃x,Hid (cs[k]=x):=⟨_,lh rfl⟩;have HHF:=fun(l:List Sp)=>lh (show kW cs l k=has l x by rw[<-hx.out];simp[kW,List.getD_eq_getElem?_getD,hlt2]);have b0:wm.cell? ⟨p.gb,0,none⟩=some (.slice gA hs.length gc):=HB2.out.bb.cell 0;have b1:wm.cell? ⟨p.gb,1,none⟩=some (.slice (some ⟨p.gH,0,none⟩) hs.length hs.length):=HB2.out.bb.cell 1
     go_upto_region 12 with fail
     go_loopw [11,46] (fun v11 v46 wi=>∃(j:Nat) (B:Option Addr) (d:Nat),v46=.int .i64 j/\j<=zl.length/\v11=.slice B (QJ (ZL (QW hs) x zl j)).length d/\Hid (WO wi wm.heap.size 3 B d (QJ (ZL (QW hs) x zl j)))/\Ext wm wi) (fun _ v _=>zl.length-(intOf v).toNat)
     case atStart=>exact⟨0,none,0,rfl,om,rfl,lh (QQ.nil _ _ _ _),Ext.rfl' _⟩
     case round=>
      obtain⟨j,B,d,rfl,hj,rfl,HBB,x1⟩:=hrel;have b0r:=x1.cell b0;have b1r:=x1.cell b1;by_cases hlt3:j<zl.length
      ·have hjI:(j:Int)<zl.length:=om;have hlen2:j<(QJ zl).length:=by rw[WY];exact hlt3
       obtain⟨fb,fo,hzA,f0⟩:=(HI2.out.ext x1).get hlen2;rw[YH hlt3] at f0;have hpc:=HZL.out.1 _ (List.getElem_mem hlt3);have HY:=fun h=>lh (GW (G:=QW hs) (c:=x) hlt3 h);have HN:=fun h=>lh (Lk (G:=QW hs) (c:=x) hlt3 h);rw[zK hpc] at HY HN;have HUL:=xR (QW hs) x zl j;have HZ8:=HZL.out.2;obtain⟨pb,po,hgA,c0,_⟩:=((HP9.out.ext HB2.out.ext).ext x1).get hpc;have HRr:=HRO wr (KpP.trans HK2.out (KpP.of_ext x1));have hrl:=HRr.out.len;have hH:=(HB2.out.bh.ext x1).cellR (i:=zl[j]) (by rw[hrl];exact hpc);have HRB:=lh (HRr.out.ib zl[j] (by rw[hrl];exact hpc) hpc);have HRV:=lh (HRr.out.val zl[j] hpc (by rw[hrl];exact hpc) hpc);unfold zE at hH;generalize zl[j]=pn at *;have hgA':=hgA;subst hgA';have hzA':=hzA;subst hzA';generalize hs[pn]=hh at *;generalize rows[pn]=rr at *;obtain⟨zop,zx,zy,zn,hA,hc,hl⟩:=hh;obtain⟨rrA,rrc,rrl⟩:=rr
       simp only at c0 hH HRB HRV HY HN
       have HX4:=x1;clear hgA hzA hrl HRr;obtain⟨U,hU⟩:∃U,U=QJ (ZL (QW hs) x zl j):=⟨_,rfl⟩;have hUl:U.length<=8192:=by rw[hU,WY];omega
       rw[<-hU] at HBB ⊢;replace hU:=lh hU;by_cases hop:zop=1
       ·subst hop;have hv:=HRV.out;rw[if_pos rfl] at hv;have hrr:rrl.length=cs.length:=by rw[hv,wG]
        obtain⟨rb,ro,hrA,crk⟩:=HRB.out.get (k:=k) om;have hbit:rrl[k]'om=has hl x:=by
         rw[<-(HHF hl).out];simp[hv,upB,hlt2]
        rw[hbit] at crk;rw[hrr] at hH;have hrA':=hrA;subst hrA';have hrc:=HRB.out.len;rw[hrr] at hrc;clear hbit hv hrr HRV HRB hrA;by_cases hhs:has hl x=true
        ·rw[hhs] at crk HY;have HYY:=HY si;have HU2:=lh (show QJ (ZL (QW hs) x zl (j+1))=U++[((pn+1:Nat):Int)] by rw[HYY.out,qX,hU.out]);have ewp:IntKind.i64.wrap ((pn:Int)+1)=(pn:Int)+1:=wj;have ecp:((pn+1:Nat):Int)=(pn:Int)+1:=om;rw[ecp] at HU2;clear HY HN HYY ecp hhs
         go_wp2_with ((at_builtin;refine KN rfl _ _ _ rfl 3 YF Tryz.underlying22 wm HX4 ((pn:Int)+1) (by first|rfl|simp[ewp]) B d U rfl HBB.out rfl om (QJ (ZL (QW hs) x zl (j+1))) HU2.out ?_;intro B2 d2 w6 hoB x6 hgB hatB))
         go_roundw
         case rel=>exact⟨j+1,B2,d2,by go_num,om,rfl,lh hoB,x6⟩
         case measure=>simp[intOf];omega
        ·have hhs2:has hl x=false:=by simpa using hhs
         rw[hhs2] at crk HN;have HNN:=HN si;have HU2:=lh (show QJ (ZL (QW hs) x zl (j+1))=U by rw[HNN.out,hU.out]);clear HY HN hhs hhs2 HNN;exact aq
       ·have hop2:(zop == 1)=false:=by simp[hop]
        have HNN:=HN (by simp[hop]);have HU2:=lh (show QJ (ZL (QW hs) x zl (j+1))=U by rw[HNN.out,hU.out]);clear HY HN hop HNN HRV;exact aq
      ·have hjI:¬(j:Int)<zl.length:=om;obtain rfl:j=zl.length:=om;have HFS:=lh (Lv HG.out (c:=x) HZL.out.1 zl.length);obtain⟨S,hS⟩:∃S,Hid (QZ (QW hs) zl x=S):=⟨_,lh rfl⟩;have HSU:=lh (GZ (QW hs) x zl);rw[hS.out] at HSU;have HUL:=lh (xR (QW hs) x zl zl.length);obtain⟨U,hU⟩:∃U,Hid (ZL (QW hs) x zl zl.length=U):=⟨_,lh rfl⟩;rw[hU.out] at HFS HSU HBB HUL ⊢;rw[WY];have iU:IL wr B d (Q3 U):=IL.of_own HBB.out (fun y hy=>by
        obtain⟨q,hq,rfl⟩:=List.mem_map.1 hy;have:=HFS.out q hq;unfold I64;omega)
       have tU:TyI wr B:=fun b hb=>(QQ.blt HBB.out hb).2;have nU:B.map (·.block)≠some p.gM:=fun e=>by
        have h1:=QQ.row HBB.out _ e;obtain⟨ms,h5,_⟩:=HB2.out.bm;have:=h5.lt;omega
       have hmk2:0<=mk2/\mk2<=1000000000:=by have:=HM2.out;have:=HMK.out;have:=HO2.out.le;rw[QF] at this;omega
       have HLC:=HLS2 wr _ _ _ _ (HB2.out.extW x1) hmk2 B d U iU tU nU HFS.out
       rw[<-HSU.out] at HLC;have HSt:=lh (wH (QW hs) U)
       rw[<-HSU.out,Qw] at HSt;clear iU tU nU hmk2 b0 b1 HBB HUL
       go_upto_region 17 with fail
       go_upto_region 18 with fail
       refine HLC.out.mono ?_;rintro e w3 ⟨A3,c3,rfl,iA,tA,nA3,B3,K3,X3⟩;have HB3:=lh B3;have HK3:=lh (KpP.chain (KpP.trans HK2.out (KpP.of_ext x1)) K3 (fun i hi=>.inl (hi.elim (fun e=>.inr (.inl e)) (fun e=>.inr (.inr (.inl e))))));have HX3:=lh (KX.trans (KX.of_ext x1) X3);clear HLC B3 K3 X3
       go_upto_region 18 with fail
       refine(Hq HB3.out (by have:=HL2.out;rw[QF] at this;omega) A3 c3 S iA (by have:=HSt.out.2;omega) (fun i hi=>by have:=HSt.out.1 i hi;omega) tA nA3).mono ?_;rintro e w4 ⟨LA4,Lc4,sts4,rfl,hst4,B4,K4,X4⟩;have HB4:=lh B4;have HK4:=lh (KpP.chain HK3.out K4 (fun i hi=>by
        exact aj))
       have HX4:=lh (KX.trans HX3.out X4);have HS4:Hid (QV sts4=W3 (QW hs) cs (QV sts') zl (k+1)):=lh (by
        rw[hst4,YO _ _ _ _ hlt2,HS2.out,hx.out,hS.out])
       have HR4:=lh (PP (QW hs) cs (QV sts') zl hlt2)
       rw[<-HS4.out,hx.out,hS.out] at HR4;have HXB4:=lh (HX4.out.blkK HX2.out);generalize idx (QV sts4) S=v4 at *;have hmr:=Hj (QW hs) cs (QV sts') zl k;have q4:=HXB4.out.cellK (i:=k) (by rw[hmr];exact hlt2);have f4:=HXB4.out.frz k;generalize (qW (QW hs) cs (QV sts') zl k)[k]=y4 at *;clear HX3 HK3 HB3 iA tA nA3 hst4 B4 K4 X4 hmr
       go_upto_region 18 with fail
       have k5:KpP (·=gX) w4 (w4.setCell ⟨gX,k,none⟩ (.int .i32 v4)):=KpP.set (p:=(·=gX)) (x:=⟨gX,k,none⟩) (KpP.refl _ _) (.inl rfl) _;have HK5:=lh (KpP.chain HK4.out k5 (fun i hi=>.inr (by
        have e:i=gX:=hi;have:=HGXw.out;have:=HK.out.size;omega)))
       have HB5:=lh (HB4.out.far k5 (fun b hb=>by
        have e:b=gX:=hb;subst e;exact⟨⟨_,_,HXB4.out,by decide⟩,HGXw.out.1⟩) (HRO _ HK5.out).out)
       have HX5:=lh ((KX.trans HKX2.out HX4.out).thenNew k5 (fun i hi=>by
        have e:i=gX:=hi;have:=HGXw.out;omega))
       have HXB5:=HXB4.out.set k (.int .i32 v4);rw[YM,HR4.out] at HXB5;replace HXB5:=lh HXB5;generalize w4.setCell ⟨gX,k,none⟩ (.int .i32 v4)=w5 at *;clear k5 HB4 HK4 HX4 HXB4 q4 f4 HR4;have q5:w5.cell? ⟨p.gb,5,none⟩=some (.slice LA4 sts4.length Lc4):=HB5.out.bb.cell 5;have hl4:sts4.length<=100000:=by
        have h1:=HS4.out;rw[YO _ _ _ _ hlt2,<-HS2.out] at h1;have h2:=congrArg List.length h1;rw[QF] at h2;have h3:=HL2.out;have h4:(grow (QV sts2) (QZ (QW hs) zl cs[k])).length<=(QV sts2).length+1:=by
         unfold grow;split
         ·omega
         ·simp
        omega
       by_cases hov:1024<sts4.length
       ·have hovI:(1024:Int)<sts4.length:=om;have HOV:Hid (RES=none):=lh (by
         refine HO2.out.over (by rw[QF];exact hlt) (k:=k+1) ?_;rw[HST.out,<-HS4.out,QF];exact hov)
        have HE5:=lh HB5.out.ext;clear HB5 HX5 HXB5 HK5
        go_wp2_with fail
        go_ret
        exact .inl ⟨HOV.out,rfl,HE5.out⟩
       ·have hovI:¬(1024:Int)<sts4.length:=om
        go_wp2_with fail
        go_roundw
        case rel=>exact⟨k+1,LA4,Lc4,sts4,mk2+1,by go_num,om,HB5,HS4,lh (by rw[QF];omega),HXB5,lh (by have:=HM2.out;omega),HK5,HX5⟩
        case measure=>simp[intOf];omega
    ·have hkI:¬(k:Int)<cs.length:=om;obtain rfl:k=cs.length:=om;have HMm:=lh (HM.out.kx HKX2.out);have hil:=KX.lst HKX2.out HIL.out HTY.out HNM.out;have HILm:=lh hil.1;have HTYm:=lh hil.2;have hrl:=Hj (QW hs) cs (QV sts') zl cs.length;have HRA:=lh (UQ (QW hs) cs (QV sts') zl);have HS3:Hid (QV sts2=Q5 (cs.map (QZ (QW hs) zl)) (QV sts')):=lh (by rw[HS2.out,kK]);obtain⟨row,hrow⟩:∃row,Hid (qW (QW hs) cs (QV sts') zl cs.length=row):=⟨_,lh rfl⟩;rw[hrow.out] at HX2 hrl HRA;have HR32:Hid (∀x∈row,I32 x):=lh (fun x hx=>by
      rw[HRA.out] at hx;obtain⟨c,_,rfl⟩:=List.mem_map.1 hx;have h3:=HL2.out;rw[HS3.out] at h3;unfold idx I32
      split
      ·omega
      ·have:=List.idxOf_le_length (a:=QZ (QW hs) zl c) (l:=Q5 (cs.map (QZ (QW hs) zl)) (QV sts'));omega)
     have hn3:nxt.length<=1100:=by
      have h1:=congrArg List.length HO2.out.nx;have h2:=HO2.out.le;have h4:=HO2.out.il;rw[AY,List.length_map,List.length_take] at h1;omega
     have hd3:dn.length<=1100:=by
      have h1:=congrArg List.length HO2.out.dn;have h2:=HO2.out.le;have h4:=HO2.out.il;rw[List.length_map,List.length_take] at h1;omega
     have HGD:Hid (zl≠[]):=lh (fun e=>HO2.out.good.2 (by rw[<-e,<-HST.out];exact List.getElem_mem _));obtain⟨iR,jR0,jR1,jR2,jR3⟩:=info_parts dj;have EP:=Ext.alloc wm (.cells #[.slice (some ⟨gX,0,none⟩) cs.length cs.length] 152);have c3:wm.cell? ⟨g,3,none⟩=some (.slice nA nxt.length nc):=HMm.out.blk.cell 3;have hxw:xb<=wm.heap.size:=by have:=HK2.out.size;have:=HXB.out;omega
     have HBL:=fun(w8:World) (hg:(wm.alloc (.cells #[.slice (some ⟨gX,0,none⟩) cs.length cs.length] 152)).grownBy w8 (nA.map (·.block)))=>(KpP.of_grown hg).blk (HMm.out.blk.ext EP) (QK (QQ.ext HMm.out.own EP) (HMm.out.blk.ext EP) de);clear hil HKX2 HM HIL HTY HNM HS2
     go_upto_region 22 with(at_builtin;refine Qv _ rfl _ _ _ rfl xb 152 iR (.slice none 0 0) 1 24 Tryz.underlying134 jR0 jR1 jR2 jR3 rfl om nA nxt.length nc (JE nxt) rfl (QQ.ext HMm.out.own (Ext.alloc _ _)) _ 1 1 [.slice (some ⟨gX,0,none⟩) cs.length cs.length] rfl rfl (QC (Blk.new _ _ _)) (by intro u hu;simp only[List.mem_cons,List.not_mem_nil,or_false] at hu;rcases hu with rfl;rfl) um om (Nat.le_trans hxw (Ext.alloc _ _).size) ?_;intro A8 c8 w8 ho8 hg8 hat8;have cl8:=(HBL w8 hg8).cell 3;have fl8:=(HBL w8 hg8).frz 3)
     have K21:=YX g 3 hg8 (Ext.rfl' w8) (.slice A8 (nxt.length+1) c8);have e21:(QQ w8 xb 152 1 A8 (nxt.length+1) c8 (JE nxt++[.slice (some ⟨gX,0,none⟩) row.length row.length])):=by rw[hrl];exact ho8
     have HM21:=lh ((HMm.out.ext EP).row (HX2.out.ext EP) HR32.out um rfl hg8 (Ext.rfl' w8) e21);have hq21:∀b,(nA.map (·.block)=some b\/b=g)->b=g\/(xb<=b):=fun b hb=>hb.elim (fun h=>.inr (QQ.row HMm.out.own b h)) .inl;have HK21:Hid (KpP (QE g p) w (w8.setCell ⟨g,3,none⟩ (.slice A8 (nxt.length+1) c8))):=lh (KpP.chain (KpP.trans HK2.out (KpP.of_ext EP)) K21 (fun b hb=>(hq21 b hb).elim (fun e=>.inl (.inl e)) (fun h=>.inr (by rw[<-HXB.out];exact h))));have HB21:=lh ((HB2.out.extW EP).mac (QQ.ext HMm.out.own EP) de hw0 (HMm.out.blk.ext EP) hg K21 (HRO _ HK21.out).out);have hqI:∀b,(nA.map (·.block)=some b\/b=g)->∀cur,(wm.alloc (.cells #[.slice (some ⟨gX,0,none⟩) cs.length cs.length] 152)).heap[b]?≠some (.cells cur 3 (0,0)):=fun b hb=>by
      rcases hb with hb|rfl
      ·exact XJ (QQ.ext HMm.out.own EP) de hb
      ·exact fun cur=>yx (HMm.out.blk.ext EP) de _ rfl cur
     have HIL21:=lh (IL.kpT (HILm.out.ext EP) (HTYm.out.ext EP) K21 hqI);have HTY21:=lh ((HTYm.out.ext EP).kp K21 hqI);have EB:=lh ((HB2.out.extW EP));clear HMm HILm HTYm c3 HBL cl8 fl8 ho8 hg8 hat8 K21 e21 hq21 hqI EP EB HX2 HK2 HB2 hxw;generalize w8.setCell ⟨g,3,none⟩ (.slice A8 (nxt.length+1) c8)=wy at *;have hne:=HGD.out;have hzl0:0<zl.length:=List.length_pos_iff.2 hne;have hlast:=(HIL21.out).get (k:=zl.length-1) (by rw[WY];omega);rw[YH om] at hlast;obtain⟨fb,fo,hzA,f0⟩:=hlast;have hpc:=HZL.out.1 _ (List.getElem_mem (show zl.length-1<zl.length by omega));have HDN:=lh (show Qk (QW hs) zl=decide (hs[zl[zl.length-1]].op=0) by
      rw[yS hne,List.getLast_eq_getElem,wC hpc])
     obtain⟨pb,po,hgA,c0,_⟩:=(HP9.out.ext HB21.out.ext).get hpc;have hpc':=hpc;generalize zl[zl.length-1]=pn at *;have hgA':=hgA;subst hgA';have hzA':=hzA;subst hzA';clear hgA hzA;have ewl:IntKind.i64.wrap ((zl.length:Int)-1)=(zl.length:Int)-1:=wj;have e1:(zl.length:Int)-1=((zl.length-1:Nat):Int):=om;rw[e1] at ewl;have hlI:((zl.length-1:Nat):Int)<zl.length:=om;have hpcI:(pn:Int)<hs.length:=om;have c4:wy.cell? ⟨g,4,none⟩=some (.slice dA dn.length dc):=HM21.out.blk.cell 4;have cb0:wy.cell? ⟨p.gb,0,none⟩=some (.slice (some ⟨pb,po,none⟩) hs.length gc):=HB21.out.bb.cell 0;generalize hs[pn]=hh at *;have hgb:p.gb≠g:=Qq HB21.out.bb HM21.out.blk de;have hgbd:dA.map (·.block)≠some p.gb:=QK HM21.out.od HB21.out.bb de;have hgd:dA.map (·.block)≠some g:=QK HM21.out.od HM21.out.blk de;have hfbT:=(HTY21.out fb rfl);have hfb:fb≠g:=fun e=>by
      obtain⟨cur,hh⟩:=hfbT;rw[e] at hh;exact yx HM21.out.blk de _ rfl cur hh
     have hfbd:dA.map (·.block)≠some fb:=fun e=>by
      obtain⟨cur,hh⟩:=hfbT;exact GU HM21.out.od de fb e cur hh
     have hpbl:pb<w0.heap.size:=by
      obtain⟨pb',po',e',c',_⟩:=HP9.out.get hpc';obtain⟨rfl,rfl⟩:pb=pb'/\po=po':=by simpa using e'
      exact World.block_lt_of_cell? _ _ c'
     have hpb:pb≠g:=om;have hpbd:dA.map (·.block)≠some pb:=fun e=>by have:=QQ.row HM21.out.od pb e;omega
     have j1:=fun(w':World) (h:Kp (g::Xx dA) wy w')=>h.cell cb0 (by simp[Zx,hgb,hgbd]);have j2:=fun(w':World) (h:Kp (g::Xx dA) wy w')=>h.cell f0 (by simp[Zx,hfb,hfbd]);have j3:=fun(w':World) (h:Kp (g::Xx dA) wy w')=>h.cell c0 (by simp[Zx,hpb,hpbd]);clear hfbT;refine Xr.start (g::Xx dA) kr ?_;refine Xtk 0 ?_
     iterate 3(refine Xtn ?_)
     refine Xtk 5 ?_
     iterate 13(refine Xtn ?_)
     have hbool:Tryz.prog.underlying 51=some (.slice 4):=Tryz.underlying51;refine Xr.lazy 19 121 20 (fun q=>.slice (some ⟨q,0,none⟩) 1 1) 4 #[.bool (hh.op == 0)] rfl (fun b hb=>?_) dK si (fun w'=>by go_simp) ?_
     ·rcases List.mem_cons.1 hb with rfl|hb
      ·exact HM21.out.blk.lt
      ·exact(QQ.blt HM21.out.od (Zx.1 hb)).1
     refine Xsp 4 fun w4 hE4 hK4 K hKK=>?_;have c44:=hE4.cell c4;go_simp;refine hKK _ _ (Q4 _ _ _) hK4 ?_;clear hKK c44;refine ptm ?_;refine Xr.stepZ rfl dK (fun _=>by rfl) (fun w5 g5 hE5 hK5 hg5 hB5 hno K hKK=>?_);have x5:=hE4.trans hE5;obtain⟨iB,jB0,jB1,jB2,jB3⟩:=info_parts gF;have HM25:=lh (HM21.out.ext x5);refine VT _ _ _ _ rfl xb 4 iB (.bool false) 1 1 hbool jB0 jB1 jB2 jB3 rfl om dA dn.length dc (dn.map Value.bool) rfl HM25.out.od _ 1 1 [.bool (hh.op == 0)] rfl rfl (QC hB5) (by intro u hu;simp only[List.mem_cons,List.not_mem_nil,or_false] at hu;rcases hu with rfl;rfl) um om (by have:=x5.size;have:=HK21.out.size;have:=HXB.out;omega) ?_;intro A9 c9 w9 ho9 hg9 hat9;refine hKK _ _ (FV (KpP.of_grown hg9) (fun i hi=>List.mem_cons_of_mem _ (Zx.2 hi))) (hK5.kpP (KpP.of_grown hg9) (fun i hi=>List.mem_cons_of_mem _ (Zx.2 hi))) ?_;clear hKK;refine ptm ?_;refine Xtk 21 ?_;refine Xtn ?_;have bg9:=(KpP.of_grown hg9).blk HM25.out.blk (QK HM25.out.od HM25.out.blk de);refine Xsp 23 fun w10 hE10 hK10 K hKK=>?_;have cg10:=(bg9.ext hE10).cell 4;have fg10:=(bg9.ext hE10).frz 4;go_simp;refine hKK _ _ (QM (Q4 _ _ _) List.mem_cons_self _ _) (hK10.setL List.mem_cons_self _ _) ?_;clear hKK;refine ptm ?_;refine Xdn fun w11 hE11 hK11=>?_;have HXO:Hid ((hh.op == 0)=Qk (QW hs) zl):=lh (by rw[HDN.out];by_cases h:hh.op=0<;>simp[h]);have K11:=YX g 4 hg9 hE10 (.slice A9 (dn.length+1) c9);have HM11:=lh ((HM25.out.put (v:=.slice A9 (dn.length+1) c9) rfl hg9 hE10 ho9).ext hE11)
     have hq11:∀b,(dA.map (·.block)=some b\/b=g)->b=g\/(xb<=b):=fun b hb=>hb.elim (fun h=>.inr (QQ.row HM25.out.od b h)) .inl;have hk10:KpP (QE g p) w (w10.setCell ⟨g,4,none⟩ (.slice A9 (dn.length+1) c9)):=KpP.chain (KpP.trans HK21.out (KpP.of_ext x5)) K11 (fun b hb=>(hq11 b hb).elim (fun e=>.inl (.inl e)) (fun h=>.inr (by rw[<-HXB.out];exact h)));have HK11:Hid (KpP (QE g p) w w11):=lh (hk10.trans (KpP.of_ext hE11));have HB11:=lh (((HB21.out.extW x5).mac HM25.out.od de hw0 HM25.out.blk hg K11 (HRO _ hk10).out).extW hE11);have HO11:Hid (KE (QW hs) cs RES (QV sts2) (i+1) fs0 (Wq (nxt++[⟨some ⟨gX,0,none⟩,row.length,row⟩])) (dn++[hh.op == 0])):=lh (by
      have h:=HO2.out.step (by rw[QF];exact hlt) (by rw[HST.out,<-HS3.out];exact HL2.out);rw[HST.out,<-HS3.out] at h;have e1:Wq (nxt++[(⟨some ⟨gX,0,none⟩,row.length,row⟩:Kr)])=Wq nxt++[row]:=by simp[Wq]
      have e2:row=cs.map (fun c=>idx (QV sts2) (QZ (QW hs) zl c)):=by rw[HRA.out,HS3.out]
      rw[e1,HXO.out,e2];exact h)
     have hi10:i<=1024:=by have:=HO2.out.il;have:=HO2.out.le;omega
     have HMK2:Hid (1<=mk2/\mk2<=200+10000*((i+1:Nat):Int)):=lh (by have:=HM2.out;have:=HMK.out;omega);clear K11 hq11 hk10 HM25 HM21 HB21 HK21 x5 hE4 hK4 hE5 hK5 hE10 hK10 hE11 hK11 cg10 fg10 bg9 ho9 hg9 hat9 hB5 hno hg5 j1 j2 j3 c4 cb0 f0 c0
     go_wp2_with fail
     go_roundw
     case rel=>exact⟨i+1,LA2,Lc2,sts2,mk2,A8,c8,nxt++[⟨some ⟨gX,0,none⟩,row.length,row⟩],A9,c9,dn++[hh.op == 0],by go_num,HB11,HM11,HO11,HMK2,HK11⟩
     case measure=>simp[intOf];omega
  ·have hiI:¬(i:Int)<sts'.length:=om;have hfin:=HO2.out.fin (by rw[QF];exact hlt);have HFN:=lh hfin;have hil:=HO2.out.il;rw[QF] at hil;have HE:=lh HB.out.ext;have hie:i=(QV sts').length:=by rw[QF];omega
   have HIE:=lh hie;clear hfin hil hie
   go_wp2_with fail
   go_ret
   refine .inr ⟨QV sts',fs0,nA,nc,nxt,dA,dc,dn,HFN.out,rfl,HE.out,HM.out,?_⟩;have h:=HO2.out;rw[HFN.out,HIE.out] at h;exact h
end
