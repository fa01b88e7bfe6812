/- Texts of this proof: Y37. -/
import Derived.Test.YtmocoldobnimfaaGreatRP46
set_option linter.all false
set_option maxRecDepth 100000
set_option maxHeartbeats 16000000
namespace Go.Proofs.YtmocoldobnimfaaGreat
section
open Go.RowKit
attribute [local go_sem ↓] Go.wp_at_zero Go.wp_at_succ
theorem FindI.iff {E:Nat→Nat→Prop}{M T T':Nat→Prop}(h:FindI E M T)(ht:∀x,T x↔T' x):FindI E M T':=
 ⟨fun x hx=>by obtain⟨t,h1,h2⟩:=h.why x hx;exact⟨t,(ht t).1 h1,h2⟩,h.clo,fun t hT p hp=>h.all t ((ht t).2 hT) p hp⟩
theorem FindI.start {E:Nat→Nat→Prop}{n:Nat}{T:Nat→Prop}(hT:∀x,¬T x):FindI E (Mk1 (List.replicate n false)) T:=by
 have h0:∀x,¬Mk1 (List.replicate n false) x:=fun x h=>by
  unfold Mk1 at h;rw[List.getD_eq_getElem?_getD,List.getElem?_replicate] at h
  split at h<;>simp at h
 exact⟨fun x hx=>absurd hx (h0 x),fun x hx=>absurd hx (h0 x),fun t ht=>absurd ht (hT t)⟩
theorem mkRowsZ (n:Nat)(h:n≤1000000)(W:World):(Instr.makeSlice 50 (.int .i64 (n:Int)) (.int .i64 (n:Int))).run Tryz.prog W=.ok (.slice (some ⟨W.heap.size,0,none⟩) n n) (W.alloc (.cells (Array.replicate n (.slice none 0 0)) 22)):=by
 obtain⟨i0,hi0,hz0,hz1,hz2⟩:=info_parts infoSI;have:=run_make (P:=Tryz.prog) W 50 22 i0 (.slice none 0 0) Tryz.underlying50 hi0 hz0 .i64 .i64 n n om (Int.le_refl _) (by rw[hz2];omega) om;rw[this,hz1];simp only[Int.toNat_natCast,Value.cells];rw[madeCells_one]
 simp
def FndW (wr:World)(gX gx g gB n:Nat):Prop:=Blk wr gX 50 #[.slice (some ⟨gB,0,none⟩) n n]∧Blk wr gx 43 #[.pointer (some ⟨g,0,none⟩)]
def RetFi (g:Nat)(m:Ma)(nc:Nat)(w:World)(e:Ending)(w':World):Prop:=
 ∃(gO:Nat) (op:List Bool),e=.returned (.tuple #[])∧MaAt w' g { m with oA:=some ⟨gO,0,none⟩,oc:=m.next.length,opn:=op }∧OpN m.next.length nc (rowsOf m.next) m.done op∧KpP (·=g) w w'
theorem find_any2 (w:World)(g:Nat)(m:Ma)(nc:Nat)(hM:MaAt w g m)(h0:m.oA=none∧m.oc=0∧m.opn=[])(hrow:∀h∈m.next,h.l.length=nc∧∀x∈h.l,-1≤x∧x<m.next.length)(hdl:m.done.length=m.next.length)(hn:m.next.length≤1024)(hnc:nc≤10000)
 (hkg:∀w',KpP (·=g) w w'→NXL w' m.nA m.nc m.next∧IB w' m.dA m.dc m.done) :
 Calls Tryz.prog 73 #[.pointer (some ⟨g,0,none⟩),.int .i64 nc] w (RetFi g m nc w):=by
 obtain⟨ho1,ho2,ho3⟩:=h0;have hgw:=hM.blk.lt;have HM:=lh hM;have HROW:=lh hrow;have HDL:=lh hdl;have HKG:=fun(w':World) (k:KpP (·=g) w w')=>lh (hkg w' k);have hnl:=hM.nx.len;have hdn:=hM.dn.len;rw[hdl] at hdn;have hmk:=mkRowsZ m.next.length om;obtain⟨n,hnE⟩:∃n,Hid (m.next.length=n):=⟨_,lh rfl⟩;have E1:=Ext.alloc w (.cells #[.pointer (some ⟨g,0,none⟩)] 43);have B1:=Blk.new w 43 #[.pointer (some ⟨g,0,none⟩)];clear hM hrow hdl hkg;go_enter Tryz.func73,Tryz.ntmps73
 go_upto_region 1 with fail
 obtain⟨gx,hgx⟩:∃gx,gx=w.heap.size:=⟨_,rfl⟩
 rw[←hgx] at B1 ⊢;have HGX:=lh hgx;have hgne:g≠gx:=om;clear hgx;generalize w.alloc (.cells #[.pointer (some ⟨g,0,none⟩)] 43)=w1 at *;have c1:w1.cell? ⟨gx,0,none⟩=some (.pointer (some ⟨g,0,none⟩)):=B1.cell 0;have HM1:=lh (HM.out.ext E1);have c3:w1.cell? ⟨g,3,none⟩=some (.slice m.nA m.next.length m.nc):=HM1.out.blk.cell 3;rw[hnE.out] at c3 hmk hn hnl hdn;have E2:=Ext.alloc w1 (.cells (Array.replicate n (.slice none 0 0)) 22);have B2:=Blk.new w1 22 (Array.replicate n (.slice none 0 0))
 go_upto_region 2 with fail
 obtain⟨gB,hgB⟩:∃gB,gB=w1.heap.size:=⟨_,rfl⟩
 rw[←hgB] at B2 ⊢;have hsz2:(w1.alloc (.cells (Array.replicate n (.slice none 0 0)) 22)).heap.size=gB+1:=by rw[World.size_alloc,hgB]
 have hgBw:w.heap.size≤gB:=by have:=E1.size;omega
 have HGB:=lh hgB;clear hgB;generalize w1.alloc (.cells (Array.replicate n (.slice none 0 0)) 22)=w2 at *;have E3:=Ext.alloc w2 (.cells #[.slice (some ⟨gB,0,none⟩) n n] 50);have B3:=Blk.new w2 50 #[.slice (some ⟨gB,0,none⟩) n n];rw[hsz2] at B3;generalize w2.alloc (.cells #[.slice (some ⟨gB,0,none⟩) n n] 50)=w3 at *;obtain⟨gX,hgX⟩:∃gX,gX=gB+1:=⟨_,rfl⟩
 rw[←hgX] at B3 ⊢;have E13:=E2.trans E3;have HM3:=lh (HM1.out.ext E13);have HX3:=lh B3;have Hx3:=lh (B1.ext E13);have HBF0:Hid (BfM w3 w.heap.size gB (List.replicate n nilZ)):=lh (BfM.start (B2.ext E3) _);obtain⟨NX,hNX⟩:∃NX,Hid (NX=nxN (rowsOf m.next)):=⟨_,lh rfl⟩;have HBN0:Hid (BfN NX nc 0 0 n (List.replicate n nilZ)):=lh BfN.start;have HE3:Hid (Ext w w3):=lh (E1.trans E13);have hgXx:gX≠gB:=om;clear E1 E2 E3 E13 B1 B2 B3 HM1 c1 c3 hsz2 hgX;have c1:w3.cell? ⟨gx,0,none⟩=some (.pointer (some ⟨g,0,none⟩)):=Hx3.out.cell 0;have c3:w3.cell? ⟨g,3,none⟩=some (.slice m.nA m.next.length m.nc):=HM3.out.blk.cell 3;rw[hnE.out] at c3
 go_upto_region 3 with fail
 clear c1 c3;have HW3:Hid (FndW w3 gX gx g gB n):=lh ⟨HX3.out,Hx3.out⟩
 go_loopw [23] (fun v wr=>∃(i:Nat) (rows:List Hz),v=.int .i64 i∧i≤n∧Hid (BfM wr w.heap.size gB rows)∧Hid (BfN NX nc i 0 n rows)∧Hid (FndW wr gX gx g gB n)∧Hid (Ext w wr)) (fun v _=>n-(intOf v).toNat)
 case atStart=>exact⟨0,_,rfl,om,HBF0,HBN0,HW3,HE3⟩
 case round=>
  obtain⟨i,rows,rfl,hi,HBF,HBN,HW,X1⟩:=hrel;clear HBF0 HBN0 HW3 HX3 Hx3 HE3;obtain⟨wm,hwm⟩:∃x,x=wr:=⟨_,rfl⟩;subst hwm;by_cases hlt:i<n
  ·have hiI:(i:Int)<n:=om;have hin:i<m.next.length:=by rw[hnE.out];exact hlt
   obtain⟨nb,no,hnA,cr,hkl⟩:=(HM.out.nx.ext X1.out).get hin;have hrr:=HROW.out _ (List.getElem_mem hin);have HNXI:=lh (show ∀k,NX i k=(m.next[i]).l.getD k 0 from fun k=>by rw[hNX.out];unfold nxN rowsOf;simp[List.getD_eq_getElem?_getD,hin]);have hin0:=hin;obtain⟨r,hr0⟩:∃r,Hid (m.next[i]=r):=⟨_,lh rfl⟩;rw[hr0.out] at cr hkl hrr HNXI;obtain⟨rA,rc,rl⟩:=r
   simp only at cr hkl hrr HNXI
   obtain⟨hrl,hrx⟩:=hrr;rw[hrl] at cr;have HKL:=lh hkl;have HRX:=lh hrx;have hklen:=hkl.len;rw[hrl] at hklen;clear hkl hrx
   go_upto_region 6 with fail
   have HKL0:=lh ((HM.out.nx.il _ (List.getElem_mem hin0)));rw[hr0.out] at HKL0
   simp only at HKL0
   go_loopw [29] (fun v wi=>∃(k:Nat) (rows:List Hz),v=.int .i64 k∧k≤nc∧Hid (BfM wi w.heap.size gB rows)∧Hid (BfN NX nc i k n rows)∧Hid (FndW wi gX gx g gB n)∧Hid (Ext w wi)) (fun v _=>nc-(intOf v).toNat)
   case atStart=>exact⟨0,rows,rfl,om,HBF,HBN,HW,X1⟩
   case round=>
    obtain⟨k,rows2,rfl,hk,HBF2,HBN2,HW2,X2⟩:=hrel;clear HBF HBN HW X1;by_cases hlt2:k<nc
    ·have hkI:(k:Int)<nc:=om;have hkr:k<rl.length:=om;obtain⟨kb,ko,hrA,ck⟩:=(HKL0.out.ext X2.out).get hkr;have hrA':=hrA;subst hrA';have hxr:=HRX.out _ (List.getElem_mem hkr);have HXV:=lh (show NX i k=rl[k] by rw[HNXI.out];simp[List.getD_eq_getElem?_getD,hkr]);generalize rl[k]=x at *;by_cases hx:x = -1
     ·subst hx;have HBN3:=lh (HBN2.out.no (by rw[HXV.out];omega))
      go_wp2_with fail
      go_roundw
      case rel=>exact⟨k+1,rows2,by go_num,om,HBF2,HBN3,HW2,X2⟩
      case measure=>simp[intOf];omega
     ·have hxf:(x == -1)=false:=by simp[hx]
      go_upto_region 10 with fail
      obtain⟨t,rfl⟩:∃t:Nat,x=t:=⟨x.toNat,om⟩;have htn:t<n:=by have:=hxr.2;rw[hnE.out] at this;omega
      have htI:(t:Int)<n:=om;have hrl2:=HBN2.out.len;have htr:t<rows2.length:=om;have hlen2:rows2[t].l.length≤20000000:=by
       rw[HBN2.out.get htr,natsI_len];have h1:=befK_len (nx:=NX) (m:=nc) (i:=i) (k:=k) (t:=t);have h2:i*nc≤1024*10000:=Nat.mul_le_mul om hnc;omega
      have crow:=HBF2.out.blk.cellZ htr;have hown:=HBF2.out.own _ (List.getElem_mem htr);have HBNY:=fun A c=>lh (HBN2.out.yes htr HXV.out A c);have HBFP:=fun(wa w8 w9:World) (xa:Ext wr wa) (A8:Option Addr) (c8:Nat) (v:Value) (hv:v=.slice A8 (rows2[t].l++[(i:Int)]).length c8) (ho:OwnI w8 w.heap.size 3 A8 c8 (rows2[t].l++[(i:Int)])) (hg:wa.grownBy w8 (rows2[t].A.map (·.block))) (hat:A8.map (·.block)=rows2[t].A.map (·.block)∨A8.map (·.block)=some wa.heap.size) (x9:Ext w8 w9)=>lh (HBF2.out.put htr hv xa ho hg hat x9);obtain⟨z,hz⟩:∃z,Hid (rows2[t]=z):=⟨_,lh rfl⟩;rw[hz.out] at crow hown hlen2;simp only[hz.out] at HBNY HBFP;obtain⟨zA,zc,zl⟩:=z
      simp only at crow hown hlen2 HBNY HBFP
      have cX:wr.cell? ⟨gX,0,none⟩=some (.slice (some ⟨gB,0,none⟩) n n):=HW2.out.1.cell 0;have hgA:zA.map (·.block)≠some gX:=own_blk hown HW2.out.1 de;have hgAx:zA.map (·.block)≠some gx:=own_blk hown HW2.out.2 de;have hgAB:zA.map (·.block)≠some gB:=own_blk hown HBF2.out.blk de;have hgxB:gx≠gB:=blk_blk HW2.out.2 HBF2.out.blk de;have hgBl:=HBF2.out.blk.lt;have j0:=fun(w':World) (h:Kp (gB::blkO zA) wr w')=>h.cell cX (by simp[blkO_mem,hgXx,hgA]);have hBw:w.heap.size≤wr.heap.size:=X2.out.size;have HOWN:=lh hown;replace hrl2:=lh hrl2;refine Xr.start (gB::blkO zA) kr ?_;refine Xtk 0 ?_
      iterate 4(refine Xtn ?_)
      refine Xtk 6 ?_;refine Xr.lazy 7 45 8 (fun q=>.slice (some ⟨q,0,none⟩) 1 1) 3 #[.int .i64 i] rfl (fun b hb=>?_) dK si (fun w'=>by go_simp) ?_
      ·rcases List.mem_cons.1 hb with rfl|hb
       ·exact hgBl
       ·exact(OwnS.blt HOWN.out (blkO_mem.1 hb)).1
      refine Xsp 5 fun w4 hE4 hK4 K hKK=>?_;have c44:=hE4.cell crow;go_simp;refine hKK _ _ (WI_refl _ _ _) hK4 ?_;clear hKK c44;refine ptm ?_;refine Xr.stepZ rfl dK (fun _=>by rfl) (fun w5 g5 hE5 hK5 hg5 hB5 hno K hKK=>?_);have x5:=hE4.trans hE5;obtain⟨iB,jB0,jB1,jB2,jB3⟩:=info_parts infoNk;refine wp_app _ _ _ _ rfl w.heap.size 3 iB (.int .i64 0) 1 8 Tryz.underlying22 jB0 jB1 jB2 jB3 rfl om zA zl.length zc (zl.map (Value.int .i64)) rfl (OwnS.ext HOWN.out x5) _ 1 1 [.int .i64 i] rfl rfl (blk_cells hB5) (by intro u hu;simp only[List.mem_cons,List.not_mem_nil,or_false] at hu;rcases hu with rfl;rfl) um om (by have:=x5.size;omega) ?_;intro A9 c9 w9 ho9 hg9 hat9;refine hKK _ _ (WI_kp (KpP.of_grown hg9) (fun i hi=>List.mem_cons_of_mem _ (blkO_mem.2 hi))) (hK5.kpP (KpP.of_grown hg9) (fun i hi=>List.mem_cons_of_mem _ (blkO_mem.2 hi))) ?_;clear hKK;refine ptm ?_;refine Xtk 9 ?_;have bg9:=(KpP.of_grown hg9).blk (HBF2.out.blk.ext x5) hgAB;refine Xsp 10 fun w10 hE10 hK10 K hKK=>?_;have cg10:=(bg9.ext hE10).cellZ htr;have fg10:=(bg9.ext hE10).frz t;go_simp;refine hKK _ _ (WI_setL (WI_refl _ _ _) List.mem_cons_self _ _) (hK10.setL List.mem_cons_self _ _) ?_;clear hKK;refine ptm ?_;refine Xdn fun w11 hE11 hK11=>?_;have HBF11:=lh ((HBFP w5 w9 w10 x5 A9 c9 (.slice A9 (zl.length+1) c9) si (by unfold OwnI;simpa using ho9) hg9 hat9 hE10).out.ext hE11);have HBN11:=HBNY A9 c9;have kg9:=KpP.of_grown hg9;have HW11:Hid (FndW w11 gX gx g gB n):=lh ⟨(((kg9.blk (HW2.out.1.ext x5) hgA).ext hE10).far (p:=⟨gB,t,none⟩) (by show gX≠gB;omega) _).ext hE11,(((kg9.blk (HW2.out.2.ext x5) hgAx).ext hE10).far (p:=⟨gB,t,none⟩) (by show gx≠gB;omega) _).ext hE11⟩
      have X11:Hid (Ext w w11):=lh ((((((X2.out.trans x5).kp kg9 (fun i hi=>OwnS.row HOWN.out i hi)).trans hE10).setNew (p:=⟨gB,t,none⟩) hgBw _)).trans hE11);clear kg9 x5 hE4 hK4 hE5 hK5 hE10 hK10 hE11 hK11 cg10 fg10 bg9 ho9 hg9 hat9 hB5 hno hg5 j0 HBFP HBNY
      go_wp2_with fail
      refine⟨⟨_,_,_,⟨k+1,?_,om,_,HBF11,HBN11⟩,rfl,rfl,rfl⟩,by simp[intOf];omega⟩
      go_num
    ·have hkI:¬(k:Int)<nc:=om;obtain rfl:nc=k:=om;have HBN3:=lh HBN2.out.row
     go_wp2_with fail
     go_roundw
     case rel=>exact⟨i+1,rows2,by go_num,om,HBF2,HBN3,HW2,X2⟩
     case measure=>simp[intOf];omega
  ·have hiI:¬(i:Int)<n:=om;obtain rfl:n=i:=om;have hrl:=lh HBN.out.len;have HMr:=lh (HM.out.ext X1.out);have cx:wm.cell? ⟨gx,0,none⟩=some (.pointer (some ⟨g,0,none⟩)):=HW.out.2.cell 0;have c3:wm.cell? ⟨g,3,none⟩=some (.slice m.nA m.next.length m.nc):=HMr.out.blk.cell 3;have c5:wm.cell? ⟨g,5,none⟩=some (.slice m.oA m.opn.length m.oc):=HMr.out.blk.cell 5;have fg:=HMr.out.blk.frz 5;have hgl:=HMr.out.blk.lt;have hgxg:gx≠g:=fun e=>hgne e.symm;rw[hnE.out] at c3;have j0:=fun(w':World) (h:Kp [g] wm w')=>h.cell cx (by simp[hgxg]);have hmb:=mkBoolsA n om
   go_upto_region 13 with fail
   refine Xr.start [g] kr ?_;refine Xtk 0 ?_
   iterate 3(refine Xtn ?_)
   refine Xsp 4 fun w4 hE4 hK4 K hKK=>?_;have c34:=hE4.cell c3;go_simp;refine hKK _ _ (WI_refl _ _ _) hK4 ?_;clear hKK c34;refine ptm ?_;refine Xtk 5 ?_;refine Xcl 6 fun w5 hE5 hK5 K hKK=>?_;have EM:=Ext.alloc w5 (.cells (bInts (List.replicate n false)) 4);have BM:=Blk.new w5 4 (bInts (List.replicate n false));go_simp;refine hKK _ _ EM ?_;clear hKK;refine ptm ?_;obtain⟨gO,hgO⟩:∃q,q=w5.heap.size:=⟨_,rfl⟩
   rw[←hgO] at BM ⊢;have hgOl:wm.heap.size≤gO:=by have:=(hE4.trans hE5).size;omega
   clear hgO;generalize w5.alloc (.cells (bInts (List.replicate n false)) 4)=w6 at *;refine Xtk 7 ?_;refine Xtn ?_;refine Xsp 9 fun w7 hE7 hK7 K hKK=>?_;have x7:=((hE4.trans hE5).trans EM).trans hE7;have c57:=x7.cell c5;have f57:=(HMr.out.blk.ext x7).frz 5;go_simp;refine hKK _ _ (WI_setL (WI_refl _ _ _) List.mem_cons_self _ _) (hK7.setL List.mem_cons_self _ _) ?_;clear hKK;refine ptm ?_;refine Xdn fun w8 hE8 hK8=>?_;have hbset:=(HMr.out.blk.ext x7).set 5 (.slice (some ⟨gO,0,none⟩) n n);have hset:Blk (w7.setCell ⟨g,5,none⟩ (.slice (some ⟨gO,0,none⟩) n n)) g 136 (maCellsO m (some ⟨gO,0,none⟩) n):=by simpa[maCells,maCellsO] using hbset
   have K8:KpP (·=g) wm (w7.setCell ⟨g,5,none⟩ (.slice (some ⟨gO,0,none⟩) n n)):=KpP.set (p:=(·=g)) (x:=⟨g,5,none⟩) (KpP.of_ext x7) (.inl rfl) _;have hBl:=HBF.out.blk.lt;have hXl:=HW.out.1.lt;have hxl:=HW.out.2.lt;have HBF8:=lh ((HBF.out.kp K8 (fun b hb cur T hh=>by
    have e:b=g:=hb;subst e;have h2:=HMr.out.blk;unfold Blk at h2;rw[h2] at hh;injection hh with hh;injection hh with _ e2 _
    subst e2;exact⟨by decide,by decide⟩)).ext hE8)
   have HW8:Hid (FndW w8 gX gx g gB n):=lh ⟨(K8.blk HW.out.1 (blk_blk HW.out.1 HMr.out.blk de)).ext hE8,(K8.blk HW.out.2 hgxg).ext hE8⟩;have HG8:=lh (hset.ext hE8);have HO8:Hid (Blk w8 gO 4 (bInts (List.replicate n false))):=lh (((BM.ext hE7).far (p:=⟨g,5,none⟩) (by show gO≠g;omega) _).ext hE8);have HK8:Hid (KpP (·=g) w w8):=lh (((KpP.of_ext X1.out).trans K8).trans (KpP.of_ext hE8));clear hbset hset K8 x7 hE4 hK4 hE5 hK5 hE7 hK7 hE8 hK8 c57 f57 EM BM c3 c5 cx fg j0;have EF:=Ext.alloc w8 (.cells #[.nilFunc] 144);have BF:=Blk.new w8 144 #[.nilFunc]
   go_upto_region 15 with fail
   obtain⟨gl,hgl⟩:∃q,q=w8.heap.size:=⟨_,rfl⟩
   rw[←hgl] at BF ⊢;have hglw:wm.heap.size≤gl:=by have:=HK8.out.size;have:=HO8.out.lt;omega
   clear hgl;generalize w8.alloc (.cells #[.nilFunc] 144)=w9 at *;have za:w9.cell? ⟨gl,0,none⟩=some .nilFunc:=BF.cell 0;have fa:=BF.frz 0;have hst:(store ⟨gl,0,none⟩ (.func (.func 122) #[] #[.pointer (some ⟨gX,0,none⟩),.pointer (some ⟨gx,0,none⟩),.pointer (some ⟨gl,0,none⟩)])).run Tryz.prog w9=.ok () (w9.setCell ⟨gl,0,none⟩ (.func (.func 122) #[] #[.pointer (some ⟨gX,0,none⟩),.pointer (some ⟨gx,0,none⟩),.pointer (some ⟨gl,0,none⟩)])):=by
    rw[run_store Tryz.prog w9 _ _ _ rfl,za];simp[fa]
   go_upto_region 16 with fail
   have hOl:=HO8.out.lt;have HWA:Hid (LeM (w9.setCell ⟨gl,0,none⟩ (.func (.func 122) #[] #[.pointer (some ⟨gX,0,none⟩),.pointer (some ⟨gx,0,none⟩),.pointer (some ⟨gl,0,none⟩)])) ⟨w.heap.size,gX,gx,gl,g,gB,gO⟩ m rows (List.replicate n false)):=by
    have bf:=BF.set 0 (leadV ⟨w.heap.size,gX,gx,gl,g,gB,gO⟩);have d1:=blk_blk (HW8.out.1.ext EF) BF de;have d2:=blk_blk (HW8.out.2.ext EF) BF de;have d3:=blk_blk (HG8.out.ext EF) BF de;have d4:=blk_blk (HO8.out.ext EF) BF de;have d5:=blk_blk (HBF8.out.blk.ext EF) BF de;have kS:KpP (·=gl) w9 (w9.setCell ⟨gl,0,none⟩ (leadV ⟨w.heap.size,gX,gx,gl,g,gB,gO⟩)):=KpP.set (p:=(·=gl)) (x:=⟨gl,0,none⟩) (KpP.refl _ _) (.inl rfl) _;refine lh ⟨?_,(HW8.out.2.ext EF).far d2 _,by simpa[leadV] using bf,?_,(HO8.out.ext EF).far d4 _,(HBF8.out.ext EF).kp kS (fun b hb cur T hh=>?_),by rw[hrl.out];simp⟩
    ·have b:=(HW8.out.1.ext EF).far (p:=⟨gl,0,none⟩) d1 (leadV ⟨w.heap.size,gX,gx,gl,g,gB,gO⟩);simp only[hrl.out];exact b
    ·have b:=(HG8.out.ext EF).far (p:=⟨gl,0,none⟩) d3 (leadV ⟨w.heap.size,gX,gx,gl,g,gB,gO⟩);simp only[hrl.out];exact b
    ·have e:b=gl:=hb;subst e;unfold Blk at BF;rw[BF] at hh;injection hh with hh;injection hh with _ e2 _
     subst e2;exact⟨by decide,by decide⟩
   have HKA:Hid (KpP (·=g) w (w9.setCell ⟨gl,0,none⟩ (.func (.func 122) #[] #[.pointer (some ⟨gX,0,none⟩),.pointer (some ⟨gx,0,none⟩),.pointer (some ⟨gl,0,none⟩)]))):=lh (KpP.set (x:=⟨gl,0,none⟩) (HK8.out.trans (KpP.of_ext EF)) (.inr (by have:=X1.out.size;show w.heap.size≤gl;omega)) _);generalize w9.setCell ⟨gl,0,none⟩ (.func (.func 122) #[] #[.pointer (some ⟨gX,0,none⟩),.pointer (some ⟨gx,0,none⟩),.pointer (some ⟨gl,0,none⟩)])=wa at *;clear hst za fa BF EF HO8 HG8 HW8 HBF8 HK8;have hgOw:w.heap.size≤gO:=by have:=X1.out.size;omega
   clear HBF HW X1 HMr;have HE:Hid (∀t q,t<n→(EdgN n nc (rowsOf m.next) q t↔q∈bef NX nc n t)):=lh (fun t q _=>by rw[bef_mem,hNX.out];exact Iff.rfl);have HN:Hid (∀t (ht:t<rows.length),rows[t].l=natsI (bef NX nc n t)∧(bef NX nc n t).length≤1000000000∧∀q∈bef NX nc n t,q<rows.length):=lh (fun t ht=>by
    refine⟨by rw[HBN.out.get ht,befK_zero],?_,fun q hq=>by rw[hrl.out];exact(bef_mem.1 hq).1⟩;have h1:=bef_len (nx:=NX) (m:=nc) (t:=t) n;have h2:n*nc≤1024*10000:=Nat.mul_le_mul hn hnc;omega)
   have HLEAD:=fun(w':World) (op:List Bool) (t:Nat) (hL:LeM w' ⟨w.heap.size,gX,gx,gl,g,gB,gO⟩ m rows op) (ht:t<n)=>lh (lead_any ⟨w.heap.size,gX,gx,gl,g,gB,gO⟩ m rows (fun t=>bef NX nc n t) HN.out (EdgN n nc (rowsOf m.next)) (fun t q ht=>HE.out t q (by rw[hrl.out] at ht;exact ht)) (by rw[hrl.out];omega) (cntF op+1) w' op t hL (Nat.lt_succ_self _) (by rw[hrl.out];exact ht));have HF0:Hid (FindI (EdgN n nc (rowsOf m.next)) (Mk1 (List.replicate n false)) (fun q=>q<0∧m.done.getD q false=true)):=lh (FindI.start (fun x h=>absurd h.1 (Nat.not_lt_zero _)));have cx:wa.cell? ⟨gx,0,none⟩=some (.pointer (some ⟨g,0,none⟩)):=HWA.out.bm.cell 0;have c4:wa.cell? ⟨g,4,none⟩=some (.slice m.dA m.done.length m.dc):=HWA.out.bg.cell 4;have hdl:=HDL.out;rw[hnE.out] at hdl;rw[hdl] at c4;obtain⟨DA,hDA⟩:∃DA,Hid (m.dA=DA):=⟨_,lh rfl⟩;rw[hDA.out] at c4;have HKD:=fun(w':World) (k:KpP (·=g) w w')=>lh (show IB w' DA m.dc m.done from by have h:=(HKG w' k).out.2;rw[hDA.out] at h;exact h);have HDL2:=lh hdl;clear hdl
   go_upto_region 17 with fail
   clear cx c4
   go_loopw [65] (fun v wr=>∃(t:Nat) (op:List Bool),v=.int .i64 t∧t≤n∧Hid (LeM wr ⟨w.heap.size,gX,gx,gl,g,gB,gO⟩ m rows op)∧Hid (FindI (EdgN n nc (rowsOf m.next)) (Mk1 op) (fun q=>q<t∧m.done.getD q false=true))∧Hid (KpP (·=g) w wr)) (fun v _=>n-(intOf v).toNat)
   case atStart=>exact⟨0,_,rfl,om,HWA,HF0,HKA⟩
   case round=>
    obtain⟨t,op,rfl,ht,HL,HF,HK⟩:=hrel;clear HWA HF0 HKA;obtain⟨wt,hwt⟩:∃x,x=wr:=⟨_,rfl⟩;subst hwt;by_cases hlt2:t<n
    ·have htI:(t:Int)<n:=om;have htd:t<m.done.length:=by rw[HDL2.out];exact hlt2
     obtain⟨db,dd,hdA,cd⟩:=(HKD wt HK.out).out.get htd;have hdA':=hdA;subst hdA';clear hdA;have HDV:=lh (show m.done.getD t false=m.done[t] by simp[List.getD_eq_getElem?_getD,htd]);generalize m.done[t]=bd at *;have HTS:Hid (∀q,q<t+1∧m.done.getD q false=true↔(q<t∧m.done.getD q false=true)∨(q=t∧bd=true)):=lh (fun q=>by
      constructor
      ·rintro⟨h1,h2⟩;by_cases e:q=t
       ·subst e;exact .inr ⟨rfl,by rw[←HDV.out];exact h2⟩
       ·exact .inl ⟨om,h2⟩
      ·rintro(⟨h1,h2⟩|⟨rfl,h2⟩)
       ·exact⟨om,h2⟩
       ·exact⟨om,by rw[HDV.out];exact h2⟩)
     have cl:wt.cell? ⟨gl,0,none⟩=some (leadV ⟨w.heap.size,gX,gx,gl,g,gB,gO⟩):=HL.out.bl.cell 0;unfold leadV at cl;have eg:=egFind;have HLC:=HLEAD wt op t HL.out hlt2;by_cases hb:bd=true
     ·subst hb
      go_wp2_with (go_at_fn 122;refine HLC.out.mono ?_;rintro e w7 ⟨op7,rfl,h7,k7,kk7⟩)
      have HL7:=lh h7;have HF7:=lh ((HF.out.step k7).iff (T':=fun q=>q<t+1∧m.done.getD q false=true) (fun q=>by rw[HTS.out q];simp));have HK7:Hid (KpP (·=g) w w7):=lh (KpP.chain HK.out kk7 (fun i hi=>.inr (by have e:i=gO:=hi;omega)));clear h7 k7 kk7 cl HLC;go_roundw
      case rel=>exact⟨t+1,op7,by go_num,om,HL7,HF7,HK7⟩
      case measure=>simp[intOf];omega
     ·have hb2:bd=false:=by simpa using hb
      subst hb2;have HF7:=lh (HF.out.iff (T':=fun q=>q<t+1∧m.done.getD q false=true) (fun q=>by rw[HTS.out q];simp));clear cl HLC
      go_wp2_with fail
      go_roundw
      case rel=>exact⟨t+1,op,by go_num,om,HL,HF7,HK⟩
      case measure=>simp[intOf];omega
    ·have htI:¬(t:Int)<n:=om;obtain rfl:n=t:=om
     go_wp2_with fail
     refine bodyPost_ret (v:=.tuple #[]) (by simp[results,Tryz.results73,go_sem]) rfl ⟨gO,op,rfl,⟨?_,(HKG wt HK.out).out.1,(HKG wt HK.out).out.2,?_⟩,⟨?_,fun j=>?_⟩,HK.out⟩
     ·have b:=HL.out.bg;simp only[hrl.out] at b;have e:=HL.out.ol;rw[hrl.out] at e;unfold maCellsO at b;simp only[hnE.out] at b;simp only[maCells,e,hnE.out];exact b
     ·have e:=HL.out.ol;rw[hrl.out] at e;have b:=IB.of_blkB HL.out.bo (by rw[e];unfold maxLen;omega);rw[e] at b;simp only[hnE.out];exact b
     ·rw[hnE.out];have e:=HL.out.ol;rw[hrl.out] at e;exact e
     ·rw[hnE.out];exact HF.out.law j
end
end Go.Proofs.YtmocoldobnimfaaGreat
