/- Texts of this proof: CB. -/
import Derived.Test.YtmocoldobnimfaaGreatX49
set_option linter.all false
set_option maxRecDepth 100000
set_option maxHeartbeats 16000000
namespace Go.Proofs.YtmocoldobnimfaaGreat
section
open Go.RowKit
attribute [local go_sem ↓] Go.wp_at_zero Go.wp_at_succ
theorem infoPI:(Tryz.prog.info? 126).map (fun i=>(i.zero,i.size,i.bytes))=some (some (.agg #[.int .i64 0,.int .i64 0,.int .i64 0,.int .i64 0,.slice none 0 0]),5,56):=by kernel_rfl
def RetRl (hs:List Hin)(caps:Int)(rn:Bool)(w:World)(e:Ending)(w':World):Prop:=
 ∃(A:Option Addr) (c:Nat),e=.returned (.agg #[.slice A hs.length c,.int .i64 caps,.bool rn])∧PL w' A c hs∧Ext w w'
theorem real_any (w:World)(A:Option Addr)(c:Nat)(hs:List Hin)(caps:Int)(rn:Bool)(hP:PL w A c hs)(hl:hs.length≤1000) :
 Calls Tryz.prog 21 #[.agg #[.slice A hs.length c,.int .i64 caps,.bool rn]] w (RetRl hs caps rn w):=by
 obtain⟨B1,B2,E0⟩:=alloc2 w 33 #[.slice A hs.length c,.int .i64 caps,.bool rn] 48 #[.slice none 0 0,.int .i64 0,.bool false];obtain⟨iP,jP0,jP1,jP2,jP3⟩:=info_parts infoPI;have hlen:=hP.len;have HP:=lh hP;clear hP;go_enter Tryz.func21,Tryz.ntmps21
 go_upto_region 1 with fail
 obtain⟨g1,hg1⟩:∃g,g=w.heap.size:=⟨_,rfl⟩;obtain⟨g2,hg2e⟩:∃g,g=w.heap.size+1:=⟨_,rfl⟩
 rw[←hg2e] at B2 ⊢
 rw[←hg1] at B1 ⊢;have hg2:w.heap.size≤g2:=om;clear hg1 hg2e;generalize ((w.alloc (.cells #[.slice A hs.length c,.int .i64 caps,.bool rn] 33)).alloc (.cells #[.slice none 0 0,.int .i64 0,.bool false] 48))=wa at *;obtain⟨z0,z1,z2,_⟩:=B1.c3;have EB:=Ext.alloc wa (.cells #[.slice none 0 0,.int .i64 caps,.bool rn] 48);have BB:=Blk.new wa 48 #[.slice none 0 0,.int .i64 caps,.bool rn]
 go_upto_region 3 with fail
 obtain⟨g3,hg3⟩:∃g,g=wa.heap.size:=⟨_,rfl⟩
 rw[←hg3] at BB ⊢;have hg3l:wa.heap.size≤g3:=om;clear hg3;generalize wa.alloc (.cells #[.slice none 0 0,.int .i64 caps,.bool rn] 48)=wb at *;have HX0:=lh E0;have HB2:=lh B2;have HB1:=lh B1;have HBB:=lh BB;clear E0 B1 B2 BB z0 z1 z2
 go_loopw [4] (fun v4 wr=>∃(i:Nat) (A5:Option Addr) (c5:Nat),v4=.int .i64 i∧i≤hs.length∧Hid (Blk wr g3 48 #[.slice A5 i c5,.int .i64 caps,.bool rn])∧Hid (OwnS wr wa.heap.size 126 5 A5 i c5 (flatN (hs.take i)))∧Ext wa wr) (fun v _=>hs.length-(intOf v).toNat)
 case atStart=>exact⟨0,none,0,rfl,om,HBB,lh (by simpa[flatN] using OwnS.nil _ _ _ _),EB⟩
 case round=>
  obtain⟨i,A5,c5,rfl,hi,HB3,HO,x1⟩:=hrel;have hcc:=OwnS.caps HO.out;have y0:wr.cell? ⟨g1,0,none⟩=some (.slice A hs.length c):=(HB1.out.ext x1).cell 0;by_cases hlt:i<hs.length
  ·have hiI:(i:Int)<(hs.length:Int):=om;obtain⟨b,o,hA,k0,k1,k2,k3,k4⟩:=(HP.out.ext (HX0.out.trans x1)).get hlt;have HA:=lh hA;rw[hA] at y0;clear hA;obtain⟨h,hh⟩:∃h,h=hs[i]:=⟨_,rfl⟩
   rw[←hh] at k0 k1 k2 k3 k4;have HH:Hid (hs.take (i+1)=hs.take i++[h]):=lh (by rw[hh,List.take_succ_eq_append_getElem hlt]);clear hh;have EI:=Ext.alloc wr (.cells #[.int .i64 h.op,.int .i64 h.x,.int .i64 h.y,.int .i64 h.n,.slice h.A h.l.length h.c] 123);have BI:=Blk.new wr 123 #[.int .i64 h.op,.int .i64 h.x,.int .i64 h.y,.int .i64 h.n,.slice h.A h.l.length h.c]
   go_upto_region 6 with fail
   obtain⟨gI,hgI⟩:∃g,g=wr.heap.size:=⟨_,rfl⟩
   rw[←hgI] at BI ⊢;clear hgI;generalize wr.alloc (.cells #[.int .i64 h.op,.int .i64 h.x,.int .i64 h.y,.int .i64 h.n,.slice h.A h.l.length h.c] 123)=wi at *;obtain⟨u0,u1,u2,u3,u4⟩:=in_cells (n:=h) BI;have HB3i:=lh (HB3.out.ext EI);have HOi:=lh (OwnS.ext HO.out EI);have HNE:=lh (own_blk HOi.out HB3i.out de);have s0:wi.cell? ⟨g3,0,none⟩=some (.slice A5 i c5):=HB3i.out.cell 0;have HXi:=lh (x1.trans EI);clear k0 k1 k2 k3 k4 BI y0 EI x1
   go_upto_region 4 with(at_builtin;refine wpList_app _ rfl _ _ _ rfl wa.heap.size 126 iP _ 5 56 Tryz.underlying46 jP0 jP1 jP2 jP3 rfl om A5 i c5 (flatN (hs.take i)) rfl (OwnS.ext HOi.out (Ext.alloc _ _)) _ 1 1 (flatN [h]) rfl rfl (hin_blk (Blk.new _ _ _)) (flatN_one _) um om (Nat.le_trans HXi.out.size (Ext.alloc _ _).size) ?_;intro A8 c8 w8 ho8 hg8 hat8;have hb8:=(KpP.of_grown hg8).blk (HB3i.out.alloc _) HNE.out;have HB8:=lh hb8;have HO8:=lh ho8;have HX8:=lh (((HXi.out.trans (Ext.alloc _ _)).grown hg8 (OwnS.row HOi.out)));have s8:w8.cell? ⟨g3,0,none⟩=some (.slice A5 i c5):=hb8.cell 0;have sf8:=hb8.frz 0;clear ho8 hg8 hat8 hb8)
   have B9:Blk (w8.setCell ⟨g3,0,none⟩ (.slice A8 (i+1) c8)) g3 48 #[.slice A8 (i+1) c8,.int .i64 caps,.bool rn]:=by simpa using HB8.out.set 0 (.slice A8 (i+1) c8)
   have O9:=OwnS.far HO8.out (p:=⟨g3,0,none⟩) (own_blk HO8.out HB8.out de) (.slice A8 (i+1) c8);have X9:=HX8.out.setNew (p:=⟨g3,0,none⟩) hg3l (.slice A8 (i+1) c8)
   rw[←flatN_append,←HH.out] at O9;clear s8 sf8 HB8 HO8 HX8 s0 u0 u1 u2 u3 u4;generalize w8.setCell ⟨g3,0,none⟩ (.slice A8 (i+1) c8)=w9 at *;have B9:=lh B9;have O9:=lh O9
   go_wp2_with fail
   go_roundw
   case rel=>exact⟨i+1,A8,c8,by go_num,om,B9,O9,X9⟩
   case measure=>simp[intOf];omega
  ·have hiI:¬(i:Int)<(hs.length:Int):=om;have e:i=hs.length:=om;subst e;have HO2:=lh HO.out;rw[List.take_length] at HO2;obtain⟨s0,s1,s2,_⟩:=HB3.out.c3;have B2r:=HB2.out.ext x1;obtain⟨y0,y1,y2,f0,f1,f2,_⟩:=B2r.c3
   go_wp2_with fail
   have b9:=setGp_blk B2r A5 hs.length c5 caps rn;have x9:=setGp_ext (HX0.out.trans x1) hg2 A5 hs.length c5 caps rn;have o9:=OwnS.kp HO2.out (setGp_kpp (p:=(·=g2)) (KpP.refl _ wr) rfl A5 hs.length c5 caps rn) (fun b hb e=>by have e2:b=g2:=e;subst e2;exact own_blk HO2.out B2r de hb);change bodyPost _ _ _ _ _ (setGp wr g2 A5 hs.length c5 caps rn);generalize setGp wr g2 A5 hs.length c5 caps rn=w9 at *;obtain⟨r0,r1,r2,_⟩:=b9.c3;refine bodyPost_ret (v:=.agg #[.slice A5 hs.length c5,.int .i64 caps,.bool rn]) (by simp[results,Tryz.results21,go_sem,r0,r1,r2]) rfl ⟨A5,c5,rfl,PL.of_own o9 HP.out.rng (fun z hz=>(HP.out.sl z hz).ext x9),x9⟩
end
end Go.Proofs.YtmocoldobnimfaaGreat
