/- Texts of this proof: CB CP. -/
import Derived.Test.YtmocoldobnimfaaGreatU49
set_option linter.all false
set_option maxRecDepth 100000
set_option maxHeartbeats 16000000
namespace Go.Proofs.YtmocoldobnimfaaGreat
section
open Go.RowKit
attribute [local go_sem ↓] Go.wp_at_zero Go.wp_at_succ
theorem infoPI:(Tryz.prog.info? 126).map (fun i=>(i.zero,i.size,i.bytes))=some (some (.agg #[.int .i64 0,.int .i64 0,.int .i64 0,.int .i64 0,.slice none 0 0]),5,56):=by kernel_rfl
def RetRl (hs:List Hin)(caps:Int)(rn:Bool)(w:World)(e:Ending)(w':World):Prop:=
 ∃(A:Option Addr) (c:Nat),e=.returned (.agg #[.slice A hs.length c,.int .i64 caps,.bool rn])∧PL w' A c hs∧Ext w w'
theorem real_any (w:World)(A:Option Addr)(c:Nat)(hs:List Hin)(caps:Int)(rn:Bool)(hP:PL w A c hs)(hl:hs.length≤1000) :
 Calls Tryz.prog 21 #[.agg #[.slice A hs.length c,.int .i64 caps,.bool rn]] w (RetRl hs caps rn w):=by
 obtain⟨B1,B2,E0⟩:=alloc2 w 33 #[.slice A hs.length c,.int .i64 caps,.bool rn] 48 #[.slice none 0 0,.int .i64 0,.bool false];obtain⟨iP,jP0,jP1,jP2,jP3⟩:=info_parts infoPI;have hlen:=hP.len;have HP:=lh hP;clear hP;go_enter Tryz.func21,Tryz.ntmps21
 go_upto_region 1 with fail
 obtain⟨g1,hg1⟩:∃g,g=w.heap.size:=⟨_,rfl⟩;obtain⟨g2,hg2e⟩:∃g,g=w.heap.size+1:=⟨_,rfl⟩
 rw[←hg2e] at B2 ⊢
 rw[←hg1] at B1 ⊢;have hg2:w.heap.size≤g2:=om;clear hg1 hg2e;generalize ((w.alloc (.cells #[.slice A hs.length c,.int .i64 caps,.bool rn] 33)).alloc (.cells #[.slice none 0 0,.int .i64 0,.bool false] 48))=wa at *;obtain⟨z0,z1,z2,_⟩:=B1.c3;have EB:=Ext.alloc wa (.cells #[.slice none 0 0,.int .i64 caps,.bool rn] 48);have BB:=Blk.new wa 48 #[.slice none 0 0,.int .i64 caps,.bool rn]
 go_upto_region 3 with fail
 obtain⟨g3,hg3⟩:∃g,g=wa.heap.size:=⟨_,rfl⟩
 rw[←hg3] at BB ⊢;have hg3l:wa.heap.size≤g3:=om;clear hg3;generalize wa.alloc (.cells #[.slice none 0 0,.int .i64 caps,.bool rn] 48)=wb at *;have HX0:=lh E0;have HB2:=lh B2;have HB1:=lh B1;have HBB:=lh BB;clear E0 B1 B2 BB z0 z1 z2
 go_loopw [4] (fun v4 wr=>∃(i:Nat) (A5:Option Addr) (c5:Nat),v4=.int .i64 i∧i≤hs.length∧Hid (Blk wr g3 48 #[.slice A5 i c5,.int .i64 caps,.bool rn])∧Hid (OwnS wr wa.heap.size 126 5 A5 i c5 (flatN (hs.take i)))∧Ext wa wr) (fun v _=>hs.length-(intOf v).toNat)
 case atStart=>exact⟨0,none,0,rfl,om,HBB,lh (by simpa[flatN] using OwnS.nil _ _ _ _),EB⟩
 case round=>
  obtain⟨i,A5,c5,rfl,hi,HB3,HO,x1⟩:=hrel;have hcc:=OwnS.caps HO.out;have y0:wr.cell? ⟨g1,0,none⟩=some (.slice A hs.length c):=(HB1.out.ext x1).cell 0;by_cases hlt:i<hs.length
  ·have hiI:(i:Int)<(hs.length:Int):=om;obtain⟨b,o,hA,k0,k1,k2,k3,k4⟩:=(HP.out.ext (HX0.out.trans x1)).get hlt;have HA:=lh hA;rw[hA] at y0;clear hA;obtain⟨h,hh⟩:∃h,h=hs[i]:=⟨_,rfl⟩
   rw[←hh] at k0 k1 k2 k3 k4;have HH:Hid (hs.take (i+1)=hs.take i++[h]):=lh (by rw[hh,List.take_succ_eq_append_getElem hlt]);clear hh;have EI:=Ext.alloc wr (.cells #[.int .i64 h.op,.int .i64 h.x,.int .i64 h.y,.int .i64 h.n,.slice h.A h.l.length h.c] 123);have BI:=Blk.new wr 123 #[.int .i64 h.op,.int .i64 h.x,.int .i64 h.y,.int .i64 h.n,.slice h.A h.l.length h.c]
   go_upto_region 6 with fail
   obtain⟨gI,hgI⟩:∃g,g=wr.heap.size:=⟨_,rfl⟩
   rw[←hgI] at BI ⊢;clear hgI;generalize wr.alloc (.cells #[.int .i64 h.op,.int .i64 h.x,.int .i64 h.y,.int .i64 h.n,.slice h.A h.l.length h.c] 123)=wi at *;obtain⟨u0,u1,u2,u3,u4⟩:=in_cells (n:=h) BI;have HB3i:=lh (HB3.out.ext EI);have HOi:=lh (OwnS.ext HO.out EI);have HNE:=lh (own_blk HOi.out HB3i.out de);have s0:wi.cell? ⟨g3,0,none⟩=some (.slice A5 i c5):=HB3i.out.cell 0;have HXi:=lh (x1.trans EI);clear k0 k1 k2 k3 k4 BI y0 EI x1
   go_upto_region 4 with(at_builtin;refine wpList_app _ rfl _ _ _ rfl wa.heap.size 126 iP _ 5 56 Tryz.underlying46 jP0 jP1 jP2 jP3 rfl om A5 i c5 (flatN (hs.take i)) rfl (OwnS.ext HOi.out (Ext.alloc _ _)) _ 1 1 (flatN [h]) rfl rfl (hin_blk (Blk.new _ _ _)) (flatN_one _) um om (Nat.le_trans HXi.out.size (Ext.alloc _ _).size) ?_;intro A8 c8 w8 ho8 hg8 hat8;have hb8:=(KpP.of_grown hg8).blk (HB3i.out.alloc _) HNE.out;have HB8:=lh hb8;have HO8:=lh ho8;have HX8:=lh (((HXi.out.trans (Ext.alloc _ _)).grown hg8 (OwnS.row HOi.out)));have s8:w8.cell? ⟨g3,0,none⟩=some (.slice A5 i c5):=hb8.cell 0;have sf8:=hb8.frz 0;clear ho8 hg8 hat8 hb8)
   have B9:Blk (w8.setCell ⟨g3,0,none⟩ (.slice A8 (i+1) c8)) g3 48 #[.slice A8 (i+1) c8,.int .i64 caps,.bool rn]:=by simpa using HB8.out.set 0 (.slice A8 (i+1) c8)
   have O9:=OwnS.far HO8.out (p:=⟨g3,0,none⟩) (own_blk HO8.out HB8.out de) (.slice A8 (i+1) c8);have X9:=HX8.out.setNew (p:=⟨g3,0,none⟩) hg3l (.slice A8 (i+1) c8)
   rw[←flatN_append,←HH.out] at O9;clear s8 sf8 HB8 HO8 HX8 s0 u0 u1 u2 u3 u4;generalize w8.setCell ⟨g3,0,none⟩ (.slice A8 (i+1) c8)=w9 at *;have B9:=lh B9;have O9:=lh O9
   go_wp2_with fail
   go_roundw
   case rel=>exact⟨i+1,A8,c8,by go_num,om,B9,O9,X9⟩
   case measure=>simp[intOf];omega
  ·have hiI:¬(i:Int)<(hs.length:Int):=om;have e:i=hs.length:=om;subst e;have HO2:=lh HO.out;rw[List.take_length] at HO2;obtain⟨s0,s1,s2,_⟩:=HB3.out.c3;have B2r:=HB2.out.ext x1;obtain⟨y0,y1,y2,f0,f1,f2,_⟩:=B2r.c3
   go_wp2_with fail
   have b9:=setGp_blk B2r A5 hs.length c5 caps rn;have x9:=setGp_ext (HX0.out.trans x1) hg2 A5 hs.length c5 caps rn;have o9:=OwnS.kp HO2.out (setGp_kpp (p:=(·=g2)) (KpP.refl _ wr) rfl A5 hs.length c5 caps rn) (fun b hb e=>by have e2:b=g2:=e;subst e2;exact own_blk HO2.out B2r de hb);change bodyPost _ _ _ _ _ (setGp wr g2 A5 hs.length c5 caps rn);generalize setGp wr g2 A5 hs.length c5 caps rn=w9 at *;obtain⟨r0,r1,r2,_⟩:=b9.c3;refine bodyPost_ret (v:=.agg #[.slice A5 hs.length c5,.int .i64 caps,.bool rn]) (by simp[results,Tryz.results21,go_sem,r0,r1,r2]) rfl ⟨A5,c5,rfl,PL.of_own o9 HP.out.rng (fun z hz=>(HP.out.sl z hz).ext x9),x9⟩
end
section
open Go.RowKit
attribute [local go_sem ↓] Go.wp_at_zero Go.wp_at_succ
def Hin.putI (h:Hin)(f:Nat)(v:Int):Hin:=match f with
 | 0=>{ h with op:=v }
 | 1=>{ h with x:=v }
 | 2=>{ h with y:=v }
 | _=>{ h with n:=v }
theorem flatN_cons (h:Hin)(hs:List Hin):flatN (h::hs)=.int .i64 h.op::.int .i64 h.x::.int .i64 h.y::.int .i64 h.n::.slice h.A h.l.length h.c::flatN hs:=rfl
theorem flatN_setI:∀(hs:List Hin) (i f:Nat) (v:Int) (hi:i<hs.length),f<4→(flatN hs).set (i*5+f) (.int .i64 v)=flatN (hs.set i (hs[i].putI f v))
 | [],i,f,v,hi,_=>by simp at hi
 | h::hs,0,f,v,_,hf=>by
  have h4:f=0∨f=1∨f=2∨f=3:=om;rcases h4 with rfl|rfl|rfl|rfl<;>simp[flatN_cons,Hin.putI]
 | h::hs,i+1,f,v,hi,hf=>by
  have ih:=flatN_setI hs i f v (by simpa using hi) hf;have e:(i+1)*5+f=i*5+f+1+1+1+1+1:=om;rw[flatN_cons,e];simp only[List.set_cons_succ,ih,List.getElem_cons_succ,flatN_cons]
theorem flatN_setS:∀(hs:List Hin) (i:Nat) (B:Option Addr) (c:Nat) (l:List Sp) (hi:i<hs.length),(flatN hs).set (i*5+4) (.slice B l.length c)=flatN (hs.set i { hs[i] with A:=B,c:=c,l:=l })
 | [],i,_,_,_,hi=>by simp at hi
 | h::hs,0,_,_,_,_=>by simp[flatN_cons]
 | h::hs,i+1,B,c,l,hi=>by
  have ih:=flatN_setS hs i B c l (by simpa using hi);have e:(i+1)*5+4=i*5+4+1+1+1+1+1:=om;rw[flatN_cons,e];simp only[List.set_cons_succ,ih,List.getElem_cons_succ,flatN_cons]
theorem OwnS.pre {w:World}{base e size n c m:Nat}{A:Option Addr}{xs:List Value}(h:OwnS w base e size A n c xs)(hm:m≤n):OwnS w base e size A m c (xs.take (m*size)):=by
 rcases h.form with⟨rfl,rfl,rfl,rfl⟩|⟨g,cur,rfl,hg,hh,hnc,hcm,hcs,ht⟩
 ·have:m=0:=om;subst this
  simpa using OwnS.nil w base e size
 ·have k:=OwnS.of_blk (n:=m) (c:=c) (size:=size) (w:=w) (e:=e) (base:=base) hh hg hcs om hcm;have e2:cur.toList.take (m*size)=xs.take (m*size):=by
   rw[←ht,List.take_take,Nat.min_eq_left (Nat.mul_le_mul_right _ hm)]
  rw[e2] at k;exact k
theorem flatN_take:∀(hs:List Hin) (m:Nat),(flatN hs).take (m*5)=flatN (hs.take m)
 | [],m=>by simp[flatN]
 | h::hs,0=>by simp[flatN]
 | h::hs,m+1=>by
  have ih:=flatN_take hs m;have e:(m+1)*5=m*5+1+1+1+1+1:=om;rw[flatN_cons,e];simp only[List.take_succ_cons,ih,flatN_cons]
theorem PL.cells {w:World}{A:Option Addr}{c:Nat}{hs:List Hin}(h:PL w A c hs):CellsAt w A (flatN hs):=by
 intro hne;obtain⟨b,o,hA,hc⟩:=h.at_ (fun e=>hne (by rw[e];rfl));refine⟨b,o,hA,fun j hj=>?_⟩;have hj2:=hj;rw[flatN_len] at hj2;have hi:j / 5<hs.length:=om;obtain⟨c0,c1,c2,c3,c4⟩:=hc (j / 5) hi;obtain⟨g0,g1,g2,g3,g4⟩:=flatN_get hs (j / 5) hi;have hm:j % 5=0∨j % 5=1∨j % 5=2∨j % 5=3∨j % 5=4:=om;have hd:j=j / 5*5+j % 5:=om;have key:w.cell? ⟨b,o+j,none⟩=(flatN hs)[j]?:=by
  rcases hm with e|e|e|e|e
  ·have e2:j=j / 5*5:=om;rw[e2,c0,←g0]
  ·have e2:j=j / 5*5+1:=om;rw[show o+j=o+j / 5*5+1 from by omega,c1,←g1,←e2]
  ·have e2:j=j / 5*5+2:=om;rw[show o+j=o+j / 5*5+2 from by omega,c2,←g2,←e2]
  ·have e2:j=j / 5*5+3:=om;rw[show o+j=o+j / 5*5+3 from by omega,c3,←g3,←e2]
  ·have e2:j=j / 5*5+4:=om;rw[show o+j=o+j / 5*5+4 from by omega,c4,←g4,←e2]
 rw[key,List.getElem?_eq_getElem hj]
theorem own_apart2 {w:World}{b1 b2 e1 e2 s1 s2 n1 n2 c1 c2:Nat}{A B:Option Addr}{xs ys:List Value}(h:OwnS w b1 e1 s1 A n1 c1 xs)(k:OwnS w b2 e2 s2 B n2 c2 ys)(hne:e1≠e2):∀b,A.map (·.block)=some b→B.map (·.block)=some b→False:=fun b h1 h2=>by
 obtain⟨_,cur,q⟩:=OwnS.blt h h1;obtain⟨_,cur2,q2⟩:=OwnS.blt k h2;have e:=q.symm.trans q2;injection e with e;injection e with _ e _
 exact hne e
theorem infoSP:(Tryz.prog.info? 38).map (fun i=>(i.zero,i.size,i.bytes))=some (some (.agg #[.int .i64 0,.int .i64 0]),2,16):=by kernel_rfl
def spE (E:List Int)(b:Int):List Int:=E++[b,b+1,256,257,1114112,1114113]
def SetE4 (E:List Int)(l:List Sp):Prop:=l.length≤4∧∀s∈l,s.1∈E∧s.2+1∈E
theorem SetE4.of {E F:List Int}{l:List Sp}(h:SetE E l)(hs:∀x∈E,x∈F):SetE4 F l:=⟨by have:=h.1;omega,fun s hs'=>⟨hs _ (h.2 s hs').1,hs _ (h.2 s hs').2⟩⟩
structure Gp4 (E:List Int)(w:World)(A:Option Addr)(c:Nat)(hs:List Hin):Prop where
 pl:PL w A c hs
 sets:∀h∈hs,SetE4 E h.l
 len:hs.length≤1000
def RetGq (E:List Int)(w:World)(e:Ending)(w':World):Prop:=
 ∃(A:Option Addr) (c:Nat) (hs:List Hin) (caps:Int) (rn:Bool),e=.returned (.agg #[.slice A hs.length c,.int .i64 caps,.bool rn])∧Gp4 E w' A c hs∧I64 caps∧Ext w w'
theorem putI_l (h:Hin)(f:Nat)(v:Int):(h.putI f v).l=h.l∧(h.putI f v).A=h.A∧(h.putI f v).c=h.c:=by
 unfold Hin.putI;split<;>exact⟨rfl,rfl,rfl⟩
theorem putI_wf {h:Hin}{f:Nat}{v:Int}(hw:h.wf)(hv:I64 v):(h.putI f v).wf:=by
 obtain⟨h1,h2,h3,h4⟩:=hw;unfold Hin.putI;split<;>exact⟨by assumption,by assumption,by assumption,by assumption⟩
end
end Go.Proofs.YtmocoldobnimfaaGreat
