/- Texts of this proof: V5 C6 Z5. -/
import Derived.Test.YtmgpefenkilffaaGreatSP16
set_option linter.all false
set_option maxRecDepth 100000
set_option maxHeartbeats 16000000
namespace Go.Proofs.YtmgpefenkilffaaGreat
section
open Go.RowKit
attribute [local go_sem ↓] Go.wp_at_zero Go.wp_at_succ
theorem V5z3 {P:Prop} (h:P:=by
 rw[HY.out,<-List.append_assoc];exact h2.trans (HL.out.2.1.append_right _)):P:=h
theorem V5z1 {P:Prop} (h:P:=by
 have HNX:=lh (fun(A6:Option Addr) (c6:Nat) (w6:World) (ho6:OwnPr w6 w3.heap.size A6 c6 ([]++[(y1,y2)]++([]:List Sp))) (X6:Ext w3 w6)=>
  show Hid (([]++[(y1,y2)]++([]:List Sp):List Sp).length=a.length+(i+1))/\Hid (SL w6 A6 c6 ([]++[(y1,y2)]++([]:List Sp))/\([]++[(y1,y2)]++([]:List Sp)).Perm (a++b.take (i+1))/\([]++[(y1,y2)]++([]:List Sp)).Pairwise (fun(s t:Sp)=>s.1<=t.1))/\Ext w w6 by
  obtain⟨h1,h2⟩:=ins_sorted (y:=(y1,y2)) (k:=0) HL.out.2.2 HM.out (.inl rfl);have h3:([]++[(y1,y2)]++([]:List Sp)).Perm (a++b.take (i+1)):=by
   exact V5z3
  refine⟨lh (by have:=h2.length_eq;have h9:=hll.out;simp only[List.length_append,List.length_nil,List.length_cons,List.take_zero,List.drop_zero] at this h9 ⊢;omega),lh ⟨SL.of_ownT ho6 (fun s hs=>HR.out s ?_),h3,h1⟩,(x1.trans X2.out).trans X6⟩;have h4:=h3.mem_iff.1 hs;rcases List.mem_append.1 h4 with h5|h5
  ·exact List.mem_append_left _ h5
  ·exact List.mem_append_right _ (List.mem_of_mem_take h5))
 have y0:=X2.out.cell o0;have y1':=X2.out.cell o1;clear o0 o1 x1 X2
 go_upto_region 7 with fail
 go_upto_region 8 with fail
 go_upto_region 9 with(at_builtin;refine wpList_appQ rfl _ _ _ rfl Tryz.underlying37 w3.heap.size (Nat.le_refl _) none 0 0 [] rfl rfl (OwnS.nil _ _ _ _) _ _ 0 [] rfl rfl (fun h=>absurd rfl h) si 0 rfl ?_;intro A4 c4 w4 ho4 hg4)
 have X4:=lh (Ext.app (Ext.rfl' w3) (OwnS.nil _ _ _ _:OwnS w3 w3.heap.size 54 2 none 0 0 []) hg4);have HO4:=lh ho4;clear ho4 hg4;have BY:=Blk.new w4 54 #[.int .i64 y1,.int .i64 y2];have EY:=Ext.alloc w4 (.cells #[.int .i64 y1,.int .i64 y2] 54);have z0:=X4.out.cell y0;have z1':=X4.out.cell y1'
 go_upto_region 10 with(at_builtin;refine wpList_appQ rfl _ _ _ rfl Tryz.underlying37 w3.heap.size (X4.out.trans EY).size A4 c4 0 _ rfl rfl (OwnS.ext HO4.out EY) (some ⟨w4.heap.size,0,none⟩) 1 1 [(y1,y2)] rfl rfl (blk_cells BY) si 1 rfl ?_;intro A5 c5 w5 ho5 hg5)
 have X5:=lh (Ext.app (X4.out.trans EY) (OwnS.ext HO4.out EY) hg5);have HO5:=lh ho5;clear ho5 hg5 BY EY z0 z1' y0 y1'
 go_upto_region 3 with(at_builtin;refine wpList_appQ rfl _ _ _ rfl Tryz.underlying37 w3.heap.size X5.out.size A5 c5 1 _ rfl rfl HO5.out _ _ 0 [] rfl rfl (fun h=>absurd rfl h) (by simp<;>omega) (0+1) om ?_;intro A6 c6 w6 ho6 hg6)
 obtain⟨n1,n2,n3⟩:=HNX.out A6 c6 w6 ho6 (Ext.app X5.out HO5.out hg6);clear ho6 hg6 HNX HO5 X5
 go_wp2_with fail
 go_roundw
 case rel=>exact⟨i+1,A6,c6,[]++[(y1,y2)]++([]:List Sp),by simp[Nat.add_comm],by go_num,om,n1,n2,n3⟩
 case measure=>simp[intOf];omega):P:=h
theorem V5z2 {P:Prop} (h:P:=by
 go_wp2_with fail
 go_roundw
 case rel=>exact⟨i+1,A6,c6,l.take K++[(y1,y2)]++l.drop K,by rw[HLD.out],by go_num,om,n1,n2,n3⟩
 case measure=>simp[intOf];omega):P:=h
theorem merged_any (a b:List Sp)(A B:Option Addr)(c d:Nat)(w:World)(ha:SL w A c a)(hb:SL w B d b)(hs:a.Pairwise (fun s t=>s.1<=t.1))(hla:a.length<=1000)(hlb:b.length<=1000)(hr:∀s∈a++b,S64 s) :
 Calls Tryz.prog 21 #[.slice A a.length c,.slice B b.length d] w (RetMg a b w):=by
 have hca:=ha.len;have hcb:=hb.len;have HA:=lh ha;have HB:=lh hb;have HS:=lh hs;have HR:=lh hr;clear ha hb hs hr;go_enter Tryz.func21,Tryz.ntmps21
 go_upto_region 2 with fail
 go_loopw [0,5] (fun v0 v5 wr=>∃(i:Nat) (A1:Option Addr) (c1:Nat) (l:List Sp),v0=.slice A1 l.length c1/\v5=.int .i64 i/\i<=b.length/\Hid (l.length=a.length+i)/\Hid (SL wr A1 c1 l/\l.Perm (a++b.take i)/\l.Pairwise (fun s t=>s.1<=t.1))/\Ext w wr) (fun _ v5 _=>b.length-(intOf v5).toNat)
 case atStart=>exact⟨0,A,c,a,rfl,rfl,om,lh om,lh ⟨HA.out,by simp,HS.out⟩,Ext.rfl' _⟩
 case round=>
  obtain⟨i,A1,c1,l,rfl,rfl,hi,hll,HL,x1⟩:=hrel;have hc1:=HL.out.1.len;have hl2k:l.length<=2000:=by have:=hll.out;omega
  have hl2k:l.length<=2000:=by have:=hll.out;omega
  have hl2k:l.length<=2000:=by have:=hll.out;omega
  have hl2k:l.length<=2000:=by have:=hll.out;omega
  have hl2k:l.length<=2000:=by have:=hll.out;omega
  have hl2k:l.length<=2000:=by have:=hll.out;omega
  obtain⟨w1,hw1⟩:∃w1,w1=wr:=⟨_,rfl⟩;by_cases hlt:i<b.length
  ·have hiI:(i:Int)<b.length:=om;obtain⟨ib,io,hBA,o0,o1⟩:=(HB.out.ext x1).get hlt;have hym:b[i]∈b:=List.getElem_mem hlt;have HY:Hid (b.take (i+1)=b.take i++[b[i]]):=lh (List.take_succ_eq_append_getElem hlt);generalize b[i]=y at *;obtain⟨y1,y2⟩:=y
   simp only at o0 o1
   subst hBA
   go_upto_region 5 with fail
   go_loopw [6] (fun v6 wq=>∃m:Nat,v6=.int .i64 m/\m<=l.length/\Hid (∀j (h:j<l.length),m<=j->y1<l[j].1)/\Ext wr wq) (fun v6 _=>(intOf v6).toNat)
   case atStart=>exact⟨l.length,rfl,om,lh (fun j h h2=>om),Ext.rfl' _⟩
   case round=>
    obtain⟨m,rfl,hm,HM,x2⟩:=hrel;have q0:=x2.cell o0;have k0:=kc0 q0;by_cases hm0:m=0
    ·subst hm0;have HEX:=lh (show(0:Nat)=0\/∃h:0-1<l.length,l[0-1].1<=(y1,y2).1 from .inl rfl)
     go_wp2_with fail
     refine Xr.start [] kr ?_;refine Xtk 0 ?_
     iterate 2(refine Xtn ?_)
     iterate 12(first|refine Xtn ?_|refine Xsn ?_)
     refine Xtn ?_;refine Xdn fun w3 hE3 hK3=>?_;have X2:=lh (x2.trans hK3.nil);clear k0 q0 hE3 hK3 x2;by_cases hl0:l=[]
     ·subst hl0;by_cases hc0:c1=0
      ·subst hc0;exact V5z1
      ·have hc0I:¬(c1:Int)=0:=om;exact V5z1
     ·obtain⟨jb,jo,hA1,_⟩:=HL.out.1.at_ hl0;have hlp:0<l.length:=List.length_pos_iff.2 hl0;have hc0I:¬(c1:Int)=0:=om;have hc0:¬c1=0:=om;subst hA1;have HNX:=lh (fun(A6:Option Addr) (c6:Nat) (w6:World) (ho6:OwnPr w6 w3.heap.size A6 c6 ([]++[(y1,y2)]++l)) (X6:Ext w3 w6)=>
       show Hid (([]++[(y1,y2)]++l:List Sp).length=a.length+(i+1))/\Hid (SL w6 A6 c6 ([]++[(y1,y2)]++l)/\([]++[(y1,y2)]++l).Perm (a++b.take (i+1))/\([]++[(y1,y2)]++l).Pairwise (fun(s t:Sp)=>s.1<=t.1))/\Ext w w6 by
       obtain⟨h1,h2⟩:=ins_sorted (y:=(y1,y2)) (k:=0) HL.out.2.2 HM.out (.inl rfl);have h3:([]++[(y1,y2)]++l).Perm (a++b.take (i+1)):=by
        exact V5z3
       refine⟨lh (by have:=h2.length_eq;have h9:=hll.out;simp only[List.length_append,List.length_nil,List.length_cons,List.take_zero,List.drop_zero] at this h9 ⊢;omega),lh ⟨SL.of_ownT ho6 (fun s hs=>HR.out s ?_),h3,h1⟩,(x1.trans X2.out).trans X6⟩;have h4:=h3.mem_iff.1 hs;rcases List.mem_append.1 h4 with h5|h5
       ·exact List.mem_append_left _ h5
       ·exact List.mem_append_right _ (List.mem_of_mem_take h5))
      have y0:=X2.out.cell o0;have y1':=X2.out.cell o1;have HCL:=lh (SL.cells (HL.out.1.ext X2.out));clear o0 o1 x1 X2
      go_upto_region 7 with fail
      go_upto_region 8 with fail
      go_upto_region 9 with(at_builtin;refine wpList_appQ rfl _ _ _ rfl Tryz.underlying37 w3.heap.size (Nat.le_refl _) none 0 0 [] rfl rfl (OwnS.nil _ _ _ _) _ _ 0 [] rfl rfl (fun h=>absurd rfl h) si 0 rfl ?_;intro A4 c4 w4 ho4 hg4)
      have X4:=lh (Ext.app (Ext.rfl' w3) (OwnS.nil _ _ _ _:OwnS w3 w3.heap.size 54 2 none 0 0 []) hg4);have HO4:=lh ho4;clear ho4 hg4;have BY:=Blk.new w4 54 #[.int .i64 y1,.int .i64 y2];have EY:=Ext.alloc w4 (.cells #[.int .i64 y1,.int .i64 y2] 54);have z0:=X4.out.cell y0;have z1':=X4.out.cell y1'
      go_upto_region 10 with(at_builtin;refine wpList_appQ rfl _ _ _ rfl Tryz.underlying37 w3.heap.size (X4.out.trans EY).size A4 c4 0 _ rfl rfl (OwnS.ext HO4.out EY) (some ⟨w4.heap.size,0,none⟩) 1 1 [(y1,y2)] rfl rfl (blk_cells BY) si 1 rfl ?_;intro A5 c5 w5 ho5 hg5)
      have X5:=lh (Ext.app (X4.out.trans EY) (OwnS.ext HO4.out EY) hg5);have HO5:=lh ho5;clear ho5 hg5 BY EY z0 z1' y0 y1';have HCL5:=lh (CellsAt.ext HCL.out X5.out)
      go_upto_region 3 with(at_builtin;refine wpList_appQ rfl _ _ _ rfl Tryz.underlying37 w3.heap.size X5.out.size A5 c5 1 _ rfl rfl HO5.out (some ⟨jb,jo,none⟩) _ l.length l rfl rfl HCL5.out (by simp<;>omega) (l.length+1) om ?_;intro A6 c6 w6 ho6 hg6)
      obtain⟨n1,n2,n3⟩:=HNX.out A6 c6 w6 ho6 (Ext.app X5.out HO5.out hg6);clear ho6 hg6 HNX HO5 X5
      go_wp2_with fail
      go_roundw
      case rel=>exact⟨i+1,A6,c6,[]++[(y1,y2)]++l,by simp[Nat.add_comm],by go_num,om,n1,n2,n3⟩
      case measure=>simp[intOf];omega
    ·obtain⟨m',rfl⟩:∃k,m=k+1:=⟨m-1,om⟩;have hml:m'<l.length:=om;obtain⟨jb,jo,hA1,p0,p1⟩:=(HL.out.1.ext x2).get hml;have hne:((m'+1:Nat):Int)=(m':Int)+1:=om;subst hA1;have ewp:IntKind.i64.wrap (m':Int)=m':=wj;have k1:=kc0 p0;have HLM:=fun(h:l[m'].1<=y1)=>lh (show m'+1=0\/∃h:m'+1-1<l.length,l[m'+1-1].1<=(y1,y2).1 from .inr ⟨hml,h⟩);have HLG:=fun(h:y1<l[m'].1)=>lh (show ∀j (h:j<l.length),m'<=j->y1<l[j].1 from fun j hj hmj=>by
      rcases Nat.lt_or_ge m' j with h1|h1
      ·exact HM.out j hj om
      ·have:j=m':=om;subst this;exact h)
     generalize l[m']=z at *;obtain⟨z1,z2⟩:=z
     simp only at p0 p1 k1 HLM HLG
     by_cases hgt:y1<z1
     ·have HG:=HLG hgt;clear HLG HLM
      go_wp2_with fail
      refine Xr.start [] kr ?_;refine Xtk 0 ?_
      iterate 2(refine Xtn ?_)
      iterate 12(first|refine Xtn ?_|refine Xsn ?_)
      refine Xtn ?_;refine Xdn fun w3 hE3 hK3=>?_;have X3:=x2.trans hK3.nil;clear k0 k1 q0 p0 p1 hE3 hK3 x2
      go_wp2_with fail
      go_roundw
      case rel=>exact⟨m',by go_num,om,HG,X3⟩
      case measure=>simp[intOf]
     ·have HEX:=HLM om;clear HLG HLM
      go_wp2_with fail
      refine Xr.start [] kr ?_;refine Xtk 0 ?_
      iterate 2(refine Xtn ?_)
      iterate 12(first|refine Xtn ?_|refine Xsn ?_)
      refine Xtn ?_;refine Xdn fun w3 hE3 hK3=>?_;have X2:=lh (x2.trans hK3.nil);clear k0 k1 q0 p0 p1 hE3 hK3 x2;obtain⟨K,hK⟩:∃K,K=m'+1:=⟨_,rfl⟩;have hKc:(m':Int)+1=(K:Int):=om
      rw[<-hK] at HM HEX hm hne;rw[hKc];have hKI:(K:Int)<=(c1:Int):=om;have hKl:(K:Int)<=(l.length:Int):=om;have HLL:=lh (show(l.take K).length=K by rw[List.length_take];omega);have HL3:=lh (HL.out.1.ext X2.out);have XW3:=lh (x1.trans X2.out);have HTK:=lh (HL3.out.cellsTake K);have y0:=X2.out.cell o0;have y1':=X2.out.cell o1;clear hK hne ewp x1 X2 o0 o1 hKc
      go_upto_region 8 with fail
      go_upto_region 9 with(at_builtin;refine wpList_appQ rfl _ _ _ rfl Tryz.underlying37 w3.heap.size (Nat.le_refl _) none 0 0 [] rfl rfl (OwnS.nil _ _ _ _) (some ⟨jb,jo,none⟩) c1 K (l.take K) rfl HLL.out.symm HTK.out (by simp;omega) K om ?_;intro A4 c4 w4 ho4 hg4)
      have X4:=lh (Ext.app (Ext.rfl' w3) (OwnS.nil _ _ _ _:OwnS w3 w3.heap.size 54 2 none 0 0 []) hg4);have HO4:=lh ho4;clear ho4 hg4 HTK;have BY:=Blk.new w4 54 #[.int .i64 y1,.int .i64 y2];have EY:=Ext.alloc w4 (.cells #[.int .i64 y1,.int .i64 y2] 54);have z0:=X4.out.cell y0;have z1':=X4.out.cell y1'
      go_upto_region 10 with(at_builtin;refine wpList_appQ rfl _ _ _ rfl Tryz.underlying37 w3.heap.size (X4.out.trans EY).size A4 c4 K _ rfl HLL.out.symm (OwnS.ext HO4.out EY) (some ⟨w4.heap.size,0,none⟩) 1 1 [(y1,y2)] rfl rfl (blk_cells BY) (by rw[HLL.out];simp;omega) (K+1) rfl ?_;intro A5 c5 w5 ho5 hg5)
      have X5:=lh (Ext.app (X4.out.trans EY) (OwnS.ext HO4.out EY) hg5);have HO5:=lh ho5;clear ho5 hg5 BY EY z0 z1' y0 y1';have HNX:=lh (fun(A6:Option Addr) (c6:Nat) (w6:World) (ho6:OwnPr w6 w3.heap.size A6 c6 (l.take K++[(y1,y2)]++l.drop K)) (X6:Ext w3 w6)=>
       show Hid ((l.take K++[(y1,y2)]++l.drop K).length=a.length+(i+1))/\Hid (SL w6 A6 c6 (l.take K++[(y1,y2)]++l.drop K)/\(l.take K++[(y1,y2)]++l.drop K).Perm (a++b.take (i+1))/\(l.take K++[(y1,y2)]++l.drop K).Pairwise (fun s t=>s.1<=t.1))/\Ext w w6 by
       obtain⟨h1,h2⟩:=ins_sorted (y:=(y1,y2)) (k:=K) HL.out.2.2 HM.out HEX.out;have h3:(l.take K++[(y1,y2)]++l.drop K).Perm (a++b.take (i+1)):=by
        exact V5z3
       refine⟨lh (by rw[h2.length_eq,List.length_append,hll.out];rfl),lh ⟨SL.of_ownT ho6 (fun s hs=>HR.out s ?_),h3,h1⟩,XW3.out.trans X6⟩;have h4:=h3.mem_iff.1 hs;rcases List.mem_append.1 h4 with h5|h5
       ·exact List.mem_append_left _ h5
       ·exact List.mem_append_right _ (List.mem_of_mem_take h5))
      have HLR:=lh (show(l.take K++[(y1,y2)]).length=K+1 by rw[List.length_append,HLL.out];rfl);have HLD:=lh (show(l.take K++[(y1,y2)]++l.drop K).length=l.length+1 by
       rw[List.length_append,List.length_append,List.length_drop,HLL.out,List.length_singleton];omega)
      have HDD:=lh (show l.length-K=(l.drop K).length by rw[List.length_drop]);have HCD:=lh ((HL3.out.ext X5.out).cellsDrop K);have HBB:=lh (show(l.take K++[(y1,y2)]).length+(l.drop K).length<=1000000 by rw[HLR.out,<-HDD.out];omega);by_cases hce:c1=K
      ·have hceI:(c1:Int)=(K:Int):=om;have hdz:l.drop K=[]:=List.drop_of_length_le om;have HDZ:=lh (show CellsAt w5 (some ⟨jb,jo,none⟩) (flatS (l.drop K)) by rw[hdz];intro h;exact absurd rfl h);clear HCD hdz hce
       go_upto_region 3 with(at_builtin;refine wpList_appQ rfl _ _ _ rfl Tryz.underlying37 w3.heap.size X5.out.size A5 c5 (K+1) _ rfl HLR.out.symm HO5.out (some ⟨jb,jo,none⟩) _ _ (l.drop K) rfl HDD.out HDZ.out HBB.out (l.length+1) om ?_;intro A6 c6 w6 ho6 hg6)
       obtain⟨n1,n2,n3⟩:=HNX.out A6 c6 w6 ho6 (Ext.app X5.out HO5.out hg6);clear ho6 hg6 HNX HDZ HBB HDD HO5 X5;exact V5z2
      ·have hceI:¬(c1:Int)=(K:Int):=om
       go_upto_region 3 with(at_builtin;refine wpList_appQ rfl _ _ _ rfl Tryz.underlying37 w3.heap.size X5.out.size A5 c5 (K+1) _ rfl HLR.out.symm HO5.out (some ⟨jb,jo+K*2,none⟩) (c1-K) (l.length-K) (l.drop K) rfl HDD.out HCD.out HBB.out (l.length+1) om ?_;intro A6 c6 w6 ho6 hg6)
       obtain⟨n1,n2,n3⟩:=HNX.out A6 c6 w6 ho6 (Ext.app X5.out HO5.out hg6);clear ho6 hg6 HNX HCD HBB HDD HO5 X5;exact V5z2
  ·have hI:¬(i:Int)<b.length:=om;obtain rfl:i=b.length:=om;have HF:=lh (show RetMg a b w (.returned (.slice A1 l.length c1)) wr from⟨l,A1,c1,rfl,HL.out.1,by have:=HL.out.2.1;rwa [List.take_length] at this,HL.out.2.2,x1⟩)
   go_wp2_with fail
   go_ret
   exact HF.out
def setIn (w:World)(g:Nat)(h:Hin):World:=
 (((((w.setCell ⟨g,0,none⟩ (.int .i64 h.op)).setCell ⟨g,1,none⟩ (.int .i64 h.x)).setCell ⟨g,2,none⟩ (.int .i64 h.y)).setCell ⟨g,3,none⟩ (.int .i64 h.n)).setCell ⟨g,4,none⟩ (.slice h.A h.l.length h.c))
def Hin.cs (h:Hin):Array Value:=#[.int .i64 h.op,.int .i64 h.x,.int .i64 h.y,.int .i64 h.n,.slice h.A h.l.length h.c]
theorem setIn_blk {w:World}{g T:Nat}{a0 a1 a2 a3 a4:Value}(h:Blk w g T #[a0,a1,a2,a3,a4])(n:Hin):Blk (setIn w g n) g T n.cs:=by
 have h:=(((((h.set 0 (.int .i64 n.op)).set 1 (.int .i64 n.x)).set 2 (.int .i64 n.y)).set 3 (.int .i64 n.n)).set 4 (.slice n.A n.l.length n.c))
 simpa[setIn,Hin.cs] using h
theorem setIn_ext {a w:World}{g:Nat}(h:Ext a w)(hg:a.heap.size<=g)(n:Hin):Ext a (setIn w g n):=
 (((((h.setNew (p:=⟨g,0,none⟩) hg _).setNew (p:=⟨g,1,none⟩) hg _).setNew (p:=⟨g,2,none⟩) hg _).setNew (p:=⟨g,3,none⟩) hg _).setNew (p:=⟨g,4,none⟩) hg _)
theorem in_cells {w:World}{g T:Nat}{n:Hin}(h:Blk w g T n.cs):w.cell? ⟨g,0,none⟩=some (.int .i64 n.op)/\w.cell? ⟨g,1,none⟩=some (.int .i64 n.x)/\w.cell? ⟨g,2,none⟩=some (.int .i64 n.y)/\w.cell? ⟨g,3,none⟩=some (.int .i64 n.n)/\w.cell? ⟨g,4,none⟩=some (.slice n.A n.l.length n.c):=
 ⟨h.cell 0,h.cell 1,h.cell 2,h.cell 3,h.cell 4⟩
theorem in_frz {w:World}{g T:Nat}{cs:Array Value}(h:Blk w g T cs):w.frozen? ⟨g,0,none⟩=false/\w.frozen? ⟨g,1,none⟩=false/\w.frozen? ⟨g,2,none⟩=false/\w.frozen? ⟨g,3,none⟩=false/\w.frozen? ⟨g,4,none⟩=false:=
 ⟨h.frz 0,h.frz 1,h.frz 2,h.frz 3,h.frz 4⟩
def RunOk (bd:Nat)(w0:World)(gs:Nat)(tA:Option Addr)(tn tc:Nat)(most:Int)(fuel st:Nat):Prop:=
 ∀(w:World) (p:Option Nat) (n:Nat) (i:Nat) (cA:Option Addr) (cc:Nat) (cl:List Sp) (ns:Nat),Ext w0 w->SrM w w0.heap.size gs tA tn tc most fuel st false ns->GoalAt bd w0 w st n p->i<=tn->CapAt w cA cc cl->cl.length<=1000->ns<=3*st->
  Calls Tryz.prog 216 #[.pointer (some ⟨gs,0,none⟩),.pointer (p.map (fun g=>⟨g,0,none⟩)),.int .i64 i,.slice cA cl.length cc] w (RetF w0 gs tA tn tc most fuel st ns w)
theorem RetF.after {w0 w w1 w':World}{gs tn tc st st1 ns ns1 fuel:Nat}{tA:Option Addr}{most:Int}{e:Ending}(h:RetF w0 gs tA tn tc most fuel st1 ns1 w1 e w')(z:ZF gs w w1)(h1:st<=st1)(h2:ns<=ns1/\ns1<=ns+3*(st1-st)):RetF w0 gs tA tn tc most fuel st ns w e w':=by
 obtain⟨b,st',em,ns',rfl,k1,k2,k3,k4,k5,k6,k7⟩:=h;exact⟨b,st',em,ns',rfl,k1,k2,z.trans k3,om,om,om,k7⟩
theorem RetF.ext {w0 w w' w2:World}{gs tn tc st ns fuel:Nat}{tA:Option Addr}{most:Int}{e:Ending}(h:RetF w0 gs tA tn tc most fuel st ns w e w')(x:Ext w' w2):RetF w0 gs tA tn tc most fuel st ns w e w2:=by
 have hg:gs<w.heap.size\/True:=.inr trivial;obtain⟨b,st',em,ns',rfl,k1,k2,k3,k4,k5,k6,k7⟩:=h;refine⟨b,st',em,ns',rfl,k1.ext x,k2.trans x,?_,k4,k5,k6,k7⟩;exact⟨k3.kp.ext x,fun y hy=>by rw[zL_ext x k1.gs_lt] at hy;exact k3.old y hy⟩
def RetNo (w0:World)(gs:Nat)(tA:Option Addr)(tn tc:Nat)(most:Int)(fuel st ns:Nat)(w w':World):Prop:=
 ∃(st' ns':Nat),SrM w' w0.heap.size gs tA tn tc most fuel st' false ns'/\Ext w0 w'/\ZF gs w w'/\st<=st'/\ns<=ns'/\ns'<=ns+3*(st'-st)+1/\st'<=fuel
theorem RetF.no {w0 w w':World}{gs tn tc st ns fuel:Nat}{tA:Option Addr}{most:Int}(h:RetF w0 gs tA tn tc most fuel st ns w (.returned (.bool false)) w'):RetNo w0 gs tA tn tc most fuel st ns w w':=by
 obtain⟨b,st',em,ns',hb,k1,k2,k3,k4,k5,k6,k7⟩:=h;injection hb with hb;injection hb with hb
 subst hb;rcases k7 with⟨rfl,k7⟩|⟨_,h,_⟩
 ·exact⟨st',ns',k1,k2,k3,k4,k5,k6,k7⟩
 ·cases h
theorem RetF.noI {w0 w w':World}{gs tn tc st ns fuel:Nat}{tA:Option Addr}{most:Int}{b:Bool}(h:RetF w0 gs tA tn tc most fuel st ns w (.returned (.bool b)) w')(hb:b=false):RetNo w0 gs tA tn tc most fuel st ns w w':=by
 subst hb;exact h.no
structure NdAt (bd:Nat)(w0:World)(d:Nat)(nd:Nd):Prop where
 ok:NdOk bd nd
 sl:SL w0 nd.A nd.c nd.l
 kl:nd.ks.length<=nd.kc/\nd.kc<=maxLen
 cl:CellsAt w0 nd.K (nd.ks.flatMap cellsOf)
 ks:∀u∈nd.ks,TreeAt bd (fun _=>True) w0 d u
theorem NdAt.tree {bd:Nat}{w0:World}{d:Nat}{nd:Nd}(h:NdAt bd w0 d nd):TreeAt bd (fun _=>True) w0 (d+1) nd.val:=
 .mk nd h.ok h.sl h.kl.1 h.kl.2 h.cl h.ks (fun _ _ _=>trivial) (fun _ _ _=>trivial)
theorem TreeAt.nd {bd:Nat}{w0:World}{d:Nat}{v:Value}(h:TreeAt bd (fun _=>True) w0 (d+1) v):∃nd,v=nd.val/\NdAt bd w0 d nd:=by
 obtain⟨nd,e,h1,h2,h3,h4,h5,h6⟩:=h.node;exact⟨nd,e,h1,h2,⟨h3,h4⟩,h5,h6⟩
theorem goalC_val {m n:Nd}(e:m.val=n.val)(kind k fr:Int)(p:Option Nat):goalC kind m k fr p=goalC kind n k fr p:=by
 obtain⟨h1,h2,h3,h4,h5,h6,h7,h8,h9,h10,h11,h12⟩:=Nd.val_inj e;simp[goalC,h1,h2,h3,h4,h5,h6,h7,h8,h9,h10,h11,h12]
theorem GoalAt.first {bd n g:Nat}{w0 w:World}{kb:Int}(h:GoalAt bd w0 w kb n (some g)):∃(kind k fr:Int) (nd:Nd) (d m:Nat) (p:Option Nat),n=m+1/\Blk w g 345 (goalC kind nd k fr p)/\NdAt bd w0 d nd/\
 (kind=0\/(kind=1/\nd.op=4/\0<=k/\k<=kb)\/(kind=2/\nd.op=4/\0<=k/\k+1<=kb)\/kind=3)/\I64 fr/\GoalAt bd w0 w kb m p:=by
 cases h with
 | mk g kind k fr nd d h1 h2 h3 h4 h5=>
  obtain⟨e,rfl⟩:=h2.pos;obtain⟨nn,hv,hn⟩:=h2.nd;have hop:=(Nd.val_inj hv).1;rw[goalC_val hv] at h1;rw[hop] at h3;exact⟨kind,k,fr,nn,_,_,_,rfl,h1,hn,h3,h4,h5⟩
theorem Z5z1 {P:Prop} (h:P:=by
 go_wp2_with (go_at_call 216;refine HRN.out.mono ?_;rintro e w9 h9;obtain⟨b9,rfl⟩:=h9.val;have HN9:=lh (RetF.noI h9);have cn11:w9.cell? ⟨g,11,none⟩=some (.pointer (p.map (fun g=>⟨g,0,none⟩))):=(HBK.out w9 h9.zf).cell 11;have H9:=lh (RetF.after (st:=st) (ns:=ns) h9 HZ8.out om ⟨Nat.le_refl _,om⟩);clear h9;cases b9)
 all_goals
  go_ret
  first|exact H10.out|exact H9.out):P:=h
theorem zrep_any (bd:Nat)(w0:World)(gs:Nat)(tA:Option Addr)(tn tc:Nat)(most:Int)(fuel st:Nat)(hf:fuel<=100000000)(htn:tn<=100000000)(hbd:bd<=1000)(HRUN:∀st',st<st'->st'<=fuel->RunOk bd w0 gs tA tn tc most fuel st')
 (w:World) (g:Nat) (nd:Nd) (d:Nat) (k fr:Int) (p:Option Nat) (n i:Nat) (cA:Option Addr) (cc:Nat) (cl:List Sp) (ns:Nat) (hb:Blk w g 345 (goalC 1 nd k fr p)) (ht:NdAt bd w0 d nd) (hop:nd.op=4)
 (hk:0<=k/\k<=st) (hp:GoalAt bd w0 w st n p) (x0:Ext w0 w) (hs:SrM w w0.heap.size gs tA tn tc most fuel st false ns) (hst:st<=fuel) (hi:i<=tn) (hc:CapAt w cA cc cl) (hcl:cl.length<=1000) (hns:ns<=3*st) :
 Calls Tryz.prog 278 #[.pointer (some ⟨gs,0,none⟩),.pointer (some ⟨g,0,none⟩),.int .i64 i,.slice cA cl.length cc] w (RetF w0 gs tA tn tc most fuel st ns w):=by
 have hone:=ht.ok.one (.inl hop);have hmd:=ht.ok.md;have hmn:=ht.ok.mn;have hmx:=ht.ok.mx;have hkl:=ht.kl;have HT:=lh ht;have HR:=lh HRUN;have HP:=lh hp;have HC:=lh hc;have HS:=lh hs;have HX:=lh x0;obtain⟨c0,c1,c2,c3,c4,c5,c6,c7,c8,c9,c10,c11⟩:=goal_cells hb;have HB:=lh hb;have hgl:=hs.gs_lt;have EN:=Ext.alloc w (.cells nd.cs.toArray 61);have BN:=Blk.new w 61 nd.cs.toArray;have hm2:(nd.md == 2)=false:=by simp;omega
 have HOP:=lh hop;clear ht HRUN hp hc hs x0 hb hop;go_enter Tryz.func278,Tryz.ntmps278
 go_upto_region 2 with fail
 change Code.wp _ _ _ _ (w.alloc (.cells nd.cs.toArray 61));obtain⟨g9,hg9⟩:∃g,g=w.heap.size:=⟨_,rfl⟩
 rw[<-hg9] at BN ⊢;clear hg9;generalize w.alloc (.cells nd.cs.toArray 61)=wa at *;have HBa:=lh (HB.out.ext EN);have HB9:=lh BN;have HEN:=lh EN;have HSa:=lh (HS.out.ext EN);have hgla:gs<wa.heap.size:=Nat.lt_of_lt_of_le hgl EN.size;obtain⟨y0,y1,y2,y3,y4,y5,y6,y7⟩:=nd_cells BN;clear c0 c1 c2 c3 c4 c5 c6 c7 c8 c9 c10 c11 BN EN
 go_upto_region 9 with(go_at_call 314;refine(zstep_any w0 wa gs tA tn tc most fuel st ns HSa.out (HX.out.trans HEN.out) hst om).mono ?_;rintro e w3 ⟨rfl,hs3,x3,z3⟩;have HS3:=lh hs3;have HX3:=lh x3;have HZ3:=lh z3;clear hs3 x3 z3;by_cases hlt:st+1<=fuel)
 ·have HB3:=lh (HZ3.out.blk HSa.out HBa.out de);have HB93:=lh (HZ3.out.blk HSa.out HB9.out de);have HS31:Hid (SrM w3 w0.heap.size gs tA tn tc most fuel (st+1) false ns):=lh (by have h:=HS3.out;simpa[hlt] using h);have HC3:=lh ((HC.out.ext HEN.out).zf HSa.out HZ3.out);have HP3:=lh (((HP.out.ext HEN.out).zf HSa.out HZ3.out).mono (kb':=((st+1:Nat):Int)) om);have HZW:=lh ((ZF.of_ext HEN.out hgl).trans HZ3.out);have hgl3:=HS31.out.gs_lt;clear y0 y1 y2 y3 y4 y5 y6 y7;obtain⟨c0,c1,c2,c3,c4,c5,c6,c7,c8,c9,c10,c11⟩:=goal_cells HB3.out;obtain⟨y0,y1,y2,y3,y4,y5,y6,y7⟩:=nd_cells HB93.out;obtain⟨b,o,hK,n0,ht0,k0,k1,k2,k3,k4,k5,k6,k7⟩:=kid8x HX3.out HT.out.cl HT.out.ks (i:=0) om;simp only[Nat.zero_mul,Nat.add_zero] at k0 k1 k2 k3 k4 k5 k6 k7;have HT0:=lh ht0;have HK:=lh hK;clear hK;have hkl0:0<nd.ks.length:=om;clear HS3 HS HSa HB9 HBa ht0
  go_cut [13] from 51 to 62 (fun v wx=>∃b:Bool,v=.bool b/\Ext w3 wx)
  case first=>
   by_cases hx:nd.mx = -1
   ·have hx1:(nd.mx == -1)=true:=by simp[hx]
    go_wp2_with (go_quiet (fail))
    go_meet
    exact⟨_,rfl,Ext.drewN _ _⟩
   ·have hx1:(nd.mx == -1)=false:=by simp[hx]
    go_wp2_with (go_quiet (fail))
    go_meet
    exact⟨_,rfl,Ext.drewN _ _⟩
  case rest=>
   obtain⟨more,rfl,x4⟩:=hcut;have q9:=fun(w':World) (h:Kp [] wc w')=>h.cell (x4.cell c9) si;have q11:=fun(w':World) (h:Kp [] wc w')=>h.cell (x4.cell c11) si;have p0:=fun(w':World) (h:Kp [] wc w')=>h.cell (x4.cell y0) si;have p1:=fun(w':World) (h:Kp [] wc w')=>h.cell (x4.cell y1) si;have p2:=fun(w':World) (h:Kp [] wc w')=>h.cell (x4.cell y2) si;have p3:=fun(w':World) (h:Kp [] wc w')=>h.cell (x4.cell y3) si;have p4:=fun(w':World) (h:Kp [] wc w')=>h.cell (x4.cell y4) si;have p5:=fun(w':World) (h:Kp [] wc w')=>h.cell (x4.cell y5) si;have p6:=fun(w':World) (h:Kp [] wc w')=>h.cell (x4.cell y6) si;have p7:=fun(w':World) (h:Kp [] wc w')=>h.cell (x4.cell y7) si;have e0:=fun(w':World) (h:Kp [] wc w')=>h.cell (x4.cell k0) si;have e1:=fun(w':World) (h:Kp [] wc w')=>h.cell (x4.cell k1) si;have e2:=fun(w':World) (h:Kp [] wc w')=>h.cell (x4.cell k2) si;have e3:=fun(w':World) (h:Kp [] wc w')=>h.cell (x4.cell k3) si;have e4:=fun(w':World) (h:Kp [] wc w')=>h.cell (x4.cell k4) si;have e5:=fun(w':World) (h:Kp [] wc w')=>h.cell (x4.cell k5) si;have e6:=fun(w':World) (h:Kp [] wc w')=>h.cell (x4.cell k6) si;have e7:=fun(w':World) (h:Kp [] wc w')=>h.cell (x4.cell k7) si;rw[HK.out] at p2;clear c0 c1 c2 c3 c4 c5 c6 c7 c8 c9 c10 c11 y0 y1 y2 y3 y4 y5 y6 y7 k0 k1 k2 k3 k4 k5 k6 k7
   go_upto_region 11 with fail
   refine Xr.start [] kr ?_;refine Xtk 0 ?_
   iterate 14(refine Xtn ?_)
   refine Xcl 15 fun w5 hE5 hK5 K hKK=>?_;have EG:Hid (goalC 2 nd k i p=#[.int .i64 2,.int .i64 nd.op,.slice nd.A nd.l.length nd.c,.slice (some ⟨b,o,none⟩) nd.ks.length nd.kc,.int .i64 nd.mn,.int .i64 nd.mx,.int .i64 nd.md,.int .i64 nd.n,.bool nd.neg,.int .i64 k,.int .i64 (i:Int),ptrO p]):=lh (by simp[goalC,HK.out]);have E5:=Ext.alloc w5 (.cells (goalC 2 nd k i p) 345);have B5:=Blk.new w5 345 (goalC 2 nd k i p);rw[EG.out] at E5 B5;go_simp;refine hKK _ _ E5 ?_;clear hKK;refine ptm ?_;refine Xtk 16 ?_;refine Xcl 17 fun w6 hE6 hK6 K hKK=>?_;have E6:=Ext.alloc w6 (.cells (goalC 0 n0 0 0 (some w5.heap.size)) 345);have B6:=Blk.new w6 345 (goalC 0 n0 0 0 (some w5.heap.size));go_simp;refine hKK _ _ E6 ?_;clear hKK;refine ptm ?_;refine Xtk 18 ?_;refine Xdn fun w7 hE7 hK7=>?_;have HX37:=lh (x4.trans (hE5.trans (E5.trans (hE6.trans (E6.trans hE7)))));have Bi:=B5.ext (hE6.trans (E6.trans hE7));have Bo:=B6.ext hE7
   rw[<-EG.out] at Bi;clear hK5 hK6 hK7 hE5 E5 hE6 E6 hE7 B5 B6 x4;generalize w6.heap.size=gO at *;generalize w5.heap.size=gi at *;have HON:Hid (GoalAt bd w0 w7 ((st+1:Nat):Int) (n+1+1) (some gO)):=lh (GoalAt.mk gO 0 0 0 n0 d Bo HT0.out (.inl rfl) (by simp[I64]) (.mk gi 2 k i nd (d+1) Bi HT.out.tree (.inr (.inr (.inl ⟨rfl,HOP.out,hk.1,om⟩))) (by unfold I64;omega) (HP3.out.ext HX37.out)));have HB7:=lh (HB3.out.ext HX37.out);have HB97:=lh (HB93.out.ext HX37.out);have HS7:=lh (HS31.out.ext HX37.out);have HX7:=lh (HX3.out.trans HX37.out);have HC7:=lh (HC3.out.ext HX37.out);have HP7:=lh (HP3.out.ext HX37.out);have HZ7:=lh (HZW.out.ext HX37.out hgl);clear q9 q11 p0 p1 p2 p3 p4 p5 p6 p7 e0 e1 e2 e3 e4 e5 e6 e7 Bi Bo HB3 HB93 HS31 HC3 HP3 HX3 HZW HX37 hgl3 HZ3;clear w5 w6;obtain⟨c0,c1,c2,c3,c4,c5,c6,c7,c8,c9,c10,c11⟩:=goal_cells HB7.out;obtain⟨y0,y1,y2,y3,y4,y5,y6,y7⟩:=nd_cells HB97.out;by_cases hmin:k<nd.mn
   ·go_upto_region 13 with(go_quiet (fail))
    have xd:=Ext.drewN w7 nq;have HZ8:=lh (HZ7.out.ext xd hgl);have HR8:=lh (HR.out (st+1) om hlt (w7.drewN nq) (some gO) (n+1+1) i cA cc cl ns (HX7.out.trans xd) (HS7.out.ext xd) (HON.out.ext xd) hi (HC7.out.ext xd) hcl om);clear c0 c1 c2 c3 c4 c5 c6 c7 c8 c9 c10 c11 y0 y1 y2 y3 y4 y5 y6 y7 xd;generalize w7.drewN nq=w8 at *
    go_wp2_with (go_at_call 216;refine HR8.out.mono ?_;rintro e w9 h9;obtain⟨b9,rfl⟩:=h9.val)
    go_ret
    exact h9.after HZ8.out om ⟨Nat.le_refl _,om⟩
   ·go_upto_region 14 with(go_quiet (fail))
    have xd:=Ext.drewN w7 nq;have HZ8:=lh (HZ7.out.ext xd hgl);have HS8:=lh (HS7.out.ext xd);have HX8:=lh (HX7.out.trans xd);have HC8:=lh (HC7.out.ext xd);have HO8:=lh (HON.out.ext xd);have HP8:=lh (HP7.out.ext xd);have HB8:=lh (HB7.out.ext xd);have u5:=xd.cell y5;have u11:=xd.cell c11;clear c0 c1 c2 c3 c4 c5 c6 c7 c8 c9 c10 c11 y0 y1 y2 y3 y4 y5 y6 y7 xd HS7 HX7 HC7 HON HP7 HB7 HB97 HZ7;generalize w7.drewN nq=w8 at *;have HBK:Hid (∀w',ZF gs w8 w'->Blk w' g 345 (goalC 1 nd k fr p)):=lh (fun w' z=>z.blk HS8.out HB8.out de);have HRO:=lh (HR.out (st+1) om hlt w8 (some gO) (n+1+1) i cA cc cl ns HX8.out HS8.out HO8.out hi HC8.out hcl om);have HRN:=lh (HR.out (st+1) om hlt w8 p n i cA cc cl ns HX8.out HS8.out HP8.out hi HC8.out hcl om);by_cases hmd1:nd.md=1
    ·have hmd2:(nd.md == 1)=true:=by simp[hmd1]
     cases more
     ·exact Z5z1
     ·go_wp2_with (first|(have hq:=HN9;go_at_call 216;obtain⟨st9,ns9,s9,x9,z9,a1,a2,a3,a4⟩:=HN9.out si;refine(HR.out st9 om a4 w9 (some gO) (n+1+1) i cA cc cl ns9 x9 s9 (((HO8.out.zf HS8.out z9)).mono om) hi (HC8.out.zf HS8.out z9) hcl om).mono ?_;rintro e w10 h10;obtain⟨b10,rfl⟩:=h10.val;have H10:=lh (RetF.after (st:=st) (ns:=ns) h10 (HZ8.out.trans z9) om ⟨om,om⟩);clear h10)|(go_at_call 216;refine HRN.out.mono ?_;rintro e w9 h9;obtain⟨b9,rfl⟩:=h9.val;have HN9:=lh (RetF.noI h9);have cn11:w9.cell? ⟨g,11,none⟩=some (.pointer (p.map (fun g=>⟨g,0,none⟩))):=(HBK.out w9 h9.zf).cell 11;have H9:=lh (RetF.after (st:=st) (ns:=ns) h9 HZ8.out om ⟨Nat.le_refl _,om⟩);clear h9;cases b9))
      all_goals
       go_ret
       first|exact H10.out|exact H9.out
    ·have hmd2:(nd.md == 1)=false:=by simp[hmd1]
     cases more
     ·exact Z5z1
     ·go_wp2_with (first|(have hq:=HN9;go_at_call 216;obtain⟨st9,ns9,s9,x9,z9,a1,a2,a3,a4⟩:=HN9.out si;refine(HR.out st9 om a4 w9 p n i cA cc cl ns9 x9 s9 (((HP8.out.zf HS8.out z9)).mono om) hi (HC8.out.zf HS8.out z9) hcl om).mono ?_;rintro e w10 h10;obtain⟨b10,rfl⟩:=h10.val;have H10:=lh (RetF.after (st:=st) (ns:=ns) h10 (HZ8.out.trans z9) om ⟨om,om⟩);clear h10)|(go_at_call 216;refine HRO.out.mono ?_;rintro e w9 h9;obtain⟨b9,rfl⟩:=h9.val;have HN9:=lh (RetF.noI h9);have cn11:w9.cell? ⟨g,11,none⟩=some (.pointer (p.map (fun g=>⟨g,0,none⟩))):=(HBK.out w9 h9.zf).cell 11;have H9:=lh (RetF.after (st:=st) (ns:=ns) h9 HZ8.out om ⟨Nat.le_refl _,om⟩);clear h9;cases b9))
      all_goals
       go_ret
       first|exact H10.out|exact H9.out
 ·go_wp2_with fail
  go_ret
  exact⟨true,st+1,true,ns,rfl,by have h:=HS3.out;simpa[hlt] using h,HX3.out,(ZF.of_ext HEN.out hgl).trans HZ3.out,om,om,om,.inr ⟨rfl,rfl,om⟩⟩
end
end Go.Proofs.YtmgpefenkilffaaGreat
