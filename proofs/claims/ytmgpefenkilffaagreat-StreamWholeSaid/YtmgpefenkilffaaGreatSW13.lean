/- Texts of this proof: J7. -/
import Derived.Test.YtmgpefenkilffaaGreatSW07
set_option linter.all false
set_option maxRecDepth 100000
set_option maxHeartbeats 16000000
namespace Go.Proofs.YtmgpefenkilffaaGreat
section
open Go.RowKit
attribute [local go_sem ↓] Go.wp_at_zero Go.wp_at_succ
section
variable {P:Program} {ops:Array Oper} {Q:Exit->Act->World->Prop} {L:List Nat} {w0:World}
variable {n:Nat} {KD:List (Nat×Nat)} {Z:List Lz} {I:List (Nat×Nat)} {ls:List Nat} {a:Act} {w:World}
theorem J7z1 {P:Prop} (h:P:=by
 rw[List.all_eq_true] at hZ ⊢;intro x hx;have:=hZ x hx;simp only[Bool.and_eq_true] at this;simp[this]):P:=h
theorem J7z2 {P:Prop} (h:P:=by
 rw[find_no (kd_find (by rw[hKD];exact hZ0))];refine step_of ho0 hw0 fun K' hK'=>h0 w' x1 x2 K' fun a2 w2 h3 h4 h5=>hK' a2 w2 ⟨h3,h4,?_⟩;rw[bits_set];exact h5 hKD):P:=h
theorem J7z3 {P:Prop} (h:P:=by
 rw[find_no (kd_find (by rw[hKD];exact hZ1))];refine step_of ho1 hw1 fun K' hK'=>h1 w' x1 x2 K' fun a2 w2 h3 h4 h5=>hK' a2 w2 ⟨h3,h4,?_⟩;rw[bits_set];exact h5 hKD):P:=h
theorem Xr.forkN2 (i0 i1:Nat){o0 o1:Oper}(ho0:ops[i0]? = some o0)(ho1:ops[i1]? = some o1)
 (hr:(Region.ready .any ops (bits ops.size ls) == [i0,i1]&&KD.all fun x=>x.1 != i0&&x.1 != i1)=true) (hw0:Region.wanted o0 (yielded ops a.tmps)=true) (hw1:Region.wanted o1 (yielded ops a.tmps)=true)
 (h0:∀w',Ext w w'->Kp L w0 w'->∀K,(∀a2 w2,WI L I w' w2->Kp L w0 w2->Xr L w0 P ops Q n KD Z ((w'.heap.size,w2.heap.size)::I) (i0::ls) a2 w2->K a2 w2)->o0.wp P a w' K (NoPanic Q))
 (h1:∀w',Ext w w'->Kp L w0 w'->∀K,(∀a2 w2,WI L I w' w2->Kp L w0 w2->Xr L w0 P ops Q n KD Z ((w'.heap.size,w2.heap.size)::I) (i1::ls) a2 w2->K a2 w2)->o1.wp P a w' K (NoPanic Q))
 : Xr L w0 P ops Q (n+1) KD Z I ls a w:=by
 intro hKD;simp only[Bool.and_eq_true,beq_iff_eq] at hr;obtain⟨hr,hZ⟩:=hr;have hZ0:(KD.all fun x=>x.1 != i0)=true:=by
  exact J7z1
 have hZ1:(KD.all fun x=>x.1 != i1)=true:=by
  exact J7z1
 refine⟨fun h0=>(by rw[hr] at h0;cases h0),fun q hq w' x1 x2=>?_⟩;rw[hr] at hq
 (try unfold stepX)
 have hk2:q=i0\/q=i1:=by simpa using hq
 rcases hk2 with rfl|rfl
 ·exact J7z2
 ·exact J7z3
theorem J7z4 {P:Prop} (h:P:=by
 rw[find_no (kd_find (by rw[hKD];exact hZ2))];refine step_of ho2 hw2 fun K' hK'=>h2 w' x1 x2 K' fun a2 w2 h3 h4 h5=>hK' a2 w2 ⟨h3,h4,?_⟩;rw[bits_set];exact h5 hKD):P:=h
theorem Xr.forkN3 (i0 i1 i2:Nat){o0 o1 o2:Oper}(ho0:ops[i0]? = some o0)(ho1:ops[i1]? = some o1)(ho2:ops[i2]? = some o2)
 (hr:(Region.ready .any ops (bits ops.size ls) == [i0,i1,i2]&&KD.all fun x=>x.1 != i0&&x.1 != i1&&x.1 != i2)=true) (hw0:Region.wanted o0 (yielded ops a.tmps)=true) (hw1:Region.wanted o1 (yielded ops a.tmps)=true) (hw2:Region.wanted o2 (yielded ops a.tmps)=true)
 (h0:∀w',Ext w w'->Kp L w0 w'->∀K,(∀a2 w2,WI L I w' w2->Kp L w0 w2->Xr L w0 P ops Q n KD Z ((w'.heap.size,w2.heap.size)::I) (i0::ls) a2 w2->K a2 w2)->o0.wp P a w' K (NoPanic Q))
 (h1:∀w',Ext w w'->Kp L w0 w'->∀K,(∀a2 w2,WI L I w' w2->Kp L w0 w2->Xr L w0 P ops Q n KD Z ((w'.heap.size,w2.heap.size)::I) (i1::ls) a2 w2->K a2 w2)->o1.wp P a w' K (NoPanic Q))
 (h2:∀w',Ext w w'->Kp L w0 w'->∀K,(∀a2 w2,WI L I w' w2->Kp L w0 w2->Xr L w0 P ops Q n KD Z ((w'.heap.size,w2.heap.size)::I) (i2::ls) a2 w2->K a2 w2)->o2.wp P a w' K (NoPanic Q))
 : Xr L w0 P ops Q (n+1) KD Z I ls a w:=by
 intro hKD;simp only[Bool.and_eq_true,beq_iff_eq] at hr;obtain⟨hr,hZ⟩:=hr;have hZ0:(KD.all fun x=>x.1 != i0)=true:=by
  exact J7z1
 have hZ1:(KD.all fun x=>x.1 != i1)=true:=by
  exact J7z1
 have hZ2:(KD.all fun x=>x.1 != i2)=true:=by
  exact J7z1
 refine⟨fun h0=>(by rw[hr] at h0;cases h0),fun q hq w' x1 x2=>?_⟩;rw[hr] at hq
 (try unfold stepX)
 have hk2:q=i0\/q=i1\/q=i2:=by simpa using hq
 rcases hk2 with rfl|rfl|rfl
 ·exact J7z2
 ·exact J7z3
 ·exact J7z4
theorem Xr.forkN4 (i0 i1 i2 i3:Nat){o0 o1 o2 o3:Oper}(ho0:ops[i0]? = some o0)(ho1:ops[i1]? = some o1)(ho2:ops[i2]? = some o2)(ho3:ops[i3]? = some o3)
 (hr:(Region.ready .any ops (bits ops.size ls) == [i0,i1,i2,i3]&&KD.all fun x=>x.1 != i0&&x.1 != i1&&x.1 != i2&&x.1 != i3)=true) (hw0:Region.wanted o0 (yielded ops a.tmps)=true) (hw1:Region.wanted o1 (yielded ops a.tmps)=true) (hw2:Region.wanted o2 (yielded ops a.tmps)=true) (hw3:Region.wanted o3 (yielded ops a.tmps)=true)
 (h0:∀w',Ext w w'->Kp L w0 w'->∀K,(∀a2 w2,WI L I w' w2->Kp L w0 w2->Xr L w0 P ops Q n KD Z ((w'.heap.size,w2.heap.size)::I) (i0::ls) a2 w2->K a2 w2)->o0.wp P a w' K (NoPanic Q))
 (h1:∀w',Ext w w'->Kp L w0 w'->∀K,(∀a2 w2,WI L I w' w2->Kp L w0 w2->Xr L w0 P ops Q n KD Z ((w'.heap.size,w2.heap.size)::I) (i1::ls) a2 w2->K a2 w2)->o1.wp P a w' K (NoPanic Q))
 (h2:∀w',Ext w w'->Kp L w0 w'->∀K,(∀a2 w2,WI L I w' w2->Kp L w0 w2->Xr L w0 P ops Q n KD Z ((w'.heap.size,w2.heap.size)::I) (i2::ls) a2 w2->K a2 w2)->o2.wp P a w' K (NoPanic Q))
 (h3:∀w',Ext w w'->Kp L w0 w'->∀K,(∀a2 w2,WI L I w' w2->Kp L w0 w2->Xr L w0 P ops Q n KD Z ((w'.heap.size,w2.heap.size)::I) (i3::ls) a2 w2->K a2 w2)->o3.wp P a w' K (NoPanic Q))
 : Xr L w0 P ops Q (n+1) KD Z I ls a w:=by
 intro hKD;simp only[Bool.and_eq_true,beq_iff_eq] at hr;obtain⟨hr,hZ⟩:=hr;have hZ0:(KD.all fun x=>x.1 != i0)=true:=by
  exact J7z1
 have hZ1:(KD.all fun x=>x.1 != i1)=true:=by
  exact J7z1
 have hZ2:(KD.all fun x=>x.1 != i2)=true:=by
  exact J7z1
 have hZ3:(KD.all fun x=>x.1 != i3)=true:=by
  exact J7z1
 refine⟨fun h0=>(by rw[hr] at h0;cases h0),fun q hq w' x1 x2=>?_⟩;rw[hr] at hq
 (try unfold stepX)
 have hk2:q=i0\/q=i1\/q=i2\/q=i3:=by simpa using hq
 rcases hk2 with rfl|rfl|rfl|rfl
 ·exact J7z2
 ·exact J7z3
 ·exact J7z4
 ·rw[find_no (kd_find (by rw[hKD];exact hZ3))];refine step_of ho3 hw3 fun K' hK'=>h3 w' x1 x2 K' fun a2 w2 h3 h4 h5=>hK' a2 w2 ⟨h3,h4,?_⟩;rw[bits_set];exact h5 hKD
end
section
variable {P:Program} {ops:Array Oper} {Q:Exit->Act->World->Prop} {L M:List Nat} {w0 w1:World}
theorem wpX_rebase (hk:Kp L w0 w1):∀(n:Nat) {I:List (Nat×Nat)} {listed:Array Bool} {a:Act} {w:World},(∀g∈M,w0.heap.size<=g/\InI I g)->Kp (M++L) w1 w->wpX (M++L) w1 P ops Q n [] I listed a w->wpX L w0 P ops Q n [] I listed a w
 | 0,_,_,_,_,_,hw,h=>⟨h.1,h.2.1,fun w' e _=>h.2.2 w' e (hw.ext e)⟩
 | n+1,I,listed,a,w,hM,hw,h=>by
  refine⟨fun hr=>⟨(h.1 hr).1,fun w' e _=>(h.1 hr).2 w' e (hw.ext e)⟩,fun i hi w' e _=>?_⟩;have h3:=h.2 i hi w' e (hw.ext e);unfold stepX at *;simp only[List.find?_nil] at *;refine wpOp_mono (fun a2 w2 h4=>⟨KpP.mono h4.1 (fun b hb=>?_),?_,wpX_rebase hk n (fun g hg=>⟨(hM g hg).1,InI_mono (fun p hp=>List.mem_cons_of_mem _ hp) (hM g hg).2⟩) h4.2.1 h4.2.2⟩) h3
  ·rcases hb with hb|hb
   ·rcases List.mem_append.1 hb with hb|hb
    ·exact .inr (hM b hb).2
    ·exact .inl hb
   ·exact .inr hb
  ·have h5:=h4.2.1;exact⟨h5.os.trans hk.os,h5.tape.trans hk.tape,h5.output.trans hk.output,Nat.le_trans hk.size h5.size,fun b hb hn=>(h5.block b (Nat.lt_of_lt_of_le hb hk.size) (fun hm=>by
    rcases List.mem_append.1 hm with hm|hm
    ·have:=(hM b hm).1;omega
    ·exact hn hm)).trans (hk.block b hb hn)⟩
theorem Xr.rebase {n:Nat}{I:List (Nat×Nat)}{ls:List Nat}{a:Act}(M:List Nat)(hM:∀g∈M,w0.heap.size<=g/\InI I g)(hk:Kp L w0 w1)(h:Xr (M++L) w1 P ops Q n [] [] I ls a w1):Xr L w0 P ops Q n [] [] I ls a w1:=by
 intro hKD;exact wpX_rebase hk n hM (Kp.refl _ _) (h rfl)
end
def tabA:List Int:=[0,0,0,0,1,1,1,0,2,0,1,2]
def tabB:List Int:=[-1,-1,-1,1,-1,-1,2,2,2,3,1,-1]
theorem J7z5 {P:Prop} (h:P:=by
 have h2:k=0\/k=1\/k=2\/k=3\/k=4\/k=5\/k=6\/k=7\/k=8\/k=9\/k=10\/k=11:=om;rcases h2 with rfl|rfl|rfl|rfl|rfl|rfl|rfl|rfl|rfl|rfl|rfl|rfl<;>rfl):P:=h
theorem tabA_at (k:Nat)(h:k<12):(#[.int .i64 0,.int .i64 0,.int .i64 0,.int .i64 0,.int .i64 1,.int .i64 1,.int .i64 1,.int .i64 0,.int .i64 2,.int .i64 0,.int .i64 1,.int .i64 2]:Array Value)[k]? = some (.int .i64 (tabA.getD k 0)):=by
 exact J7z5
theorem tabB_at (k:Nat)(h:k<12):(#[.int .i64 (-1),.int .i64 (-1),.int .i64 (-1),.int .i64 1,.int .i64 (-1),.int .i64 (-1),.int .i64 2,.int .i64 2,.int .i64 2,.int .i64 3,.int .i64 1,.int .i64 (-1)]:Array Value)[k]? = some (.int .i64 (tabB.getD k 0)):=by
 exact J7z5
theorem tab_ok (k:Nat)(h:k<12):0<=tabA.getD k 0/\tabA.getD k 0<=2/\-1<=tabB.getD k 0/\tabB.getD k 0<=3/\(tabB.getD k 0 = -1->tabA.getD k 0+1<=3)/\(tabB.getD k 0 = -1\/(1<=tabB.getD k 0/\tabA.getD k 0<=tabB.getD k 0)):=by
 have h2:k=0\/k=1\/k=2\/k=3\/k=4\/k=5\/k=6\/k=7\/k=8\/k=9\/k=10\/k=11:=om;rcases h2 with rfl|rfl|rfl|rfl|rfl|rfl|rfl|rfl|rfl|rfl|rfl|rfl<;>simp[tabA,tabB]
theorem jr0 {P:Prop}(h:P:=by
 replace HR:=lh (HR.out.ext hE);replace HM:=lh (HM.out.extW hE);replace HK:=lh (HK.out.trans (KpP.of_ext hE))
 try replace H6:=lh (H6.out.ext hE)
 (try have h6lt:=H6.out.lt)
 have EA:=Ext.alloc wn (.cells #[.int .i64 0,.int .i64 0,.int .i64 0,.int .i64 0,.int .i64 1,.int .i64 1,.int .i64 1,.int .i64 0,.int .i64 2,.int .i64 0,.int .i64 1,.int .i64 2] 3);have BA:=Blk.new wn 3 #[.int .i64 0,.int .i64 0,.int .i64 0,.int .i64 0,.int .i64 1,.int .i64 1,.int .i64 1,.int .i64 0,.int .i64 2,.int .i64 0,.int .i64 1,.int .i64 2];go_simp;refine hKK _ _ (KpP.of_ext EA) (hK.ext EA) ?_;clear hKK;have hkW:=hK.ext EA;replace HR:=lh (HR.out.ext EA);replace HM:=lh (HM.out.extW EA);replace HK:=lh (HK.out.trans (KpP.of_ext EA))
 try replace H6:=lh (H6.out.ext EA)
 have hsz:wb.heap.size<=wn.heap.size:=by have:=hE.size;have:=HS.out;omega
 obtain⟨ga,hg9⟩:∃g,g=wn.heap.size:=⟨_,rfl⟩
 rw[<-hg9] at BA ⊢
 rw[<-hg9] at hsz
 (try rw[<-hg9] at h6lt)
 clear hg9;generalize wn.alloc (.cells #[.int .i64 0,.int .i64 0,.int .i64 0,.int .i64 0,.int .i64 1,.int .i64 1,.int .i64 1,.int .i64 0,.int .i64 2,.int .i64 0,.int .i64 1,.int .i64 2] 3)=wo at *;replace HS:Hid (wb.heap.size<=wo.heap.size):=lh (by have:=BA.lt;omega);refine ptm ?_;refine Xr.rebase [] si hkW ?_;simp only[List.nil_append];have hcl:=(BA.cell k).trans HTA.out
 first|(have j1:=fun(w':World) (h:Kp [g6,gm] wo w')=>h.cell hcl (by simp;omega))|(have j1:=fun(w':World) (h:Kp [gm] wo w')=>h.cell hcl (by simp;omega))
 refine Xtk 2 ?_;refine Xtn ?_;clear j1 hcl BA EA hkW hsz hE hK;exact jrN):P:=h
theorem jr4 {P:Prop}(h:P:=by
 replace HR:=lh (HR.out.ext hE);replace HM:=lh (HM.out.extW hE);replace HK:=lh (HK.out.trans (KpP.of_ext hE))
 try replace H6:=lh (H6.out.ext hE)
 (try have h6lt:=H6.out.lt)
 have EA:=Ext.alloc wn (.cells #[.int .i64 (-1),.int .i64 (-1),.int .i64 (-1),.int .i64 1,.int .i64 (-1),.int .i64 (-1),.int .i64 2,.int .i64 2,.int .i64 2,.int .i64 3,.int .i64 1,.int .i64 (-1)] 3);have BA:=Blk.new wn 3 #[.int .i64 (-1),.int .i64 (-1),.int .i64 (-1),.int .i64 1,.int .i64 (-1),.int .i64 (-1),.int .i64 2,.int .i64 2,.int .i64 2,.int .i64 3,.int .i64 1,.int .i64 (-1)];go_simp;refine hKK _ _ (KpP.of_ext EA) (hK.ext EA) ?_;clear hKK;have hkW:=hK.ext EA;replace HR:=lh (HR.out.ext EA);replace HM:=lh (HM.out.extW EA);replace HK:=lh (HK.out.trans (KpP.of_ext EA))
 try replace H6:=lh (H6.out.ext EA)
 have hsz:wb.heap.size<=wn.heap.size:=by have:=hE.size;have:=HS.out;omega
 obtain⟨ga,hg9⟩:∃g,g=wn.heap.size:=⟨_,rfl⟩
 rw[<-hg9] at BA ⊢
 rw[<-hg9] at hsz
 (try rw[<-hg9] at h6lt)
 clear hg9;generalize wn.alloc (.cells #[.int .i64 (-1),.int .i64 (-1),.int .i64 (-1),.int .i64 1,.int .i64 (-1),.int .i64 (-1),.int .i64 2,.int .i64 2,.int .i64 2,.int .i64 3,.int .i64 1,.int .i64 (-1)] 3)=wo at *;replace HS:Hid (wb.heap.size<=wo.heap.size):=lh (by have:=BA.lt;omega);refine ptm ?_;refine Xr.rebase [] si hkW ?_;simp only[List.nil_append];have hcl:=(BA.cell k).trans HTB.out
 first|(have j1:=fun(w':World) (h:Kp [g6,gm] wo w')=>h.cell hcl (by simp;omega))|(have j1:=fun(w':World) (h:Kp [gm] wo w')=>h.cell hcl (by simp;omega))
 refine Xtk 6 ?_;refine Xtn ?_;clear j1 hcl BA EA hkW hsz hE hK;exact jrN):P:=h
theorem jr9 {P:Prop}(h:P:=by
 replace HR:=lh (HR.out.ext hE);replace HM:=lh (HM.out.extW hE);replace HK:=lh (HK.out.trans (KpP.of_ext hE))
 try replace H6:=lh (H6.out.ext hE)
 go_simp;refine(HC9 wn HM.out).out.mono ?_;rintro e wo ⟨md,rfl,hmd0,hmd1,M9,K9⟩;refine hKK _ _ (KpP.mono K9 (fun b hb=>.inl (by have e:b=gm:=hb;simp[e]))) (hK.kpP K9 (fun b hb=>by have e:b=gm:=hb;simp[e])) ?_;clear hKK;have hkW:=hK.kpP K9 (fun b hb=>by have e:b=gm:=hb;simp[e]);replace HM:=lh M9;replace HR:=lh (K9.blk HR.out hgne.symm);replace HK:=lh (HK.out.trans K9)
 try replace H6:=lh (K9.blk H6.out om)
 replace HS:Hid (wb.heap.size<=wo.heap.size):=lh (by have:=hE.size;have:=K9.size;have:=HS.out;omega);refine ptm ?_;refine Xr.rebase [] si hkW ?_;simp only[List.nil_append];clear M9 K9 hkW hE hK;exact jrN):P:=h
theorem jr11 {P:Prop}(h:P:=by
 replace HR:=lh (HR.out.ext hE);replace HM:=lh (HM.out.extW hE);replace HK:=lh (HK.out.trans (KpP.of_ext hE))
 try replace H6:=lh (H6.out.ext hE)
 have EA:=Ext.alloc wn (.cells #[.int .i64 0,.slice none 0 0,.slice none 0 0,.int .i64 0,.int .i64 0,.int .i64 0,.int .i64 0,.bool false] 61);have BA:=Blk.new wn 61 #[.int .i64 0,.slice none 0 0,.slice none 0 0,.int .i64 0,.int .i64 0,.int .i64 0,.int .i64 0,.bool false];go_simp;refine hKK _ _ (KpP.of_ext EA) (hK.ext EA) ?_;clear hKK;have hkW:=hK.ext EA;replace HR:=lh (HR.out.ext EA);replace HM:=lh (HM.out.extW EA);replace HK:=lh (HK.out.trans (KpP.of_ext EA))
 try replace H6:=lh (H6.out.ext EA)
 have hsz:wb.heap.size<=wn.heap.size:=by have:=hE.size;have:=HS.out;omega
 have hkBase:=hE.size;obtain⟨g6,hg9⟩:∃g,g=wn.heap.size:=⟨_,rfl⟩
 rw[<-hg9] at BA ⊢
 rw[<-hg9] at hsz hkBase;clear hg9;generalize wn.alloc (.cells #[.int .i64 0,.slice none 0 0,.slice none 0 0,.int .i64 0,.int .i64 0,.int .i64 0,.int .i64 0,.bool false] 61)=wo at *;replace HS:Hid (wb.heap.size<=wo.heap.size):=lh (by have:=BA.lt;omega);refine ptm ?_;refine Xr.rebase [g6] (fun g hg=>⟨by have:=hkBase;simp at hg;omega,⟨_,List.mem_cons_self,by simp at hg;simp only;omega,by simp at hg;have:=BA.lt;simp only;omega⟩⟩) hkW ?_;simp only[List.cons_append,List.nil_append];have H6:=lh BA;clear BA EA hkW hE hK;exact jrN):P:=h
theorem jrL {P:Prop}(h:P:=by
 refine Xsp 12 fun w8 hE8 hK8 K hKK=>?_;have h68:=H6.out.ext hE8;obtain⟨f0,f1,f2,f3,f4,f5,f6,f7⟩:=nd_frz h68;have z0:=h68.cell 0;have z1:=h68.cell 1;have z2:=h68.cell 2;have z3:=h68.cell 3;have z4:=h68.cell 4;have z5:=h68.cell 5;have z6:=h68.cell 6;have z7:=h68.cell 7;go_simp;have hkS:=setRe_kp (p:=(·=g6)) (KpP.refl _ w8) (g:=g6) (.inl rfl) (⟨4,none,0,[],none,0,[],mn,mx,md,0,false⟩:Nd);have hb9:=setRe_blk h68 (⟨4,none,0,[],none,0,[],mn,mx,md,0,false⟩:Nd);refine hKK _ _ (KpP.mono hkS (fun b hb=>.inl (by simp;exact .inl hb))) (hK8.kpP hkS (fun b hb=>by simp;exact .inl hb)) ?_;clear hKK;have HM8:=lh ((HM.out.extW hE8).kpR hkS om (by have:=HSW.out;omega));have HR8:=lh (hkS.blk (HR.out.ext hE8) om);have HK8:=lh (setRe_kp (p:=(·=gm)) (HK.out.trans (KpP.of_ext hE8)) (g:=g6) (.inr om) (⟨4,none,0,[],none,0,[],mn,mx,md,0,false⟩:Nd));change Xr _ _ _ _ _ _ _ _ _ _ _ (setRe w8 g6 (⟨4,none,0,[],none,0,[],mn,mx,md,0,false⟩:Nd));generalize setRe w8 g6 (⟨4,none,0,[],none,0,[],mn,mx,md,0,false⟩:Nd)=w9 at *;clear f0 f1 f2 f3 f4 f5 f6 f7 z0 z1 z2 z3 z4 z5 z6 z7 h68;refine ptm ?_;refine Xdn fun w10 hE10 hK10=>?_;exact KEY.out _ _ _ _ g6 md w10 hmd0 hmd1 om (lh (HM8.out.extW hE10)) (lh (HK8.out.trans (KpP.of_ext hE10))) (lh (HR8.out.ext hE10)) (lh (hb9.ext hE10))):P:=h
theorem jrN {P:Prop}(h:P:=by
 try refine Xtk 10 ?_
 first
  | (refine Xr.forkN3 0 4 9 rfl rfl rfl dK (by rfl) (by rfl) (by rfl) (fun wn hE hK K hKK=>?_) (fun wn hE hK K hKK=>?_) (fun wn hE hK K hKK=>?_);exact jr0;exact jr4;exact jr9)
  | (refine Xr.forkN3 0 4 11 rfl rfl rfl dK (by rfl) (by rfl) (by rfl) (fun wn hE hK K hKK=>?_) (fun wn hE hK K hKK=>?_) (fun wn hE hK K hKK=>?_);exact jr0;exact jr4;exact jr11)
  | (refine Xr.forkN3 0 9 11 rfl rfl rfl dK (by rfl) (by rfl) (by rfl) (fun wn hE hK K hKK=>?_) (fun wn hE hK K hKK=>?_) (fun wn hE hK K hKK=>?_);exact jr0;exact jr9;exact jr11)
  | (refine Xr.forkN3 4 9 11 rfl rfl rfl dK (by rfl) (by rfl) (by rfl) (fun wn hE hK K hKK=>?_) (fun wn hE hK K hKK=>?_) (fun wn hE hK K hKK=>?_);exact jr4;exact jr9;exact jr11)
  | (refine Xr.forkN2 0 4 rfl rfl dK (by rfl) (by rfl) (fun wn hE hK K hKK=>?_) (fun wn hE hK K hKK=>?_);exact jr0;exact jr4)
  | (refine Xr.forkN2 0 9 rfl rfl dK (by rfl) (by rfl) (fun wn hE hK K hKK=>?_) (fun wn hE hK K hKK=>?_);exact jr0;exact jr9)
  | (refine Xr.forkN2 0 11 rfl rfl dK (by rfl) (by rfl) (fun wn hE hK K hKK=>?_) (fun wn hE hK K hKK=>?_);exact jr0;exact jr11)
  | (refine Xr.forkN2 4 9 rfl rfl dK (by rfl) (by rfl) (fun wn hE hK K hKK=>?_) (fun wn hE hK K hKK=>?_);exact jr4;exact jr9)
  | (refine Xr.forkN2 4 11 rfl rfl dK (by rfl) (by rfl) (fun wn hE hK K hKK=>?_) (fun wn hE hK K hKK=>?_);exact jr4;exact jr11)
  | (refine Xr.forkN2 9 11 rfl rfl dK (by rfl) (by rfl) (fun wn hE hK K hKK=>?_) (fun wn hE hK K hKK=>?_);exact jr9;exact jr11)
  | (refine Xr.step 0 rfl dK (by rfl) (fun wn hE hK K hKK=>?_);exact jr0)
  | (refine Xr.step 4 rfl dK (by rfl) (fun wn hE hK K hKK=>?_);exact jr4)
  | (refine Xr.step 9 rfl dK (by rfl) (fun wn hE hK K hKK=>?_);exact jr9)
  | (refine Xr.step 11 rfl dK (by rfl) (fun wn hE hK K hKK=>?_);exact jr11)
  | (exact jrL)):P:=h
theorem yrep_any (d:Nat)(w0:World)(gm:Nat)(A:Option Addr)(c:Nat)(ls:List Int)(uses:Int)(hu:UsesOk uses)(hd:d<=100)
 (IH:∀(w:World) (B L C:Int),MkM w w0 gm A c ls uses B L C->B+numT d<=100000000->Calls Tryz.prog 214 #[.pointer (some ⟨gm,0,none⟩),.int .i64 d] w (RetNd (d+1) w0 gm A c ls uses (B+numT d) L C w))
 (w:World) (B left caps:Int) (h:MkM w w0 gm A c ls uses B left caps) (h3:3<=left) (hB:B+numT d+4<=100000000) :
 Calls Tryz.prog 276 #[.pointer (some ⟨gm,0,none⟩),.int .i64 ((d:Int)+1)] w (RetSub (d+2) w0 gm A c ls uses (B+numT d+4) left caps w):=by
 have hgm:gm<w.heap.size:=by
  obtain⟨_,_,_,_,hb,_⟩:=h;exact hb.lt
 have HSW:=lh h.ext.size;have hT:=numT_pos d;generalize numT d=T at *;have HIH:=lh IH;have ewd:IntKind.i64.wrap ((d:Int)+1-1)=(d:Int):=wj;have EX:=Ext.alloc w (.cells #[.int .i64 0,.slice none 0 0,.slice none 0 0,.int .i64 0,.int .i64 0,.int .i64 0,.int .i64 0,.bool false] 61);have HR:=lh (Blk.new w 61 #[.int .i64 0,.slice none 0 0,.slice none 0 0,.int .i64 0,.int .i64 0,.int .i64 0,.int .i64 0,.bool false]);have HM:=lh (h.extW EX);obtain⟨hu1,hu2,hu4,hu8,hu32⟩:=hu;clear IH h;go_enter Tryz.func276,Tryz.ntmps276
 go_upto_region 1 with fail
 obtain⟨gr,hgr⟩:∃gr,gr=w.heap.size:=⟨_,rfl⟩
 rw[<-hgr] at HR ⊢;have hgw:w.heap.size<=gr:=om;have hgne:gm≠gr:=om;clear hgr;generalize w.alloc (.cells #[.int .i64 0,.slice none 0 0,.slice none 0 0,.int .i64 0,.int .i64 0,.int .i64 0,.int .i64 0,.bool false] 61)=wa at *;have HKa:Hid (KpP (·=gm) w wa):=lh (KpP.of_ext EX);clear EX
 go_upto_region 2 with(go_at_call 273;refine(ynext_any w0 _ gm A c ls uses _ _ _ 12 HM.out om om om).mono ?_;rintro e w3 ⟨k,rfl,hk0,hk1,M3,K3⟩)
 have HM3:=lh M3;have HK3:=lh (HKa.out.trans K3);have HR3:=lh (K3.blk HR.out hgne.symm);obtain⟨k,rfl⟩:∃q:Nat,k=q:=⟨k.toNat,om⟩;have hk1N:k<12:=om;have hkI:(k:Int)<12:=om;have HTA:=lh (tabA_at k hk1N);have HTB:=lh (tabB_at k hk1N);have HOK:=lh (tab_ok k hk1N);generalize tabA.getD k 0=mn at *;generalize tabB.getD k 0=mx at *;obtain⟨wb,hwb⟩:∃x,x=w3:=⟨_,rfl⟩;subst hwb;have HR:=HR3;have HM:=HM3;have HK:=HK3;have HS:Hid (wb.heap.size<=wb.heap.size):=lh (Nat.le_refl _);have hgrb:gr<wb.heap.size:=HR3.out.lt;have hgwb:w.heap.size<=wb.heap.size:=HK3.out.size;have HC9:=fun(w':World) (h:MkM w' w0 gm A c ls uses (B+1) left caps)=>lh (ynext_any w0 w' gm A c ls uses (B+1) left caps 2 h om om om);clear M3 K3 HM3 HK3 HR3 HKa hk0 hk1;refine Xr.start [gm] kr ?_;generalize hQ0:(Exit.then _ _:Exit->Act->World->Prop)=Q0;have KEY:∀(v10 v12 v14 v16:Value) (g6:Nat) (md:Int) (w9:World),0<=md->md<2->wb.heap.size<=g6->Hid (MkM w9 w0 gm A c ls uses (B+1+1) left caps)->Hid (KpP (·=gm) w w9)->Hid (Blk w9 gr 61 #[.int .i64 0,.slice none 0 0,.slice none 0 0,.int .i64 0,.int .i64 0,.int .i64 0,.int .i64 0,.bool false])->Hid (Blk w9 g6 61 (Nd.cs ⟨4,none,0,[],none,0,[],mn,mx,md,0,false⟩).toArray)->
  Q0 .normal { tmps:=#[.pointer (some ⟨gm,0,none⟩),.int .i64 ((d:Int)+1),undef,undef,.pointer (some ⟨gr,0,none⟩),.int .i64 (k:Int),.pointer (some ⟨g6,0,none⟩),undef,.pointer (some ⟨gm,0,none⟩),.int .i64 (k:Int),v10,.int .i64 (k:Int),v12,.int .i64 mn,v14,.int .i64 (k:Int),v16,.int .i64 mx,.pointer (some ⟨gm,0,none⟩),.int .i64 md,.agg #[.int .i64 4,.slice none 0 0,.slice none 0 0,.int .i64 mn,.int .i64 mx,.int .i64 md,.int .i64 0,.bool false],undef,undef,undef,undef,undef,undef,undef,undef,undef,undef,undef,undef,undef,undef,undef,undef,undef,undef,undef,undef,undef,undef,undef,undef,undef,undef,undef,undef,undef,undef,undef,undef],defers:=[] } w9:=by
  intro v10 v12 v14 v16 g6 md w9 hmd0 hmd1 hg6 HM HK HR H6;subst hQ0;dsimp only;obtain⟨xb,ilb,lob,atb,hbb,hatb,hlb1,hlb2,hcb1,hcb2⟩:=HM.out;have cu:w9.cell? ⟨gm,2,none⟩=some (.int .i64 uses):=hbb.cell 2;clear xb ilb lob hbb hatb hlb1 hlb2 hcb1 hcb2 HC9 HTA HTB
  go_upto_region 5 with fail
  go_upto_region 6 with(go_at_call 214;refine(HIH.out w9 _ _ _ HM.out om).mono ?_;rintro e w5 ⟨v,L2,C2,rfl,⟨TK,hv,hgd,hcn⟩,M5,hb5,hd5,hc5,K5⟩;have HB5:=lh (And.intro hb5 (And.intro hd5 hc5));have HGD:=lh (And.intro hgd hcn);clear hb5 hd5 hc5 hgd hcn;obtain⟨nd,hnd,_⟩:=TreeAt.node ⟨_,hv⟩;subst hnd;have HV:=lh hv;have HM5:=lh M5;have HK5:=lh (HK.out.trans K5);have HR5:=lh (K5.blk HR.out hgne.symm);have H65:=lh (K5.blk H6.out om);have hs59:=HR.out.lt;have hs69:=H6.out.lt;have hs5:=K5.size;clear hv M5;unfold Nd.val)
  have E7:=Ext.alloc w5 (.cells #[.int .i64 nd.op,.slice nd.A nd.l.length nd.c,.slice nd.K nd.ks.length nd.kc,.int .i64 nd.mn,.int .i64 nd.mx,.int .i64 nd.md,.int .i64 nd.n,.bool nd.neg] 61);have B7:Hid (Blk (w5.alloc (.cells #[.int .i64 nd.op,.slice nd.A nd.l.length nd.c,.slice nd.K nd.ks.length nd.kc,.int .i64 nd.mn,.int .i64 nd.mx,.int .i64 nd.md,.int .i64 nd.n,.bool nd.neg] 61)) w5.heap.size 61 nd.cs.toArray):=lh (Blk.new w5 61 #[.int .i64 nd.op,.slice nd.A nd.l.length nd.c,.slice nd.K nd.ks.length nd.kc,.int .i64 nd.mn,.int .i64 nd.mx,.int .i64 nd.md,.int .i64 nd.n,.bool nd.neg]);obtain⟨g7,hg7⟩:∃g,g=w5.heap.size:=⟨_,rfl⟩
  rw[<-hg7] at B7 ⊢;have HV7:Hid (TreeG 3 (fun k=>w.heap.size<=k/\k≠gr/\k≠g6/\k≠g7) (w5.alloc (.cells #[.int .i64 nd.op,.slice nd.A nd.l.length nd.c,.slice nd.K nd.ks.length nd.kc,.int .i64 nd.mn,.int .i64 nd.mx,.int .i64 nd.md,.int .i64 nd.n,.bool nd.neg] 61)) (d+1) nd.val TK):=lh ((HV.out.imp (fun k hk hs=>by have:=HK.out.size;omega)).ext E7);have HM7:=lh (HM5.out.extW E7);have HK7:=lh (HK5.out.trans (KpP.of_ext E7));have HR7:=lh (HR5.out.ext E7);have H67:=lh (H65.out.ext E7);have hg7b:w9.heap.size<=g7:=om;clear hg7;generalize w5.alloc (.cells #[.int .i64 nd.op,.slice nd.A nd.l.length nd.c,.slice nd.K nd.ks.length nd.kc,.int .i64 nd.mn,.int .i64 nd.mx,.int .i64 nd.md,.int .i64 nd.n,.bool nd.neg] 61)=w7 at *;obtain⟨xb,ilb,lob,atb,hbb,hatb,hlb1,hlb2,hcb1,hcb2⟩:=HM7.out;have cu7:w7.cell? ⟨gm,2,none⟩=some (.int .i64 uses):=hbb.cell 2;clear xb ilb lob hbb hatb hlb1 hlb2 hcb1 hcb2 cu HV HM5 HK5 HR5 H65 K5 E7;obtain⟨q0,q1,q2,q3,q4,q5,q6,q7⟩:=nd_cells B7.out;have HNU:=lh (ynullable_G 3 _ (d+1) w7 nd.val TK HV7.out)
  go_upto_region 6 with fail
  go_upto_region 8 with(first|(go_at_call 153;refine HNU.out.mono ?_;rintro e w8 ⟨rfl,x8⟩;obtain⟨b3,hb3⟩:∃b,b=nul TK:=⟨_,rfl⟩;rw[<-hb3];have HNL:=lh hb3.symm;clear hb3;cases b3)|(go_at_call 274;refine(yset_any w0 w8 gm A c ls uses _ _ _ (HM7.out.extW x8) om).mono ?_;rintro e w10 ⟨v2,rfl,⟨nd2,rfl,hv2,hh2,ho2⟩,M10,K10⟩;have HH2:=lh (And.intro hh2 ho2);clear hh2 ho2;have HV10:=lh hv2;have HM10:=lh M10;have b7:=K10.blk (B7.out.ext x8) om;obtain⟨f0,f1,f2,f3,f4,f5,f6,f7⟩:=nd_frz b7;obtain⟨z0,z1,z2,z3,z4,z5,z6,z7⟩:=nd_cells b7;have HB7:=lh b7;clear hv2 M10 b7;unfold Nd.val))
  ·obtain⟨wz,hwz⟩:∃x,x=w8:=⟨_,rfl⟩;subst hwz;have HVz:=lh (HV7.out.ext x8);have HMz:=lh (HM7.out.extW x8);have HKz:=lh (HK7.out.trans (KpP.of_ext x8));have HRz:=lh (HR7.out.ext x8);have H6z:=lh (H67.out.ext x8);have B7z:=lh (B7.out.ext x8);clear q0 q1 q2 q3 q4 q5 q6 q7 cu7 HNU HV7 HM7 HK7 HR7 H67 B7;obtain⟨q0,q1,q2,q3,q4,q5,q6,q7⟩:=nd_cells B7z.out;have k62:wz.cell? ⟨g6,2,none⟩=some (.slice none 0 0):=H6z.out.cell 2;have f62:=H6z.out.frz 2;have h6k:=H6z.out.ext (Ext.alloc wz (.cells #[.int .i64 nd.op,.slice nd.A nd.l.length nd.c,.slice nd.K nd.ks.length nd.kc,.int .i64 nd.mn,.int .i64 nd.mx,.int .i64 nd.md,.int .i64 nd.n,.bool nd.neg] 61));have k62':(wz.alloc (.cells #[.int .i64 nd.op,.slice nd.A nd.l.length nd.c,.slice nd.K nd.ks.length nd.kc,.int .i64 nd.mn,.int .i64 nd.mx,.int .i64 nd.md,.int .i64 nd.n,.bool nd.neg] 61)).cell? ⟨g6,2,none⟩=some (.slice none 0 0):=h6k.cell 2;have f62':=h6k.frz 2;have hsz1:=H6z.out.lt;have hsz2:=HRz.out.lt;clear h6k
   go_upto_region 9 with fail
   obtain⟨gk,hgk⟩:∃g,g=wz.heap.size:=⟨_,rfl⟩
   rw[<-hgk];have HGK:=lh hgk;have hszs:(wz.setCell ⟨g6,2,none⟩ (.slice (some ⟨gk,0,none⟩) 1 1)).heap.size=gk:=by rw[hgk];simp[World.setCell]
   have h6s:=H6z.out.set 2 (.slice (some ⟨gk,0,none⟩) 1 1);have hrs:=HRz.out.far (p:=⟨g6,2,none⟩) (by show gr≠g6;omega) (.slice (some ⟨gk,0,none⟩) 1 1);have KS:KpP (·=g6) wz (wz.setCell ⟨g6,2,none⟩ (.slice (some ⟨gk,0,none⟩) 1 1)):=KpP.set (p:=(·=g6)) (x:=⟨g6,2,none⟩) (KpP.refl _ _) (.inl rfl) _;have hvs:=HVz.out.kp KS (fun i hi hs=>hs.2.2.1 hi);have hms:=HMz.out.kpR KS om (by have:=HSW.out;omega);have hks:KpP (·=gm) w (wz.setCell ⟨g6,2,none⟩ (.slice (some ⟨gk,0,none⟩) 1 1)):=KpP.set (p:=(·=gm)) (x:=⟨g6,2,none⟩) HKz.out (.inr (by show w.heap.size<=g6;omega)) _;clear k62 f62 k62' f62' hgk KS;generalize wz.setCell ⟨g6,2,none⟩ (.slice (some ⟨gk,0,none⟩) 1 1)=ws at *;have EK:=Ext.alloc ws (.cells #[.int .i64 nd.op,.slice nd.A nd.l.length nd.c,.slice nd.K nd.ks.length nd.kc,.int .i64 nd.mn,.int .i64 nd.mx,.int .i64 nd.md,.int .i64 nd.n,.bool nd.neg] 61);have BK:=Blk.new ws 61 #[.int .i64 nd.op,.slice nd.A nd.l.length nd.c,.slice nd.K nd.ks.length nd.kc,.int .i64 nd.mn,.int .i64 nd.mx,.int .i64 nd.md,.int .i64 nd.n,.bool nd.neg];rw[hszs] at BK;generalize ws.alloc (.cells #[.int .i64 nd.op,.slice nd.A nd.l.length nd.c,.slice nd.K nd.ks.length nd.kc,.int .i64 nd.mn,.int .i64 nd.mx,.int .i64 nd.md,.int .i64 nd.n,.bool nd.neg] 61)=wy at *;have HVy:=lh (hvs.ext EK);have HMy:=lh (hms.extW EK);have hry:=hrs.ext EK;have HRy:=lh hry;have HBK:Hid (Blk wy gk 61 nd.cs.toArray):=lh BK;have HKy:=lh (hks.trans (KpP.of_ext EK));have H6y:Hid (Blk wy g6 61 (Nd.cs (⟨4,none,0,[],some ⟨gk,0,none⟩,1,[nd.val],mn,mx,md,0,false⟩:Nd)).toArray):=lh (by have b:=h6s.ext EK;simpa[Nd.cs] using b)
   obtain⟨p0,p1,p2,p3,p4,p5,p6,p7⟩:=nd_cells H6y.out;simp only[List.length_nil,List.length_cons,Nat.zero_add] at p1 p2;obtain⟨f0,f1,f2,f3,f4,f5,f6,f7⟩:=nd_frz hry;have z0:=hry.cell 0;have z1:=hry.cell 1;have z2:=hry.cell 2;have z3:=hry.cell 3;have z4:=hry.cell 4;have z5:=hry.cell 5;have z6:=hry.cell 6;have z7:=hry.cell 7;dsimp only at p0 p3 p4 p5 p6 p7;clear hry h6s hrs hvs hms hks EK BK hszs q0 q1 q2 q3 q4 q5 q6 q7
   go_wp2_with fail
   have HT9:Hid (TrN uses (fun k=>w.heap.size<=k) (setRe wy gr (⟨4,none,0,[],some ⟨gk,0,none⟩,1,[nd.val],mn,mx,md,0,false⟩:Nd)) (d+2) (Nd.val (⟨4,none,0,[],some ⟨gk,0,none⟩,1,[nd.val],mn,mx,md,0,false⟩:Nd)) C2 (left-L2+1)):=lh (by
    refine fin_node (k:=left-L2) _ [TK] ⟨by simp,by simp,by simp,by simp,by have:=HOK.out;simp only;omega,by have:=HOK.out;simp only;omega,by have:=HOK.out;simp only;omega,⟨by simp only;omega,by simp only;omega⟩,by simp,by simp[SetOk]⟩ ⟨rfl,.inr (.inr (.inr (.inl ⟨rfl,rfl,(show 0<=mn/\mn<=2/\(mx = -1\/(1<=mx/\mx<=3/\mn<=mx)) by have:=HOK.out;omega),(show md=0\/md=1 by omega),rfl,TK,rfl,HNL.out⟩)))⟩ (SL.nil _) si (by show 1<=maxLen;unfold maxLen;omega) ?_ rfl (fun i hi hj=>?_) (fun t ht=>by rw[List.mem_singleton.1 ht];exact HGD.out.1) (by simpa using HGD.out.2) si (fun _ k hk=>?_)
    ·simp only[List.flatMap_cons,List.flatMap_nil,List.append_nil];exact blk_cells HBK.out
    ·obtain rfl:i=0:=by simp at hi;omega
     exact HVy.out.imp (fun k hk _=>⟨hk.1,hk.2.1⟩)
    ·have:gk=k:=by simpa using hk
     have:=HGK.out;have:=HKz.out.size;omega)
   have hb9:=setRe_blk HRy.out (⟨4,none,0,[],some ⟨gk,0,none⟩,1,[nd.val],mn,mx,md,0,false⟩:Nd);have hk9:=setRe_kp (p:=(·=gm)) HKy.out (g:=gr) (.inr hgw) (⟨4,none,0,[],some ⟨gk,0,none⟩,1,[nd.val],mn,mx,md,0,false⟩:Nd);have M9:=HMy.out.kpR (setRe_kp (p:=(·=gr)) (KpP.refl _ wy) (g:=gr) (.inl rfl) (⟨4,none,0,[],some ⟨gk,0,none⟩,1,[nd.val],mn,mx,md,0,false⟩:Nd)) hgne (by have:=HSW.out;omega);change bodyPost _ _ _ _ _ (setRe wy gr (⟨4,none,0,[],some ⟨gk,0,none⟩,1,[nd.val],mn,mx,md,0,false⟩:Nd));generalize setRe wy gr (⟨4,none,0,[],some ⟨gk,0,none⟩,1,[nd.val],mn,mx,md,0,false⟩:Nd)=w9 at *;obtain⟨r0,r1,r2,r3,r4,r5,r6,r7⟩:=nd_cells hb9;simp only[List.length_nil,List.length_cons,Nat.zero_add] at r1 r2;clear f0 f1 f2 f3 f4 f5 f6 f7 z0 z1 z2 z3 z4 z5 z6 z7 p0 p1 p2 p3 p4 p5 p6 p7;refine bodyPost_ret (v:=Nd.val (⟨4,none,0,[],some ⟨gk,0,none⟩,1,[nd.val],mn,mx,md,0,false⟩:Nd)) (by simp[results,Tryz.results276,go_sem,r0,r1,r2,r3,r4,r5,r6,r7,Nd.val]) rfl ⟨_,L2,C2,rfl,HT9.out,M9.mono om,by have:=HB5.out;push_cast;omega,by have:=HB5.out;omega,by have:=HB5.out;omega,hk9⟩
  ·have hkS:=setRe_kp (p:=(·=g7)) (KpP.refl _ w10) (g:=g7) (.inl rfl) nd2;have hb7:=setRe_blk (show Blk w10 g7 61 #[.int .i64 nd.op,.slice nd.A nd.l.length nd.c,.slice nd.K nd.ks.length nd.kc,.int .i64 nd.mn,.int .i64 nd.mx,.int .i64 nd.md,.int .i64 nd.n,.bool nd.neg] from HB7.out) nd2;have hg8:g7<w8.heap.size:=(B7.out.ext x8).lt;have HKz:=lh (setRe_kp (p:=(·=gm)) ((HK7.out.trans (KpP.of_ext x8)).trans K10) (g:=g7) (.inr om) nd2);have HRz:=lh (hkS.blk (K10.blk (HR7.out.ext x8) om) om);have H6z:=lh (hkS.blk (K10.blk (H67.out.ext x8) om) om);have HMz:=lh (HM10.out.kpR hkS om (by have:=HSW.out;omega));have HVz:Hid (TreeG 3 (fun k=>w.heap.size<=k/\k≠gr/\k≠g6/\k≠g7) (setRe w10 g7 nd2) (d+1) nd2.val (.k0 nd2.hd)):=lh ((((HV10.out.imp (S':=fun k=>w.heap.size<=k/\k≠gr/\k≠g6/\k≠g7) (fun k hk hs=>by have:=HK7.out.size;have:=x8.size;omega))).kp hkS (fun i hi hs=>hs.2.2.2 hi)).mono om);have B7z:=lh hb7;change Code.wp _ _ _ _ (setRe w10 g7 nd2);generalize setRe w10 g7 nd2=wz at *;clear q0 q1 q2 q3 q4 q5 q6 q7 cu7 HNU HV7 HM7 HK7 HR7 H67 B7 z0 z1 z2 z3 z4 z5 z6 z7 f0 f1 f2 f3 f4 f5 f6 f7 hb7 hkS HB7;obtain⟨q0,q1,q2,q3,q4,q5,q6,q7⟩:=nd_cells B7z.out;have k62:wz.cell? ⟨g6,2,none⟩=some (.slice none 0 0):=H6z.out.cell 2;have f62:=H6z.out.frz 2;have h6k:=H6z.out.ext (Ext.alloc wz (.cells #[.int .i64 nd2.op,.slice nd2.A nd2.l.length nd2.c,.slice nd2.K nd2.ks.length nd2.kc,.int .i64 nd2.mn,.int .i64 nd2.mx,.int .i64 nd2.md,.int .i64 nd2.n,.bool nd2.neg] 61));have k62':(wz.alloc (.cells #[.int .i64 nd2.op,.slice nd2.A nd2.l.length nd2.c,.slice nd2.K nd2.ks.length nd2.kc,.int .i64 nd2.mn,.int .i64 nd2.mx,.int .i64 nd2.md,.int .i64 nd2.n,.bool nd2.neg] 61)).cell? ⟨g6,2,none⟩=some (.slice none 0 0):=h6k.cell 2
   have f62':=h6k.frz 2;have hsz1:=H6z.out.lt;have hsz2:=HRz.out.lt;clear h6k
   go_upto_region 9 with fail
   obtain⟨gk,hgk⟩:∃g,g=wz.heap.size:=⟨_,rfl⟩
   rw[<-hgk];have HGK:=lh hgk;have hszs:(wz.setCell ⟨g6,2,none⟩ (.slice (some ⟨gk,0,none⟩) 1 1)).heap.size=gk:=by rw[hgk];simp[World.setCell]
   have h6s:=H6z.out.set 2 (.slice (some ⟨gk,0,none⟩) 1 1);have hrs:=HRz.out.far (p:=⟨g6,2,none⟩) (by show gr≠g6;omega) (.slice (some ⟨gk,0,none⟩) 1 1);have KS:KpP (·=g6) wz (wz.setCell ⟨g6,2,none⟩ (.slice (some ⟨gk,0,none⟩) 1 1)):=KpP.set (p:=(·=g6)) (x:=⟨g6,2,none⟩) (KpP.refl _ _) (.inl rfl) _;have hvs:=HVz.out.kp KS (fun i hi hs=>hs.2.2.1 hi);have hms:=HMz.out.kpR KS om (by have:=HSW.out;omega);have hks:KpP (·=gm) w (wz.setCell ⟨g6,2,none⟩ (.slice (some ⟨gk,0,none⟩) 1 1)):=KpP.set (p:=(·=gm)) (x:=⟨g6,2,none⟩) HKz.out (.inr (by show w.heap.size<=g6;omega)) _;clear k62 f62 k62' f62' hgk KS;generalize wz.setCell ⟨g6,2,none⟩ (.slice (some ⟨gk,0,none⟩) 1 1)=ws at *;have EK:=Ext.alloc ws (.cells #[.int .i64 nd2.op,.slice nd2.A nd2.l.length nd2.c,.slice nd2.K nd2.ks.length nd2.kc,.int .i64 nd2.mn,.int .i64 nd2.mx,.int .i64 nd2.md,.int .i64 nd2.n,.bool nd2.neg] 61);have BK:=Blk.new ws 61 #[.int .i64 nd2.op,.slice nd2.A nd2.l.length nd2.c,.slice nd2.K nd2.ks.length nd2.kc,.int .i64 nd2.mn,.int .i64 nd2.mx,.int .i64 nd2.md,.int .i64 nd2.n,.bool nd2.neg];rw[hszs] at BK;generalize ws.alloc (.cells #[.int .i64 nd2.op,.slice nd2.A nd2.l.length nd2.c,.slice nd2.K nd2.ks.length nd2.kc,.int .i64 nd2.mn,.int .i64 nd2.mx,.int .i64 nd2.md,.int .i64 nd2.n,.bool nd2.neg] 61)=wy at *;have HVy:=lh (hvs.ext EK);have HMy:=lh (hms.extW EK);have hry:=hrs.ext EK;have HRy:=lh hry;have HBK:Hid (Blk wy gk 61 nd2.cs.toArray):=lh BK;have HKy:=lh (hks.trans (KpP.of_ext EK));have H6y:Hid (Blk wy g6 61 (Nd.cs (⟨4,none,0,[],some ⟨gk,0,none⟩,1,[nd2.val],mn,mx,md,0,false⟩:Nd)).toArray):=lh (by have b:=h6s.ext EK;simpa[Nd.cs] using b)
   obtain⟨p0,p1,p2,p3,p4,p5,p6,p7⟩:=nd_cells H6y.out;simp only[List.length_nil,List.length_cons,Nat.zero_add] at p1 p2;obtain⟨f0,f1,f2,f3,f4,f5,f6,f7⟩:=nd_frz hry;have z0:=hry.cell 0;have z1:=hry.cell 1;have z2:=hry.cell 2;have z3:=hry.cell 3;have z4:=hry.cell 4;have z5:=hry.cell 5;have z6:=hry.cell 6;have z7:=hry.cell 7;dsimp only at p0 p3 p4 p5 p6 p7;clear hry h6s hrs hvs hms hks EK BK hszs q0 q1 q2 q3 q4 q5 q6 q7
   go_wp2_with fail
   have HT9:Hid (TrN uses (fun k=>w.heap.size<=k) (setRe wy gr (⟨4,none,0,[],some ⟨gk,0,none⟩,1,[nd2.val],mn,mx,md,0,false⟩:Nd)) (d+2) (Nd.val (⟨4,none,0,[],some ⟨gk,0,none⟩,1,[nd2.val],mn,mx,md,0,false⟩:Nd)) C2 (left-L2+1)):=lh (by
    refine fin_node (k:=left-L2) _ [(.k0 nd2.hd)] ⟨by simp,by simp,by simp,by simp,by have:=HOK.out;simp only;omega,by have:=HOK.out;simp only;omega,by have:=HOK.out;simp only;omega,⟨by simp only;omega,by simp only;omega⟩,by simp,by simp[SetOk]⟩ ⟨rfl,.inr (.inr (.inr (.inl ⟨rfl,rfl,(show 0<=mn/\mn<=2/\(mx = -1\/(1<=mx/\mx<=3/\mn<=mx)) by have:=HOK.out;omega),(show md=0\/md=1 by omega),rfl,(.k0 nd2.hd),rfl,nul_1 (T:=.k0 nd2.hd) HH2.out.2⟩)))⟩ (SL.nil _) si (by show 1<=maxLen;unfold maxLen;omega) ?_ rfl (fun i hi hj=>?_) (fun t ht=>by rw[List.mem_singleton.1 ht];exact GdT.mk (.k0 nd2.hd) HH2.out.1 (by simp[Tm.kids])) (by have:=HB5.out;show((cnt (.k0 nd2.hd)+0:Nat):Int)<=_;rw[cnt_eq];simp[Tm.kids];omega) si (fun _ k hk=>?_)
    ·simp only[List.flatMap_cons,List.flatMap_nil,List.append_nil];exact blk_cells HBK.out
    ·obtain rfl:i=0:=by simp at hi;omega
     exact HVy.out.imp (fun k hk _=>⟨hk.1,hk.2.1⟩)
    ·have:gk=k:=by simpa using hk
     have:=HGK.out;have:=HKz.out.size;omega)
   have hb9:=setRe_blk HRy.out (⟨4,none,0,[],some ⟨gk,0,none⟩,1,[nd2.val],mn,mx,md,0,false⟩:Nd);have hk9:=setRe_kp (p:=(·=gm)) HKy.out (g:=gr) (.inr hgw) (⟨4,none,0,[],some ⟨gk,0,none⟩,1,[nd2.val],mn,mx,md,0,false⟩:Nd);have M9:=HMy.out.kpR (setRe_kp (p:=(·=gr)) (KpP.refl _ wy) (g:=gr) (.inl rfl) (⟨4,none,0,[],some ⟨gk,0,none⟩,1,[nd2.val],mn,mx,md,0,false⟩:Nd)) hgne (by have:=HSW.out;omega);change bodyPost _ _ _ _ _ (setRe wy gr (⟨4,none,0,[],some ⟨gk,0,none⟩,1,[nd2.val],mn,mx,md,0,false⟩:Nd));generalize setRe wy gr (⟨4,none,0,[],some ⟨gk,0,none⟩,1,[nd2.val],mn,mx,md,0,false⟩:Nd)=w9 at *;obtain⟨r0,r1,r2,r3,r4,r5,r6,r7⟩:=nd_cells hb9;simp only[List.length_nil,List.length_cons,Nat.zero_add] at r1 r2;clear f0 f1 f2 f3 f4 f5 f6 f7 z0 z1 z2 z3 z4 z5 z6 z7 p0 p1 p2 p3 p4 p5 p6 p7;refine bodyPost_ret (v:=Nd.val (⟨4,none,0,[],some ⟨gk,0,none⟩,1,[nd2.val],mn,mx,md,0,false⟩:Nd)) (by simp[results,Tryz.results276,go_sem,r0,r1,r2,r3,r4,r5,r6,r7,Nd.val]) rfl ⟨_,L2,C2,rfl,HT9.out,M9.mono om,by have:=HB5.out;push_cast;omega,by have:=HB5.out;omega,by have:=HB5.out;omega,hk9⟩
 replace KEY:=lh KEY;refine Xtk 1 ?_;refine Xtk 5 ?_;refine Xtk 8 ?_;refine Xr.forkN4 0 4 9 11 rfl rfl rfl rfl dK (by rfl) (by rfl) (by rfl) (by rfl) (fun wn hE hK K hKK=>?_) (fun wn hE hK K hKK=>?_) (fun wn hE hK K hKK=>?_) (fun wn hE hK K hKK=>?_)
 ·exact jr0
 ·exact jr4
 ·exact jr9
 ·exact jr11
end
end Go.Proofs.YtmgpefenkilffaaGreat
