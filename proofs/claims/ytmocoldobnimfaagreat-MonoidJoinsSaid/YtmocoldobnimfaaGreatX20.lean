/- Texts of this proof: Y3 Z3 C3 C5. -/
import Derived.Test.YtmocoldobnimfaaGreatX19
import Derived.LaidEqlPtr
set_option linter.all false
set_option maxRecDepth 100000
set_option maxHeartbeats 16000000
namespace Go.Proofs.YtmocoldobnimfaaGreat
section
open Go.RowKit
attribute [local go_sem ↓] Go.wp_at_zero Go.wp_at_succ
theorem undM:Tryz.prog.underlying 43=some (.pointer 136):=by kernel_rfl
theorem sizeM:(Tryz.prog.info? 136).map (·.size)=some 6:=by kernel_rfl
theorem owns_any (w:World)(gm g:Nat)(s:Sm)(hs:SmAt w g s)(T1 T2:Nat)(C1 C2:Array Value)(hm:Blk w gm T1 C1)(hm2:Blk w s.m T2 C2) :
 Calls Tryz.prog 81 #[.pointer (some ⟨gm,0,none⟩),.pointer (some ⟨g,0,none⟩)] w (RetV (.bool (decide (s.m=gm))) w):=by
 have c0:w.cell? ⟨g,0,none⟩=some (.pointer (some ⟨s.m,0,none⟩)):=hs.blk.cell 0;obtain⟨j,hj,hjs⟩:=Option.map_eq_some_iff.1 sizeM;by_cases h:s.m=gm
 ·subst h;rw[decide_eq_true rfl];go_enter Tryz.func81,Tryz.ntmps81
  go_wp2_with fail
  rw[run_eql_ptr_same w _ undM hj]
  go_wp2_with fail
  go_ret
  exact⟨rfl,Ext.rfl' _⟩
 ·rw[decide_eq_false h];go_enter Tryz.func81,Tryz.ntmps81
  go_wp2_with fail
  rw[run_eql_ptr_other (a:=⟨s.m,0,none⟩) (b:=⟨gm,0,none⟩) w undM hj (by rw[hjs];decide) (fun e=>h (by injection e)) hm2 hm]
  go_wp2_with fail
  go_ret
  exact⟨rfl,Ext.rfl' _⟩
end
section
open Go.RowKit
attribute [local go_sem ↓] Go.wp_at_zero Go.wp_at_succ
theorem infoC2:(Tryz.prog.info? 65).map (fun i=>(i.zero,i.size,i.bytes))=some (some (.slice none 0 0),1,24):=by kernel_rfl
theorem slices_one {l:List Value}(h:∀v∈l,∃A n c,v=.slice A n c):∀u∈l,u.oneCell'=true:=fun u hu=>by
 obtain⟨A,n,c,rfl⟩:=h u hu
 rfl
theorem own_apart {w:World}{b1 b2 e1 e2 s1 s2 n1 n2 c1 c2:Nat}{A B:Option Addr}{xs ys:List Value}(h:OwnS w b1 e1 s1 A n1 c1 xs)(k:OwnS w b2 e2 s2 B n2 c2 ys)(hne:e1≠e2):∀b,A.map (·.block)=some b→B.map (·.block)=some b→False:=fun b h1 h2=>by
 obtain⟨_,cur,q⟩:=OwnS.blt h h1;obtain⟨_,cur2,q2⟩:=OwnS.blt k h2;have e:=q.symm.trans q2;injection e with e;injection e with _ e _
 exact hne e
theorem zint_len {l:List Int}{n:Nat}(h:l.length=n)(x:Int):∃ys,Hid (ys=l++[x])∧Hid (ys.length=n+1):=⟨_,lh rfl,lh (by simp[h])⟩
theorem zrun_nil (w0 w:World)(gs:Nat)(tA:Option Addr)(tn tc:Nat)(most:Int)(fuel st ns i:Nat)(cA:Option Addr)(cc:Nat)(cl:List Sp)(x0:Ext w0 w)(hs:SrM w w0.heap.size gs tA tn tc most fuel st false ns)(hst:st≤fuel)(hns:ns≤1000000000)(hi:i≤1000000000) :
 Calls Tryz.prog 151 #[.pointer (some ⟨gs,0,none⟩),.pointer none,.int .i64 i,.slice cA cl.length cc] w (RetF w0 gs tA tn tc most fuel st ns w):=by
 obtain⟨⟨eA,ec,ends,kA,kc,cps,hb,he,hk,h1,h2,h3,h4⟩,hlo⟩:=hs;obtain⟨iC,jC0,jC1,jC2,jC3⟩:=info_parts infoC2;obtain⟨ys,HY,HYL⟩:=zint_len h1 (i:Int);have hcE:=OwnS.caps he;have hcK:=OwnS.caps hk;have c5:w.cell? ⟨gs,5,none⟩=some (.slice eA ends.length ec):=hb.cell 5;have f5:=hb.frz 5;have HB:=lh hb;have HE:=lh he;have HK:=lh hk;have H1:=lh h1;have H2:=lh h2;have H3:=lh h3;have H4:=lh h4;have HX:=lh x0;have HM:=lh (zL_mem hb (eA:=eA) (en:=ends.length) (ec:=ec) (cA:=kA) (cn:=cps.length) (cc:=kc) rfl rfl);have hel:ends.length≤1000000000:=om;have hkl:cps.length≤1000000000:=om;have hgE:=own_blk he hb de;have hgK:=own_blk hk hb de;have HEK:=lh (own_apart he hk de);have HGL:=lh hb.lt;clear hb he hk h1 h2 h3 h4 x0;go_enter Tryz.func151,Tryz.ntmps151
 go_upto_region 3 with(at_builtin;refine wpList_app1I (w1:=w) rfl _ _ _ rfl 3 infoInt Tryz.underlying22 w0 HX.out i rfl eA ec ends rfl HE.out rfl om ys HY.out ?_;intro A2 c2 w2 ho2 x2 hg2 hat2;have hb2:=(KpP.of_grown hg2).blk HB.out hgE;have hk2:=OwnS.kp HK.out (KpP.of_grown hg2) (fun b h1 h2=>HEK.out b h2 h1);have HB2:=lh hb2;have HK2:=lh hk2;have HO2:=lh ho2;have HG2:=lh hg2;have HX2:=lh x2;have HAT:=lh hat2;have c5b:w2.cell? ⟨gs,5,none⟩=some (.slice eA ends.length ec):=hb2.cell 5;have f5b:=hb2.frz 5;clear ho2 x2 hg2 hat2 hb2 hk2)
 have hg5:=HM.out.1;have B3:Blk (w2.setCell ⟨gs,5,none⟩ (.slice A2 ys.length c2)) gs 257 #[.slice tA tn tc,.int .i64 most,.int .i64 fuel,.int .i64 st,.bool false,.slice A2 ys.length c2,.slice kA cps.length kc]:=by simpa using HB2.out.set 5 (.slice A2 ys.length c2)
 have HE3:=lh (OwnS.far HO2.out (p:=⟨gs,5,none⟩) (own_blk HO2.out HB2.out de) (.slice A2 ys.length c2));have HK3:=lh (OwnS.far HK2.out (p:=⟨gs,5,none⟩) (own_blk HK2.out HB2.out de) (.slice A2 ys.length c2));have HX3:=lh (HX2.out.setNew (p:=⟨gs,5,none⟩) hlo (.slice A2 ys.length c2));have HZ3:Hid (ZF gs w (w2.setCell ⟨gs,5,none⟩ (.slice A2 ys.length c2))):=lh (by
  have k2:Kp (zL w gs) w w2:=(Kp.refl _ w).kpP (KpP.of_grown HG2.out) (fun i hi=>HM.out.1 i hi);refine ZF.mk2 (k2.set (p:=⟨gs,5,none⟩) (.inl List.mem_cons_self) _) B3 (eA:=A2) (en:=ys.length) (ec:=c2) (cA:=kA) (cn:=cps.length) (cc:=kc) rfl rfl (fun x hx=>?_) (fun x hx=>.inl (HM.out.2 x hx));rcases HAT.out with h|h
  ·exact .inl (HM.out.1 x (h▸hx))
  ·rw[h] at hx;injection hx with hx;exact .inr om)
 generalize w2.setCell ⟨gs,5,none⟩ (.slice A2 ys.length c2)=w3 at *;have c6:w3.cell? ⟨gs,6,none⟩=some (.slice kA cps.length kc):=B3.cell 6;have HB3:=lh B3;have f6:=B3.frz 6;have hgK3:=own_blk HK3.out B3 de;have HGL3:=lh B3.lt;have hx3:=HX3.out.size;clear c5b f5b HB2 HK2 HO2 HG2 HX2 HAT B3 hg5 c5 f5 HB HE HK HX HEK hgE hgK
 go_upto_region 4 with(at_builtin;refine wpList_app _ rfl _ _ _ rfl w0.heap.size 65 iC _ 1 24 Tryz.underlying255 jC0 jC1 jC2 jC3 rfl om kA cps.length kc cps rfl (OwnS.ext HK3.out (Ext.alloc _ _)) _ 1 1 [.slice cA cl.length cc] rfl rfl (blk_cells (Blk.new _ _ _)) (slices_one si) um om (by rw[World.size_alloc];omega) ?_;intro A4 c4 w4 ho4 hg4 hat4;have E3:=Ext.alloc w3 (.cells #[.slice cA cl.length cc] 65);have hb4:=(KpP.of_grown hg4).blk (HB3.out.ext E3) hgK3;have he4:=OwnS.kp (OwnS.ext HE3.out E3) (KpP.of_grown hg4) (fun b h1 h2=>own_apart HE3.out HK3.out de b h1 h2);have HB4:=lh hb4;have HE4:=lh he4;have HO4:=lh ho4;have HX4:=lh (Ext.app (HX3.out.trans E3) (OwnS.ext HK3.out E3) hg4);have HK4:=lh (((Kp.of_ext E3:Kp (zL w3 gs) w3 _).kpP (KpP.of_grown hg4) (fun i hi=>(zL_mem HB3.out (eA:=A2) (en:=ys.length) (ec:=c2) (cA:=kA) (cn:=cps.length) (cc:=kc) rfl rfl).2 i hi)));have HAT:=lh hat4;have c6b:w4.cell? ⟨gs,6,none⟩=some (.slice kA cps.length kc):=hb4.cell 6;have f6b:=hb4.frz 6;clear ho4 hg4 hat4 hb4 he4 E3)
 obtain⟨zs,HZS,HZL⟩:∃zs:List Value,Hid (zs=cps++[.slice cA cl.length cc])∧Hid (zs.length=cps.length+1):=⟨_,lh rfl,lh si⟩;have B5:Blk (w4.setCell ⟨gs,6,none⟩ (.slice A4 (cps.length+1) c4)) gs 257 #[.slice tA tn tc,.int .i64 most,.int .i64 fuel,.int .i64 st,.bool false,.slice A2 ys.length c2,.slice A4 (cps.length+1) c4]:=by simpa using HB4.out.set 6 (.slice A4 (cps.length+1) c4)
 have HE5:=lh (OwnS.far HE4.out (p:=⟨gs,6,none⟩) (own_blk HE4.out HB4.out de) (.slice A4 (cps.length+1) c4));have HO5:=lh (OwnS.far HO4.out (p:=⟨gs,6,none⟩) (own_blk HO4.out HB4.out de) (.slice A4 (cps.length+1) c4));have HX5:=lh (HX4.out.setNew (p:=⟨gs,6,none⟩) hlo (.slice A4 (cps.length+1) c4));have HZ5:Hid (ZF gs w (w4.setCell ⟨gs,6,none⟩ (.slice A4 (cps.length+1) c4))):=lh (by
  refine HZ3.out.trans ?_;have hm3:=zL_mem HB3.out (eA:=A2) (en:=ys.length) (ec:=c2) (cA:=kA) (cn:=cps.length) (cc:=kc) rfl rfl;refine ZF.mk2 (HK4.out.set (p:=⟨gs,6,none⟩) (.inl List.mem_cons_self) _) B5 (eA:=A2) (en:=ys.length) (ec:=c2) (cA:=A4) (cn:=cps.length+1) (cc:=c4) rfl rfl (fun x hx=>.inl (hm3.1 x hx)) (fun x hx=>?_);rcases HAT.out with h|h
  ·exact .inl (hm3.2 x (h▸hx))
  ·rw[h] at hx;injection hx with hx;rw[World.size_alloc] at hx;exact .inr om)
 have HB5:=lh B5;have HGL5:=lh B5.lt;clear c6 f6 c6b f6b HB4 HE4 HO4 HX4 HK4 HAT HB3 HE3 HK3 HX3 HZ3 hgK3 B5 hx3;generalize w4.setCell ⟨gs,6,none⟩ (.slice A4 (cps.length+1) c4)=w5 at *;have c1:w5.cell? ⟨gs,1,none⟩=some (.int .i64 most):=HB5.out.cell 1;have c5:w5.cell? ⟨gs,5,none⟩=some (.slice A2 ys.length c2):=HB5.out.cell 5;have HC2:=OwnS.caps HE5.out;have fin:∀b:Bool,∀m,RetF w0 gs tA tn tc most fuel st ns w (.returned (.bool b)) (w5.drewN m):=fun b m=>by
  have xd:=Ext.drewN w5 m;refine⟨b,st,false,ns+1,rfl,⟨⟨A2,c2,ys,A4,c4,zs,?_,OwnS.ext HE5.out xd,?_,by rw[HYL.out],by rw[HZL.out,H2.out],?_,?_⟩,hlo⟩,HX5.out.trans xd,HZ5.out.ext xd HGL.out,om,om,om,.inl ⟨rfl,hst⟩⟩
  ·rw[HZL.out];exact HB5.out.ext xd
  ·rw[HZL.out,HZS.out];exact OwnS.ext HO5.out xd
  ·rw[HY.out];intro x hx;rcases List.mem_append.1 hx with h|h
   ·exact H3.out x h
   ·obtain rfl:=List.mem_singleton.1 h;unfold I64;omega
  ·rw[HZS.out];intro x hx;rcases List.mem_append.1 hx with h|h
   ·exact H4.out x h
   ·obtain rfl:=List.mem_singleton.1 h;exact⟨_,_,_,rfl⟩
 have HF:=lh fin;clear fin HB5 HE5 HO5 HX5 HZ5;by_cases hm:0≤most
 ·go_wp2_with (go_quiet (fail))
  go_ret
  exact HF.out _ _
 ·go_wp2_with (go_quiet (fail))
  go_ret
  exact HF.out _ _
end
section
open Go.RowKit
attribute [local go_sem ↓] Go.wp_at_zero Go.wp_at_succ
theorem cells_tail {bd:Nat}{S:Nat→Prop}{w:World}{d b o:Nat}{ks kt:List Value}(hc:CellsAt w (some ⟨b,o,none⟩) (ks.flatMap cellsOf))(ht:∀u∈ks,TreeAt bd S w d u)(hk:kt=ks.tail)(hn:ks≠[]):CellsAt w (some ⟨b,o+8,none⟩) (kt.flatMap cellsOf):=by
 subst hk
 cases ks with
 | nil=>exact absurd rfl hn
 | cons k1 kt=>
  simp only[List.tail_cons];have h8:=(ht k1 si).len8;intro hne;obtain⟨b2,o2,e,hcell⟩:=hc (by rw[List.flatMap_cons];intro e;exact hne (List.append_eq_nil_iff.1 e).2);injection e with e;injection e with e1 e2 _
  subst e1;subst e2;refine⟨b,o+8,rfl,fun i hi=>?_⟩;have h:=hcell (8+i) (by rw[List.flatMap_cons,List.length_append];omega);have e:o+(8+i)=o+8+i:=om;rw[e] at h;rw[h];simp only[List.flatMap_cons];rw[List.getElem_append_right om];simp[h8]
theorem xcode_3 (w0:World)(bd:Nat)(S:Nat→Prop)(d B:Nat)(IH:CodeAll bd S w0 d B)(hB:2≤B):∀(m:Nat) (w:World) (x0:Ext w0 w) (A:Option Addr) (c:Nat) (l:List Sp) (K:Option Addr) (kc:Nat) (ks:List Value) (mn mx md nn:Int) (neg:Bool) (fm:Int)
 (hm:ks.length=m+2) (hkl:ks.length≤kc∧kc≤maxLen) (hcl:CellsAt w0 K (ks.flatMap cellsOf)) (hks:∀u∈ks,TreeAt bd S w0 d u) (hf:0≤fm) (hfB:fm+(B*ks.length:Nat)≤1000000),
 Calls Tryz.prog 65 #[.agg #[.int .i64 3,.slice A l.length c,.slice K ks.length kc,.int .i64 mn,.int .i64 mx,.int .i64 md,.int .i64 nn,.bool neg],.int .i64 fm] w (RetCd 123 w0 (B*ks.length) w):=by
 intro m;induction m with
 | zero=>
  intro w x0 A c l K kc ks mn mx md nn neg fm hm hkl hcl hks hf hfB;obtain⟨iI,jI0,jI1,jI2,jI3⟩:=info_parts infoIn;have B0:=Blk.new w 26 #[.int .i64 3,.slice A l.length c,.slice K ks.length kc,.int .i64 mn,.int .i64 mx,.int .i64 md,.int .i64 nn,.bool neg];have E0:=Ext.alloc w (.cells #[.int .i64 3,.slice A l.length c,.slice K ks.length kc,.int .i64 mn,.int .i64 mx,.int .i64 md,.int .i64 nn,.bool neg] 26);have HIH:=lh IH;have HC:=lh hcl;have HK:=lh hks;have HKL:ks.length≤kc∧kc≤9223372036854775807:=⟨hkl.1,by have:=hkl.2;unfold maxLen at this;omega⟩;have hm0:B*1≤B*ks.length:=mul_le2 om;have hm2:B*2≤B*ks.length:=mul_le2 om;have hlt0:(0:Int)<ks.length:=om;have hlt1:(1:Int)<ks.length:=om;have hlt0n:0<ks.length:=om;have hlt1n:1<ks.length:=om;have HM:=lh hm;clear hm;obtain⟨b,o,hK,n,ht,k0,k1,k2,k3,k4,k5,k6,k7⟩:=kid8x (x0.trans E0) hcl hks hlt0n;obtain⟨b',o',hK',n',ht',j0,j1,j2,j3,j4,j5,j6,j7⟩:=kid8x (x0.trans E0) hcl hks hlt1n;subst hK;injection hK' with hK';injection hK' with e1 e2 _
  subst e1;subst e2;simp only[Nat.zero_mul,Nat.add_zero] at k0 k1 k2 k3 k4 k5 k6 k7;simp only[Nat.one_mul] at j0 j1 j2 j3 j4 j5 j6 j7;have HT:=lh ht;have HT':=lh ht';have ewp:IntKind.i64.wrap (fm+1)=fm+1:=wj;clear hcl hks hkl ht ht';go_enter Tryz.func65,Tryz.ntmps65
  go_upto_region 1 with fail
  obtain⟨gx,hgx⟩:∃gx,gx=w.heap.size:=⟨_,rfl⟩
  rw[←hgx] at B0 ⊢;clear hgx;generalize w.alloc (.cells #[.int .i64 3,.slice A l.length c,.slice (some ⟨b,o,none⟩) ks.length kc,.int .i64 mn,.int .i64 mx,.int .i64 md,.int .i64 nn,.bool neg] 26)=wa at *;have z0:wa.cell? ⟨gx,0,none⟩=some (.int .i64 3):=B0.cell 0;have z2:wa.cell? ⟨gx,2,none⟩=some (.slice (some ⟨b,o,none⟩) ks.length kc):=B0.cell 2;have X0:=x0.trans E0
  go_upto_region 14 with(go_at_call 65;refine(HIH.out wa _ X0 HT.out (fm+1) om om).mono ?_;rintro e w3 ⟨A3,c3,hs3,rfl,hl3,h3⟩)
  have x3:=h3.ext;have HX3:=lh (X0.trans x3);have H3:=lh h3;have hc3:=h3.len;have z23:=x3.cell z2;have j03:=x3.cell j0;have j13:=x3.cell j1;have j23:=x3.cell j2;have j33:=x3.cell j3;have j43:=x3.cell j4;have j53:=x3.cell j5;have j63:=x3.cell j6;have j73:=x3.cell j7;clear h3 k0 k1 k2 k3 k4 k5 k6 k7 j0 j1 j2 j3 j4 j5 j6 j7
  go_upto_region 15 with fail
  have hgt:¬(2:Int)<(ks.length:Int):=by have:=HM.out;omega
  have E8:=Ext.alloc w3 (.cells #[.int .i64 n'.op,.slice n'.A n'.l.length n'.c,.slice n'.K n'.ks.length n'.kc,.int .i64 n'.mn,.int .i64 n'.mx,.int .i64 n'.md,.int .i64 n'.n,.bool n'.neg] 26);have B8:=Blk.new w3 26 #[.int .i64 n'.op,.slice n'.A n'.l.length n'.c,.slice n'.K n'.ks.length n'.kc,.int .i64 n'.mn,.int .i64 n'.mx,.int .i64 n'.md,.int .i64 n'.n,.bool n'.neg];have z2b:=E8.cell z23;obtain⟨g8,hg8⟩:∃g,g=w3.heap.size:=⟨_,rfl⟩
  rw[←hg8] at B8 ⊢;have hg8w:w3.heap.size≤g8:=om;clear hg8;generalize w3.alloc (.cells #[.int .i64 n'.op,.slice n'.A n'.l.length n'.c,.slice n'.K n'.ks.length n'.kc,.int .i64 n'.mn,.int .i64 n'.mx,.int .i64 n'.md,.int .i64 n'.n,.bool n'.neg] 26)=wb at *;obtain⟨y0,y1,y2,y3,y4,y5,y6,y7⟩:wb.cell? ⟨g8,0,none⟩=some (.int .i64 n'.op)∧wb.cell? ⟨g8,1,none⟩=some (.slice n'.A n'.l.length n'.c)∧wb.cell? ⟨g8,2,none⟩=some (.slice n'.K n'.ks.length n'.kc)∧wb.cell? ⟨g8,3,none⟩=some (.int .i64 n'.mn)∧
   wb.cell? ⟨g8,4,none⟩=some (.int .i64 n'.mx)∧wb.cell? ⟨g8,5,none⟩=some (.int .i64 n'.md)∧wb.cell? ⟨g8,6,none⟩=some (.int .i64 n'.n)∧wb.cell? ⟨g8,7,none⟩=some (.bool n'.neg):=⟨B8.cell 0,B8.cell 1,B8.cell 2,B8.cell 3,B8.cell 4,B8.cell 5,B8.cell 6,B8.cell 7⟩
  go_upto_region 17 with fail
  have xb:=E8;have HN:Hid (B+B=B*ks.length):=lh (by rw[HM.out];omega);have HREC:=lh (HIH.out wb _ (HX3.out.trans E8) HT'.out (fm+(hs3.length:Int)+2) om om);have ewa:IntKind.i64.wrap (fm+(hs3.length:Int))=fm+(hs3.length:Int):=wj;have ewb:IntKind.i64.wrap (fm+(hs3.length:Int)+2)=fm+(hs3.length:Int)+2:=wj
  go_upto_region 18 with(go_at_call 65;refine(HREC.out.mono ?_);rintro e w4 ⟨A4,c4,hs4,rfl,hl4,h4⟩)
  have x4:=h4.ext;have H4:=lh h4;have hc4:=h4.len;have X4:Ext wa w4:=x3.trans (xb.trans x4);have H34:=lh (H3.out.up (xb.trans x4));clear h4 HREC z23;obtain⟨ys5,HY5⟩:∃ys,Hid (ys=[]++[(⟨2,fm+1,fm+(hs3.length:Int)+2,0,none,0,[]⟩:Hin)]):=⟨_,lh rfl⟩;obtain⟨ys6,HY6⟩:∃ys,Hid (ys=ys5++hs3):=⟨_,lh rfl⟩;have hl5:Hid (ys5.length=1):=lh (by rw[HY5.out];rfl);have hl6:Hid (ys6.length=1+hs3.length):=lh (by rw[HY6.out,List.length_append,hl5.out])
  go_upto_region 19 with(first|(at_builtin;refine wpList_appN (w0:=w0) rfl _ _ _ rfl iI Tryz.underlying31 jI0 jI1 jI2 jI3 none 0 [] rfl (CdI.nil (Ext.alloc w4 _)) _ 1 [⟨2,fm+1,fm+(hs3.length:Int)+2,0,none,0,[]⟩] rfl (hin_blk (Blk.new _ _ _)) (fun h hh=>by rw[List.mem_singleton.1 hh];exact HinOk.plain w0 (by simp only[I64];omega)) si ys5 HY5.out ?_;intro A5 c5 w5 h5 x5 hr5 hg5;have H5:=lh h5;have HX5:=lh x5;have x45:=(Ext.alloc w4 _).grown hg5 si)|(at_builtin;refine wpList_appN (w0:=w0) rfl _ _ _ rfl iI Tryz.underlying31 jI0 jI1 jI2 jI3 A5 c5 ys5 rfl H5.out A3 c3 hs3 rfl (OwnS.cells (H34.out.up x45).own) H34.out.ok (by have:=hl5.out;omega) ys6 HY6.out ?_;intro A6 c6 w6 h6 x6 hr6 hg6))
  have H6:=lh h6;have HX6:=lh x6;clear h6 hr6 hg6 hg5 hr5 h5 x5 x45 H5 HX5;have hfL:fm+(hs3.length:Int)+2+(hs4.length:Int)≤1000000:=by have:=HN.out;omega
  have ewc:IntKind.i64.wrap (fm+(hs3.length:Int)+2+(hs4.length:Int))=fm+(hs3.length:Int)+2+(hs4.length:Int):=wj;obtain⟨ys7,HY7⟩:∃ys,Hid (ys=ys6++[(⟨3,fm+(hs3.length:Int)+2+(hs4.length:Int),0,0,none,0,[]⟩:Hin)]):=⟨_,lh rfl⟩;obtain⟨ys8,HY8⟩:∃ys,Hid (ys=ys7++hs4):=⟨_,lh rfl⟩;have hl7:Hid (ys7.length=2+hs3.length):=lh (by rw[HY7.out,List.length_append,hl6.out];simp;omega);have hl8:Hid (ys8.length=2+hs3.length+hs4.length):=lh (by rw[HY8.out,List.length_append,hl7.out]);have hc6:=H6.out.len
  go_wp2_with (first|(at_builtin;refine wpList_appN (w0:=w0) rfl _ _ _ rfl iI Tryz.underlying31 jI0 jI1 jI2 jI3 A6 c6 ys6 rfl (H6.out.up (Ext.alloc w6 _)) _ 1 [⟨3,fm+(hs3.length:Int)+2+(hs4.length:Int),0,0,none,0,[]⟩] rfl (hin_blk (Blk.new _ _ _)) (fun h hh=>by rw[List.mem_singleton.1 hh];exact HinOk.plain w0 (by simp only[I64];omega)) (by have:=hl6.out;simp only[List.length_singleton];omega) ys7 HY7.out ?_;intro A7 c7 w7 h7 x7 hr7 hg7;have H7:=lh h7;have HX7:=lh x7;clear h7 x7 hr7 hg7)|(at_builtin;refine wpList_appN (w0:=w0) rfl _ _ _ rfl iI Tryz.underlying31 jI0 jI1 jI2 jI3 A7 c7 ys7 rfl H7.out A4 c4 hs4 rfl (OwnS.cells (H4.out.up HX7.out).own) H4.out.ok (by have:=hl7.out;omega) ys8 HY8.out ?_;intro A9 c9 w9 h9 x9 hr9 hg9))
  go_ret
  exact⟨A9,c9,ys8,rfl,by have:=hl8.out;have:=hl4;have:=HN.out;omega,(h9.low X4).low E0⟩
 | succ m ih=>
  intro w x0 A c l K kc ks mn mx md nn neg fm hm hkl hcl hks hf hfB;obtain⟨iI,jI0,jI1,jI2,jI3⟩:=info_parts infoIn;have B0:=Blk.new w 26 #[.int .i64 3,.slice A l.length c,.slice K ks.length kc,.int .i64 mn,.int .i64 mx,.int .i64 md,.int .i64 nn,.bool neg];have E0:=Ext.alloc w (.cells #[.int .i64 3,.slice A l.length c,.slice K ks.length kc,.int .i64 mn,.int .i64 mx,.int .i64 md,.int .i64 nn,.bool neg] 26);have HIH:=lh IH;have HIM:=lh ih;clear ih;have HC:=lh hcl;have HK:=lh hks;have HKL:ks.length≤kc∧kc≤9223372036854775807:=⟨hkl.1,by have:=hkl.2;unfold maxLen at this;omega⟩;have hm0:B*1≤B*ks.length:=mul_le2 om;have hm2:B*2≤B*ks.length:=mul_le2 om;have hlt0:(0:Int)<ks.length:=om;have hlt1:(1:Int)<ks.length:=om;have hlt0n:0<ks.length:=om;have hlt1n:1<ks.length:=om;have HM:=lh hm;clear hm;obtain⟨b,o,hK,n,ht,k0,k1,k2,k3,k4,k5,k6,k7⟩:=kid8x (x0.trans E0) hcl hks hlt0n;obtain⟨b',o',hK',n',ht',j0,j1,j2,j3,j4,j5,j6,j7⟩:=kid8x (x0.trans E0) hcl hks hlt1n;subst hK;injection hK' with hK';injection hK' with e1 e2 _
  subst e1;subst e2;simp only[Nat.zero_mul,Nat.add_zero] at k0 k1 k2 k3 k4 k5 k6 k7;simp only[Nat.one_mul] at j0 j1 j2 j3 j4 j5 j6 j7;have HT:=lh ht;have HT':=lh ht';have ewp:IntKind.i64.wrap (fm+1)=fm+1:=wj;clear hcl hks hkl ht ht';go_enter Tryz.func65,Tryz.ntmps65
  go_upto_region 1 with fail
  obtain⟨gx,hgx⟩:∃gx,gx=w.heap.size:=⟨_,rfl⟩
  rw[←hgx] at B0 ⊢;clear hgx;generalize w.alloc (.cells #[.int .i64 3,.slice A l.length c,.slice (some ⟨b,o,none⟩) ks.length kc,.int .i64 mn,.int .i64 mx,.int .i64 md,.int .i64 nn,.bool neg] 26)=wa at *;have z0:wa.cell? ⟨gx,0,none⟩=some (.int .i64 3):=B0.cell 0;have z2:wa.cell? ⟨gx,2,none⟩=some (.slice (some ⟨b,o,none⟩) ks.length kc):=B0.cell 2;have X0:=x0.trans E0
  go_upto_region 14 with(go_at_call 65;refine(HIH.out wa _ X0 HT.out (fm+1) om om).mono ?_;rintro e w3 ⟨A3,c3,hs3,rfl,hl3,h3⟩)
  have x3:=h3.ext;have HX3:=lh (X0.trans x3);have H3:=lh h3;have hc3:=h3.len;have z23:=x3.cell z2;have j03:=x3.cell j0;have j13:=x3.cell j1;have j23:=x3.cell j2;have j33:=x3.cell j3;have j43:=x3.cell j4;have j53:=x3.cell j5;have j63:=x3.cell j6;have j73:=x3.cell j7;clear h3 k0 k1 k2 k3 k4 k5 k6 k7 j0 j1 j2 j3 j4 j5 j6 j7
  go_upto_region 15 with fail
  have hgt:(2:Int)<(ks.length:Int):=by have:=HM.out;omega
  have E8:=Ext.alloc w3 (.cells #[.int .i64 n'.op,.slice n'.A n'.l.length n'.c,.slice n'.K n'.ks.length n'.kc,.int .i64 n'.mn,.int .i64 n'.mx,.int .i64 n'.md,.int .i64 n'.n,.bool n'.neg] 26);have B8:=Blk.new w3 26 #[.int .i64 n'.op,.slice n'.A n'.l.length n'.c,.slice n'.K n'.ks.length n'.kc,.int .i64 n'.mn,.int .i64 n'.mx,.int .i64 n'.md,.int .i64 n'.n,.bool n'.neg];have z2b:=E8.cell z23;obtain⟨g8,hg8⟩:∃g,g=w3.heap.size:=⟨_,rfl⟩
  rw[←hg8] at B8 ⊢;have hg8w:w3.heap.size≤g8:=om;clear hg8;generalize w3.alloc (.cells #[.int .i64 n'.op,.slice n'.A n'.l.length n'.c,.slice n'.K n'.ks.length n'.kc,.int .i64 n'.mn,.int .i64 n'.mx,.int .i64 n'.md,.int .i64 n'.n,.bool n'.neg] 26)=wb at *;obtain⟨y0,y1,y2,y3,y4,y5,y6,y7⟩:wb.cell? ⟨g8,0,none⟩=some (.int .i64 n'.op)∧wb.cell? ⟨g8,1,none⟩=some (.slice n'.A n'.l.length n'.c)∧wb.cell? ⟨g8,2,none⟩=some (.slice n'.K n'.ks.length n'.kc)∧wb.cell? ⟨g8,3,none⟩=some (.int .i64 n'.mn)∧
   wb.cell? ⟨g8,4,none⟩=some (.int .i64 n'.mx)∧wb.cell? ⟨g8,5,none⟩=some (.int .i64 n'.md)∧wb.cell? ⟨g8,6,none⟩=some (.int .i64 n'.n)∧wb.cell? ⟨g8,7,none⟩=some (.bool n'.neg):=⟨B8.cell 0,B8.cell 1,B8.cell 2,B8.cell 3,B8.cell 4,B8.cell 5,B8.cell 6,B8.cell 7⟩
  obtain⟨f0,f1,f2,f3,f4,f5,f6,f7⟩:=nd_frz B8
  go_upto_region 17 with fail
  obtain⟨kt,HKT⟩:∃kt,Hid (kt=ks.tail):=⟨_,lh rfl⟩;have elt:ks.length-1=kt.length:=by rw[HKT.out];simp
  rw[elt];have HEL:=lh elt;clear elt;have hb9:=setRe_blk B8 (⟨3,none,0,[],some ⟨b,o+8,none⟩,kc-1,kt,0,0,0,0,false⟩:Nd);have hx9:=setRe_ext (a:=w3) E8 om (⟨3,none,0,[],some ⟨b,o+8,none⟩,kc-1,kt,0,0,0,0,false⟩:Nd);change Code.wp _ _ _ _ (setRe wb g8 (⟨3,none,0,[],some ⟨b,o+8,none⟩,kc-1,kt,0,0,0,0,false⟩:Nd));clear y0 y1 y2 y3 y4 y5 y6 y7 f0 f1 f2 f3 f4 f5 f6 f7 z2b;generalize setRe wb g8 (⟨3,none,0,[],some ⟨b,o+8,none⟩,kc-1,kt,0,0,0,0,false⟩:Nd)=wc at *;clear E8 B8;obtain⟨y0,y1,y2,y3,y4,y5,y6,y7⟩:=nd_cells hb9
  try simp only[List.length_nil] at y1
  have xb:=hx9;have hmm:ks.length=m+1+2:=HM.out;have hmm2:kt.length=m+2:=by have:=HEL.out;omega
  have hme:=mul_step B kt.length;have hme2:B*(kt.length+1)=B*ks.length:=by rw[hmm,hmm2]
  have HREC:=lh (HIM.out wc (HX3.out.trans xb) none 0 [] (some ⟨b,o+8,none⟩) (kc-1) kt 0 0 0 0 false (fm+(hs3.length:Int)+2) hmm2 (by have:=HEL.out;have:=HKL;unfold maxLen;omega) (cells_tail HC.out HK.out HKT.out (by intro e;rw[e] at hmm;simp at hmm)) (fun u hu=>HK.out u (by rw[HKT.out] at hu;exact List.mem_of_mem_tail hu)) om om);have HN:Hid (B+B*kt.length=B*ks.length):=lh om;clear hmm hmm2 hme hme2;simp only[List.length_nil] at HREC;have ewa:IntKind.i64.wrap (fm+(hs3.length:Int))=fm+(hs3.length:Int):=wj;have ewb:IntKind.i64.wrap (fm+(hs3.length:Int)+2)=fm+(hs3.length:Int)+2:=wj
  go_upto_region 18 with(go_at_call 65;refine(HREC.out.mono ?_);rintro e w4 ⟨A4,c4,hs4,rfl,hl4,h4⟩)
  have x4:=h4.ext;have H4:=lh h4;have hc4:=h4.len;have X4:Ext wa w4:=x3.trans (xb.trans x4);have H34:=lh (H3.out.up (xb.trans x4));clear h4 HREC z23;obtain⟨ys5,HY5⟩:∃ys,Hid (ys=[]++[(⟨2,fm+1,fm+(hs3.length:Int)+2,0,none,0,[]⟩:Hin)]):=⟨_,lh rfl⟩;obtain⟨ys6,HY6⟩:∃ys,Hid (ys=ys5++hs3):=⟨_,lh rfl⟩;have hl5:Hid (ys5.length=1):=lh (by rw[HY5.out];rfl);have hl6:Hid (ys6.length=1+hs3.length):=lh (by rw[HY6.out,List.length_append,hl5.out])
  go_upto_region 19 with(first|(at_builtin;refine wpList_appN (w0:=w0) rfl _ _ _ rfl iI Tryz.underlying31 jI0 jI1 jI2 jI3 none 0 [] rfl (CdI.nil (Ext.alloc w4 _)) _ 1 [⟨2,fm+1,fm+(hs3.length:Int)+2,0,none,0,[]⟩] rfl (hin_blk (Blk.new _ _ _)) (fun h hh=>by rw[List.mem_singleton.1 hh];exact HinOk.plain w0 (by simp only[I64];omega)) si ys5 HY5.out ?_;intro A5 c5 w5 h5 x5 hr5 hg5;have H5:=lh h5;have HX5:=lh x5;have x45:=(Ext.alloc w4 _).grown hg5 si)|(at_builtin;refine wpList_appN (w0:=w0) rfl _ _ _ rfl iI Tryz.underlying31 jI0 jI1 jI2 jI3 A5 c5 ys5 rfl H5.out A3 c3 hs3 rfl (OwnS.cells (H34.out.up x45).own) H34.out.ok (by have:=hl5.out;omega) ys6 HY6.out ?_;intro A6 c6 w6 h6 x6 hr6 hg6))
  have H6:=lh h6;have HX6:=lh x6;clear h6 hr6 hg6 hg5 hr5 h5 x5 x45 H5 HX5;have hfL:fm+(hs3.length:Int)+2+(hs4.length:Int)≤1000000:=by have:=HN.out;omega
  have ewc:IntKind.i64.wrap (fm+(hs3.length:Int)+2+(hs4.length:Int))=fm+(hs3.length:Int)+2+(hs4.length:Int):=wj;obtain⟨ys7,HY7⟩:∃ys,Hid (ys=ys6++[(⟨3,fm+(hs3.length:Int)+2+(hs4.length:Int),0,0,none,0,[]⟩:Hin)]):=⟨_,lh rfl⟩;obtain⟨ys8,HY8⟩:∃ys,Hid (ys=ys7++hs4):=⟨_,lh rfl⟩;have hl7:Hid (ys7.length=2+hs3.length):=lh (by rw[HY7.out,List.length_append,hl6.out];simp;omega);have hl8:Hid (ys8.length=2+hs3.length+hs4.length):=lh (by rw[HY8.out,List.length_append,hl7.out]);have hc6:=H6.out.len
  go_wp2_with (first|(at_builtin;refine wpList_appN (w0:=w0) rfl _ _ _ rfl iI Tryz.underlying31 jI0 jI1 jI2 jI3 A6 c6 ys6 rfl (H6.out.up (Ext.alloc w6 _)) _ 1 [⟨3,fm+(hs3.length:Int)+2+(hs4.length:Int),0,0,none,0,[]⟩] rfl (hin_blk (Blk.new _ _ _)) (fun h hh=>by rw[List.mem_singleton.1 hh];exact HinOk.plain w0 (by simp only[I64];omega)) (by have:=hl6.out;simp only[List.length_singleton];omega) ys7 HY7.out ?_;intro A7 c7 w7 h7 x7 hr7 hg7;have H7:=lh h7;have HX7:=lh x7;clear h7 x7 hr7 hg7)|(at_builtin;refine wpList_appN (w0:=w0) rfl _ _ _ rfl iI Tryz.underlying31 jI0 jI1 jI2 jI3 A7 c7 ys7 rfl H7.out A4 c4 hs4 rfl (OwnS.cells (H4.out.up HX7.out).own) H4.out.ok (by have:=hl7.out;omega) ys8 HY8.out ?_;intro A9 c9 w9 h9 x9 hr9 hg9))
  go_ret
  exact⟨A9,c9,ys8,rfl,by have:=hl8.out;have:=hl4;have:=HN.out;omega,(h9.low X4).low E0⟩
end
section
open Go.RowKit
attribute [local go_sem ↓] Go.wp_at_zero Go.wp_at_succ
def RetSz (w:World)(e:Ending)(w':World):Prop:=∃x:Int,e=.returned (.int .i64 x)∧I64 x∧Ext w w'
theorem i64_wrap (n:Int):I64 (IntKind.i64.wrap n):=by rw[IntKind.wrap_i64];unfold I64;omega
theorem i64_wrap64 (n:Int):I64 (wrap64 n):=by unfold wrap64 I64;omega
theorem C5z1 {P:Prop} (h:P:=by
 go_wp2_with fail
 all_goals
  go_ret
  exact HF.out _ (by first|exact hx1|exact i64_wrap64 _|exact i64_wrap _|(simp[I64];done)) _ (Ext.rfl' _)):P:=h
theorem xsize_any (bd:Nat)(S:Nat→Prop):∀(d:Nat) (w:World) (v:Value),TreeAt bd S w d v→Calls Tryz.prog 64 #[v] w (RetSz w):=by
 intro d;induction d with
 | zero=>intro w v h;obtain⟨e,he⟩:=h.pos;omega
 | succ d ih=>
  intro w v h;obtain⟨n,rfl,hok,hsl,hkl,hkc,hcl,hks⟩:=h.node;obtain⟨op,A,c,l,K,kc,ks,mn,mx,md,nn,neg⟩:=n;have hop:=hok.op;have hfew:=hok.few;have hmn:=hok.mn;have hmx:=hok.mx
  simp only at hop hsl hkl hkc hcl hks hfew hmn hmx
  unfold Nd.val
  simp only
  have HIH:=lh ih;clear ih h hok;have B0:=Blk.new w 26 #[.int .i64 op,.slice A l.length c,.slice K ks.length kc,.int .i64 mn,.int .i64 mx,.int .i64 md,.int .i64 nn,.bool neg];have E0:=Ext.alloc w (.cells #[.int .i64 op,.slice A l.length c,.slice K ks.length kc,.int .i64 mn,.int .i64 mx,.int .i64 md,.int .i64 nn,.bool neg] 26);have HC:=lh (hcl.ext E0);have HK:=lh (fun u hu=>(hks u hu).ext E0);have HKL:ks.length≤kc∧kc≤9223372036854775807:=⟨hkl,by unfold maxLen at hkc;omega⟩;clear hcl hks hsl hkl hkc;go_enter Tryz.func64,Tryz.ntmps64
  go_upto_region 1 with fail
  obtain⟨gx,hgx⟩:∃gx,gx=w.heap.size:=⟨_,rfl⟩
  rw[←hgx] at B0 ⊢;clear hgx;generalize w.alloc (.cells #[.int .i64 op,.slice A l.length c,.slice K ks.length kc,.int .i64 mn,.int .i64 mx,.int .i64 md,.int .i64 nn,.bool neg] 26)=wa at *;have z0:wa.cell? ⟨gx,0,none⟩=some (.int .i64 op):=B0.cell 0;have z2:wa.cell? ⟨gx,2,none⟩=some (.slice K ks.length kc):=B0.cell 2;have z3:wa.cell? ⟨gx,3,none⟩=some (.int .i64 mn):=B0.cell 3;have z4:wa.cell? ⟨gx,4,none⟩=some (.int .i64 mx):=B0.cell 4
  go_upto_region 3 with fail
  go_loopw [4,3] (fun v u wr=>∃(i:Nat) (x:Int),v=.int .i64 i∧u=.int .i64 x∧i≤ks.length∧I64 x∧Ext wa wr) (fun v _ _=>ks.length-(intOf v).toNat)
  case atStart=>exact⟨0,0,rfl,rfl,om,by simp[I64],Ext.rfl' _⟩
  case round=>
   obtain⟨i,x,rfl,rfl,hi,hx1,x1⟩:=hrel;have z0r:=x1.cell z0;have z2r:=x1.cell z2;have z3r:=x1.cell z3;have z4r:=x1.cell z4;by_cases hlt:i<ks.length
   ·have hiI:(i:Int)<ks.length:=om;obtain⟨b,o,hK,n,ht,k0,k1,k2,k3,k4,k5,k6,k7⟩:=kid8 (HC.out.ext x1) (fun u hu=>(HK.out u hu).ext x1) hlt;have hK':=hK;subst hK';have HT:=lh ht;clear ht
    go_wp2_with (go_at_call 64;refine(HIH.out wr _ HT.out).mono ?_;rintro e w3 ⟨y,rfl,hy1,x3⟩;have HW:=i64_wrap (x+y);generalize hwz:IntKind.i64.wrap (x+y)=z at HW;have HZ:=lh hwz.symm;have hwz2:=hwz;clear HZ)
    go_roundw
    case rel=>exact⟨i+1,_,by go_num,rfl,om,HW,x1.trans x3⟩
    case measure=>simp[intOf];omega
   ·have hiI:¬(i:Int)<ks.length:=om;have FIN:∀z:Int,I64 z→∀w',Ext wr w'→RetSz w (.returned (.int .i64 z)) w':=fun z h1 w' h2=>⟨_,rfl,h1,E0.trans (x1.trans h2)⟩;have HF:=lh FIN;clear FIN;rcases hop with rfl|rfl|rfl|rfl|rfl|rfl|rfl
    case inr.inr.inr.inr.inl=>
     by_cases hm1:mx = -1
     ·subst hm1;exact C5z1
     ·have hm2:(mx == -1)=false:=by simp[hm1]
      exact C5z1
    all_goals
     go_wp2_with fail
     all_goals
      go_ret
      exact HF.out _ (by first|exact hx1|exact i64_wrap64 _|exact i64_wrap _|(simp[I64];done)) _ (Ext.rfl' _)
end
end Go.Proofs.YtmocoldobnimfaaGreat
