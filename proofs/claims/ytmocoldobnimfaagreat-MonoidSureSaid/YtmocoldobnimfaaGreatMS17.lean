/- Texts of this proof: C3 C4 C6 C7 C1 Z2 Z3. -/
import Derived.Test.YtmocoldobnimfaaGreatMS15
set_option linter.all false
set_option maxRecDepth 100000
set_option maxHeartbeats 16000000
namespace Go.Proofs.YtmocoldobnimfaaGreat
section
open Go.RowKit
attribute [local go_sem ↓] Go.wp_at_zero Go.wp_at_succ
theorem MH {bd:Nat}{S:Nat->Prop}{w:World}{d b o:Nat}{ks kt:List Value}(hc:QP w (some ⟨b,o,none⟩) (ks.flatMap Q8))(ht:∀u∈ks,Qx bd S w d u)(hk:kt=ks.tail)(hn:ks≠[]):QP w (some ⟨b,o+8,none⟩) (kt.flatMap Q8):=by
 subst hk
 cases ks with
 | nil=>exact absurd rfl hn
 | cons k1 kt=>
  simp only[List.tail_cons];have h8:=(ht k1 si).len8;intro hne;obtain⟨b2,o2,e,hcell⟩:=hc (by rw[List.flatMap_cons];intro e;exact hne (List.append_eq_nil_iff.1 e).2);injection e with e;injection e with e1 e2 _
  subst e1;subst e2;refine⟨b,o+8,rfl,fun i hi=>?_⟩;have h:=hcell (8+i) (by rw[List.flatMap_cons,List.length_append];omega);have e:o+(8+i)=o+8+i:=om;rw[e] at h;rw[h];simp only[List.flatMap_cons];rw[List.getElem_append_right om];simp[h8]
theorem bZ (w0:World)(bd:Nat)(S:Nat->Prop)(d B:Nat)(IH:VI bd S w0 d B)(hB:2<=B):∀(m:Nat) (w:World) (x0:Ext w0 w) (A:Option Addr) (c:Nat) (l:List Sp) (K:Option Addr) (kc:Nat) (ks:List Value) (mn mx md nn:Int) (neg:Bool) (fm:Int)
 (hm:ks.length=m+2) (hkl:ks.length<=kc/\kc<=maxLen) (hcl:QP w0 K (ks.flatMap Q8)) (hks:∀u∈ks,Qx bd S w0 d u) (hf:0<=fm) (hfB:fm+(B*ks.length:Nat)<=1000000),
 Calls Tryz.prog 65 #[.agg #[.int .i64 3,.slice A l.length c,.slice K ks.length kc,.int .i64 mn,.int .i64 mx,.int .i64 md,.int .i64 nn,.bool neg],.int .i64 fm] w (JT 123 w0 (B*ks.length) w):=by
 intro m;induction m with
 | zero=>
  intro w x0 A c l K kc ks mn mx md nn neg fm hm hkl hcl hks hf hfB;obtain⟨iI,jI0,jI1,jI2,jI3⟩:=info_parts qM;have B0:=Blk.new w 26 #[.int .i64 3,.slice A l.length c,.slice K ks.length kc,.int .i64 mn,.int .i64 mx,.int .i64 md,.int .i64 nn,.bool neg];have E0:=Ext.alloc w (.cells #[.int .i64 3,.slice A l.length c,.slice K ks.length kc,.int .i64 mn,.int .i64 mx,.int .i64 md,.int .i64 nn,.bool neg] 26);have HIH:=lh IH;have HC:=lh hcl;have HK:=lh hks;have HKL:ks.length<=kc/\kc<=9223372036854775807:=⟨hkl.1,by have:=hkl.2;unfold maxLen at this;omega⟩;have hm0:B*1<=B*ks.length:=ZR om;have hm2:B*2<=B*ks.length:=ZR om;have hlt0:(0:Int)<ks.length:=om;have hlt1:(1:Int)<ks.length:=om;have hlt0n:0<ks.length:=om;have hlt1n:1<ks.length:=om;have HM:=lh hm;clear hm;obtain⟨b,o,hK,n,ht,k0,k1,k2,k3,k4,k5,k6,k7⟩:=VL (x0.trans E0) hcl hks hlt0n;obtain⟨b',o',hK',n',ht',j0,j1,j2,j3,j4,j5,j6,j7⟩:=VL (x0.trans E0) hcl hks hlt1n;subst hK;injection hK' with hK';injection hK' with e1 e2 _
  subst e1;subst e2;simp only[Nat.zero_mul,Nat.add_zero] at k0 k1 k2 k3 k4 k5 k6 k7;simp only[Nat.one_mul] at j0 j1 j2 j3 j4 j5 j6 j7;have HT:=lh ht;have HT':=lh ht';have ewp:IntKind.i64.wrap (fm+1)=fm+1:=wj;clear hcl hks hkl ht ht';go_enter Tryz.func65,Tryz.ntmps65
  go_upto_region 1 with fail
  obtain⟨gx,hgx⟩:∃gx,gx=w.heap.size:=⟨_,rfl⟩
  rw[<-hgx] at B0 ⊢;clear hgx;generalize w.alloc (.cells #[.int .i64 3,.slice A l.length c,.slice (some ⟨b,o,none⟩) ks.length kc,.int .i64 mn,.int .i64 mx,.int .i64 md,.int .i64 nn,.bool neg] 26)=wa at *;have z0:wa.cell? ⟨gx,0,none⟩=some (.int .i64 3):=B0.cell 0;have z2:wa.cell? ⟨gx,2,none⟩=some (.slice (some ⟨b,o,none⟩) ks.length kc):=B0.cell 2;have X0:=x0.trans E0
  go_upto_region 14 with(go_at_call 65;refine(HIH.out wa _ X0 HT.out (fm+1) om om).mono ?_;rintro e w3 ⟨A3,c3,hs3,rfl,hl3,h3⟩)
  have x3:=h3.ext;have HX3:=lh (X0.trans x3);have H3:=lh h3;have hc3:=h3.len;have z23:=x3.cell z2;have j03:=x3.cell j0;have j13:=x3.cell j1;have j23:=x3.cell j2;have j33:=x3.cell j3;have j43:=x3.cell j4;have j53:=x3.cell j5;have j63:=x3.cell j6;have j73:=x3.cell j7;clear h3 k0 k1 k2 k3 k4 k5 k6 k7 j0 j1 j2 j3 j4 j5 j6 j7
  go_upto_region 15 with fail
  have hgt:¬(2:Int)<(ks.length:Int):=by have:=HM.out;omega
  have E8:=Ext.alloc w3 (.cells #[.int .i64 n'.op,.slice n'.A n'.l.length n'.c,.slice n'.K n'.ks.length n'.kc,.int .i64 n'.mn,.int .i64 n'.mx,.int .i64 n'.md,.int .i64 n'.n,.bool n'.neg] 26);have B8:=Blk.new w3 26 #[.int .i64 n'.op,.slice n'.A n'.l.length n'.c,.slice n'.K n'.ks.length n'.kc,.int .i64 n'.mn,.int .i64 n'.mx,.int .i64 n'.md,.int .i64 n'.n,.bool n'.neg];have z2b:=E8.cell z23;obtain⟨g8,hg8⟩:∃g,g=w3.heap.size:=⟨_,rfl⟩
  rw[<-hg8] at B8 ⊢;have hg8w:w3.heap.size<=g8:=om;clear hg8;generalize w3.alloc (.cells #[.int .i64 n'.op,.slice n'.A n'.l.length n'.c,.slice n'.K n'.ks.length n'.kc,.int .i64 n'.mn,.int .i64 n'.mx,.int .i64 n'.md,.int .i64 n'.n,.bool n'.neg] 26)=wb at *;obtain⟨y0,y1,y2,y3,y4,y5,y6,y7⟩:wb.cell? ⟨g8,0,none⟩=some (.int .i64 n'.op)/\wb.cell? ⟨g8,1,none⟩=some (.slice n'.A n'.l.length n'.c)/\wb.cell? ⟨g8,2,none⟩=some (.slice n'.K n'.ks.length n'.kc)/\wb.cell? ⟨g8,3,none⟩=some (.int .i64 n'.mn)/\
   wb.cell? ⟨g8,4,none⟩=some (.int .i64 n'.mx)/\wb.cell? ⟨g8,5,none⟩=some (.int .i64 n'.md)/\wb.cell? ⟨g8,6,none⟩=some (.int .i64 n'.n)/\wb.cell? ⟨g8,7,none⟩=some (.bool n'.neg):=⟨B8.cell 0,B8.cell 1,B8.cell 2,B8.cell 3,B8.cell 4,B8.cell 5,B8.cell 6,B8.cell 7⟩
  go_upto_region 17 with fail
  have xb:=E8;have HN:Hid (B+B=B*ks.length):=lh (by rw[HM.out];omega);have HREC:=lh (HIH.out wb _ (HX3.out.trans E8) HT'.out (fm+(hs3.length:Int)+2) om om);have ewa:IntKind.i64.wrap (fm+(hs3.length:Int))=fm+(hs3.length:Int):=wj;have ewb:IntKind.i64.wrap (fm+(hs3.length:Int)+2)=fm+(hs3.length:Int)+2:=wj
  go_upto_region 18 with(go_at_call 65;refine(HREC.out.mono ?_);rintro e w4 ⟨A4,c4,hs4,rfl,hl4,h4⟩)
  have x4:=h4.ext;have H4:=lh h4;have hc4:=h4.len;have X4:Ext wa w4:=x3.trans (xb.trans x4);have H34:=lh (H3.out.up (xb.trans x4));clear h4 HREC z23;obtain⟨ys5,HY5⟩:∃ys,Hid (ys=[]++[(⟨2,fm+1,fm+(hs3.length:Int)+2,0,none,0,[]⟩:Hin)]):=⟨_,lh rfl⟩;obtain⟨ys6,HY6⟩:∃ys,Hid (ys=ys5++hs3):=⟨_,lh rfl⟩;have hl5:Hid (ys5.length=1):=lh (by rw[HY5.out];rfl);have hl6:Hid (ys6.length=1+hs3.length):=lh (by rw[HY6.out,List.length_append,hl5.out])
  go_upto_region 19 with(first|(at_builtin;refine Q7 (w0:=w0) rfl _ _ _ rfl iI Tryz.underlying31 jI0 jI1 jI2 jI3 none 0 [] rfl (CdI.nil (Ext.alloc w4 _)) _ 1 [⟨2,fm+1,fm+(hs3.length:Int)+2,0,none,0,[]⟩] rfl (KV (Blk.new _ _ _)) (fun h hh=>by rw[List.mem_singleton.1 hh];exact ZJ.plain w0 (by simp only[I64];omega)) si ys5 HY5.out ?_;intro A5 c5 w5 h5 x5 hr5 hg5;have H5:=lh h5;have HX5:=lh x5;have x45:=(Ext.alloc w4 _).grown hg5 si)|(at_builtin;refine Q7 (w0:=w0) rfl _ _ _ rfl iI Tryz.underlying31 jI0 jI1 jI2 jI3 A5 c5 ys5 rfl H5.out A3 c3 hs3 rfl (QQ.cells (H34.out.up x45).own) H34.out.ok (by have:=hl5.out;omega) ys6 HY6.out ?_;intro A6 c6 w6 h6 x6 hr6 hg6))
  have H6:=lh h6;have HX6:=lh x6;clear h6 hr6 hg6 hg5 hr5 h5 x5 x45 H5 HX5;have hfL:fm+(hs3.length:Int)+2+(hs4.length:Int)<=1000000:=by have:=HN.out;omega
  have ewc:IntKind.i64.wrap (fm+(hs3.length:Int)+2+(hs4.length:Int))=fm+(hs3.length:Int)+2+(hs4.length:Int):=wj;obtain⟨ys7,HY7⟩:∃ys,Hid (ys=ys6++[(⟨3,fm+(hs3.length:Int)+2+(hs4.length:Int),0,0,none,0,[]⟩:Hin)]):=⟨_,lh rfl⟩;obtain⟨ys8,HY8⟩:∃ys,Hid (ys=ys7++hs4):=⟨_,lh rfl⟩;have hl7:Hid (ys7.length=2+hs3.length):=lh (by rw[HY7.out,List.length_append,hl6.out];simp;omega);have hl8:Hid (ys8.length=2+hs3.length+hs4.length):=lh (by rw[HY8.out,List.length_append,hl7.out]);have hc6:=H6.out.len
  go_wp2_with (first|(at_builtin;refine Q7 (w0:=w0) rfl _ _ _ rfl iI Tryz.underlying31 jI0 jI1 jI2 jI3 A6 c6 ys6 rfl (H6.out.up (Ext.alloc w6 _)) _ 1 [⟨3,fm+(hs3.length:Int)+2+(hs4.length:Int),0,0,none,0,[]⟩] rfl (KV (Blk.new _ _ _)) (fun h hh=>by rw[List.mem_singleton.1 hh];exact ZJ.plain w0 (by simp only[I64];omega)) (by have:=hl6.out;simp only[List.length_singleton];omega) ys7 HY7.out ?_;intro A7 c7 w7 h7 x7 hr7 hg7;have H7:=lh h7;have HX7:=lh x7;clear h7 x7 hr7 hg7)|(at_builtin;refine Q7 (w0:=w0) rfl _ _ _ rfl iI Tryz.underlying31 jI0 jI1 jI2 jI3 A7 c7 ys7 rfl H7.out A4 c4 hs4 rfl (QQ.cells (H4.out.up HX7.out).own) H4.out.ok (by have:=hl7.out;omega) ys8 HY8.out ?_;intro A9 c9 w9 h9 x9 hr9 hg9))
  go_ret
  exact⟨A9,c9,ys8,rfl,by have:=hl8.out;have:=hl4;have:=HN.out;omega,(h9.low X4).low E0⟩
 | succ m ih=>
  intro w x0 A c l K kc ks mn mx md nn neg fm hm hkl hcl hks hf hfB;obtain⟨iI,jI0,jI1,jI2,jI3⟩:=info_parts qM;have B0:=Blk.new w 26 #[.int .i64 3,.slice A l.length c,.slice K ks.length kc,.int .i64 mn,.int .i64 mx,.int .i64 md,.int .i64 nn,.bool neg];have E0:=Ext.alloc w (.cells #[.int .i64 3,.slice A l.length c,.slice K ks.length kc,.int .i64 mn,.int .i64 mx,.int .i64 md,.int .i64 nn,.bool neg] 26);have HIH:=lh IH;have HIM:=lh ih;clear ih;have HC:=lh hcl;have HK:=lh hks;have HKL:ks.length<=kc/\kc<=9223372036854775807:=⟨hkl.1,by have:=hkl.2;unfold maxLen at this;omega⟩;have hm0:B*1<=B*ks.length:=ZR om;have hm2:B*2<=B*ks.length:=ZR om;have hlt0:(0:Int)<ks.length:=om;have hlt1:(1:Int)<ks.length:=om;have hlt0n:0<ks.length:=om;have hlt1n:1<ks.length:=om;have HM:=lh hm;clear hm;obtain⟨b,o,hK,n,ht,k0,k1,k2,k3,k4,k5,k6,k7⟩:=VL (x0.trans E0) hcl hks hlt0n;obtain⟨b',o',hK',n',ht',j0,j1,j2,j3,j4,j5,j6,j7⟩:=VL (x0.trans E0) hcl hks hlt1n;subst hK;injection hK' with hK';injection hK' with e1 e2 _
  subst e1;subst e2;simp only[Nat.zero_mul,Nat.add_zero] at k0 k1 k2 k3 k4 k5 k6 k7;simp only[Nat.one_mul] at j0 j1 j2 j3 j4 j5 j6 j7;have HT:=lh ht;have HT':=lh ht';have ewp:IntKind.i64.wrap (fm+1)=fm+1:=wj;clear hcl hks hkl ht ht';go_enter Tryz.func65,Tryz.ntmps65
  go_upto_region 1 with fail
  obtain⟨gx,hgx⟩:∃gx,gx=w.heap.size:=⟨_,rfl⟩
  rw[<-hgx] at B0 ⊢;clear hgx;generalize w.alloc (.cells #[.int .i64 3,.slice A l.length c,.slice (some ⟨b,o,none⟩) ks.length kc,.int .i64 mn,.int .i64 mx,.int .i64 md,.int .i64 nn,.bool neg] 26)=wa at *;have z0:wa.cell? ⟨gx,0,none⟩=some (.int .i64 3):=B0.cell 0;have z2:wa.cell? ⟨gx,2,none⟩=some (.slice (some ⟨b,o,none⟩) ks.length kc):=B0.cell 2;have X0:=x0.trans E0
  go_upto_region 14 with(go_at_call 65;refine(HIH.out wa _ X0 HT.out (fm+1) om om).mono ?_;rintro e w3 ⟨A3,c3,hs3,rfl,hl3,h3⟩)
  have x3:=h3.ext;have HX3:=lh (X0.trans x3);have H3:=lh h3;have hc3:=h3.len;have z23:=x3.cell z2;have j03:=x3.cell j0;have j13:=x3.cell j1;have j23:=x3.cell j2;have j33:=x3.cell j3;have j43:=x3.cell j4;have j53:=x3.cell j5;have j63:=x3.cell j6;have j73:=x3.cell j7;clear h3 k0 k1 k2 k3 k4 k5 k6 k7 j0 j1 j2 j3 j4 j5 j6 j7
  go_upto_region 15 with fail
  have hgt:(2:Int)<(ks.length:Int):=by have:=HM.out;omega
  have E8:=Ext.alloc w3 (.cells #[.int .i64 n'.op,.slice n'.A n'.l.length n'.c,.slice n'.K n'.ks.length n'.kc,.int .i64 n'.mn,.int .i64 n'.mx,.int .i64 n'.md,.int .i64 n'.n,.bool n'.neg] 26);have B8:=Blk.new w3 26 #[.int .i64 n'.op,.slice n'.A n'.l.length n'.c,.slice n'.K n'.ks.length n'.kc,.int .i64 n'.mn,.int .i64 n'.mx,.int .i64 n'.md,.int .i64 n'.n,.bool n'.neg];have z2b:=E8.cell z23;obtain⟨g8,hg8⟩:∃g,g=w3.heap.size:=⟨_,rfl⟩
  rw[<-hg8] at B8 ⊢;have hg8w:w3.heap.size<=g8:=om;clear hg8;generalize w3.alloc (.cells #[.int .i64 n'.op,.slice n'.A n'.l.length n'.c,.slice n'.K n'.ks.length n'.kc,.int .i64 n'.mn,.int .i64 n'.mx,.int .i64 n'.md,.int .i64 n'.n,.bool n'.neg] 26)=wb at *;obtain⟨y0,y1,y2,y3,y4,y5,y6,y7⟩:wb.cell? ⟨g8,0,none⟩=some (.int .i64 n'.op)/\wb.cell? ⟨g8,1,none⟩=some (.slice n'.A n'.l.length n'.c)/\wb.cell? ⟨g8,2,none⟩=some (.slice n'.K n'.ks.length n'.kc)/\wb.cell? ⟨g8,3,none⟩=some (.int .i64 n'.mn)/\
   wb.cell? ⟨g8,4,none⟩=some (.int .i64 n'.mx)/\wb.cell? ⟨g8,5,none⟩=some (.int .i64 n'.md)/\wb.cell? ⟨g8,6,none⟩=some (.int .i64 n'.n)/\wb.cell? ⟨g8,7,none⟩=some (.bool n'.neg):=⟨B8.cell 0,B8.cell 1,B8.cell 2,B8.cell 3,B8.cell 4,B8.cell 5,B8.cell 6,B8.cell 7⟩
  obtain⟨f0,f1,f2,f3,f4,f5,f6,f7⟩:=Kj B8
  go_upto_region 17 with fail
  obtain⟨kt,HKT⟩:∃kt,Hid (kt=ks.tail):=⟨_,lh rfl⟩;have elt:ks.length-1=kt.length:=by rw[HKT.out];simp
  rw[elt];have HEL:=lh elt;clear elt;have hb9:=ZI B8 (⟨3,none,0,[],some ⟨b,o+8,none⟩,kc-1,kt,0,0,0,0,false⟩:Nd);have hx9:=CE (a:=w3) E8 om (⟨3,none,0,[],some ⟨b,o+8,none⟩,kc-1,kt,0,0,0,0,false⟩:Nd);change Code.wp _ _ _ _ (WW wb g8 (⟨3,none,0,[],some ⟨b,o+8,none⟩,kc-1,kt,0,0,0,0,false⟩:Nd));clear y0 y1 y2 y3 y4 y5 y6 y7 f0 f1 f2 f3 f4 f5 f6 f7 z2b;generalize WW wb g8 (⟨3,none,0,[],some ⟨b,o+8,none⟩,kc-1,kt,0,0,0,0,false⟩:Nd)=wc at *;clear E8 B8;obtain⟨y0,y1,y2,y3,y4,y5,y6,y7⟩:=Wk hb9
  try simp only[List.length_nil] at y1
  have xb:=hx9;have hmm:ks.length=m+1+2:=HM.out;have hmm2:kt.length=m+2:=by have:=HEL.out;omega
  have hme:=qF B kt.length;have hme2:B*(kt.length+1)=B*ks.length:=by rw[hmm,hmm2]
  have HREC:=lh (HIM.out wc (HX3.out.trans xb) none 0 [] (some ⟨b,o+8,none⟩) (kc-1) kt 0 0 0 0 false (fm+(hs3.length:Int)+2) hmm2 (by have:=HEL.out;have:=HKL;unfold maxLen;omega) (MH HC.out HK.out HKT.out (by intro e;rw[e] at hmm;simp at hmm)) (fun u hu=>HK.out u (by rw[HKT.out] at hu;exact List.mem_of_mem_tail hu)) om om);have HN:Hid (B+B*kt.length=B*ks.length):=lh om;clear hmm hmm2 hme hme2;simp only[List.length_nil] at HREC;have ewa:IntKind.i64.wrap (fm+(hs3.length:Int))=fm+(hs3.length:Int):=wj;have ewb:IntKind.i64.wrap (fm+(hs3.length:Int)+2)=fm+(hs3.length:Int)+2:=wj
  go_upto_region 18 with(go_at_call 65;refine(HREC.out.mono ?_);rintro e w4 ⟨A4,c4,hs4,rfl,hl4,h4⟩)
  have x4:=h4.ext;have H4:=lh h4;have hc4:=h4.len;have X4:Ext wa w4:=x3.trans (xb.trans x4);have H34:=lh (H3.out.up (xb.trans x4));clear h4 HREC z23;obtain⟨ys5,HY5⟩:∃ys,Hid (ys=[]++[(⟨2,fm+1,fm+(hs3.length:Int)+2,0,none,0,[]⟩:Hin)]):=⟨_,lh rfl⟩;obtain⟨ys6,HY6⟩:∃ys,Hid (ys=ys5++hs3):=⟨_,lh rfl⟩;have hl5:Hid (ys5.length=1):=lh (by rw[HY5.out];rfl);have hl6:Hid (ys6.length=1+hs3.length):=lh (by rw[HY6.out,List.length_append,hl5.out])
  go_upto_region 19 with(first|(at_builtin;refine Q7 (w0:=w0) rfl _ _ _ rfl iI Tryz.underlying31 jI0 jI1 jI2 jI3 none 0 [] rfl (CdI.nil (Ext.alloc w4 _)) _ 1 [⟨2,fm+1,fm+(hs3.length:Int)+2,0,none,0,[]⟩] rfl (KV (Blk.new _ _ _)) (fun h hh=>by rw[List.mem_singleton.1 hh];exact ZJ.plain w0 (by simp only[I64];omega)) si ys5 HY5.out ?_;intro A5 c5 w5 h5 x5 hr5 hg5;have H5:=lh h5;have HX5:=lh x5;have x45:=(Ext.alloc w4 _).grown hg5 si)|(at_builtin;refine Q7 (w0:=w0) rfl _ _ _ rfl iI Tryz.underlying31 jI0 jI1 jI2 jI3 A5 c5 ys5 rfl H5.out A3 c3 hs3 rfl (QQ.cells (H34.out.up x45).own) H34.out.ok (by have:=hl5.out;omega) ys6 HY6.out ?_;intro A6 c6 w6 h6 x6 hr6 hg6))
  have H6:=lh h6;have HX6:=lh x6;clear h6 hr6 hg6 hg5 hr5 h5 x5 x45 H5 HX5;have hfL:fm+(hs3.length:Int)+2+(hs4.length:Int)<=1000000:=by have:=HN.out;omega
  have ewc:IntKind.i64.wrap (fm+(hs3.length:Int)+2+(hs4.length:Int))=fm+(hs3.length:Int)+2+(hs4.length:Int):=wj;obtain⟨ys7,HY7⟩:∃ys,Hid (ys=ys6++[(⟨3,fm+(hs3.length:Int)+2+(hs4.length:Int),0,0,none,0,[]⟩:Hin)]):=⟨_,lh rfl⟩;obtain⟨ys8,HY8⟩:∃ys,Hid (ys=ys7++hs4):=⟨_,lh rfl⟩;have hl7:Hid (ys7.length=2+hs3.length):=lh (by rw[HY7.out,List.length_append,hl6.out];simp;omega);have hl8:Hid (ys8.length=2+hs3.length+hs4.length):=lh (by rw[HY8.out,List.length_append,hl7.out]);have hc6:=H6.out.len
  go_wp2_with (first|(at_builtin;refine Q7 (w0:=w0) rfl _ _ _ rfl iI Tryz.underlying31 jI0 jI1 jI2 jI3 A6 c6 ys6 rfl (H6.out.up (Ext.alloc w6 _)) _ 1 [⟨3,fm+(hs3.length:Int)+2+(hs4.length:Int),0,0,none,0,[]⟩] rfl (KV (Blk.new _ _ _)) (fun h hh=>by rw[List.mem_singleton.1 hh];exact ZJ.plain w0 (by simp only[I64];omega)) (by have:=hl6.out;simp only[List.length_singleton];omega) ys7 HY7.out ?_;intro A7 c7 w7 h7 x7 hr7 hg7;have H7:=lh h7;have HX7:=lh x7;clear h7 x7 hr7 hg7)|(at_builtin;refine Q7 (w0:=w0) rfl _ _ _ rfl iI Tryz.underlying31 jI0 jI1 jI2 jI3 A7 c7 ys7 rfl H7.out A4 c4 hs4 rfl (QQ.cells (H4.out.up HX7.out).own) H4.out.ok (by have:=hl7.out;omega) ys8 HY8.out ?_;intro A9 c9 w9 h9 x9 hr9 hg9))
  go_ret
  exact⟨A9,c9,ys8,rfl,by have:=hl8.out;have:=hl4;have:=HN.out;omega,(h9.low X4).low E0⟩
theorem BD {P:Program}{w0 base w:World}{T:Nat}{o:Oper}{a:Act}{K:Act->World->Prop}{Q:Exit->Act->World->Prop}(s x:Operand)(t:Nat)
 (ho:o.op=.call { callee:=.builtin .append,args:=#[s,x],argTypes:=#[t,t] })
 (i:TypeInfo) (ht:P.underlying t=some (.slice T)) (hi:P.info? T=some i) (hz:i.zero=some (.agg #[.int .i64 0,.int .i64 0,.int .i64 0,.int .i64 0,.slice none 0 0]))
 (hsize:i.size=5) (hby:i.bytes=56)
 (A:Option Addr) (c:Nat) (hs:List Hin) (hA:a.eval s=.slice A hs.length c) (hown:CdI w0 base w T A c hs)
 (B:Option Addr) (d:Nat) (ks:List Hin) (hx:a.eval x=.slice B ks.length d) (hr:QP w B (QT ks)) (hok:∀h∈ks,ZJ w0 h)
 (hb:hs.length+ks.length<=1000000) (ys:List Hin) (hys:ys=hs++ks)
 (h:∀A' c' w',CdI w0 base w' T A' c' ys->(∀b,A.map (·.block)=some b->base.heap.size<=b)->w.grownBy w' (A.map (·.block))->(A'.map (·.block)=A.map (·.block)\/A'.map (·.block)=some w.heap.size)->K (a.put o.dst (.slice A' ys.length c')) w'):o.wp P a w K Q:=by
 have hrow:=QQ.row hown.own;refine VT _ s x t ho base.heap.size T i _ 5 56 ht hi hz hsize hby rfl om A hs.length c (QT hs) hA hown.own B ks.length d (QT ks) hx (JG ks) hr (vJ ks) um om hown.ext.size ?_;intro A' c' w' ho' hg' hat';have hx':=hown.ext.grown hg' hrow;have hl:ys.length=hs.length+ks.length:=by rw[hys];simp
 rw[<-hl];refine h A' c' w' ⟨?_,?_,hx'⟩ hrow hg' hat'
 ·rw[hl,hys,qE];exact ho'
 ·rw[hys];intro z hz;rcases List.mem_append.1 hz with hz|hz
  ·exact hown.ok z hz
  ·exact hok z hz
theorem bJ (w0:World)(bd:Nat)(S:Nat->Prop)(d B:Nat)(IH:VI bd S w0 d B)(hB:2<=B)(w:World)(x0:Ext w0 w)(A:Option Addr)(c:Nat)(l:List Sp)(K:Option Addr)(kc:Nat)(ks:List Value)(mn mx md nn:Int)(neg:Bool)(fm:Int)
 (hn:0<=nn/\nn<=9) (h1k:1<=ks.length) (hkl:ks.length<=kc/\kc<=maxLen) (hcl:QP w0 K (ks.flatMap Q8)) (hks:∀u∈ks,Qx bd S w0 d u) (hf:0<=fm) (hfB:fm+(B:Nat)+2<=1000000) :
 Calls Tryz.prog 65 #[.agg #[.int .i64 5,.slice A l.length c,.slice K ks.length kc,.int .i64 mn,.int .i64 mx,.int .i64 md,.int .i64 nn,.bool neg],.int .i64 fm] w (JT 123 w0 (B+2) w):=by
 obtain⟨iI,jI0,jI1,jI2,jI3⟩:=info_parts qM;have B0:=Blk.new w 26 #[.int .i64 5,.slice A l.length c,.slice K ks.length kc,.int .i64 mn,.int .i64 mx,.int .i64 md,.int .i64 nn,.bool neg];have E0:=Ext.alloc w (.cells #[.int .i64 5,.slice A l.length c,.slice K ks.length kc,.int .i64 mn,.int .i64 mx,.int .i64 md,.int .i64 nn,.bool neg] 26);have HIH:=lh IH;have HKL:ks.length<=kc/\kc<=9223372036854775807:=⟨hkl.1,by have:=hkl.2;unfold maxLen at this;omega⟩;have hlt0:(0:Int)<ks.length:=om;have hlt0n:0<ks.length:=om;obtain⟨b,o,hK,n,ht,k0,k1,k2,k3,k4,k5,k6,k7⟩:=VL (x0.trans E0) hcl hks (i:=0) om;subst hK;simp only[Nat.zero_mul,Nat.add_zero] at k0 k1 k2 k3 k4 k5 k6 k7;have HT:=lh ht;have ewp:IntKind.i64.wrap (fm+1)=fm+1:=wj;have ew1:IntKind.i64.wrap (2*nn)=2*nn:=wj;have ew2:IntKind.i64.wrap (2*nn-2)=2*nn-2:=wj;have ew3:IntKind.i64.wrap (2*nn-1)=2*nn-1:=wj;clear hcl hks hkl ht IH h1k;go_enter Tryz.func65,Tryz.ntmps65
 go_upto_region 1 with fail
 obtain⟨gx,hgx⟩:∃gx,gx=w.heap.size:=⟨_,rfl⟩
 rw[<-hgx] at B0 ⊢;clear hgx;generalize w.alloc (.cells #[.int .i64 5,.slice A l.length c,.slice (some ⟨b,o,none⟩) ks.length kc,.int .i64 mn,.int .i64 mx,.int .i64 md,.int .i64 nn,.bool neg] 26)=wa at *;have X0:=x0.trans E0;have HX0:=lh X0;have z0:wa.cell? ⟨gx,0,none⟩=some (.int .i64 5):=B0.cell 0;have z2:wa.cell? ⟨gx,2,none⟩=some (.slice (some ⟨b,o,none⟩) ks.length kc):=B0.cell 2;have z6:wa.cell? ⟨gx,6,none⟩=some (.int .i64 nn):=B0.cell 6;have HE0:=lh E0
 go_upto_region 21 with fail
 have q2:=kc0 z2;have q6:=kc0 z6;have qk0:=kc0 k0;have qk1:=kc0 k1;have qk2:=kc0 k2;have qk3:=kc0 k3;have qk4:=kc0 k4;have qk5:=kc0 k5;have qk6:=kc0 k6;have qk7:=kc0 k7;obtain⟨ys9,HY9⟩:∃ys,Hid (ys=[]++[(⟨4,0,0,2*nn-2,none,0,[]⟩:Hin)]):=⟨_,lh rfl⟩;have hl9:Hid (ys9.length=1):=lh (by rw[HY9.out];rfl);refine Xr.start [] kr ?_;refine Xtk 0 ?_
 iterate 5(refine Xtn ?_)
 refine Xtk 8 ?_
 iterate 5(refine Xtn ?_)
 refine Xr.lazy 6 108 7 (fun g=>.slice (some ⟨g,0,none⟩) 1 1) 123 #[.int .i64 4,.int .i64 0,.int .i64 0,.int .i64 (2*nn-2),.slice none 0 0] rfl si dK si (fun w'=>by go_simp) ?_;refine Xr.stepZ rfl dK (fun _=>by rfl) (fun w4 g6 hE4 hK4 hg6 hB6 hno K hKK=>?_);refine BD (w0:=w0) (base:=wa) _ _ _ rfl iI Tryz.underlying31 jI0 jI1 jI2 jI3 none 0 [] rfl (CdI.nil hK4.nil) _ 1 [⟨4,0,0,2*nn-2,none,0,[]⟩] rfl (KV hB6) (fun h hh=>by rw[List.mem_singleton.1 hh];exact ZJ.plain w0 (by simp only[I64];omega)) si ys9 HY9.out ?_;intro A7 c7 w7 h7 hr7 hg7 hat7;have x47:Ext w4 w7:=(Ext.rfl' w4).grown hg7 si;refine hKK _ _ (KpP.of_ext x47) (hK4.ext x47) ?_;clear hKK;refine ptm ?_;refine Xcl 14 fun w10 hE10 hK10 K hKK=>?_;go_simp;refine(HIH.out w10 _ (HX0.out.trans hK10.nil) HT.out (fm+1) om om).mono ?_;rintro e w11 ⟨A14,c14,hs14,rfl,hl14,h14⟩;refine hKK _ _ h14.ext ?_;clear hKK;refine ptm ?_;have x1011:=h14.ext;obtain⟨ys10,HY10⟩:∃ys,Hid (ys=ys9++hs14):=⟨_,lh rfl⟩;have hl10:Hid (ys10.length=1+hs14.length):=lh (by rw[HY10.out,List.length_append,hl9.out]);have hup7:∀k,A7.map (·.block)=some k->k<w7.heap.size:=fun k hk=>(QQ.blt h7.own hk).1;refine Xsp 15 fun w12 hE12 hK12 K hKK=>?_;refine BD (w0:=w0) (base:=wa) _ _ _ rfl iI Tryz.underlying31 jI0 jI1 jI2 jI3 A7 c7 ys9 rfl (h7.up (hE10.trans (x1011.trans hE12))) A14 c14 hs14 rfl (QQ.cells (h14.up hE12).own) h14.ok (by have:=hl9.out;omega) ys10 HY10.out ?_;intro A15 c15 w15 h15 hr15 hg15 hat15;refine hKK _ _ (YQ hg15 (fun i hi=>.inr ⟨(w4.heap.size,w7.heap.size),by simp,by rcases hat7 with h|h<;>rw[h] at hi<;>simp at hi;omega,hup7 i hi⟩)) (Kp.of_ext h15.ext) ?_
 clear hKK;refine ptm ?_;refine Xtk 16 ?_;refine Xdn fun w16 hE16 hK16=>?_;have H16:=lh (h15.up hE16);have z6c:=q6 w16 hK16;clear h15 hg15 hr15 hat15 h14 h7 hg7 hr7 hat7 x47 hE4 hK4 hE10 hK10 hE12 hK12 hup7;have hc16:=H16.out.len;obtain⟨ys11,HY11⟩:∃ys,Hid (ys=ys10++[(⟨4,0,0,2*nn-1,none,0,[]⟩:Hin)]):=⟨_,lh rfl⟩;have hl11:Hid (ys11.length=2+hs14.length):=lh (by rw[HY11.out,List.length_append,hl10.out];simp;omega)
 go_wp2_with (at_builtin;refine Q7 (w0:=w0) rfl _ _ _ rfl iI Tryz.underlying31 jI0 jI1 jI2 jI3 A15 c15 ys10 rfl (H16.out.up (Ext.alloc w16 _)) _ 1 [⟨4,0,0,2*nn-1,none,0,[]⟩] rfl (KV (Blk.new _ _ _)) (fun h hh=>by rw[List.mem_singleton.1 hh];exact ZJ.plain w0 (by simp only[I64];omega)) (by have:=hl10.out;simp only[List.length_singleton];omega) ys11 HY11.out ?_;intro A17 c17 w17 h17 x17 hr17 hg17)
 go_ret
 exact⟨A17,c17,ys11,rfl,by have:=hl11.out;omega,h17.low HE0.out⟩
def ZV (w:World)(g:Nat)(h:Hin):World:=
 (((((w.setCell ⟨g,0,none⟩ (.int .i64 h.op)).setCell ⟨g,1,none⟩ (.int .i64 h.x)).setCell ⟨g,2,none⟩ (.int .i64 h.y)).setCell ⟨g,3,none⟩ (.int .i64 h.n)).setCell ⟨g,4,none⟩ (.slice h.A h.l.length h.c))
def Hin.cs (h:Hin):Array Value:=#[.int .i64 h.op,.int .i64 h.x,.int .i64 h.y,.int .i64 h.n,.slice h.A h.l.length h.c]
theorem VC {w:World}{g T:Nat}{a0 a1 a2 a3 a4:Value}(h:Blk w g T #[a0,a1,a2,a3,a4])(n:Hin):Blk (ZV w g n) g T n.cs:=by
 have h:=(((((h.set 0 (.int .i64 n.op)).set 1 (.int .i64 n.x)).set 2 (.int .i64 n.y)).set 3 (.int .i64 n.n)).set 4 (.slice n.A n.l.length n.c))
 simpa[ZV,Hin.cs] using h
theorem JV {a w:World}{g:Nat}(h:Ext a w)(hg:a.heap.size<=g)(n:Hin):Ext a (ZV w g n):=
 (((((h.setNew (p:=⟨g,0,none⟩) hg _).setNew (p:=⟨g,1,none⟩) hg _).setNew (p:=⟨g,2,none⟩) hg _).setNew (p:=⟨g,3,none⟩) hg _).setNew (p:=⟨g,4,none⟩) hg _)
theorem Jj {w:World}{g T:Nat}{n:Hin}(h:Blk w g T n.cs):w.cell? ⟨g,0,none⟩=some (.int .i64 n.op)/\w.cell? ⟨g,1,none⟩=some (.int .i64 n.x)/\w.cell? ⟨g,2,none⟩=some (.int .i64 n.y)/\w.cell? ⟨g,3,none⟩=some (.int .i64 n.n)/\w.cell? ⟨g,4,none⟩=some (.slice n.A n.l.length n.c):=
 ⟨h.cell 0,h.cell 1,h.cell 2,h.cell 3,h.cell 4⟩
theorem XF {w:World}{g T:Nat}{cs:Array Value}(h:Blk w g T cs):w.frozen? ⟨g,0,none⟩=false/\w.frozen? ⟨g,1,none⟩=false/\w.frozen? ⟨g,2,none⟩=false/\w.frozen? ⟨g,3,none⟩=false/\w.frozen? ⟨g,4,none⟩=false:=
 ⟨h.frz 0,h.frz 1,h.frz 2,h.frz 3,h.frz 4⟩
theorem eL {P:Prop} (h:P:=by
 have H6:=lh h6;have z26:=x6.cell z2;obtain⟨b',o',hK',n,ht,k0,k1,k2,k3,k4,k5,k6,k7⟩:=VL (HX0.out.trans x6) HC.out HK.out hlt0n;injection hK' with hK';injection hK' with e1 e2 _
 subst e1;subst e2;simp only[Nat.zero_mul,Nat.add_zero] at k0 k1 k2 k3 k4 k5 k6 k7;have HT:=lh ht;have HX6:=lh (HX0.out.trans x6);have HX16:=lh x6;clear ht h6 x6 hr6 hg6 y0 y1 y2 y3 y4 bn HIn;have hc6:=H6.out.len
 go_wp2_with (first|(go_at_call 65;refine(HIH.out w6 _ HX6.out HT.out (fm+(hs.length:Int)+1) om om).mono ?_;rintro e w7 ⟨A7,c7,hs7,rfl,hl7,h7⟩;have H7:=lh h7;have hc7:=h7.len;have x7:=h7.ext;clear h7)|(at_builtin;obtain⟨ys2,HY2⟩:∃ys,Hid (ys=ys1++hs7):=⟨_,lh rfl⟩;refine Q7 rfl _ _ _ rfl iI Tryz.underlying31 jI0 jI1 jI2 jI3 A6 c6 ys1 rfl (H6.out.up x7) A7 c7 hs7 rfl (QQ.cells H7.out.own) H7.out.ok (by have:=hl1.out;omega) ys2 HY2.out ?_;intro A8 c8 w8 h8 x8 hr8 hg8;have H8:=lh h8;have HX8:=lh x8;clear h8 hg8 hr8 x8))
 have hyl:ys2.length=hs.length+1+hs7.length:=by rw[HY2.out,List.length_append,hl1.out]
 go_roundw
 case rel=>exact⟨k+1,A8,c8,ys2,by go_num,rfl,om,.inr om,om,HX8.out,H8⟩
 case measure=>simp[intOf];omega):P:=h
theorem eN {P:Prop} (h:P:=by
 have H7:=lh h7;have hc7:=h7.len;clear h7 x7 hr7 hg7 H6 HG6 HIn H8n y0 y1 y2 y3 y4 bn
 go_wp2_with (at_builtin;refine Q7 (w0:=w0) rfl _ _ _ rfl iI Tryz.underlying31 jI0 jI1 jI2 jI3 A7 c7 ys2 rfl (H7.out.up (Ext.alloc w7 _)) _ 1 [⟨3,fm+(hs.length:Int),0,0,none,0,[]⟩] rfl (KV (Blk.new _ _ _)) (fun h hh=>by rw[List.mem_singleton.1 hh];exact ZJ.plain w0 (by simp only[I64];omega)) (by have:=hl2.out;simp only[List.length_singleton];omega) ys3 HY3.out ?_;intro A9 c9 w9 h9 x9 hr9 hg9)
 go_ret
 exact⟨A9,c9,ys3,rfl,by have h3:=hl3.out;have h8:=hl8;exact(Nat.eq_zero_or_pos m).elim (fun e=>by rw[e] at hlm;omega) (fun e=>om),h9.low HE0.out⟩):P:=h
theorem SM (w0:World)(bd:Nat)(S:Nat->Prop)(d B:Nat)(IH:VI bd S w0 d B)(hB:2<=B)(hbd:2<=bd)(w:World)(x0:Ext w0 w)(A:Option Addr)(c:Nat)(l:List Sp)(K:Option Addr)(kc:Nat)(ks:List Value)(m:Nat)(mx md nn:Int)(neg:Bool)(fm:Int)
 (ht4:Qx bd S w0 (d+1) (.agg #[.int .i64 4,.slice A l.length c,.slice K ks.length kc,.int .i64 (m:Int),.int .i64 mx,.int .i64 md,.int .i64 nn,.bool neg])) (h1k:1<=ks.length) (hm:m<=bd) (hmx : -1<=mx/\mx<=bd) (hmm:mx = -1->m+1<=bd) (hmd:0<=md/\md<=1) (hkl:ks.length<=kc/\kc<=maxLen) (hcl:QP w0 K (ks.flatMap Q8)) (hks:∀u∈ks,Qx bd S w0 d u) (hf:0<=fm) (hfB:fm+(B*bd:Nat)<=1000000) :
 Calls Tryz.prog 112 #[.agg #[.int .i64 4,.slice A l.length c,.slice K ks.length kc,.int .i64 (m:Int),.int .i64 mx,.int .i64 md,.int .i64 nn,.bool neg],.int .i64 fm] w (JT 123 w0 (B*bd) w):=by
 obtain⟨iI,jI0,jI1,jI2,jI3⟩:=info_parts qM;have B0:=Blk.new w 26 #[.int .i64 4,.slice A l.length c,.slice K ks.length kc,.int .i64 (m:Int),.int .i64 mx,.int .i64 md,.int .i64 nn,.bool neg];have E0:=Ext.alloc w (.cells #[.int .i64 4,.slice A l.length c,.slice K ks.length kc,.int .i64 (m:Int),.int .i64 mx,.int .i64 md,.int .i64 nn,.bool neg] 26);have HIH:=lh IH;have HC:=lh hcl;have HK:=lh hks;have HT4:=lh ht4;have HMM:=lh hmm;have HKL:ks.length<=kc/\kc<=9223372036854775807:=⟨hkl.1,by have:=hkl.2;unfold maxLen at this;omega⟩;have hlt0:(0:Int)<ks.length:=om;have hlt0n:0<ks.length:=om;have hBm:B*m<=B*bd:=ZR hm;have hB2:B*2<=B*bd:=ZR hbd;obtain⟨b,o,hK⟩:∃b o,K=some ⟨b,o,none⟩:=by
  obtain⟨b,o,hK,_⟩:=VL (x0.trans E0) hcl hks (i:=0) om;exact⟨b,o,hK⟩
 subst hK;clear hcl hks hkl IH h1k ht4 hmm;go_enter Tryz.func112,Tryz.ntmps112
 go_upto_region 1 with fail
 obtain⟨gx,hgx⟩:∃gx,gx=w.heap.size:=⟨_,rfl⟩
 rw[<-hgx] at B0 ⊢;clear hgx;generalize w.alloc (.cells #[.int .i64 4,.slice A l.length c,.slice (some ⟨b,o,none⟩) ks.length kc,.int .i64 (m:Int),.int .i64 mx,.int .i64 md,.int .i64 nn,.bool neg] 26)=wa at *;have X0:=x0.trans E0;have HX0:=lh X0;have z2:wa.cell? ⟨gx,2,none⟩=some (.slice (some ⟨b,o,none⟩) ks.length kc):=B0.cell 2;have z3:wa.cell? ⟨gx,3,none⟩=some (.int .i64 (m:Int)):=B0.cell 3;have z4:wa.cell? ⟨gx,4,none⟩=some (.int .i64 mx):=B0.cell 4;have z5:wa.cell? ⟨gx,5,none⟩=some (.int .i64 md):=B0.cell 5;have HB0:=lh B0;have HE0:=lh E0;clear B0 E0 X0
 go_upto_region 3 with fail
 go_loopw [6,5] (fun v6 v5 wr=>∃(i:Nat) (A5:Option Addr) (c5:Nat) (hs:List Hin),v6=.int .i64 i/\v5=.slice A5 hs.length c5/\i<=m/\hs.length+2*i<=B*i/\Ext wa wr/\Hid (CdI w0 wa wr 123 A5 c5 hs)) (fun v _ _=>m-(intOf v).toNat)
 case atStart=>exact⟨0,none,0,[],rfl,rfl,om,by simp,Ext.rfl' _,lh (CdI.nil (Ext.rfl' wa))⟩
 case round=>
  obtain⟨i,A5,c5,hs,rfl,rfl,hi,hlen,x1,HI⟩:=hrel;have hcaps:=HI.out.len;have z2r:=x1.cell z2;have z3r:=x1.cell z3;have z4r:=x1.cell z4;have z5r:=x1.cell z5;obtain⟨b',o',hK',n,ht,k0,k1,k2,k3,k4,k5,k6,k7⟩:=VL (HX0.out.trans x1) HC.out HK.out hlt0n;injection hK' with hK';injection hK' with e1 e2 _
  subst e1;subst e2;simp only[Nat.zero_mul,Nat.add_zero] at k0 k1 k2 k3 k4 k5 k6 k7;have HT:=lh ht;have HXR:=lh (HX0.out.trans x1);have ewp:IntKind.i64.wrap (fm+(hs.length:Int))=fm+(hs.length:Int):=by have:=ZR (B:=B) hi;rw[IntKind.wrap_i64];omega
  clear ht;by_cases hlt:i<m
  ·have hiI:(i:Int)<(m:Int):=om;have hm1:=qF B i;have hm2:B*(i+1)<=B*m:=ZR hlt
   go_wp2_with (first|(go_at_call 65;refine(HIH.out wr _ HXR.out HT.out (fm+(hs.length:Int)) om om).mono ?_;rintro e w3 ⟨A3,c3,hs3,rfl,hl3,h3⟩;have H3:=lh h3;have hc3:=h3.len;have x3:=h3.ext;clear h3)|(at_builtin;obtain⟨ys,HY⟩:∃ys,Hid (ys=hs++hs3):=⟨_,lh rfl⟩;refine Q7 rfl _ _ _ rfl iI Tryz.underlying31 jI0 jI1 jI2 jI3 A5 c5 hs rfl (HI.out.up x3) A3 c3 hs3 rfl (QQ.cells H3.out.own) H3.out.ok om ys HY.out ?_;intro A8 c8 w8 h8 x8 hr8 hg8;have H8:=lh h8;have HG8:=lh hg8;have HR8:=lh hr8;clear h8 hg8 hr8))
   have hyl:ys.length=hs.length+hs3.length:=by rw[HY.out];simp
   go_roundw
   case rel=>exact⟨i+1,A8,c8,ys,by go_num,rfl,om,om,(x1.trans x3).grown HG8.out (fun k hk=>HR8.out k hk),H8⟩
   case measure=>simp[intOf];omega
  ·have hiI:¬(i:Int)<(m:Int):=om;have hlm:hs.length+2*m<=B*m:=by
    have e:i=m:=om;rw[e] at hlen;exact hlen
   clear hlen;by_cases hm1:mx = -1
   ·subst hm1;have hm1b:m+1<=bd:=HMM.out rfl;have hBm1:B*(m+1)<=B*bd:=ZR hm1b;have hms:=qF B m;have hq:hs.length+1+B<=B*bd:=(Nat.eq_zero_or_pos m).elim (fun e=>by rw[e] at hlm;omega) (fun e=>om);have ewq:IntKind.i64.wrap (fm+(hs.length:Int)+1)=fm+(hs.length:Int)+1:=wj
    go_upto_region 9 with(go_at_call 65;refine(HIH.out wr _ HXR.out HT.out (fm+(hs.length:Int)+1) om om).mono ?_;rintro e w8 ⟨A8,c8,hs8,rfl,hl8,h8⟩)
    have x8:=h8.ext;have H8:=lh h8;have hc8:=h8.len;have z58:=x8.cell z5r;have ewe:IntKind.i64.wrap (fm+(hs.length:Int)+(hs8.length:Int))=fm+(hs.length:Int)+(hs8.length:Int):=wj;have ewf:IntKind.i64.wrap (fm+(hs.length:Int)+(hs8.length:Int)+2)=fm+(hs.length:Int)+(hs8.length:Int)+2:=wj;clear h8 k0 k1 k2 k3 k4 k5 k6 k7 z2r z3r z4r z5r;have XI:=Ext.alloc w8 (.cells #[.int .i64 2,.int .i64 (fm+(hs.length:Int)+1),.int .i64 (fm+(hs.length:Int)+(hs8.length:Int)+2),.int .i64 0,.slice none 0 0] 123);have BI:=Blk.new w8 123 #[.int .i64 2,.int .i64 (fm+(hs.length:Int)+1),.int .i64 (fm+(hs.length:Int)+(hs8.length:Int)+2),.int .i64 0,.slice none 0 0];have z5b:=XI.cell z58
    go_upto_region 11 with fail
    obtain⟨gI,hgI0⟩:∃g,g=w8.heap.size:=⟨_,rfl⟩
    rw[<-hgI0] at BI ⊢;have hgI:w8.heap.size<=gI:=om;clear hgI0;generalize w8.alloc (.cells #[.int .i64 2,.int .i64 (fm+(hs.length:Int)+1),.int .i64 (fm+(hs.length:Int)+(hs8.length:Int)+2),.int .i64 0,.slice none 0 0] 123)=wb at *;obtain⟨y0,y1,y2,y3,y4⟩:wb.cell? ⟨gI,0,none⟩=some (.int .i64 2)/\wb.cell? ⟨gI,1,none⟩=some (.int .i64 (fm+(hs.length:Int)+1))/\wb.cell? ⟨gI,2,none⟩=some (.int .i64 (fm+(hs.length:Int)+(hs8.length:Int)+2))/\wb.cell? ⟨gI,3,none⟩=some (.int .i64 0)/\wb.cell? ⟨gI,4,none⟩=some (.slice none 0 0):=⟨BI.cell 0,BI.cell 1,BI.cell 2,BI.cell 3,BI.cell 4⟩;by_cases hmd1:md=1
    ·subst hmd1;obtain⟨f0,f1,f2,f3,f4⟩:=XF BI
     go_upto_region 13 with fail
     have bn:=VC BI ⟨2,(fm+(hs.length:Int)+(hs8.length:Int)+2),(fm+(hs.length:Int)+1),0,none,0,[]⟩;have xn:=JV XI hgI ⟨2,(fm+(hs.length:Int)+(hs8.length:Int)+2),(fm+(hs.length:Int)+1),0,none,0,[]⟩;change Code.wp _ _ _ _ (ZV wb gI ⟨2,(fm+(hs.length:Int)+(hs8.length:Int)+2),(fm+(hs.length:Int)+1),0,none,0,[]⟩);clear y0 y1 y2 y3 y4 f0 f1 f2 f3 f4 BI XI;generalize ZV wb gI ⟨2,(fm+(hs.length:Int)+(hs8.length:Int)+2),(fm+(hs.length:Int)+1),0,none,0,[]⟩=wn at *;obtain⟨y0,y1,y2,y3,y4⟩:=Jj bn;simp only[List.length_nil] at y4;have HIn:=lh (HI.out.up (x8.trans xn));have H8n:=lh (H8.out.up xn);have HAP:Hid (∀b,A5.map (·.block)=some b->A8.map (·.block)=some b->False):=lh (fun b h1 h2=>by have h3:=(QQ.blt HI.out.own h1).1;have h4:=QQ.row H8.out.own b h2;omega);obtain⟨ys1,HY1⟩:∃ys,Hid (ys=hs++[(⟨2,(fm+(hs.length:Int)+(hs8.length:Int)+2),(fm+(hs.length:Int)+1),0,none,0,[]⟩:Hin)]):=⟨_,lh rfl⟩;obtain⟨ys2,HY2⟩:∃ys,Hid (ys=ys1++hs8):=⟨_,lh rfl⟩;obtain⟨ys3,HY3⟩:∃ys,Hid (ys=ys2++[(⟨3,fm+(hs.length:Int),0,0,none,0,[]⟩:Hin)]):=⟨_,lh rfl⟩;have hl1:Hid (ys1.length=hs.length+1):=lh (by rw[HY1.out,List.length_append];simp);have hl2:Hid (ys2.length=hs.length+1+hs8.length):=lh (by rw[HY2.out,List.length_append,hl1.out]);have hl3:Hid (ys3.length=hs.length+hs8.length+2):=lh (by rw[HY3.out,List.length_append,hl2.out];simp;omega)
     go_upto_region 14 with(first|(at_builtin;refine Q7 (w0:=w0) rfl _ _ _ rfl iI Tryz.underlying31 jI0 jI1 jI2 jI3 A5 c5 hs rfl (HIn.out.up (Ext.alloc wn _)) _ 1 [⟨2,(fm+(hs.length:Int)+(hs8.length:Int)+2),(fm+(hs.length:Int)+1),0,none,0,[]⟩] rfl (KV (Blk.new _ _ _)) (fun h hh=>by rw[List.mem_singleton.1 hh];exact ZJ.plain w0 (by simp only[I64];omega)) (by simp only[List.length_singleton];omega) ys1 HY1.out ?_;intro A6 c6 w6 h6 x6 hr6 hg6;have H6:=lh h6;have HG6:=lh hg6;clear h6 x6 hr6 hg6)|(at_builtin;refine Q7 (w0:=w0) rfl _ _ _ rfl iI Tryz.underlying31 jI0 jI1 jI2 jI3 A6 c6 ys1 rfl H6.out A8 c8 hs8 rfl (QQ.cells (QQ.kp (QQ.ext H8n.out.own (Ext.alloc wn _)) (KpP.of_grown HG6.out) (fun b h1 h2=>HAP.out b h2 h1))) H8n.out.ok (by have:=hl1.out;omega) ys2 HY2.out ?_;intro A7 c7 w7 h7 x7 hr7 hg7))
     exact eN
    ·have hmd0:(md == 1)=false:=by simp[hmd1]
     go_upto_region 13 with fail
     have bn:=BI;have xn:=XI;clear BI XI;generalize wb=wn at *;have HIn:=lh (HI.out.up (x8.trans xn));have H8n:=lh (H8.out.up xn);have HAP:Hid (∀b,A5.map (·.block)=some b->A8.map (·.block)=some b->False):=lh (fun b h1 h2=>by have h3:=(QQ.blt HI.out.own h1).1;have h4:=QQ.row H8.out.own b h2;omega);obtain⟨ys1,HY1⟩:∃ys,Hid (ys=hs++[(⟨2,(fm+(hs.length:Int)+1),(fm+(hs.length:Int)+(hs8.length:Int)+2),0,none,0,[]⟩:Hin)]):=⟨_,lh rfl⟩;obtain⟨ys2,HY2⟩:∃ys,Hid (ys=ys1++hs8):=⟨_,lh rfl⟩;obtain⟨ys3,HY3⟩:∃ys,Hid (ys=ys2++[(⟨3,fm+(hs.length:Int),0,0,none,0,[]⟩:Hin)]):=⟨_,lh rfl⟩;have hl1:Hid (ys1.length=hs.length+1):=lh (by rw[HY1.out,List.length_append];simp);have hl2:Hid (ys2.length=hs.length+1+hs8.length):=lh (by rw[HY2.out,List.length_append,hl1.out]);have hl3:Hid (ys3.length=hs.length+hs8.length+2):=lh (by rw[HY3.out,List.length_append,hl2.out];simp;omega)
     go_upto_region 14 with(first|(at_builtin;refine Q7 (w0:=w0) rfl _ _ _ rfl iI Tryz.underlying31 jI0 jI1 jI2 jI3 A5 c5 hs rfl (HIn.out.up (Ext.alloc wn _)) _ 1 [⟨2,(fm+(hs.length:Int)+1),(fm+(hs.length:Int)+(hs8.length:Int)+2),0,none,0,[]⟩] rfl (KV (Blk.new _ _ _)) (fun h hh=>by rw[List.mem_singleton.1 hh];exact ZJ.plain w0 (by simp only[I64];omega)) (by simp only[List.length_singleton];omega) ys1 HY1.out ?_;intro A6 c6 w6 h6 x6 hr6 hg6;have H6:=lh h6;have HG6:=lh hg6;clear h6 x6 hr6 hg6)|(at_builtin;refine Q7 (w0:=w0) rfl _ _ _ rfl iI Tryz.underlying31 jI0 jI1 jI2 jI3 A6 c6 ys1 rfl H6.out A8 c8 hs8 rfl (QQ.cells (QQ.kp (QQ.ext H8n.out.own (Ext.alloc wn _)) (KpP.of_grown HG6.out) (fun b h1 h2=>HAP.out b h2 h1))) H8n.out.ok (by have:=hl1.out;omega) ys2 HY2.out ?_;intro A7 c7 w7 h7 x7 hr7 hg7))
     exact eN
   ·have hm1f:(mx == -1)=false:=by simp[hm1]
    obtain⟨q,rfl⟩:∃q:Nat,mx=q:=⟨mx.toNat,om⟩;clear k0 k1 k2 k3 k4 k5 k6 k7;have BR:=HB0.out.ext x1;have r0:=BR.cell 0;have r1:=BR.cell 1;have r6:=BR.cell 6;have r7:=BR.cell 7;clear BR;have HT4r:=lh (HT4.out.ext HXR.out);have HSZ:=lh (DX bd S (d+1) wr _ HT4r.out);unfold Nd.val at HSZ
    go_upto_region 17 with(go_at_call 64;refine HSZ.out.mono ?_;rintro e w8 ⟨sz,rfl,hsz,x8⟩;have z38:=x8.cell z3r;have z48:=x8.cell z4r)
    have hen:=jM (fm+sz);generalize wrap64 (fm+sz)=en at *;have x18:=x1.trans x8;have HI8:=lh (HI.out.up x8);have him:i=m:=om;clear hlt hiI;subst him;clear z38 z48 r0 r1 r6 r7 z2r z3r z4r z5r HT4r HSZ HI x1 HXR
    go_loopw [12,5] (fun v12 v5 wq=>∃(k:Nat) (A5:Option Addr) (c5:Nat) (hs:List Hin),v12=.int .i64 k/\v5=.slice A5 hs.length c5/\i<=k/\(k=i\/k<=q)/\hs.length+i+k<=B*k/\Ext wa wq/\Hid (CdI w0 wa wq 123 A5 c5 hs)) (fun v _ _=>q-(intOf v).toNat)
    case atStart=>exact⟨i,A5,c5,hs,rfl,rfl,Nat.le_refl _,.inl rfl,om,x18,HI8⟩
    case round=>
     clear HI8 x18 hlm hcaps;obtain⟨k,A5,c5,hs,rfl,rfl,hik,hkq,hlen,x1,HI⟩:=hrel;have hcaps:=HI.out.len;have z2r:=x1.cell z2;have z4r:=x1.cell z4;have z5r:=x1.cell z5;by_cases hlt:k<q
     ·have hiI:(k:Int)<(q:Int):=om;have hm1:=qF B k;have hm2:B*(k+1)<=B*bd:=ZR om;have hq:hs.length+1+B<=B*bd:=(Nat.eq_zero_or_pos k).elim (fun e=>by rw[e] at hlen;omega) (fun e=>om);have HXR:=lh (HX0.out.trans x1);have ewp:IntKind.i64.wrap (fm+(hs.length:Int))=fm+(hs.length:Int):=wj;have ewq:IntKind.i64.wrap (fm+(hs.length:Int)+1)=fm+(hs.length:Int)+1:=wj;have XI:=Ext.alloc wr (.cells #[.int .i64 2,.int .i64 (fm+(hs.length:Int)+1),.int .i64 en,.int .i64 0,.slice none 0 0] 123);have BI:=Blk.new wr 123 #[.int .i64 2,.int .i64 (fm+(hs.length:Int)+1),.int .i64 en,.int .i64 0,.slice none 0 0];have z5b:=XI.cell z5r
      go_upto_region 21 with fail
      obtain⟨gI,hgI0⟩:∃g,g=wr.heap.size:=⟨_,rfl⟩
      rw[<-hgI0] at BI ⊢;have hgI:wr.heap.size<=gI:=om;clear hgI0;generalize wr.alloc (.cells #[.int .i64 2,.int .i64 (fm+(hs.length:Int)+1),.int .i64 en,.int .i64 0,.slice none 0 0] 123)=wb at *;obtain⟨y0,y1,y2,y3,y4⟩:wb.cell? ⟨gI,0,none⟩=some (.int .i64 2)/\wb.cell? ⟨gI,1,none⟩=some (.int .i64 (fm+(hs.length:Int)+1))/\wb.cell? ⟨gI,2,none⟩=some (.int .i64 en)/\wb.cell? ⟨gI,3,none⟩=some (.int .i64 0)/\wb.cell? ⟨gI,4,none⟩=some (.slice none 0 0):=⟨BI.cell 0,BI.cell 1,BI.cell 2,BI.cell 3,BI.cell 4⟩;by_cases hmd1:md=1
      ·subst hmd1;obtain⟨f0,f1,f2,f3,f4⟩:=XF BI
       go_upto_region 23 with fail
       have bn:=VC BI ⟨2,en,(fm+(hs.length:Int)+1),0,none,0,[]⟩;have xn:=JV XI hgI ⟨2,en,(fm+(hs.length:Int)+1),0,none,0,[]⟩;change Code.wp _ _ _ _ (ZV wb gI ⟨2,en,(fm+(hs.length:Int)+1),0,none,0,[]⟩);clear y0 y1 y2 y3 y4 f0 f1 f2 f3 f4 BI XI;generalize ZV wb gI ⟨2,en,(fm+(hs.length:Int)+1),0,none,0,[]⟩=wn at *;obtain⟨y0,y1,y2,y3,y4⟩:=Jj bn;simp only[List.length_nil] at y4;have HIn:=lh (HI.out.up xn);obtain⟨ys1,HY1⟩:∃ys,Hid (ys=hs++[(⟨2,en,(fm+(hs.length:Int)+1),0,none,0,[]⟩:Hin)]):=⟨_,lh rfl⟩;have hl1:Hid (ys1.length=hs.length+1):=lh (by rw[HY1.out,List.length_append];simp)
       go_upto_region 24 with(at_builtin;refine Q7 (w0:=w0) rfl _ _ _ rfl iI Tryz.underlying31 jI0 jI1 jI2 jI3 A5 c5 hs rfl (HIn.out.up (Ext.alloc wn _)) _ 1 [⟨2,en,(fm+(hs.length:Int)+1),0,none,0,[]⟩] rfl (KV (Blk.new _ _ _)) (fun h hh=>by rw[List.mem_singleton.1 hh];exact ZJ.plain w0 (by have hen':=hen;simp only[I64] at hen' ⊢;omega)) (by simp only[List.length_singleton];omega) ys1 HY1.out ?_;intro A6 c6 w6 h6 x6 hr6 hg6)
       exact eL
      ·have hmd0:(md == 1)=false:=by simp[hmd1]
       go_upto_region 23 with fail
       have bn:=BI;have xn:=XI;clear BI XI;generalize wb=wn at *;have HIn:=lh (HI.out.up xn);obtain⟨ys1,HY1⟩:∃ys,Hid (ys=hs++[(⟨2,(fm+(hs.length:Int)+1),en,0,none,0,[]⟩:Hin)]):=⟨_,lh rfl⟩;have hl1:Hid (ys1.length=hs.length+1):=lh (by rw[HY1.out,List.length_append];simp)
       go_upto_region 24 with(at_builtin;refine Q7 (w0:=w0) rfl _ _ _ rfl iI Tryz.underlying31 jI0 jI1 jI2 jI3 A5 c5 hs rfl (HIn.out.up (Ext.alloc wn _)) _ 1 [⟨2,(fm+(hs.length:Int)+1),en,0,none,0,[]⟩] rfl (KV (Blk.new _ _ _)) (fun h hh=>by rw[List.mem_singleton.1 hh];exact ZJ.plain w0 (by have hen':=hen;simp only[I64] at hen' ⊢;omega)) (by simp only[List.length_singleton];omega) ys1 HY1.out ?_;intro A6 c6 w6 h6 x6 hr6 hg6)
       exact eL
     ·have hiI:¬(k:Int)<(q:Int):=om;have hm2:B*k<=B*bd:=ZR om;have hm3:k<=1->B*k<=B*1:=fun h=>ZR h
      go_wp2_with fail
      go_ret
      exact⟨A5,c5,hs,rfl,by exact(Nat.lt_or_ge 1 k).elim (fun h=>om) (fun h=>by have h9:=hm3 h;omega),HI.out.low HE0.out⟩
theorem bK (w0:World)(bd:Nat)(S:Nat->Prop)(d B:Nat)(IH:VI bd S w0 d B)(hB:2<=B)(hbd:2<=bd)(w:World)(x0:Ext w0 w)(A:Option Addr)(c:Nat)(l:List Sp)(K:Option Addr)(kc:Nat)(ks:List Value)(m:Nat)(mx md nn:Int)(neg:Bool)(fm:Int)
 (ht4:Qx bd S w0 (d+1) (.agg #[.int .i64 4,.slice A l.length c,.slice K ks.length kc,.int .i64 (m:Int),.int .i64 mx,.int .i64 md,.int .i64 nn,.bool neg])) (h1k:1<=ks.length) (hm:m<=bd) (hmx : -1<=mx/\mx<=bd) (hmm:mx = -1->m+1<=bd) (hmd:0<=md/\md<=1) (hkl:ks.length<=kc/\kc<=maxLen) (hcl:QP w0 K (ks.flatMap Q8)) (hks:∀u∈ks,Qx bd S w0 d u) (hf:0<=fm) (hfB:fm+(B*bd:Nat)<=1000000) :
 Calls Tryz.prog 65 #[.agg #[.int .i64 4,.slice A l.length c,.slice K ks.length kc,.int .i64 (m:Int),.int .i64 mx,.int .i64 md,.int .i64 nn,.bool neg],.int .i64 fm] w (JT 123 w0 (B*bd) w):=by
 have B0:=Blk.new w 26 #[.int .i64 4,.slice A l.length c,.slice K ks.length kc,.int .i64 (m:Int),.int .i64 mx,.int .i64 md,.int .i64 nn,.bool neg];have E0:=Ext.alloc w (.cells #[.int .i64 4,.slice A l.length c,.slice K ks.length kc,.int .i64 (m:Int),.int .i64 mx,.int .i64 md,.int .i64 nn,.bool neg] 26);have HR:=lh (SM w0 bd S d B IH hB hbd (w.alloc (.cells #[.int .i64 4,.slice A l.length c,.slice K ks.length kc,.int .i64 (m:Int),.int .i64 mx,.int .i64 md,.int .i64 nn,.bool neg] 26)) (x0.trans E0) A c l K kc ks m mx md nn neg fm ht4 h1k hm hmx hmm hmd hkl hcl hks hf hfB);clear IH ht4 hcl hks hmm hfB hf h1k hm hmx hmd;go_enter Tryz.func65,Tryz.ntmps65
 go_upto_region 1 with fail
 obtain⟨gx,hgx⟩:∃gx,gx=w.heap.size:=⟨_,rfl⟩
 rw[<-hgx] at B0 ⊢;clear hgx;generalize w.alloc (.cells #[.int .i64 4,.slice A l.length c,.slice K ks.length kc,.int .i64 (m:Int),.int .i64 mx,.int .i64 md,.int .i64 nn,.bool neg] 26)=wa at *;have z0:=B0.cell 0;have z1:=B0.cell 1;have z2:=B0.cell 2;have z3:=B0.cell 3;have z4:=B0.cell 4;have z5:=B0.cell 5;have z6:=B0.cell 6;have z7:=B0.cell 7;clear B0
 go_wp2_with (go_at_call 112;refine HR.out.mono ?_;rintro e w3 ⟨A3,c3,hs3,rfl,h1,h2⟩)
 go_ret
 exact⟨A3,c3,hs3,rfl,h1,h2.low E0⟩
theorem JT.le {T:Nat}{w0 w:World}{N M:Nat}{e:Ending}{w':World}(h:JT T w0 N w e w')(hN:N<=M):JT T w0 M w e w':=h.up (Ext.rfl' w) hN
theorem MI (w0:World)(bd:Nat)(S:Nat->Prop)(d B:Nat)(hbd:3<=bd)(hB:2<=B)(IH:VI bd S w0 d B):VI bd S w0 (d+1) (B*bd):=by
 intro w v x0 ht fm hf hfB;obtain⟨n,rfl,hok,hsl,hkl,hkc,hcl,hks⟩:=ht.node;obtain⟨op,A,c,l,K,kc,ks,mn,mx,md,nn,neg⟩:=n;have hop:=hok.op;have halt:=hok.alt;have hone:=hok.one;have hfew:=hok.few;have hmn:=hok.mn;have hmx:=hok.mx;have hmm:=hok.mm;have hmd:=hok.md;have hn:=hok.n;have hset:=hok.set
 simp only at hop halt hone hfew hmn hmx hmm hmd hn hset hsl hkl hkc hcl hks
 have hBn:B*ks.length<=B*bd:=ZR om;have hB3:B*3<=B*bd:=ZR hbd;have hBz:ks.length=0->B*ks.length=0:=fun h=>by rw[h];simp
 unfold Nd.val at ht ⊢
 simp only at ht ⊢
 rcases hop with rfl|rfl|rfl|rfl|rfl|rfl|rfl
 ·exact(LC w0 w x0 A c l K kc ks mn mx md nn neg fm).mono (fun e w' h=>h.le om)
 ·exact(LB w0 w x0 A c l K kc ks mn mx md nn neg fm hsl hset).mono (fun e w' h=>h.le om)
 ·exact(LD w0 w x0 A c l K kc ks mn mx md nn neg fm bd S d B IH hB ⟨hkl,hkc⟩ hcl hks hf om).mono (fun e w' h=>h.le om)
 ·have h2:=halt rfl;obtain⟨m,hm⟩:∃m,ks.length=m+2:=⟨ks.length-2,om⟩;exact(bZ w0 bd S d B IH hB m w x0 A c l K kc ks mn mx md nn neg fm hm ⟨hkl,hkc⟩ hcl hks hf om).mono (fun e w' h=>h.le om)
 ·obtain⟨m,rfl⟩:∃m:Nat,mn=m:=⟨mn.toNat,om⟩;exact bK w0 bd S d B IH hB om w x0 A c l K kc ks m mx md nn neg fm ht (hone (.inl rfl)) om hmx (fun h=>by have:=hmm h;omega) hmd ⟨hkl,hkc⟩ hcl hks hf hfB
 ·exact(bJ w0 bd S d B IH hB w x0 A c l K kc ks mn mx md nn neg fm hn (hone (.inr rfl)) ⟨hkl,hkc⟩ hcl hks hf om).mono (fun e w' h=>h.le om)
 ·exact(Gq w0 w x0 A c l K kc ks mn mx md nn neg fm hn).mono (fun e w' h=>h.le om)
def qN (bd:Nat):Nat->Nat
 | 0=>1
 | d+1=>qN bd d*bd
theorem Gj {bd:Nat}(h:3<=bd):∀d,1<=qN bd d/\(d≠0->3<=qN bd d)
 | 0=>⟨by simp[qN],by simp⟩
 | d+1=>by
  have ih:=(Gj h d).1;have:1*bd<=qN bd d*bd:=Nat.mul_le_mul_right _ ih;simp only[qN];omega
theorem SN {bd:Nat}{S:Nat->Prop}{w:World}{ks:List Value}(h:∀u∈ks,Qx bd S w 0 u):ks=[]:=by
 cases ks with
 | nil=>rfl
 | cons u ks=>obtain⟨e,he⟩:=(h u si).pos;omega
theorem Dz (w0:World)(bd:Nat)(S:Nat->Prop)(hbd:3<=bd):∀d,VI bd S w0 d (qN bd d)
 | 0=>fun w v x0 ht=>by obtain⟨e,he⟩:=ht.pos;omega
 | 1=>by
  intro w v x0 ht fm hf hfB;have IH:VI bd S w0 0 2:=fun w v x0 ht=>by obtain⟨e,he⟩:=ht.pos;omega
  have hb1:qN bd 1=bd:=by simp[qN]
  rw[hb1] at hfB ⊢;obtain⟨n,rfl,hok,hsl,hkl,hkc,hcl,hks⟩:=ht.node;have hk0:=SN hks;obtain⟨op,A,c,l,K,kc,ks,mn,mx,md,nn,neg⟩:=n;have hop:=hok.op;have halt:=hok.alt;have hone:=hok.one;have hn:=hok.n;have hset:=hok.set
  simp only at hop halt hone hn hset hsl hkl hkc hcl hks hk0
  subst hk0;unfold Nd.val
  simp only
  rcases hop with rfl|rfl|rfl|rfl|rfl|rfl|rfl
  ·exact(LC w0 w x0 A c l K kc [] mn mx md nn neg fm).mono (fun e w' h=>h.le om)
  ·exact(LB w0 w x0 A c l K kc [] mn mx md nn neg fm hsl hset).mono (fun e w' h=>h.le om)
  ·exact(LD w0 w x0 A c l K kc [] mn mx md nn neg fm bd S 0 2 IH om ⟨hkl,hkc⟩ hcl hks hf (by simp;omega)).mono (fun e w' h=>h.le (by simp;omega))
  ·have:=halt rfl;simp at this
  ·have:=hone (.inl rfl);simp at this
  ·have:=hone (.inr rfl);simp at this
  ·exact(Gq w0 w x0 A c l K kc [] mn mx md nn neg fm hn).mono (fun e w' h=>h.le om)
 | d+2=>MI w0 bd S (d+1) (qN bd (d+1)) hbd (by have:=(Gj hbd (d+1)).2 om;omega) (Dz w0 bd S hbd (d+1))
theorem SP {P:Prop} (h:P:=by
 go_roundw
 case rel=>exact⟨i+1,by go_num,om,x1.trans x3⟩
 case measure=>simp[intOf];omega):P:=h
theorem eO {P:Prop} (h:P:=by
 go_upto_region 12 with fail
 go_loopw [7] (fun v wr=>∃i:Nat,v=.int .i64 i/\i<=ks.length/\Ext wa wr) (fun v _=>ks.length-(intOf v).toNat)
 case atStart=>exact⟨0,rfl,om,Ext.rfl' _⟩
 case round=>
  obtain⟨i,rfl,hi,x1⟩:=hrel;have z2r:=x1.cell z2;by_cases hlt:i<ks.length
  ·have hiI:(i:Int)<ks.length:=om;obtain⟨b,o,hK,n,ht,k0,k1,k2,k3,k4,k5,k6,k7⟩:=YU (HC.out.ext (XR.trans x1)) (fun u hu=>(HK.out u hu).ext (XR.trans x1)) hlt;have hK':=hK;subst hK';have HT:=lh ht;clear ht
   go_wp2_with (go_at_call 62;refine(HIH.out wr _ HT.out R rc xs (HI.out.ext x1) om).mono ?_;rintro e w3 ⟨b3,rfl,x3⟩;cases b3)
   ·go_ret
    exact⟨_,rfl,E0.trans (x1.trans x3)⟩
   ·exact SP
  ·have hiI:¬(i:Int)<ks.length:=om
   go_wp2_with fail
   go_ret
   exact⟨_,rfl,E0.trans x1⟩):P:=h
theorem qQ (bd:Nat)(S:Nat->Prop):∀(d:Nat) (w:World) (v:Value),Qx bd S w d v->∀(R:Option Addr) (rc:Nat) (xs:List Int),IL w R rc xs->xs.length+d<=1000->Calls Tryz.prog 62 #[v,.slice R xs.length rc] w (qL w):=by
 intro d;induction d with
 | zero=>intro w v h;obtain⟨e,he⟩:=h.pos;omega
 | succ d ih=>
  intro w v h R rc xs hI hlen;obtain⟨n,rfl,hok,hsl,hkl,hkc,hcl,hks⟩:=h.node;obtain⟨op,A,c,l,K,kc,ks,mn,mx,md,nn,neg⟩:=n;have hop:=hok.op;have hone:=hok.one;have hmd:=hok.md;have hn:=hok.n
  simp only at hop hone hmd hn hsl hkl hkc hcl hks
  unfold Nd.val
  simp only
  have HIH:=lh ih;clear ih h hok;have hrl:=hI.len;have B0:=Blk.new w 26 #[.int .i64 op,.slice A l.length c,.slice K ks.length kc,.int .i64 mn,.int .i64 mx,.int .i64 md,.int .i64 nn,.bool neg];have E0:=Ext.alloc w (.cells #[.int .i64 op,.slice A l.length c,.slice K ks.length kc,.int .i64 mn,.int .i64 mx,.int .i64 md,.int .i64 nn,.bool neg] 26);have HC:=lh (hcl.ext E0);have HK:=lh (fun u hu=>(hks u hu).ext E0);have HKL:ks.length<=kc/\kc<=9223372036854775807:=⟨hkl,by unfold maxLen at hkc;omega⟩;have HI:=lh (hI.ext E0);clear hcl hks hsl hkl hkc hI;go_enter Tryz.func62,Tryz.ntmps62
  go_upto_region 1 with fail
  obtain⟨gx,hgx⟩:∃gx,gx=w.heap.size:=⟨_,rfl⟩
  rw[<-hgx] at B0 ⊢;clear hgx;generalize w.alloc (.cells #[.int .i64 op,.slice A l.length c,.slice K ks.length kc,.int .i64 mn,.int .i64 mx,.int .i64 md,.int .i64 nn,.bool neg] 26)=wa at *;have z0:wa.cell? ⟨gx,0,none⟩=some (.int .i64 op):=B0.cell 0;have z2:wa.cell? ⟨gx,2,none⟩=some (.slice K ks.length kc):=B0.cell 2;have z5:wa.cell? ⟨gx,5,none⟩=some (.int .i64 md):=B0.cell 5;have z6:wa.cell? ⟨gx,6,none⟩=some (.int .i64 nn):=B0.cell 6;have XR:=Ext.rfl' wa;by_cases h4:op=4
  ·subst h4;have hlt0:0<ks.length:=by have:=hone (.inl rfl);omega
   have hlt0I:(0:Int)<ks.length:=om;have hm2:(md == 2)=false:=by simp;omega
   obtain⟨b,o,hK,n,ht,k0,k1,k2,k3,k4,k5,k6,k7⟩:=YU HC.out HK.out hlt0;have hK':=hK;subst hK';simp only[Nat.zero_mul,Nat.add_zero] at k0 k1 k2 k3 k4 k5 k6 k7;have HN:=lh (kL bd S d wa _ ht);unfold Nd.val at HN;clear ht
   go_upto_region 12 with(go_at_call 107;refine HN.out.mono ?_;rintro e w3 ⟨b3,rfl,x3⟩;have z03:=x3.cell z0;have z23:=x3.cell z2;have HX3:=lh x3;cases b3)
   ·have x3:=HX3.out
    go_loopw [7] (fun v wr=>∃i:Nat,v=.int .i64 i/\i<=ks.length/\Ext w3 wr) (fun v _=>ks.length-(intOf v).toNat)
    case atStart=>exact⟨0,rfl,om,Ext.rfl' _⟩
    case round=>
     obtain⟨i,rfl,hi,x1⟩:=hrel;have z2r:=x1.cell z23;by_cases hlt:i<ks.length
     ·have hiI:(i:Int)<ks.length:=om;obtain⟨b,o,hK,n,ht,k0,k1,k2,k3,k4,k5,k6,k7⟩:=YU (HC.out.ext (x3.trans x1)) (fun u hu=>(HK.out u hu).ext (x3.trans x1)) hlt;injection hK with hK;injection hK with e1 e2 _
      subst e1;subst e2;have HT:=lh ht;clear ht
      go_wp2_with (go_at_call 62;refine(HIH.out wr _ HT.out R rc xs ((HI.out.ext x3).ext x1) om).mono ?_;rintro e w3 ⟨b3,rfl,x3⟩;cases b3)
      ·go_ret
       exact⟨_,rfl,(E0.trans HX3.out).trans (x1.trans x3)⟩
      ·exact SP
     ·have hiI:¬(i:Int)<ks.length:=om
      go_wp2_with fail
      go_ret
      exact⟨_,rfl,(E0.trans HX3.out).trans x1⟩
   ·go_ret
    exact⟨_,rfl,E0.trans HX3.out⟩
  ·by_cases h5:op=5
   ·subst h5;have HH:=lh (Lj R rc xs nn wa HI.out);generalize decide (nn∈xs)=hb at HH
    go_upto_region 5 with(go_at_call 108;refine HH.out.mono ?_;rintro e w3 ⟨rfl,nq3,rfl⟩)
    have x3:=Ext.drewN wa nq3;have HI3:=lh (HI.out.ext x3);have z03:=x3.cell z0;have z23:=x3.cell z2;have z63:=x3.cell z6;have HX3:=lh x3;have HZ3:=lh (⟨x3.cell z0,x3.cell z2⟩:(wa.drewN nq3).cell? ⟨gx,0,none⟩=_/\(wa.drewN nq3).cell? ⟨gx,2,none⟩=_);generalize wa.drewN nq3=wb at *;cases hb
    ·go_upto_region 8 with fail
     obtain⟨i0,hi0,hz0,hz1,hz2⟩:=info_parts VV;have k6:=kc0 z63;have HON:Hid (∀w':World,QQ w' wb.heap.size 3 1 none 0 0 []):=lh (fun w'=>QQ.nil _ _ _ _);refine Xr.start [] kr ?_;refine Xtk 0 ?_;refine Xtn ?_;refine Xtk 3 ?_;refine Xtn ?_;refine Xr.lazy 5 36 6 (fun g=>.slice (some ⟨g,0,none⟩) 1 1) 3 #[.int .i64 nn] rfl si dK si (fun w'=>by go_simp) ?_;refine Xcl 2 fun w4 hE4 hK4 K hKK=>?_;have x4:Ext wb w4:=hK4.nil;refine VT _ _ _ _ rfl wb.heap.size 3 i0 (.int .i64 0) 1 8 Tryz.underlying22 hi0 hz0 hz1 hz2 rfl om none 0 0 [] rfl (HON.out w4) _ xs.length rc (xs.map (Value.int .i64)) rfl si (HI3.out.ext x4).cells (ZP _) um om x4.size ?_;intro A5 c5 w5 ho5 hg5 hat5;have x5:=Ext.app x4 (HON.out w4) hg5;simp only[Nat.zero_add,List.nil_append] at ho5 ⊢;have x45:Ext w4 w5:=(Ext.rfl' w4).grown hg5 si;refine hKK _ _ x45 ?_;clear hKK;refine ptm ?_;refine Xr.stepZ rfl dK (fun _=>by rfl) (fun w6 g6 hE6 hK6 hg6 hB6 hno K hKK=>?_);have ho6:=QQ.ext ho5 hE6;refine VT _ _ _ _ rfl wb.heap.size 3 i0 (.int .i64 0) 1 8 Tryz.underlying22 hi0 hz0 hz1 hz2 rfl om A5 xs.length c5 (xs.map (Value.int .i64)) rfl ho6 _ 1 1 [.int .i64 nn] rfl rfl (QC hB6) (ZP [nn]) um om (by have:=hK6.size;omega) ?_;intro A9 c9 w9 ho9 hg9 hat9;have xb9:Ext wb w9:=Ext.app hK6.nil ho6 hg9;refine hKK _ _ (YQ hg9 (fun i hi=>.inr ⟨(w4.heap.size,w5.heap.size),by simp,by rcases hat5 with h|h<;>rw[h] at hi<;>simp at hi;omega,(QQ.blt ho5 hi).1⟩)) (Kp.of_ext xb9) ?_;clear hKK;refine ptm ?_
     refine Xtk 7 ?_;refine Xdn fun w10 hE10 hK10=>?_;obtain⟨ys,HYS⟩:∃ys,Hid (ys=xs++[nn]):=⟨_,lh rfl⟩;have hyl:xs.length+1=ys.length:=by rw[HYS.out];simp
     have HI10:Hid (IL w10 A9 c9 ys):=lh (by
      have h:=QQ.ext ho9 hE10;refine IL.of_own (base:=wb.heap.size) (e:=3) ?_ ?_
      ·unfold WO
       rw[<-hyl,HYS.out]
       simpa using h
      ·rw[HYS.out];intro x hx;rcases List.mem_append.1 hx with hx|hx
       ·exact HI.out.rng x hx
       ·rw[List.mem_singleton.1 hx];unfold I64;omega)
     have z0t:=(xb9.trans hE10).cell z03;have z2t:=(xb9.trans hE10).cell z23;have HX10:=lh (HX3.out.trans (xb9.trans hE10));have hyl2:ys.length+d<=1000:=om;rw[hyl];clear ho9 hg9 hat9 ho6 xb9 hK10 hE10 hK6 hB6 hno hE6 ho5 hg5 hat5 x5 x45 x4 hK4 hE4 hyl z03 z23 z63 HZ3
     go_upto_region 12 with fail
     have hyc:=HI10.out.len
     go_loopw [7] (fun v wr=>∃i:Nat,v=.int .i64 i/\i<=ks.length/\Ext w10 wr) (fun v _=>ks.length-(intOf v).toNat)
     case atStart=>exact⟨0,rfl,om,Ext.rfl' _⟩
     case round=>
      obtain⟨i,rfl,hi,x1⟩:=hrel;have z2r:=x1.cell z2t;by_cases hlt:i<ks.length
      ·have hiI:(i:Int)<ks.length:=om;obtain⟨b,o,hK,n,ht,k0,k1,k2,k3,k4,k5,k6,k7⟩:=YU (HC.out.ext (HX10.out.trans x1)) (fun u hu=>(HK.out u hu).ext (HX10.out.trans x1)) hlt;have hK':=hK;subst hK';have HT:=lh ht;clear ht
       go_wp2_with (go_at_call 62;refine(HIH.out wr _ HT.out A9 c9 ys (HI10.out.ext x1) om).mono ?_;rintro e w3 ⟨b3,rfl,x3⟩;cases b3)
       ·go_ret
        exact⟨_,rfl,(E0.trans HX10.out).trans (x1.trans x3)⟩
       ·exact SP
      ·have hiI:¬(i:Int)<ks.length:=om
       go_wp2_with fail
       go_ret
       exact⟨_,rfl,(E0.trans HX10.out).trans x1⟩
    ·go_wp2_with fail
     go_ret
     exact⟨_,rfl,E0.trans HX3.out⟩
   ·by_cases h11:op=11
    ·subst h11;exact eO
    ·have hf4:(op == 4)=false:=by simp[h4]
     have hf5:(op == 5)=false:=by simp[h5]
     have hle:¬5<op:=om;exact eO
theorem O4 (x:Int)(w:World):Calls Tryz.prog 229 #[.int .i64 x] w (qL w):=by
 go_enter Tryz.func229,Tryz.ntmps229
 go_wp2
 all_goals
  go_ret
  exact⟨_,rfl,Ext.rfl' _⟩
theorem bV (A:Option Addr)(c:Nat)(l:List Sp)(x:Int)(w:World)(hs:SL w A c l):Calls Tryz.prog 212 #[.slice A l.length c,.int .i64 x] w (qL w):=by
 have hll:=hs.len;have HS:=lh hs;clear hs;go_enter Tryz.func212,Tryz.ntmps212
 go_wp2
 go_loopw [5] (fun i wr=>∃k:Nat,k<=l.length/\i=.int .i64 k/\Ext w wr) (fun i _=>l.length-(intOf i).toNat)
 case atStart=>exact⟨0,Nat.zero_le _,rfl,Ext.rfl' _⟩
 case round=>
  obtain⟨k,hk,rfl,x1⟩:=hrel;by_cases hlt:k<l.length
  ·obtain⟨p1,o1,rfl,g1,g2⟩:=(HS.out.ext x1).get hlt;have hlt2:(k:Int)<l.length:=om
   go_wp2_with fail
   all_goals first
    | (go_ret;exact⟨_,rfl,x1⟩)
    | (
     go_roundw
     case rel=>exact⟨k+1,om,by go_num,x1⟩
     case measure=>simp[intOf];omega)
  ·have hlt2:¬(k:Int)<l.length:=om
   go_wp2_with fail
   go_ret
   exact⟨_,rfl,x1⟩
theorem ML (n:Int)(T:Option Addr)(tc:Nat)(ts:List Int)(i:Nat)(w:World)(hT:IL w T tc ts)(hi:i<=ts.length) :
 Calls Tryz.prog 215 #[.int .i64 n,.slice T ts.length tc,.int .i64 i] w (qL w):=by
 have hll:=hT.len;have HW:=fun(x:Int) (w':World)=>lh (O4 x w');have X0:=Ext.rfl' w;by_cases h0:i=0
 ·subst h0;by_cases hl:ts.length=0
  ·have hlI:¬(0:Int)<(ts.length:Int):=om;clear hT;generalize ts.length=tn at *;subst hl;go_enter Tryz.func215,Tryz.ntmps215
   go_wp2_with (go_at_call 229;refine(HW _ _).out.mono ?_;rintro e w2 ⟨b2,rfl,x2⟩;have X2:=Ext.trans (by assumption:Ext w _) x2)
   all_goals
    go_ret
    exact⟨_,rfl,by assumption⟩
  ·have hlI:(0:Int)<(ts.length:Int):=om;obtain⟨b,o,rfl,cb⟩:=hT.get (k:=0) om;simp only[Nat.add_zero] at cb;generalize ts[0]'om=y at *;have HB:=fun(w':World) (x:Ext w w')=>x.cell cb;have hne:((0:Int) == (ts.length:Int))=false:=by simp;omega
   clear hT;generalize ts.length=tn at *;go_enter Tryz.func215,Tryz.ntmps215
   go_wp2_with (go_at_call 229;refine(HW _ _).out.mono ?_;rintro e w2 ⟨b2,rfl,x2⟩;have X2:=Ext.trans (by assumption:Ext w _) x2;have cb2:=HB _ X2)
   all_goals
    go_ret
    exact⟨_,rfl,by assumption⟩
 ·obtain⟨j,rfl⟩:∃j,i=j+1:=⟨i-1,om⟩;have hjl:j<ts.length:=om;obtain⟨b,o,rfl,ca⟩:=hT.get hjl;have HA:=fun(w':World) (x:Ext w w')=>x.cell ca;have ewj:IntKind.i64.wrap ((j:Int)+1-1)=(j:Int):=wj;have hjI:(j:Int)<(ts.length:Int):=om;have hj0:(0:Int)<(j:Int)+1:=om;have hjn:((j:Int)+1 == 0)=false:=by simp;omega
  have ecast:((j+1:Nat):Int)=(j:Int)+1:=om;rw[ecast];by_cases hl:j+1=ts.length
  ·have hlI:¬(j:Int)+1<(ts.length:Int):=om;have heq:((j:Int)+1 == (ts.length:Int))=true:=by simp;omega
   clear hT;generalize ts[j]=y at *;generalize ts.length=tn at *;go_enter Tryz.func215,Tryz.ntmps215
   go_wp2_with (go_at_call 229;refine(HW _ _).out.mono ?_;rintro e w2 ⟨b2,rfl,x2⟩;have X2:=Ext.trans (by assumption:Ext w _) x2;have ca2:=HA _ X2)
   all_goals
    go_ret
    exact⟨_,rfl,by assumption⟩
  ·have hlI:(j:Int)+1<(ts.length:Int):=om;have heq:((j:Int)+1 == (ts.length:Int))=false:=by simp;omega
   obtain⟨b',o',e1,cb⟩:=hT.get (k:=j+1) om;injection e1 with e1;injection e1 with e1 e2 _
   subst e1;subst e2;have HB:=fun(w':World) (x:Ext w w')=>x.cell cb;clear hT;generalize ts[j]=y at *;generalize ts[j+1]'om=z at *;generalize ts.length=tn at *;go_enter Tryz.func215,Tryz.ntmps215
   go_wp2_with (go_at_call 229;refine(HW _ _).out.mono ?_;rintro e w2 ⟨b2,rfl,x2⟩;have X2:=Ext.trans (by assumption:Ext w _) x2;have ca2:=HA _ X2;have cb2:=HB _ X2)
   all_goals
    go_ret
    exact⟨_,rfl,by assumption⟩
def ptB (v:Option Value):List Nat:=match v with|some (.slice (some A) _ _)=>[A.block]|_=>[]
def zL (w:World)(gs:Nat):List Nat:=gs::(ptB (w.cell? ⟨gs,5,none⟩)++ptB (w.cell? ⟨gs,6,none⟩))
theorem qw {A:Option Addr}{n c:Nat}{x:Nat}:x∈ptB (some (.slice A n c))<->A.map (·.block)=some x:=by
 cases A with
 | none=>simp[ptB]
 | some a=>simp[ptB,eq_comm]
structure ZF (gs:Nat)(a b:World):Prop where
 kp:Kp (zL a gs) a b
 old:∀x∈zL b gs,x∈zL a gs\/a.heap.size<=x
theorem ZO {gs:Nat}{a b:World}(x:Ext a b)(h:gs<a.heap.size):zL b gs=zL a gs:=by
 unfold zL;rw[x.cells.1 gs 5 h,x.cells.1 gs 6 h]
namespace ZF
variable {gs:Nat} {a b c w w':World}
theorem of_ext (x:Ext a b)(h:gs<a.heap.size):ZF gs a b:=⟨Kp.of_ext x,fun y hy=>.inl (by rw[ZO x h] at hy;exact hy)⟩
theorem refl (w:World)(h:gs<w.heap.size):ZF gs w w:=of_ext (Ext.rfl' w) h
theorem size (h:ZF gs a b):a.heap.size<=b.heap.size:=h.kp.size
theorem trans (h:ZF gs a b)(k:ZF gs b c):ZF gs a c:=
 ⟨⟨k.kp.os.trans h.kp.os,k.kp.tape.trans h.kp.tape,k.kp.output.trans h.kp.output,Nat.le_trans h.size k.size,fun i hi hn=>(k.kp.block i (Nat.lt_of_lt_of_le hi h.size) (fun hm=>by
  rcases h.old i hm with h1|h1
  ·exact hn h1
  ·omega)).trans (h.kp.block i hi hn)⟩,
  fun x hx=>by
   rcases k.old x hx with h1|h1
   ·exact h.old x h1
   ·exact .inr (Nat.le_trans h.size h1)⟩
theorem ext (h:ZF gs a b)(x:Ext b c)(hg:gs<a.heap.size):ZF gs a c:=h.trans (of_ext x (Nat.lt_of_lt_of_le hg h.size))
theorem mk2 {cs:Array Value}{eA cA:Option Addr}{en ec cn cc:Nat}(k:Kp (zL a gs) a b)(h:Blk b gs 257 cs)(h5:cs[5]? = some (.slice eA en ec))(h6:cs[6]? = some (.slice cA cn cc))
 (he:∀x,eA.map (·.block)=some x->x∈zL a gs\/a.heap.size<=x) (hc:∀x,cA.map (·.block)=some x->x∈zL a gs\/a.heap.size<=x):ZF gs a b:=
 ⟨k,fun x hx=>by
  unfold zL at hx;rw[h.cell 5,h.cell 6,h5,h6] at hx;rcases List.mem_cons.1 hx with rfl|hx
  ·exact .inl List.mem_cons_self
  rcases List.mem_append.1 hx with hx|hx
  ·exact he x (qw.1 hx)
  ·exact hc x (qw.1 hx)⟩
end ZF
section
variable {w w':World} {base gs tn tc st ns:Nat} {tA:Option Addr} {most fuel:Int} {em:Bool}
theorem SrM.typ (h:SrM w base gs tA tn tc most fuel st em ns){x:Nat}(hx:x∈zL w gs):base<=x/\∃cur T,w.heap[x]? = some (.cells cur T (0,0))/\ZT T:=by
 obtain⟨⟨eA,ec,ends,cA,cc,cps,h1,h2,h3,_⟩,hlo⟩:=h;unfold zL at hx;rw[h1.cell 5,h1.cell 6] at hx;rcases List.mem_cons.1 hx with rfl|hx
 ·exact⟨hlo,_,_,h1,.inl rfl⟩
 rcases List.mem_append.1 hx with hx|hx
 ·have hx:=qw.1 hx;obtain⟨_,cur,e⟩:=QQ.blt h2 hx;exact⟨QQ.row h2 _ hx,cur,_,e,.inr (.inl rfl)⟩
 ·have hx:=qw.1 hx;obtain⟨_,cur,e⟩:=QQ.blt h3 hx;exact⟨QQ.row h3 _ hx,cur,_,e,.inr (.inr rfl)⟩
theorem SrM.gs_lt (h:SrM w base gs tA tn tc most fuel st em ns):gs<w.heap.size:=by
 obtain⟨⟨_,_,_,_,_,_,h1,_⟩,_⟩:=h;exact h1.lt
theorem ZF.blk {g T:Nat}{ds:Array Value}(k:ZF gs w w')(h:SrM w base gs tA tn tc most fuel st em ns)(hb:Blk w g T ds)(hT:¬ZT T):Blk w' g T ds:=
 (k.kp.block g hb.lt (fun hm=>by
  obtain⟨_,cur,T2,e,h2⟩:=h.typ hm;have e2:=hb.symm.trans e;injection e2 with e2;injection e2 with _ e2 _
  exact hT (e2▸h2))).trans hb
variable {bd n:Nat} {w0:World} {kb kb':Int} {p:Option Nat}
theorem Wv.zf (h:Wv bd w0 w kb n p)(hs:SrM w base gs tA tn tc most fuel st em ns)(k:ZF gs w w'):Wv bd w0 w' kb n p:=by
 induction h with
 | nil=>exact .nil
 | mk g kind k2 fr nd d h1 h2 h3 h4 _ ih=>exact .mk g kind k2 fr nd d (k.blk hs h1 de) h2 h3 h4 ih
theorem KY.zf {A:Option Addr}{c:Nat}{l:List Sp}(h:KY w A c l)(hs:SrM w base gs tA tn tc most fuel st em ns)(k:ZF gs w w'):KY w' A c l:=by
 have hn:∀b,A.map (·.block)=some b->¬b∈zL w gs:=fun b hb hq=>by
  obtain⟨cur,hh⟩:=h.2 b hb;obtain⟨_,cur2,T2,e,h2⟩:=hs.typ hq;have e2:=hh.symm.trans e;injection e2 with e2;injection e2 with _ e2 _
  exact absurd (e2▸h2:ZT 82) de
 have kk:KpP (·∈zL w gs) w w':=⟨k.kp.os,k.kp.tape,k.kp.output,k.kp.size,k.kp.block⟩;refine⟨h.1.kpZ kk (fun _ b hb=>hn b hb),fun b hb=>?_⟩;obtain⟨cur,hh⟩:=h.2 b hb;exact⟨cur,(k.kp.block b (Array.getElem?_eq_some_iff.1 hh).1 (hn b hb)).trans hh⟩
end
def WF (w0:World)(gs:Nat)(tA:Option Addr)(tn tc:Nat)(most:Int)(fuel:Nat)(st ns:Nat)(w:World)(e:Ending)(w':World):Prop:=
 ∃(b:Bool) (st':Nat) (em:Bool) (ns':Nat),e=.returned (.bool b)/\SrM w' w0.heap.size gs tA tn tc most fuel st' em ns'/\Ext w0 w'/\ZF gs w w'/\st<=st'/\ns<=ns'/\ns'<=ns+3*(st'-st)+1/\
  ((em=false/\st'<=fuel)\/(em=true/\b=true/\st'=fuel+1))
def eP (w0:World)(gs:Nat)(tA:Option Addr)(tn tc:Nat)(most:Int)(fuel:Nat)(st ns:Nat)(w:World)(e:Ending)(w':World):Prop:=
 e=.returned (.bool (decide (st+1<=fuel)))/\SrM w' w0.heap.size gs tA tn tc most fuel (st+1) (!decide (st+1<=fuel)) ns/\Ext w0 w'/\ZF gs w w'
theorem Az {w:World}{gs T:Nat}{cs:Array Value}{eA cA:Option Addr}{en ec cn cc:Nat}(h:Blk w gs T cs)(h5:cs[5]? = some (.slice eA en ec))(h6:cs[6]? = some (.slice cA cn cc)) :
 (∀x,eA.map (·.block)=some x->x∈zL w gs)/\(∀x,cA.map (·.block)=some x->x∈zL w gs):=by
 unfold zL;rw[h.cell 5,h.cell 6,h5,h6];exact⟨fun x hx=>List.mem_cons_of_mem _ (List.mem_append.2 (.inl (qw.2 hx))),fun x hx=>List.mem_cons_of_mem _ (List.mem_append.2 (.inr (qw.2 hx)))⟩
theorem SrM.put {w:World}{base gs:Nat}{eA cA:Option Addr}{ec cc:Nat}{ends:List Int}{cps:List Value}{i:Nat}{v:Value}{cs:Array Value}
 (hb:Blk w gs 257 cs) (h5:cs[5]? = some (.slice eA ends.length ec)) (h6:cs[6]? = some (.slice cA cps.length cc)) (hi:i≠5/\i≠6)
 (he:WO w base 3 eA ec ends) (hc:QQ w base 65 1 cA cps.length cc cps) :
 WO (w.setCell ⟨gs,i,none⟩ v) base 3 eA ec ends/\QQ (w.setCell ⟨gs,i,none⟩ v) base 65 1 cA cps.length cc cps/\ZF gs w (w.setCell ⟨gs,i,none⟩ v):=by
 have hm:=Az hb h5 h6;refine⟨QQ.far he (p:=⟨gs,i,none⟩) (QK he hb de) v,QQ.far hc (p:=⟨gs,i,none⟩) (QK hc hb de) v,?_⟩;refine ZF.mk2 (Kp.set (Kp.refl _ _) (p:=⟨gs,i,none⟩) (.inl List.mem_cons_self) v) (hb.set i v) (eA:=eA) (en:=ends.length) (ec:=ec) (cA:=cA) (cn:=cps.length) (cc:=cc) ?_ ?_ (fun x hx=>.inl (hm.1 x hx)) (fun x hx=>.inl (hm.2 x hx))
 ·rw[Array.getElem?_setIfInBounds,if_neg hi.1];exact h5
 ·rw[Array.getElem?_setIfInBounds,if_neg hi.2];exact h6
theorem Dj (w0 w:World)(gs:Nat)(tA:Option Addr)(tn tc:Nat)(most:Int)(fuel st ns:Nat)(h:SrM w w0.heap.size gs tA tn tc most fuel st false ns)(x0:Ext w0 w)(hst:st<=fuel)(hf:fuel<=1000000000000) :
 Calls Tryz.prog 211 #[.pointer (some ⟨gs,0,none⟩)] w (eP w0 gs tA tn tc most fuel st ns w):=by
 obtain⟨⟨eA,ec,ends,cA,cc,cps,hb,he,hc,h1,h2,h3,h4⟩,hlo⟩:=h;obtain⟨he1,hc1,z1⟩:=SrM.put (i:=3) (v:=.int .i64 ((st:Int)+1)) hb rfl rfl om he hc;have hb1:=hb.set 3 (.int .i64 ((st:Int)+1));have x1:Ext w0 (w.setCell ⟨gs,3,none⟩ (.int .i64 ((st:Int)+1))):=x0.setNew (p:=⟨gs,3,none⟩) hlo _;have c3:w.cell? ⟨gs,3,none⟩=some (.int .i64 st):=hb.cell 3;have f3:=hb.frz 3;have ewp:IntKind.i64.wrap ((st:Int)+1)=(st:Int)+1:=wj;have HE:=lh h1;have HC:=lh h2;have H3:=lh h3;have H4:=lh h4;have HX1:=lh x1;have HE1:=lh he1;have HC1:=lh hc1;have HZ1:=lh z1;have HGL:=lh hb.lt;have HB1:Hid (Blk (w.setCell ⟨gs,3,none⟩ (.int .i64 ((st:Int)+1))) gs 257 #[.slice tA tn tc,.int .i64 most,.int .i64 fuel,.int .i64 ((st:Int)+1),.bool false,.slice eA ends.length ec,.slice cA cps.length cc]):=lh (by simpa using hb1);clear h1 h2 h3 h4 x1 he1 hc1 z1 he hc hb hb1;go_enter Tryz.func211,Tryz.ntmps211
 go_upto_region 2 with fail
 generalize w.setCell ⟨gs,3,none⟩ (.int .i64 ((st:Int)+1))=wa at *;clear c3 f3;have c2:wa.cell? ⟨gs,2,none⟩=some (.int .i64 fuel):=HB1.out.cell 2;have c3:wa.cell? ⟨gs,3,none⟩=some (.int .i64 ((st:Int)+1)):=HB1.out.cell 3;have c4:wa.cell? ⟨gs,4,none⟩=some (.bool false):=HB1.out.cell 4;have f4:=HB1.out.frz 4;by_cases hlt:st+1<=fuel
 ·have hgt:¬((fuel:Int)<(st:Int)+1):=om
  go_wp2_with (go_quiet (fail))
  go_ret
  have xd:=Ext.drewN wa nq;refine⟨by simp[hlt],⟨⟨eA,ec,ends,cA,cc,cps,?_,QQ.ext HE1.out xd,QQ.ext HC1.out xd,HE.out,HC.out,H3.out,H4.out⟩,hlo⟩,HX1.out.trans xd,HZ1.out.ext xd HGL.out⟩;have b:=HB1.out.ext xd
  simpa[hlt] using b
 ·have hgt:(fuel:Int)<(st:Int)+1:=om
  go_upto_region 3 with(go_quiet (fail))
  have xd:=Ext.drewN wa nq;have HB2:=lh (HB1.out.ext xd);have HX2:=lh (HX1.out.trans xd);have HE2:=lh (QQ.ext HE1.out xd);have HC2:=lh (QQ.ext HC1.out xd);have HZ2:=lh (HZ1.out.ext xd HGL.out);clear xd c2 c3 c4 f4 HB1 HX1 HE1 HC1 HZ1;generalize wa.drewN nq=wb at *;have f4:=HB2.out.frz 4;have c4:wb.cell? ⟨gs,4,none⟩=some (.bool false):=HB2.out.cell 4;obtain⟨he3,hc3,z3⟩:=SrM.put (i:=4) (v:=.bool true) HB2.out rfl rfl om HE2.out HC2.out;have hb3:=HB2.out.set 4 (.bool true);have x3:Ext w0 (wb.setCell ⟨gs,4,none⟩ (.bool true)):=HX2.out.setNew (p:=⟨gs,4,none⟩) hlo _
  go_wp2_with fail
  go_ret
  refine⟨by simp[hlt],⟨⟨eA,ec,ends,cA,cc,cps,?_,he3,hc3,HE.out,HC.out,H3.out,H4.out⟩,hlo⟩,x3,HZ2.out.trans z3⟩
  simpa[hlt] using hb3
def i7 (n:Nat)(w:World)(e:Ending)(w':World):Prop:=∃(A:Option Addr) (c:Nat) (l:List Sp),e=.returned (.slice A l.length c)/\l.length=n/\KY w' A c l/\Ext w w'
theorem Aj:∀(l:List Sp) (m:Nat) (p q:Int),m<l.length->((Qz l).set (m*2) (.int .i64 p)).set (m*2+1) (.int .i64 q)=Qz (l.set m (p,q))
 | [],m,p,q,h=>by simp at h
 | s::l,0,p,q,_=>by simp[Qz]
 | s::l,m+1,p,q,h=>by
  have ih:=Aj l m p q (by simpa using h);have e:(m+1)*2=m*2+1+1:=om;rw[e];have e2:Qz (s::l)=.int .i64 s.1::.int .i64 s.2::Qz l:=by simp[Qz]
  rw[e2];simp only[List.set_cons_succ];rw[ih];simp[Qz]
theorem qj {w:World}{base c:Nat}{A:Option Addr}{l:List Sp}(h:QQ w base 82 2 A l.length c (Qz l))(hr:∀s∈l,S64 s):KY w A c l:=
 ⟨SL.of_ownT h hr,fun b hb=>(QQ.blt h hb).2⟩
theorem O6 (w:World)(A:Option Addr)(c:Nat)(l:List Sp)(n p q:Int)(hC:KY w A c l)(hl:l.length<=1000)(hn:I64 n)(hp:I64 p)(hq:I64 q) :
 Calls Tryz.prog 190 #[.slice A l.length c,.int .i64 n,.int .i64 p,.int .i64 q] w (i7 l.length w):=by
 obtain⟨iA,jA0,jA1,jA2,jA3⟩:=info_parts AK;have hll:=hC.1.len;have E0:=Ext.alloc w (.cells #[] 82);have HO:Hid (QQ (w.alloc (.cells #[] 82)) w.heap.size 82 2 (some ⟨w.heap.size,0,none⟩) 0 0 []):=lh (QQ.of_blk (n:=0) (c:=0) (Blk.new w 82 #[]) (Nat.le_refl _) si si um);have HCL:=lh (hC.1.ext E0).cells;have HR:=lh hC.1.rng;have HN:=lh hn;have HPQ:=lh (show S64 (p,q) from⟨hp,hq⟩);clear hC hp hq hn;go_enter Tryz.func190,Tryz.ntmps190
 go_upto_region 2 with(at_builtin;refine Qv _ rfl _ _ _ rfl w.heap.size 82 iA _ 2 16 Tryz.underlying65 jA0 jA1 jA2 jA3 rfl om _ 0 0 [] rfl HO.out _ l.length c (Qz l) rfl (Q1 l) HCL.out (ZG _) um om si ?_;intro A2 c2 w2 ho2 hg2 hat2)
 have x2:=E0.app HO.out hg2;simp only[Nat.zero_add,List.nil_append] at ho2 ⊢;have hc2:=QQ.caps ho2;have HO2:=lh ho2;clear E0 HO HCL hg2 hat2 ho2;by_cases h1:1<=n
 ·by_cases h2:n<=l.length
  ·obtain⟨m,rfl⟩:∃m:Nat,n=(m:Int)+1:=⟨(n-1).toNat,om⟩;have hm:m<l.length:=om;have ewp:IntKind.i64.wrap ((m:Int)+1-1)=(m:Int):=by have:=HN.out;unfold I64 at this;rw[IntKind.wrap_i64];omega
   have hmI:(m:Int)<l.length:=om;have hfl:m*2<(Qz l).length:=by rw[Q1];omega
   obtain⟨g,rfl,hbg,g1,gf,glt,gst⟩:=QQ.store HO2.out hfl;have ho3:=gst (.int .i64 p);have hfl2:m*2+1<((Qz l).set (m*2) (.int .i64 p)).length:=by rw[List.length_set,Q1];omega
   obtain⟨g',he,_,k1,kf,klt,kst⟩:=QQ.store ho3 hfl2;injection he with he;injection he with he _ _
   subst he;have ho4:=kst (.int .i64 q);rw[Aj _ _ _ _ hm] at ho4;have x4:Ext w ((w2.setCell ⟨g,m*2,none⟩ (.int .i64 p)).setCell ⟨g,m*2+1,none⟩ (.int .i64 q)):=(x2.setNew (p:=⟨g,m*2,none⟩) hbg _).setNew (p:=⟨g,m*2+1,none⟩) hbg _;obtain⟨z,k0⟩:∃z,w2.cell? ⟨g,m*2+1,none⟩=some z:=by
    have hfl3:m*2+1<(Qz l).length:=by rw[Q1];omega
    obtain⟨g',he,_,k1,_⟩:=QQ.store HO2.out hfl3;injection he with he;injection he with he _ _
    subst he;exact⟨_,k1⟩
   have kf0:w2.frozen? ⟨g,m*2+1,none⟩=false:=by
    have hfl3:m*2+1<(Qz l).length:=by rw[Q1];omega
    obtain⟨g',he,_,_,k1,_⟩:=QQ.store HO2.out hfl3;injection he with he;injection he with he _ _
    subst he;exact k1
   have HO4:=lh ho4;have HX4:=lh x4;clear ho3 ho4 x4 gst kst k1 kf klt
   go_wp2_with fail
   go_ret
   refine⟨some ⟨g,0,none⟩,c2,l.set m (p,q),by simp,by simp,?_,HX4.out⟩;have ho:=HO4.out;rw[show l.length=(l.set m (p,q)).length from by simp] at ho;exact qj ho (fun s hs=>by
    rcases List.mem_or_eq_of_mem_set hs with h|h
    ·exact HR.out s h
    ·exact h▸HPQ.out)
  ·go_wp2_with fail
   go_ret
   exact⟨_,_,l,rfl,rfl,qj HO2.out HR.out,x2⟩
 ·go_wp2_with fail
  go_ret
  exact⟨_,_,l,rfl,rfl,qj HO2.out HR.out,x2⟩
theorem eR:(Tryz.prog.info? 65).map (fun i=>(i.zero,i.size,i.bytes))=some (some (.slice none 0 0),1,24):=by kernel_rfl
theorem MM {l:List Value}(h:∀v∈l,∃A n c,v=.slice A n c):∀u∈l,u.oneCell'=true:=fun u hu=>by
 obtain⟨A,n,c,rfl⟩:=h u hu
 rfl
theorem zq {w:World}{b1 b2 e1 e2 s1 s2 n1 n2 c1 c2:Nat}{A B:Option Addr}{xs ys:List Value}(h:QQ w b1 e1 s1 A n1 c1 xs)(k:QQ w b2 e2 s2 B n2 c2 ys)(hne:e1≠e2):∀b,A.map (·.block)=some b->B.map (·.block)=some b->False:=fun b h1 h2=>by
 obtain⟨_,cur,q⟩:=QQ.blt h h1;obtain⟨_,cur2,q2⟩:=QQ.blt k h2;have e:=q.symm.trans q2;injection e with e;injection e with _ e _
 exact hne e
theorem SR {l:List Int}{n:Nat}(h:l.length=n)(x:Int):∃ys,Hid (ys=l++[x])/\Hid (ys.length=n+1):=⟨_,lh rfl,lh (by simp[h])⟩
theorem ST (w0 w:World)(gs:Nat)(tA:Option Addr)(tn tc:Nat)(most:Int)(fuel st ns i:Nat)(cA:Option Addr)(cc:Nat)(cl:List Sp)(x0:Ext w0 w)(hs:SrM w w0.heap.size gs tA tn tc most fuel st false ns)(hst:st<=fuel)(hns:ns<=1000000000)(hi:i<=1000000000) :
 Calls Tryz.prog 151 #[.pointer (some ⟨gs,0,none⟩),.pointer none,.int .i64 i,.slice cA cl.length cc] w (WF w0 gs tA tn tc most fuel st ns w):=by
 obtain⟨⟨eA,ec,ends,kA,kc,cps,hb,he,hk,h1,h2,h3,h4⟩,hlo⟩:=hs;obtain⟨iC,jC0,jC1,jC2,jC3⟩:=info_parts eR;obtain⟨ys,HY,HYL⟩:=SR h1 (i:Int);have hcE:=QQ.caps he;have hcK:=QQ.caps hk;have c5:w.cell? ⟨gs,5,none⟩=some (.slice eA ends.length ec):=hb.cell 5;have f5:=hb.frz 5;have HB:=lh hb;have HE:=lh he;have HK:=lh hk;have H1:=lh h1;have H2:=lh h2;have H3:=lh h3;have H4:=lh h4;have HX:=lh x0;have HM:=lh (Az hb (eA:=eA) (en:=ends.length) (ec:=ec) (cA:=kA) (cn:=cps.length) (cc:=kc) rfl rfl);have hel:ends.length<=1000000000:=om;have hkl:cps.length<=1000000000:=om;have hgE:=QK he hb de;have hgK:=QK hk hb de;have HEK:=lh (zq he hk de);have HGL:=lh hb.lt;clear hb he hk h1 h2 h3 h4 x0;go_enter Tryz.func151,Tryz.ntmps151
 go_upto_region 3 with(at_builtin;refine KN (w1:=w) rfl _ _ _ rfl 3 VV Tryz.underlying22 w0 HX.out i rfl eA ec ends rfl HE.out rfl om ys HY.out ?_;intro A2 c2 w2 ho2 x2 hg2 hat2;have hb2:=(KpP.of_grown hg2).blk HB.out hgE;have hk2:=QQ.kp HK.out (KpP.of_grown hg2) (fun b h1 h2=>HEK.out b h2 h1);have HB2:=lh hb2;have HK2:=lh hk2;have HO2:=lh ho2;have HG2:=lh hg2;have HX2:=lh x2;have HAT:=lh hat2;have c5b:w2.cell? ⟨gs,5,none⟩=some (.slice eA ends.length ec):=hb2.cell 5;have f5b:=hb2.frz 5;clear ho2 x2 hg2 hat2 hb2 hk2)
 have hg5:=HM.out.1;have B3:Blk (w2.setCell ⟨gs,5,none⟩ (.slice A2 ys.length c2)) gs 257 #[.slice tA tn tc,.int .i64 most,.int .i64 fuel,.int .i64 st,.bool false,.slice A2 ys.length c2,.slice kA cps.length kc]:=by simpa using HB2.out.set 5 (.slice A2 ys.length c2)
 have HE3:=lh (QQ.far HO2.out (p:=⟨gs,5,none⟩) (QK HO2.out HB2.out de) (.slice A2 ys.length c2));have HK3:=lh (QQ.far HK2.out (p:=⟨gs,5,none⟩) (QK HK2.out HB2.out de) (.slice A2 ys.length c2));have HX3:=lh (HX2.out.setNew (p:=⟨gs,5,none⟩) hlo (.slice A2 ys.length c2));have HZ3:Hid (ZF gs w (w2.setCell ⟨gs,5,none⟩ (.slice A2 ys.length c2))):=lh (by
  have k2:Kp (zL w gs) w w2:=(Kp.refl _ w).kpP (KpP.of_grown HG2.out) (fun i hi=>HM.out.1 i hi);refine ZF.mk2 (k2.set (p:=⟨gs,5,none⟩) (.inl List.mem_cons_self) _) B3 (eA:=A2) (en:=ys.length) (ec:=c2) (cA:=kA) (cn:=cps.length) (cc:=kc) rfl rfl (fun x hx=>?_) (fun x hx=>.inl (HM.out.2 x hx));rcases HAT.out with h|h
  ·exact .inl (HM.out.1 x (h▸hx))
  ·rw[h] at hx;injection hx with hx;exact .inr om)
 generalize w2.setCell ⟨gs,5,none⟩ (.slice A2 ys.length c2)=w3 at *;have c6:w3.cell? ⟨gs,6,none⟩=some (.slice kA cps.length kc):=B3.cell 6;have HB3:=lh B3;have f6:=B3.frz 6;have hgK3:=QK HK3.out B3 de;have HGL3:=lh B3.lt;have hx3:=HX3.out.size;clear c5b f5b HB2 HK2 HO2 HG2 HX2 HAT B3 hg5 c5 f5 HB HE HK HX HEK hgE hgK
 go_upto_region 4 with(at_builtin;refine Qv _ rfl _ _ _ rfl w0.heap.size 65 iC _ 1 24 Tryz.underlying255 jC0 jC1 jC2 jC3 rfl om kA cps.length kc cps rfl (QQ.ext HK3.out (Ext.alloc _ _)) _ 1 1 [.slice cA cl.length cc] rfl rfl (QC (Blk.new _ _ _)) (MM si) um om (by rw[World.size_alloc];omega) ?_;intro A4 c4 w4 ho4 hg4 hat4;have E3:=Ext.alloc w3 (.cells #[.slice cA cl.length cc] 65);have hb4:=(KpP.of_grown hg4).blk (HB3.out.ext E3) hgK3;have he4:=QQ.kp (QQ.ext HE3.out E3) (KpP.of_grown hg4) (fun b h1 h2=>zq HE3.out HK3.out de b h1 h2);have HB4:=lh hb4;have HE4:=lh he4;have HO4:=lh ho4;have HX4:=lh (Ext.app (HX3.out.trans E3) (QQ.ext HK3.out E3) hg4);have HK4:=lh (((Kp.of_ext E3:Kp (zL w3 gs) w3 _).kpP (KpP.of_grown hg4) (fun i hi=>(Az HB3.out (eA:=A2) (en:=ys.length) (ec:=c2) (cA:=kA) (cn:=cps.length) (cc:=kc) rfl rfl).2 i hi)));have HAT:=lh hat4;have c6b:w4.cell? ⟨gs,6,none⟩=some (.slice kA cps.length kc):=hb4.cell 6;have f6b:=hb4.frz 6;clear ho4 hg4 hat4 hb4 he4 E3)
 obtain⟨zs,HZS,HZL⟩:∃zs:List Value,Hid (zs=cps++[.slice cA cl.length cc])/\Hid (zs.length=cps.length+1):=⟨_,lh rfl,lh si⟩;have B5:Blk (w4.setCell ⟨gs,6,none⟩ (.slice A4 (cps.length+1) c4)) gs 257 #[.slice tA tn tc,.int .i64 most,.int .i64 fuel,.int .i64 st,.bool false,.slice A2 ys.length c2,.slice A4 (cps.length+1) c4]:=by simpa using HB4.out.set 6 (.slice A4 (cps.length+1) c4)
 have HE5:=lh (QQ.far HE4.out (p:=⟨gs,6,none⟩) (QK HE4.out HB4.out de) (.slice A4 (cps.length+1) c4));have HO5:=lh (QQ.far HO4.out (p:=⟨gs,6,none⟩) (QK HO4.out HB4.out de) (.slice A4 (cps.length+1) c4));have HX5:=lh (HX4.out.setNew (p:=⟨gs,6,none⟩) hlo (.slice A4 (cps.length+1) c4));have HZ5:Hid (ZF gs w (w4.setCell ⟨gs,6,none⟩ (.slice A4 (cps.length+1) c4))):=lh (by
  refine HZ3.out.trans ?_;have hm3:=Az HB3.out (eA:=A2) (en:=ys.length) (ec:=c2) (cA:=kA) (cn:=cps.length) (cc:=kc) rfl rfl;refine ZF.mk2 (HK4.out.set (p:=⟨gs,6,none⟩) (.inl List.mem_cons_self) _) B5 (eA:=A2) (en:=ys.length) (ec:=c2) (cA:=A4) (cn:=cps.length+1) (cc:=c4) rfl rfl (fun x hx=>.inl (hm3.1 x hx)) (fun x hx=>?_);rcases HAT.out with h|h
  ·exact .inl (hm3.2 x (h▸hx))
  ·rw[h] at hx;injection hx with hx;rw[World.size_alloc] at hx;exact .inr om)
 have HB5:=lh B5;have HGL5:=lh B5.lt;clear c6 f6 c6b f6b HB4 HE4 HO4 HX4 HK4 HAT HB3 HE3 HK3 HX3 HZ3 hgK3 B5 hx3;generalize w4.setCell ⟨gs,6,none⟩ (.slice A4 (cps.length+1) c4)=w5 at *;have c1:w5.cell? ⟨gs,1,none⟩=some (.int .i64 most):=HB5.out.cell 1;have c5:w5.cell? ⟨gs,5,none⟩=some (.slice A2 ys.length c2):=HB5.out.cell 5;have HC2:=QQ.caps HE5.out;have fin:∀b:Bool,∀m,WF w0 gs tA tn tc most fuel st ns w (.returned (.bool b)) (w5.drewN m):=fun b m=>by
  have xd:=Ext.drewN w5 m;refine⟨b,st,false,ns+1,rfl,⟨⟨A2,c2,ys,A4,c4,zs,?_,QQ.ext HE5.out xd,?_,by rw[HYL.out],by rw[HZL.out,H2.out],?_,?_⟩,hlo⟩,HX5.out.trans xd,HZ5.out.ext xd HGL.out,om,om,om,.inl ⟨rfl,hst⟩⟩
  ·rw[HZL.out];exact HB5.out.ext xd
  ·rw[HZL.out,HZS.out];exact QQ.ext HO5.out xd
  ·rw[HY.out];intro x hx;rcases List.mem_append.1 hx with h|h
   ·exact H3.out x h
   ·obtain rfl:=List.mem_singleton.1 h;unfold I64;omega
  ·rw[HZS.out];intro x hx;rcases List.mem_append.1 hx with h|h
   ·exact H4.out x h
   ·obtain rfl:=List.mem_singleton.1 h;exact⟨_,_,_,rfl⟩
 have HF:=lh fin;clear fin HB5 HE5 HO5 HX5 HZ5;by_cases hm:0<=most
 ·go_wp2_with (go_quiet (fail))
  go_ret
  exact HF.out _ _
 ·go_wp2_with (go_quiet (fail))
  go_ret
  exact HF.out _ _
end
