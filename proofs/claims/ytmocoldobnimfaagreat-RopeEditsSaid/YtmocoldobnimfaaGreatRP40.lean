/- Texts of this proof: R8. -/
import Derived.Test.YtmocoldobnimfaaGreatRP39
set_option linter.all false
set_option maxRecDepth 100000
set_option maxHeartbeats 8000000
namespace Go.Proofs.YtmocoldobnimfaaGreat
section
open Go.RowKit
attribute [local go_sem ↓] Go.wp_at_zero Go.wp_at_succ
def RetILT (xs:List Int)(w:World)(e:Ending)(w':World):Prop:=∃A c,e=.returned (.slice A xs.length c)∧IL w' A c xs∧Ext w w'∧Fr w A∧TyA 3 w' A
theorem clone_ty (A:Option Addr)(c:Nat)(l:List Int)(w:World)(hl:IL w A c l)(hb:l.length≤1099511627776) :
 Calls Tryz.prog 104 #[.slice A l.length c] w (RetILT l w):=by
 obtain⟨i0,hi0,hz0,hz1,hz2⟩:=info_parts infoInt
 cases A with
 | none=>
  have hl0:l=[]:=by
   rcases l with _|⟨x,l⟩
   ·rfl
   ·obtain⟨b,o,h,_⟩:=hl.at_ si;cases h
  subst hl0;have hn:=fun wx=>Lib.run_eql_slice_nil (P:=Tryz.prog) wx 22 3 none 0 c 0 0 Tryz.underlying22;go_enter Tryz.func104,Tryz.ntmps104
  go_wp2
  go_ret
  exact⟨none,0,rfl,IL.nil _,Ext.rfl' _,Fr.nil _,fun b hb=>by cases hb⟩
 | some ad=>
  have hn:=fun wx=>Lib.run_eql_slice_nil (P:=Tryz.prog) wx 22 3 (some ad) l.length c 0 0 Tryz.underlying22;simp only[Option.isNone_some] at hn;have hm:=hl.len;have hown:OwnS (w.alloc (.cells #[] 3)) w.heap.size 3 1 (some ⟨w.heap.size,0,none⟩) 0 0 []:=
   OwnS.of_blk (Blk.new w 3 #[]) (Nat.le_refl _) rfl (Nat.le_refl _) (Nat.zero_le _)
  have hcl:=(hl.ext (Ext.alloc w (.cells #[] 3))).cells;have h1:=ints_one l;have h63:0+l.length≤maxLen:=by unfold maxLen;omega
  have h8:(0+l.length)*8≤140737488355328:=om;have H63:=lh h63;have H8:=lh h8;clear hb h63 h8;go_enter Tryz.func104,Tryz.ntmps104
  go_wp2_with ((at_builtin;refine wpList_app _ rfl _ _ _ rfl w.heap.size 3 i0 (.int .i64 0) 1 8 Tryz.underlying22 hi0 hz0 hz1 hz2 rfl om _ 0 0 [] rfl hown _ l.length c (l.map (Value.int .i64)) rfl si hcl h1 H63.out H8.out si ?_;intro A' c' w' hown' hg hat))
  go_ret
  simp only[List.nil_append,Nat.zero_add] at hown';have hE:Ext w w':=(Ext.alloc w (.cells #[] 3)).grown hg si;refine⟨A',c',by simp,IL.of_own (base:=w.heap.size) (e:=3) ?_ hl.rng,hE,OwnS.row hown',TyA.own hown'⟩;exact hown'
def NeA (gb:Nat)(A:Option Addr):Prop:=∀b,A.map (·.block)=some b→b≠gb
theorem NeA.drop {gb:Nat}{A:Option Addr}(h:NeA gb A)(c k:Nat):NeA gb (dropI A c k):=fun b hb=>by
 unfold dropI at hb
 split at hb
 ·exact h b hb
 ·cases A with
  | none=>cases hb
  | some a=>exact h b (by
   simp only[Option.map_some,Addr.add] at hb ⊢
   split at hb<;>exact hb)
theorem IL.kpN {w w':World}{A:Option Addr}{c gb:Nat}{xs:List Int}(h:IL w A c xs)(hn:NeA gb A)(kk:KpP (·=gb) w w'):IL w' A c xs:=h.kp kk (fun _ b hb=>hn b hb)
theorem build_leaf {w0:World}{g:Nat}{ok:Int→Prop}{S:World→Nat→List Int→Prop}(M:Mo w0 g ok S)(w:World)(x0:Ext w0 w)(gb k:Nat)(hb:BdAt w gb g k)(hk:k≤900000)(A:Option Addr)(c:Nat)(ts:List Int)(hi:IL w A c ts)(hne:NeA gb A)
 (okt:∀x∈ts,ok x) (htl:ts.length≤65536) :
 Calls Tryz.prog 137 #[.pointer (some ⟨gb,0,none⟩),.slice A ts.length c,.int .i64 1] w (RetTr S ok gb g (k+1) (.lf ts) w):=by
 have c0:w.cell? ⟨gb,0,none⟩=some (.pointer (some ⟨g,0,none⟩)):=hb.cell 0;have HOF:=lh (M.of w x0 A c ts hi okt htl);have HI:=lh hi;have hcap:=hi.len;clear hi;go_enter Tryz.func137,Tryz.ntmps137
 go_upto_region 3 with(go_at_call 26;refine HOF.out.mono ?_;rintro e w1 ⟨gs,rfl,hs,x1⟩)
 have hb1:=lh (hb.ext x1)
 go_upto_region 4 with(go_at_call 172;refine(note_any w1 gb g k hb1.out).mono ?_;rintro e w2 ⟨rfl,hb2,hk2⟩)
 have HS2:=lh (M.kp hs hk2 (TyQ.one hb1.out));have HK2:=lh (KpP.extThen x1 hk2);clear hs hk2 hb1 x1 HOF c0;obtain⟨b0,b1',b2',z0,z1,z2,_⟩:=Blk.c3 hb2;have HB3:Hid (BdAt (w2.setCell ⟨gb,1,none⟩ (.int .i64 ((k:Int)+1))) gb g (k+1)):=lh (by have h:=Blk.set hb2 1 (.int .i64 ((k:Int)+1));exact h);have HK3':=(KpP.refl (·=gb) w2).set (x:=⟨gb,1,none⟩) (.inl rfl) (.int .i64 ((k:Int)+1));have HS3:=lh (M.kp HS2.out HK3' (TyQ.one hb2));have HK3:=lh (HK2.out.trans HK3');have HI3:=lh (HI.out.kpN hne HK3.out);clear HK3' HS2 HK2 hb2 HI hb
 go_upto_region 5 with fail
 generalize w2.setCell ⟨gb,1,none⟩ (.int .i64 ((k:Int)+1))=w3 at *;clear b0 b1' b2' z0 z1 z2
 go_wp2_with (go_at_call 104;refine(clone_ty A c ts w3 HI3.out om).mono ?_;rintro e w4 ⟨A',c',rfl,hi4,x4,_,ht4⟩)
 go_ret
 have XN:=Ext.alloc w4 (.cells #[.slice A' ts.length c',.pointer (some ⟨gs,0,none⟩)] 238);exact⟨lfV w4.heap.size,rfl,⟨⟨w4.heap.size,A',c',gs,rfl,Blk.new _ _ _,hi4.ext XN,ht4.ext XN,M.ext HS3.out (x4.trans XN)⟩,okt,by simp[Sh.hgt],htl⟩,HB3.out.ext (x4.trans XN),HK3.out.thenExt (x4.trans XN)⟩
theorem cut_bd {n L x c:Nat}(h3:L≤n)(h4:n≤32*L)(hx:x=L / 2)(hL2:2≤L)(hc:c=n*x / L):x≤c∧c≤32*x∧c+(L-x)≤n∧n-c≤32*(L-x):=by
 obtain⟨y,hy⟩:∃y,y=L-x:=⟨_,rfl⟩
 rw[←hy];have hL:x+y=L:=om;have d1:c*L≤n*x:=by rw[hc];exact Nat.div_mul_le_self _ _
 have d2:n*x<(c+1)*L:=by rw[hc];exact Nat.lt_mul_of_div_lt (Nat.lt_succ_self _) om
 have b1:x≤c:=by
  rcases Nat.lt_or_ge c x with h|h
  ·exfalso
   have k1:(c+1)*L≤x*L:=Nat.mul_le_mul_right _ om;have k2:L*x≤n*x:=Nat.mul_le_mul_right _ h3;rw[Nat.mul_comm L x] at k2;omega
  ·exact h
 have b2:c≤32*x:=by
  rcases Nat.lt_or_ge (32*x) c with h|h
  ·exfalso
   have k1:(32*x+1)*L≤c*L:=Nat.mul_le_mul_right _ om;have k2:n*x≤32*L*x:=Nat.mul_le_mul_right _ h4;have e:(32*x+1)*L=32*L*x+L:=by rw[Nat.add_mul,Nat.one_mul,Nat.mul_assoc,Nat.mul_comm x L,←Nat.mul_assoc]
   omega
  ·exact h
 have b3:c+y≤n:=by
  rcases Nat.lt_or_ge n (c+y) with h|h
  ·exfalso
   have k1:n*L=n*x+n*y:=by rw[←hL,Nat.mul_add]
   have k2:L*y≤n*y:=Nat.mul_le_mul_right _ h3;have k3:(n+1)*L≤(c+y)*L:=Nat.mul_le_mul_right _ om;have k4:(c+y)*L=c*L+L*y:=by rw[Nat.add_mul,Nat.mul_comm y L]
   have k5:(n+1)*L=n*L+L:=by rw[Nat.add_mul,Nat.one_mul]
   omega
  ·exact h
 have b4:n-c≤32*y:=by
  rcases Nat.lt_or_ge (32*y) (n-c) with h|h
  ·exfalso
   have k1:n*L=n*x+n*y:=by rw[←hL,Nat.mul_add]
   have k2:n*y≤32*L*y:=Nat.mul_le_mul_right _ h4;have k3:(32*y+1+c)*L≤n*L:=Nat.mul_le_mul_right _ om;have k4:(32*y+1+c)*L=32*L*y+(c+1)*L:=by
    rw[Nat.add_assoc,Nat.add_comm 1 c,Nat.add_mul,Nat.mul_assoc,Nat.mul_comm y L,←Nat.mul_assoc]
   omega
  ·exact h
 exact⟨b1,b2,b3,b4⟩
theorem cut_law {m half L cut:Nat}(hcut:cut=m*half / L)(hmul:m*half≤65536*65536):wrap64 ((wrap64 ((m:Int)*(half:Int))).tdiv (L:Int))=(cut:Int):=by
 have e0:(m:Int)*(half:Int)=((m*half:Nat):Int):=by simp
 rw[e0,hcut];clear hcut e0;generalize m*half=X at *;have e1:wrap64 ((X:Nat):Int)=(X:Int):=by unfold wrap64;omega
 rw[e1];have e2:(X:Int).tdiv (L:Int)=((X / L:Nat):Int):=by rw[Int.tdiv_eq_ediv_of_nonneg om];simp
 rw[e2];have e3:X / L≤X:=Nat.div_le_self _ _;generalize X / L=Y at *;unfold wrap64;omega
theorem build_node {w0:World}{g:Nat}{ok:Int→Prop}{S:World→Nat→List Int→Prop}(M:Mo w0 g ok S)(w:World)(x0:Ext w0 w)(gb k:Nat)(hgb:w0.heap.size≤gb)(hb:BdAt w gb g k)(A:Option Addr)(c:Nat)(ts:List Int)(hi:IL w A c ts)(hne:NeA gb A)(L half cut:Nat)(hL:2≤L)(hL2:L≤65536)
 (hhalf:half=L / 2) (hcut:cut=ts.length*half / L) (hct:cut≤ts.length) (htl:ts.length≤65536) (l r:Sh) (q p:Nat) (hp:p≤900000) (hn:l.text.length+r.text.length≤65536) (hh:(Sh.nd l r).hgt≤1000)
 (H1:∀w',Ext w w'→IL w' A c (ts.take cut)→Calls Tryz.prog 137 #[.pointer (some ⟨gb,0,none⟩),.slice A cut c,.int .i64 half] w' (RetTr S ok gb g q l w'))
 (H2:∀w',Ext w0 w'→BdAt w' gb g q→IL w' (dropI A c cut) (c-cut) (ts.drop cut)→Calls Tryz.prog 137 #[.pointer (some ⟨gb,0,none⟩),.slice (dropI A c cut) (ts.length-cut) (c-cut),.int .i64 (L-half:Nat)] w' (RetTr S ok gb g p r w')) :
 Calls Tryz.prog 137 #[.pointer (some ⟨gb,0,none⟩),.slice A ts.length c,.int .i64 L] w (RetTr S ok gb g (p+1) (.nd l r) w):=by
 have hcap:=hi.len;have hdv:IntKind.i64.wrap ((L:Int) / 2)=(half:Int):=wj;have HI:=lh hi;have hL0:¬(L:Int)=1:=om;obtain⟨m,hm⟩:∃m,m=ts.length:=⟨_,rfl⟩
 rw[←hm] at hcut hct htl hcap H2 ⊢;have hmul:m*half≤65536*65536:=Nat.mul_le_mul htl om;have hq:=lh (cut_law hcut hmul);have HMT:=lh hm;clear hi hm hcut hmul;have HH:=lh hhalf;clear hhalf;go_enter Tryz.func137,Tryz.ntmps137
 go_upto_region 8 with fail
 rw[hq.out];clear hq;have hcI:(cut:Int)≤m:=om;have hcc:(cut:Int)≤c:=om;have hsub:(L:Int)-(half:Int)=((L-half:Nat):Int):=by have:=HH.out;omega
 obtain⟨d,hd⟩:∃d,d=L-half:=⟨_,rfl⟩;have hwd:IntKind.i64.wrap (d:Int)=(d:Int):=wj
 rw[←hd] at H2 hsub;clear hd;refine Xr.start [gb] kr ?_;refine Xtk 0 ?_
 iterate 3(refine Xtn ?_)
 refine Xr.take 4 (some 50) (v:=.slice A cut c) rfl rfl dK (by rfl) (fun w' hk=>by go_simp) ?_;refine ptm ?_;refine Xtk 5 ?_;refine Xtk 7 ?_
 iterate 2(refine Xtn ?_)
 refine Xr.take 10 (some 56) (v:=.slice (dropI A c cut) (m-cut) (c-cut)) rfl rfl dK (by rfl) (fun w' hk=>?_) ?_
 ·by_cases hce:c=cut
  ·have e1:dropI A c cut=A:=by unfold dropI;rw[if_pos hce]
   rw[e1];subst hce;obtain rfl:m=c:=om;go_simp
  ·have e1:dropI A c cut=A.map (fun x=>x.add cut):=by unfold dropI;rw[if_neg hce]
   have hce2:¬(c:Int)=(cut:Int):=om;rw[e1];go_simp
 refine ptm ?_;refine Xtk 11 ?_;refine Xtn ?_;refine Xr.take 13 (some 59) (v:=.int .i64 d) rfl rfl dK (by rfl) (fun w' hk=>by go_simp) ?_;refine ptm ?_;refine Xsp 6 fun w1 hE1 hK1 K hKK=>?_;go_simp;refine(H1 w1 hE1 ((HI.out.ext hE1).takeR (by have:=HMT.out;omega))).mono ?_;rintro e w2 ⟨v1,rfl,k2⟩;refine hKK _ _ (WI_kp k2.kp si) (hK1.kpP k2.kp si) ?_;clear hKK;refine ptm ?_;refine Xsp 14 fun w3 hE3 hK3 K hKK=>?_;go_simp;refine(H2 w3 (KpP.extOf hK3.kpPs x0 hgb) (k2.bd.ext hE3) ((HI.out.kpN hne hK3.kpPs).dropN (by have:=HMT.out;omega))).mono ?_;rintro e w4 ⟨v2,rfl,k4⟩;refine hKK _ _ (WI_kp k4.kp si) (hK3.kpP k4.kp si) ?_;clear hKK;refine ptm ?_;refine Xsp 15 fun w5 hE5 hK5 K hKK=>?_;go_simp;refine(pair_any M w5 (KpP.extOf hK5.kpPs x0 hgb) gb p hgb (k4.bd.ext hE5) om _ _ l r (((k2.tr.ext M hE3).kp M (k2.bd.ext hE3) k4.kp).ext M hE5) (k4.tr.ext M hE5) hn hh).mono ?_;rintro e w6 ⟨v3,rfl,k6⟩;refine hKK _ _ (WI_kp k6.kp si) (hK5.kpP k6.kp si) ?_;clear hKK;refine ptm ?_;refine Xtk 16 ?_;refine Xdn fun wz hEz hKz=>?_
 go_wp2_with fail
 go_ret
 exact⟨v3,rfl,k6.tr.ext M hEz,k6.bd.ext hEz,hKz.kpPs⟩
theorem build_any {w0:World}{g:Nat}{ok:Int→Prop}{S:World→Nat→List Int→Prop}(M:Mo w0 g ok S)(gb:Nat)(hgb:w0.heap.size≤gb):∀(f:Nat) (w:World) (_:Ext w0 w) (k:Nat) (_:BdAt w gb g k) (A:Option Addr) (c:Nat) (ts:List Int) (_:IL w A c ts) (_:NeA gb A) (L:Nat) (_:1≤L) (_:L≤f) (_:L≤ts.length) (_:ts.length≤32*L) (_:∀x∈ts,ok x) (_:ts.length≤65536) (_:k+2*L≤900000),
 Calls Tryz.prog 137 #[.pointer (some ⟨gb,0,none⟩),.slice A ts.length c,.int .i64 L] w (RetTr S ok gb g (k+(bldF f ts L).2) (bldF f ts L).1 w)
 | 0,w,_,k,_,A,c,ts,_,_,L,h1,h2,_,_,_,_,_=>om
 | f+1,w,x0,k,hb,A,c,ts,hi,hne,L,h1,h2,h3,h4,okt,htl,hk=>by
  unfold bldF;by_cases h5:L=1
  ·subst h5;rw[if_pos rfl];exact build_leaf M w x0 gb k hb om A c ts hi hne okt htl
  ·rw[if_neg h5]
   simp only
   obtain⟨half,hx⟩:∃x,x=L / 2:=⟨_,rfl⟩;obtain⟨cut,hc⟩:∃c,c=ts.length*(L / 2) / L:=⟨_,rfl⟩
   rw[←hc,←hx]
   rw[←hx] at hc;obtain⟨b1,b2,b3,b4⟩:=cut_bd h3 h4 hx om hc;have l1:(ts.take cut).length=cut:=by rw[List.length_take];omega
   have l2:(ts.drop cut).length=ts.length-cut:=by rw[List.length_drop]
   obtain⟨i1,i2,i3,i4⟩:=bldF_ok f (ts.take cut) half om om om om;obtain⟨j1,j2,j3,j4⟩:=bldF_ok f (ts.drop cut) (L-half) om om om om;have q1:=Sh.Av.hgt_le i1 (by rw[i2];omega);have q2:=Sh.Av.hgt_le j1 (by rw[j2];omega);have e:k+((bldF f (ts.take cut) half).2+(bldF f (ts.drop cut) (L-half)).2+1)=k+(bldF f (ts.take cut) half).2+(bldF f (ts.drop cut) (L-half)).2+1:=om;rw[e];refine build_node M w x0 gb k hgb hb A c ts hi hne L half cut om om hx hc om htl _ _ (k+(bldF f (ts.take cut) half).2) _ om (by rw[i2,j2];omega) (by simp only[Sh.hgt];omega) (fun w' x hi'=>?_) (fun w' x hb' hi'=>?_)
   ·have h:=build_any M gb hgb f w' (x0.trans x) k (hb.ext x) A c (ts.take cut) hi' hne half om om om om (fun y hy=>okt y (List.mem_of_mem_take hy)) om om
    rwa [l1] at h
   ·have h:=build_any M gb hgb f w' x (k+(bldF f (ts.take cut) half).2) hb' (dropI A c cut) (c-cut) (ts.drop cut) hi' (hne.drop c cut) (L-half) om om om om (fun y hy=>okt y (List.mem_of_mem_drop hy)) om om
    rwa [l2] at h
theorem tree_any {w0:World}{g:Nat}{ok:Int→Prop}{S:World→Nat→List Int→Prop}(M:Mo w0 g ok S)(gb:Nat)(hgb:w0.heap.size≤gb)(w:World)(x0:Ext w0 w)(k:Nat)(hb:BdAt w gb g k)(hk:k≤800000)(A:Option Addr)(c:Nat)(ts:List Int)(hi:IL w A c ts)(hne:ts≠[]→NeA gb A)(okt:∀x∈ts,ok x)(htl:ts.length≤65536) :
 Calls Tryz.prog 94 #[.pointer (some ⟨gb,0,none⟩),.slice A ts.length c] w (RetTrO S ok gb g (k+(treeS ts).2) (treeS ts).1 w):=by
 unfold treeS;by_cases h0:ts=[]
 ·subst h0;rw[if_pos rfl];go_enter Tryz.func94,Tryz.ntmps94
  go_wp2
  go_ret
  exact⟨.nilIface,rfl,rfl,hb,KpP.refl _ _⟩
 ·rw[if_neg h0];have h1:1≤ts.length:=by cases ts with
   | nil=>exact absurd rfl h0
   | cons a b=>simp
  obtain⟨L,hL⟩:∃L,L=(ts.length+31) / 32:=⟨_,rfl⟩;have H:=build_any M gb hgb L w x0 k hb A c ts hi (hne h0) L om (Nat.le_refl _) om om okt htl om
  rw[←hL];have HH:=lh H;have hcap:=hi.len;have h0I:((ts.length:Int) == 0)=false:=by simpa using(by omega:¬(ts.length:Int)=0)
  generalize bldF L ts L=bb at *;have HL:=lh hL;generalize ts.length=m at *;clear H hi hne h0 h1 hL;go_enter Tryz.func94,Tryz.ntmps94
  go_wp2_with (go_at_call 137;rw[show((m:Int)+32-1) / 32=(L:Int) by have:=HL.out;omega];refine HH.out.mono ?_;rintro e w1 ⟨v1,rfl,k1⟩)
  go_ret
  exact⟨v1,rfl,k1.tr,k1.bd,k1.kp⟩
end
end Go.Proofs.YtmocoldobnimfaaGreat
