/- Texts of this proof: RA. -/
import Derived.Test.YtmocoldobnimfaaGreatRP41
set_option linter.all false
set_option maxRecDepth 100000
set_option maxHeartbeats 8000000
namespace Go.Proofs.YtmocoldobnimfaaGreat
section
open Go.RowKit
attribute [local go_sem ↓] Go.wp_at_zero Go.wp_at_succ
theorem madeCells_1 (v:Value)(n:Nat):madeCells #[v] (n*1)=((List.replicate n v)).toArray:=by
 unfold madeCells;refine Array.ext si (fun i h1 h2=>?_);simp[Nat.mod_one]
theorem mkI (n:Nat)(h:n≤1000000)(W:World):(Instr.makeSlice 22 (.int .i64 (n:Int)) (.int .i64 (n:Int))).run Tryz.prog W=.ok (.slice (some ⟨W.heap.size,0,none⟩) n n) (W.alloc (.cells (List.replicate n (.int .i64 0)).toArray 3)):=by
 obtain⟨i0,hi0,hz0,hz1,hz2⟩:=info_parts infoInt;have:=run_make (P:=Tryz.prog) W 22 3 i0 (.int .i64 0) Tryz.underlying22 hi0 hz0 .i64 .i64 n n om (Int.le_refl _) (by rw[hz2];omega) om;rw[this,hz1];simp only[Int.toNat_natCast,Value.cells];rw[madeCells_1]
theorem zero_il (w:World)(n:Nat)(h:n≤1000000):IL (w.alloc (.cells (List.replicate n (.int .i64 0)).toArray 3)) (some ⟨w.heap.size,0,none⟩) n (List.replicate n 0):=by
 refine⟨by simp,by unfold maxLen;omega,fun x hx=>by rw[(List.mem_replicate.1 hx).2];unfold I64;omega,fun _=>⟨_,0,rfl,fun i hi=>?_⟩⟩;have hb:=Blk.new w 3 (List.replicate n (Value.int .i64 0)).toArray;have hi':i<n:=by simpa using hi
 rw[Nat.zero_add,hb.cell i];simp[hi']
theorem head_nil {g:Nat}{ok:Int→Prop}{S:World→Nat→List Int→Prop}(w:World)(gb k:Nat)(hb:BdAt w gb g k)(x:Value) :
 Calls Tryz.prog 96 #[.pointer (some ⟨gb,0,none⟩),.nilIface,x] w (RetHd S ok gb g k none [] w):=by
 have ta:=asNil;have ta1:=fun w=>(ta w).1;have ta2:=fun w=>(ta w).2;clear ta;go_enter Tryz.func96,Tryz.ntmps96
 go_wp2
 go_ret2
 exact⟨.nilIface,none,0,rfl,rfl,IL.nil _,(fun b hb=>by cases hb),hb,KpP.refl _ _⟩
theorem tail_nil {g:Nat}{ok:Int→Prop}{S:World→Nat→List Int→Prop}(w:World)(gb k:Nat)(hb:BdAt w gb g k)(x:Value) :
 Calls Tryz.prog 97 #[.pointer (some ⟨gb,0,none⟩),.nilIface,x] w (RetTl S ok gb g k none [] w):=by
 have ta:=asNil;have ta1:=fun w=>(ta w).1;have ta2:=fun w=>(ta w).2;clear ta;go_enter Tryz.func97,Tryz.ntmps97
 go_wp2
 go_ret2
 exact⟨.nilIface,none,0,rfl,rfl,IL.nil _,(fun b hb=>by cases hb),hb,KpP.refl _ _⟩
theorem headO_any {w0:World}{g:Nat}{ok:Int→Prop}{S:World→Nat→List Int→Prop}(M:Mo w0 g ok S)(gb:Nat)(hgb:w0.heap.size≤gb)(o:Option Sh)(w:World)(x0:Ext w0 w)(k:Nat)(hb:BdAt w gb g k)(hk:k≤600000)(v:Value)(n:Nat)(h:TrO S ok w v o)(ha:AvO o)(hn:n≤(txtO o).length) :
 Calls Tryz.prog 96 #[.pointer (some ⟨gb,0,none⟩),v,.int .i64 n] w (RetHd S ok gb g (k+(hdO o n).2.2) (hdO o n).1 (hdO o n).2.1 w):=by
 cases o with
 | none=>subst h;exact head_nil w gb k hb _
 | some t=>exact head_any M gb hgb t w x0 k hb hk v n h ha hn
theorem tailO_any {w0:World}{g:Nat}{ok:Int→Prop}{S:World→Nat→List Int→Prop}(M:Mo w0 g ok S)(gb:Nat)(hgb:w0.heap.size≤gb)(o:Option Sh)(w:World)(x0:Ext w0 w)(k:Nat)(hb:BdAt w gb g k)(hk:k≤600000)(v:Value)(n:Nat)(h:TrO S ok w v o)(ha:AvO o)(hn:n≤(txtO o).length) :
 Calls Tryz.prog 97 #[.pointer (some ⟨gb,0,none⟩),v,.int .i64 n] w (RetTl S ok gb g (k+(tlO o n).2.2) (tlO o n).2.1 (tlO o n).1 w):=by
 cases o with
 | none=>subst h;exact tail_nil w gb k hb _
 | some t=>exact tail_any M gb hgb t w x0 k hb hk v n h ha hn
def RetEd (S:World→Nat→List Int→Prop)(ok:Int→Prop)(g:Nat)(o:Option Sh)(a d:Int)(l:List Int)(w:World)(e:Ending)(w':World):Prop:=
 (editErr (txtO o).length a d l≠0∧e=.returned (.tuple #[.pointer none,.int .i64 (editErr (txtO o).length a d l)])∧Ext w w')∨
 (editErr (txtO o).length a d l=0∧RetRp S ok g (edS o a.toNat d.toNat l).1 (edS o a.toNat d.toNat l).2 w e w')
theorem oedit_any {w0:World}{g:Nat}{ok:Int→Prop}{S:World→Nat→List Int→Prop}(M:Mo w0 g ok S)(w:World)(x0:Ext w0 w)(gr kold:Nat)(o:Option Sh)(h:RpAt S ok w gr g o kold)(ao:AvO o)(hlen:(txtO o).length≤65536)(a d:Int)(A:Option Addr)(c:Nat)(l:List Int)(hi:IL w A c l)(okl:∀x∈l,ok x)(hd:I64 d)(hll:l.length≤1000000) :
 Calls Tryz.prog 50 #[.pointer (some ⟨gr,0,none⟩),.agg #[.int .i64 a,.int .i64 d,.slice A l.length c]] w (RetEd S ok g o a d l w):=by
 have XE:=lh (Ext.alloc w (.cells #[.int .i64 a,.int .i64 d,.slice A l.length c] 102));have BE:=Blk.new w 102 #[.int .i64 a,.int .i64 d,.slice A l.length c];obtain⟨err,herr⟩:∃err,err=editErr (txtO o).length a d l:=⟨_,rfl⟩;have HER:=lh herr;have HSP:=fun(w':World) (x:Ext w w') (T:Option Addr) (hT:IL w' T (txtO o).length (List.replicate (txtO o).length 0))=>lh (show ∃xs,Calls Tryz.prog 95 #[.slice T (txtO o).length (txtO o).length,.agg #[.int .i64 a,.int .i64 d,.slice A l.length c]] w' (RetSp xs err w') by
  have e0:(List.replicate (txtO o).length (0:Int)).length=(txtO o).length:=List.length_replicate;by_cases he:err=0
  ·refine⟨spliceL (List.replicate (txtO o).length 0) a d l,?_⟩;have h:=splice_ok T (txtO o).length (List.replicate (txtO o).length 0) a d A c l w' hT (hi.ext x) hd om om (by rw[e0,←herr,he]);rw[e0] at h;rw[he];exact h
  ·refine⟨[],?_⟩;have h:=splice_no T (txtO o).length (List.replicate (txtO o).length 0) a d A c l w' hT (hi.ext x) hd om om (by rw[e0,←herr];exact he);rw[e0,←herr] at h;exact h)
 have hcap:=hi.len;clear herr;go_enter Tryz.func50,Tryz.ntmps50
 go_upto_region 1 with fail
 obtain⟨ge,hge⟩:∃ge,ge=w.heap.size:=⟨_,rfl⟩
 rw[←hge] at BE ⊢;generalize w.alloc (.cells #[.int .i64 a,.int .i64 d,.slice A l.length c] 102)=w1 at *;obtain⟨c0,c1,c2,_⟩:=BE.c3;have d0:=kc0 c0;have d1:=kc0 c1;have d2:=kc0 c2;clear hge;refine Xr.start [] kr ?_;refine Xtk 0 ?_;refine Xr.take 3 (some 18) (v:=.agg #[.int .i64 a,.int .i64 d,.slice A l.length c]) rfl rfl dK (by rfl) (fun w' hk=>by have q0:=d0 w' hk;have q1:=d1 w' hk;have q2:=d2 w' hk;go_simp) ?_;refine ptm ?_;refine Xcl 1 fun w2 hE2 hK2 K hKK=>?_;go_simp;refine(olen_any w2 gr g kold o (RpAt.ext M h (XE.out.trans hE2))).mono ?_;rintro e w3 ⟨rfl,rfl⟩;refine hKK _ _ (Ext.rfl' _) ?_;clear hKK;refine ptm ?_;refine Xsp 2 fun w4 hE4 hK4 K hKK=>?_;have hmk:=mkI (txtO o).length om w4;go_simp;have XM:=Ext.alloc w4 (.cells (List.replicate (txtO o).length (.int .i64 0)).toArray 3);refine hKK _ _ (KpP.of_ext XM) (hK4.ext XM) ?_;clear hKK hmk;have ZI:=zero_il w4 (txtO o).length om;simp only[List.toArray_replicate] at ZI;refine ptm ?_;refine Xcl 4 fun w6 hE6 hK6 K hKK=>?_;go_simp;obtain⟨xs,HX⟩:=(HSP w6 (XE.out.trans hK6.nil) _ (ZI.ext hE6)).out;refine HX.mono ?_;rintro e w7 ⟨A7,c7,rfl,hi7,x7,_⟩;refine hKK _ _ x7 ?_;clear hKK HX;refine ptm ?_;refine Xtk 5 ?_
 iterate 4(refine Xtn ?_)
 refine Xdn fun w8 hE8 hK8=>?_;have X8:=lh hK8.nil;clear hE2 hK2 hE4 hK4 hE6 hK6 hE8 hK8 x7 hi7 ZI XM HSP d0 d1 d2;by_cases he:err=0
 ·subst he;obtain⟨e1,e2,e3,_,e5⟩:=editErr_ok HER.out.symm;obtain⟨n1,rfl⟩:∃n1:Nat,a=n1:=⟨a.toNat,om⟩;obtain⟨m1,rfl⟩:∃m1:Nat,d=m1:=⟨d.toNat,om⟩;have XW8:=lh (XE.out.trans X8.out);obtain⟨v,hbR,ht⟩:=RpAt.ext M h XW8.out;obtain⟨r0,r1,r2,_⟩:=hbR.c3;replace c0:=X8.out.cell c0;replace c1:=X8.out.cell c1;replace c2:=X8.out.cell c2;have BE8:=BE.ext X8.out;have HI8:=lh (hi.ext XW8.out);have XX8:=lh (x0.trans XW8.out);have n1e:n1≤(txtO o).length:=om;have nme:n1+m1≤(txtO o).length:=om;have hK0:=hdO_ok n1 ao;have hK1:=tlO_ok (n1+m1) ao;have hho:=AvO.hgt_le ao om;have H0:=lh hK0;have H1:=lh hK1;have HE5:=lh e5;have hcap2:l.length≤1000000:=hll;have HOT:Hid (∀x∈txtO o,ok x):=lh (by cases o with|none=>(intro x hx;cases hx)|some t=>exact ht.ok_);clear e1 e2 e3 e5 hK0 hK1 BE h hi X8 XE
  go_upto_region 5 with fail
  have XN:=Ext.alloc w8 (.cells #[.pointer (some ⟨g,0,none⟩),.int .i64 0,.int .i64 0] 170);have BN:BdAt (w8.alloc (.cells #[.pointer (some ⟨g,0,none⟩),.int .i64 0,.int .i64 0] 170)) w8.heap.size g 0:=Blk.new w8 170 #[.pointer (some ⟨g,0,none⟩),.int .i64 0,.int .i64 0];obtain⟨gb,hgb⟩:∃gb,gb=w8.heap.size:=⟨_,rfl⟩
  rw[←hgb] at BN ⊢;have hgb0:w0.heap.size≤gb:=by have:=XX8.out.size;omega
  have HGB:=lh (show w8.heap.size≤gb by omega);have hgbw:Hid (w.heap.size≤gb):=lh (by have:=XW8.out.size;omega);clear hgb;generalize w8.alloc (.cells #[.pointer (some ⟨g,0,none⟩),.int .i64 0,.int .i64 0] 170)=w9 at *;have HX9:=lh (XX8.out.trans XN);have HW9:=lh (XW8.out.trans XN);have hbR9:=hbR.ext XN;have BE9:=BE8.ext XN;have HT9:=lh (ht.ext M XN);have HI9:=lh (HI8.out.ext XN);have q1:=fun(w':World) (h:Kp [gb] w9 w')=>h.cell (XN.cell r1) (by simpa using Blk.neT hbR9 BN de);have q2:=fun(w':World) (h:Kp [gb] w9 w')=>h.cell (XN.cell c0) (by simpa using Blk.neT BE9 BN de);have q3:=fun(w':World) (h:Kp [gb] w9 w')=>h.cell (XN.cell c1) (by simpa using Blk.neT BE9 BN de);have q4:=fun(w':World) (h:Kp [gb] w9 w')=>h.cell (XN.cell c2) (by simpa using Blk.neT BE9 BN de);have Q1:=lh q1;have Q2:=lh q2;have Q3:=lh q3;have Q4:=lh q4;have HI8':Hid (l≠[]→NeA gb A):=lh (fun h0=>HI8.out.ne h0 HGB.out);clear r0 r1 r2 c0 c1 c2 hbR ht BE8 HI8 XX8 XN XW8 hbR9 BE9 q3 q4;refine Xr.start [gb] kr ?_;refine Xtk 0 ?_
  iterate 6(refine Xtn ?_)
  refine Xsp 7 fun w10 hE10 hK10 K hKK=>?_;go_simp;refine(headO_any M gb hgb0 o w10 (KpP.extOf hK10.kpPs HX9.out hgb0) 0 (BN.ext hE10) om v n1 (TrO.kp M BN hK10.kpPs HT9.out) ao n1e).mono ?_;rintro e w11 ⟨v1,A1,c1',rfl,k11⟩;refine hKK _ _ (WI_kp k11.kp si) (hK10.kpP k11.kp si) ?_;clear hKK;refine ptm ?_;refine Xtk 8 ?_
  iterate 4(refine Xtn ?_)
  refine Xdn fun w12 hE12 hK12=>?_;have KK12:=lh hK12.kpPs;have HB12:=lh (k11.bd.ext hE12);have T12:=lh (TrO.ext M hE12 k11.tr);have I12:=lh (k11.il.ext hE12);have Y12:=lh (k11.ty.ext hE12);clear hE10 hK10 hE12 k11 q1 q2;have hK12':=hK12;have q1:=fun(w':World) (h:Kp [gb] w12 w')=>Q1.out w' (hK12'.trans h);have q2:=fun(w':World) (h:Kp [gb] w12 w')=>Q2.out w' (hK12'.trans h);have q3:=fun(w':World) (h:Kp [gb] w12 w')=>Q3.out w' (hK12'.trans h);clear hK12;have hwa:IntKind.i64.wrap ((n1:Int)+(m1:Int))=((n1+m1:Nat):Int):=wj
  go_upto_region 6 with fail
  refine Xr.start [gb] kr ?_;refine Xtk 0 ?_
  iterate 8(refine Xtn ?_)
  refine Xr.take 9 (some 52) (v:=.int .i64 ((n1+m1:Nat):Int)) rfl rfl dK (by rfl) (fun w' hk=>by go_simp) ?_;refine ptm ?_;refine Xsp 10 fun w13 hE13 hK13 K hKK=>?_;go_simp;refine(tailO_any M gb hgb0 o w13 (KpP.extOf (hK12'.trans hK13).kpPs HX9.out hgb0) _ (HB12.out.ext hE13) (by have:=H0.out.2.2.2.2;have:=H0.out.2.2.2.1;omega) v (n1+m1) (TrO.kp M BN (hK12'.trans hK13).kpPs HT9.out) ao nme).mono ?_;rintro e w14 ⟨v2,A2,c2',rfl,k14⟩;refine hKK _ _ (WI_kp k14.kp si) (hK13.kpP k14.kp si) ?_;clear hKK;refine ptm ?_;refine Xtk 11 ?_
  iterate 4(refine Xtn ?_)
  refine Xdn fun w15 hE15 hK15=>?_;have KK15:=lh (hK12'.trans hK15).kpPs;have KQ:=lh hK15.kpPs;have HB15:=lh (k14.bd.ext hE15);have T1:=lh (TrO.kp M HB12.out hK15.kpPs T12.out);have I1:=lh (I12.out.kpB Y12.out HB12.out hK15.kpPs);have T2:=lh (TrO.ext M hE15 k14.tr);have I2:=lh (k14.il.ext hE15);have qq4:=Q4.out w15 (hK12'.trans hK15);have HX15:=lh (KpP.extOf KK15.out HX9.out hgb0);have HW15:=lh (KpP.extOf KK15.out HW9.out hgbw.out);have I9:=lh (I12.out);have HIL:=lh (show IL w15 A c l from HI9.out.kp KK15.out (fun h0 b hb e=>by
   subst e;exact absurd rfl (HI8'.out h0 b hb)))
  clear hE13 hK13 hE15 hK15 k14 q1 q2 q3 Q1 Q2 Q3 Q4 hK12' KK12 HB12 T12 I12 Y12 hwa;obtain⟨p,hp⟩:∃p,p=hdO o n1:=⟨_,rfl⟩;obtain⟨q,hq⟩:∃q,q=tlO o (n1+m1):=⟨_,rfl⟩
  rw[←hp] at H0 T1 I1 HB15
  rw[←hq] at H1 T2 I2 HB15
  rw[←hp,←hq];obtain⟨mid,hmid⟩:∃mid,mid=p.2.1++l++q.1:=⟨_,rfl⟩;obtain⟨kq,hkq⟩:∃kq,kq=0+p.2.2+q.2.2:=⟨_,rfl⟩
  rw[←hkq] at HB15;have hkq6:kq≤600000:=by have:=H0.out.2.2.2.2;have:=H0.out.2.2.2.1;have:=H1.out.2.2.2.2;have:=H1.out.2.2.2.1;omega
  have hml:mid.length=p.2.1.length+l.length+q.1.length:=by rw[hmid];simp only[List.length_append]
  have hm1:(txtO p.1).length+p.2.1.length=n1:=by have h:=congrArg List.length H0.out.2.1;rw[List.length_append,List.length_take] at h;omega
  have hm2:q.1.length+(txtO q.2.1).length=(txtO o).length-(n1+m1):=by have h:=congrArg List.length H1.out.2.1;rw[List.length_append,List.length_drop] at h;omega
  have hm3:(txtO p.1).length+mid.length+(txtO q.2.1).length≤65536:=by have:=HE5.out;omega
  have okm:∀x∈mid,ok x:=fun x hx=>by
   rw[hmid] at hx;rcases List.mem_append.1 hx with hx|hx
   ·rcases List.mem_append.1 hx with hx|hx
    ·exact HOT.out x (List.mem_of_mem_take (by rw[←H0.out.2.1];exact List.mem_append_right _ hx))
    ·exact okl x hx
   ·exact HOT.out x (List.mem_of_mem_drop (by rw[←H1.out.2.1];exact List.mem_append_left _ hx))
  have HOM:=lh okm;have XC:=lh (Ext.alloc w15 (.cells #[.slice A1 p.2.1.length c1',.slice A l.length c,.slice A2 q.1.length c2'] 22));have BC:=Blk.new w15 22 #[.slice A1 p.2.1.length c1',.slice A l.length c,.slice A2 q.1.length c2'];have hflat:[p.2.1,l,q.1].flatten=mid:=by rw[hmid];simp
  have HCC:=concat_any (some ⟨w15.heap.size,0,none⟩) 3 [p.2.1,l,q.1] _ (LL.three BC (I1.out.ext XC.out) (HIL.out.ext XC.out) (I2.out.ext XC.out)) (by rw[hflat];omega);rw[hflat] at HCC;have HCC:=lh HCC;have HM3:=lh (And.intro hm3 (And.intro hml hkq));have HMID:=lh hmid;have HPQ:=lh (And.intro hp hq);have hbl:gb<w15.heap.size:=HB15.out.lt;have HGL:=lh hbl;clear hflat BC okm hm1 hm2 hm3 hml hmid hkq hbl hp hq;generalize hPB:p.2.1.length=pb at *;generalize hQA:q.1.length=qa at *;clear hPB hQA
  go_upto_region 8 with(first|(have hq:=HTR;go_at_call 94;refine HTR.out.mono ?_;rintro e w17 ⟨vm,rfl,t17,b17,k17⟩)|(go_at_call 98;refine HCC.out.mono ?_;rintro e w16 ⟨A3,c3,rfl,hi3,x16,fr3⟩;have HX16:=lh (XC.out.trans x16);have HTR:=lh (tree_any M gb hgb0 w16 (HX15.out.trans HX16.out) kq (HB15.out.ext HX16.out) om A3 c3 mid hi3 (fun _ b hb e=>by have h1:=fr3 b hb;have h2:=HGL.out;have h3:=XC.out.size;omega) HOM.out (by have:=HM3.out.1;omega))))
  have HB16:=HB15.out.ext HX16.out;have T1':=lh (TrO.kp M HB16 k17 (TrO.ext M HX16.out T1.out));have T2':=lh (TrO.kp M HB16 k17 (TrO.ext M HX16.out T2.out));have X17:=lh (KpP.extOf k17 (HX15.out.trans HX16.out) hgb0);have W17:=lh (KpP.extOf k17 (HW15.out.trans HX16.out) hgbw.out);have hts:=treeS_ok mid;obtain⟨m,hm⟩:∃m,m=treeS mid:=⟨_,rfl⟩
  rw[←hm] at t17 b17 hts;have hm3:=HM3.out;have hcA:=catO_ok (l:=p.1) (r:=m.1) H0.out.1 hts.1;have hh1:=AvO.hgt_le H0.out.1 om;have hh2:=AvO.hgt_le hts.1 (by rw[hts.2.1];omega);have HC1:=lh (catO_any M gb hgb0 w17 X17.out (kq+m.2) b17 om v1 vm p.1 m.1 T1'.out t17 H0.out.1 hts.1 (by rw[hts.2.1];omega));obtain⟨x,hx⟩:∃x,x=catO p.1 m.1:=⟨_,rfl⟩
  rw[←hx] at hcA HC1;have hl4:(txtO x.1).length=(txtO p.1).length+mid.length:=by rw[hcA.2.1,List.length_append,hts.2.1]
  have hh3:=AvO.hgt_le hcA.1 om;have hh4:=AvO.hgt_le H1.out.1 om;have hcB:=catO_ok (l:=x.1) (r:=q.2.1) hcA.1 H1.out.1;have HK2:Hid (kq+m.2+x.2≤800000):=lh om;have HL2:Hid ((txtO x.1).length+(txtO q.2.1).length≤65536):=lh om;obtain⟨y,hy⟩:∃y,y=catO x.1 q.2.1:=⟨_,rfl⟩;have HED:Hid (edS o n1 m1 l=(y.1,kq+m.2+x.2+y.2)):=lh (by
   unfold edS
   simp only
   rw[←HPQ.out.1,←HPQ.out.2,←HMID.out,←hm,←hx,←hy,hm3.2.2,Nat.zero_add])
  have HA:=lh (And.intro hcA.1 hy);have HB17:=lh b17;clear hts hm3 hcA hh1 hh2 hh3 hh4 hl4 hcB hm hx hy HB16 t17 k17 b17 T1 T2 HX16 HX15 HW15 HTR I1 I2 HIL HI9 HT9 BN
  go_wp2_with (first|(have hq:=HRO;go_at_call 93;refine HRO.out.mono ?_;rintro e w20 ⟨gr',rfl,r20,x20⟩)|(have hq:=HC2;go_at_call 99;refine HC2.out.mono ?_;rintro e w19 ⟨vy,rfl,t19,b19,k19⟩;have W19:=lh (KpP.extOf k19 W18.out hgbw.out);have HRO:=lh (rope_any M w19 gb _ b19 vy _ t19))|(go_at_call 99;refine HC1.out.mono ?_;rintro e w18 ⟨vx,rfl,t18,b18,k18⟩;have W18:=lh (KpP.extOf k18 W17.out hgbw.out);have HC2:=lh (catO_any M gb hgb0 w18 (KpP.extOf k18 X17.out hgb0) (kq+m.2+x.2) b18 HK2.out vx v2 x.1 q.2.1 t18 (TrO.kp M HB17.out k18 T2'.out) HA.out.1 H1.out.1 HL2.out)))
  go_ret2
  refine .inr ⟨by rw[←HER.out],gr',rfl,?_,W19.out.trans x20⟩;rw[Int.toNat_natCast,Int.toNat_natCast,HED.out]
  rw[←HA.out.2] at r20;exact r20
 ·have hb:(err != 0)=true:=by simpa using he
  go_wp2_with fail
  go_ret2
  exact .inl ⟨by rw[←HER.out];exact he,by rw[←HER.out];rfl,XE.out.trans X8.out⟩
end
end Go.Proofs.YtmocoldobnimfaaGreat
