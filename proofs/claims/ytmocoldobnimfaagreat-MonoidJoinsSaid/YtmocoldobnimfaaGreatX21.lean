/- Texts of this proof: C4. -/
import Derived.Test.YtmocoldobnimfaaGreatX20
set_option linter.all false
set_option maxRecDepth 100000
set_option maxHeartbeats 16000000
namespace Go.Proofs.YtmocoldobnimfaaGreat
section
open Go.RowKit
attribute [local go_sem ↓] Go.wp_at_zero Go.wp_at_succ
theorem wp_appN {P:Program}{w0 base w:World}{T:Nat}{o:Oper}{a:Act}{K:Act→World→Prop}{Q:Exit→Act→World→Prop}(s x:Operand)(t:Nat)
 (ho:o.op=.call { callee:=.builtin .append,args:=#[s,x],argTypes:=#[t,t] })
 (i:TypeInfo) (ht:P.underlying t=some (.slice T)) (hi:P.info? T=some i) (hz:i.zero=some (.agg #[.int .i64 0,.int .i64 0,.int .i64 0,.int .i64 0,.slice none 0 0]))
 (hsize:i.size=5) (hby:i.bytes=56)
 (A:Option Addr) (c:Nat) (hs:List Hin) (hA:a.eval s=.slice A hs.length c) (hown:CdI w0 base w T A c hs)
 (B:Option Addr) (d:Nat) (ks:List Hin) (hx:a.eval x=.slice B ks.length d) (hr:CellsAt w B (flatN ks)) (hok:∀h∈ks,HinOk w0 h)
 (hb:hs.length+ks.length≤1000000) (ys:List Hin) (hys:ys=hs++ks)
 (h:∀A' c' w',CdI w0 base w' T A' c' ys→(∀b,A.map (·.block)=some b→base.heap.size≤b)→w.grownBy w' (A.map (·.block))→(A'.map (·.block)=A.map (·.block)∨A'.map (·.block)=some w.heap.size)→K (a.put o.dst (.slice A' ys.length c')) w'):o.wp P a w K Q:=by
 have hrow:=OwnS.row hown.own;refine wp_app _ s x t ho base.heap.size T i _ 5 56 ht hi hz hsize hby rfl om A hs.length c (flatN hs) hA hown.own B ks.length d (flatN ks) hx (flatN_len ks) hr (flatN_one ks) um om hown.ext.size ?_;intro A' c' w' ho' hg' hat';have hx':=hown.ext.grown hg' hrow;have hl:ys.length=hs.length+ks.length:=by rw[hys];simp
 rw[←hl];refine h A' c' w' ⟨?_,?_,hx'⟩ hrow hg' hat'
 ·rw[hl,hys,flatN_append];exact ho'
 ·rw[hys];intro z hz;rcases List.mem_append.1 hz with hz|hz
  ·exact hown.ok z hz
  ·exact hok z hz
theorem xcode_5 (w0:World)(bd:Nat)(S:Nat→Prop)(d B:Nat)(IH:CodeAll bd S w0 d B)(hB:2≤B)(w:World)(x0:Ext w0 w)(A:Option Addr)(c:Nat)(l:List Sp)(K:Option Addr)(kc:Nat)(ks:List Value)(mn mx md nn:Int)(neg:Bool)(fm:Int)
 (hn:0≤nn∧nn≤9) (h1k:1≤ks.length) (hkl:ks.length≤kc∧kc≤maxLen) (hcl:CellsAt w0 K (ks.flatMap cellsOf)) (hks:∀u∈ks,TreeAt bd S w0 d u) (hf:0≤fm) (hfB:fm+(B:Nat)+2≤1000000) :
 Calls Tryz.prog 65 #[.agg #[.int .i64 5,.slice A l.length c,.slice K ks.length kc,.int .i64 mn,.int .i64 mx,.int .i64 md,.int .i64 nn,.bool neg],.int .i64 fm] w (RetCd 123 w0 (B+2) w):=by
 obtain⟨iI,jI0,jI1,jI2,jI3⟩:=info_parts infoIn;have B0:=Blk.new w 26 #[.int .i64 5,.slice A l.length c,.slice K ks.length kc,.int .i64 mn,.int .i64 mx,.int .i64 md,.int .i64 nn,.bool neg];have E0:=Ext.alloc w (.cells #[.int .i64 5,.slice A l.length c,.slice K ks.length kc,.int .i64 mn,.int .i64 mx,.int .i64 md,.int .i64 nn,.bool neg] 26);have HIH:=lh IH;have HKL:ks.length≤kc∧kc≤9223372036854775807:=⟨hkl.1,by have:=hkl.2;unfold maxLen at this;omega⟩;have hlt0:(0:Int)<ks.length:=om;have hlt0n:0<ks.length:=om;obtain⟨b,o,hK,n,ht,k0,k1,k2,k3,k4,k5,k6,k7⟩:=kid8x (x0.trans E0) hcl hks (i:=0) om;subst hK;simp only[Nat.zero_mul,Nat.add_zero] at k0 k1 k2 k3 k4 k5 k6 k7;have HT:=lh ht;have ewp:IntKind.i64.wrap (fm+1)=fm+1:=wj;have ew1:IntKind.i64.wrap (2*nn)=2*nn:=wj;have ew2:IntKind.i64.wrap (2*nn-2)=2*nn-2:=wj;have ew3:IntKind.i64.wrap (2*nn-1)=2*nn-1:=wj;clear hcl hks hkl ht IH h1k;go_enter Tryz.func65,Tryz.ntmps65
 go_upto_region 1 with fail
 obtain⟨gx,hgx⟩:∃gx,gx=w.heap.size:=⟨_,rfl⟩
 rw[←hgx] at B0 ⊢;clear hgx;generalize w.alloc (.cells #[.int .i64 5,.slice A l.length c,.slice (some ⟨b,o,none⟩) ks.length kc,.int .i64 mn,.int .i64 mx,.int .i64 md,.int .i64 nn,.bool neg] 26)=wa at *;have X0:=x0.trans E0;have HX0:=lh X0;have z0:wa.cell? ⟨gx,0,none⟩=some (.int .i64 5):=B0.cell 0;have z2:wa.cell? ⟨gx,2,none⟩=some (.slice (some ⟨b,o,none⟩) ks.length kc):=B0.cell 2;have z6:wa.cell? ⟨gx,6,none⟩=some (.int .i64 nn):=B0.cell 6;have HE0:=lh E0
 go_upto_region 21 with fail
 have q2:=kc0 z2;have q6:=kc0 z6;have qk0:=kc0 k0;have qk1:=kc0 k1;have qk2:=kc0 k2;have qk3:=kc0 k3;have qk4:=kc0 k4;have qk5:=kc0 k5;have qk6:=kc0 k6;have qk7:=kc0 k7;obtain⟨ys9,HY9⟩:∃ys,Hid (ys=[]++[(⟨4,0,0,2*nn-2,none,0,[]⟩:Hin)]):=⟨_,lh rfl⟩;have hl9:Hid (ys9.length=1):=lh (by rw[HY9.out];rfl);refine Xr.start [] kr ?_;refine Xtk 0 ?_
 iterate 5(refine Xtn ?_)
 refine Xtk 8 ?_
 iterate 5(refine Xtn ?_)
 refine Xr.lazy 6 108 7 (fun g=>.slice (some ⟨g,0,none⟩) 1 1) 123 #[.int .i64 4,.int .i64 0,.int .i64 0,.int .i64 (2*nn-2),.slice none 0 0] rfl si dK si (fun w'=>by go_simp) ?_;refine Xr.stepZ rfl dK (fun _=>by rfl) (fun w4 g6 hE4 hK4 hg6 hB6 hno K hKK=>?_);refine wp_appN (w0:=w0) (base:=wa) _ _ _ rfl iI Tryz.underlying31 jI0 jI1 jI2 jI3 none 0 [] rfl (CdI.nil hK4.nil) _ 1 [⟨4,0,0,2*nn-2,none,0,[]⟩] rfl (hin_blk hB6) (fun h hh=>by rw[List.mem_singleton.1 hh];exact HinOk.plain w0 (by simp only[I64];omega)) si ys9 HY9.out ?_;intro A7 c7 w7 h7 hr7 hg7 hat7;have x47:Ext w4 w7:=(Ext.rfl' w4).grown hg7 si;refine hKK _ _ (KpP.of_ext x47) (hK4.ext x47) ?_;clear hKK;refine ptm ?_;refine Xcl 14 fun w10 hE10 hK10 K hKK=>?_;go_simp;refine(HIH.out w10 _ (HX0.out.trans hK10.nil) HT.out (fm+1) om om).mono ?_;rintro e w11 ⟨A14,c14,hs14,rfl,hl14,h14⟩;refine hKK _ _ h14.ext ?_;clear hKK;refine ptm ?_;have x1011:=h14.ext;obtain⟨ys10,HY10⟩:∃ys,Hid (ys=ys9++hs14):=⟨_,lh rfl⟩;have hl10:Hid (ys10.length=1+hs14.length):=lh (by rw[HY10.out,List.length_append,hl9.out]);have hup7:∀k,A7.map (·.block)=some k→k<w7.heap.size:=fun k hk=>(OwnS.blt h7.own hk).1;refine Xsp 15 fun w12 hE12 hK12 K hKK=>?_;refine wp_appN (w0:=w0) (base:=wa) _ _ _ rfl iI Tryz.underlying31 jI0 jI1 jI2 jI3 A7 c7 ys9 rfl (h7.up (hE10.trans (x1011.trans hE12))) A14 c14 hs14 rfl (OwnS.cells (h14.up hE12).own) h14.ok (by have:=hl9.out;omega) ys10 HY10.out ?_;intro A15 c15 w15 h15 hr15 hg15 hat15;refine hKK _ _ (WI_grown hg15 (fun i hi=>.inr ⟨(w4.heap.size,w7.heap.size),by simp,by rcases hat7 with h|h<;>rw[h] at hi<;>simp at hi;omega,hup7 i hi⟩)) (Kp.of_ext h15.ext) ?_
 clear hKK;refine ptm ?_;refine Xtk 16 ?_;refine Xdn fun w16 hE16 hK16=>?_;have H16:=lh (h15.up hE16);have z6c:=q6 w16 hK16;clear h15 hg15 hr15 hat15 h14 h7 hg7 hr7 hat7 x47 hE4 hK4 hE10 hK10 hE12 hK12 hup7;have hc16:=H16.out.len;obtain⟨ys11,HY11⟩:∃ys,Hid (ys=ys10++[(⟨4,0,0,2*nn-1,none,0,[]⟩:Hin)]):=⟨_,lh rfl⟩;have hl11:Hid (ys11.length=2+hs14.length):=lh (by rw[HY11.out,List.length_append,hl10.out];simp;omega)
 go_wp2_with (at_builtin;refine wpList_appN (w0:=w0) rfl _ _ _ rfl iI Tryz.underlying31 jI0 jI1 jI2 jI3 A15 c15 ys10 rfl (H16.out.up (Ext.alloc w16 _)) _ 1 [⟨4,0,0,2*nn-1,none,0,[]⟩] rfl (hin_blk (Blk.new _ _ _)) (fun h hh=>by rw[List.mem_singleton.1 hh];exact HinOk.plain w0 (by simp only[I64];omega)) (by have:=hl10.out;simp only[List.length_singleton];omega) ys11 HY11.out ?_;intro A17 c17 w17 h17 x17 hr17 hg17)
 go_ret
 exact⟨A17,c17,ys11,rfl,by have:=hl11.out;omega,h17.low HE0.out⟩
end
end Go.Proofs.YtmocoldobnimfaaGreat
