/- Texts of this proof: J16 J17 C8. -/
import Derived.Test.YtmocoldobnimfaaGreatX27
import Derived.Test.YtmocoldobnimfaaGreatX40
set_option linter.all false
set_option maxRecDepth 100000
set_option maxHeartbeats 16000000
namespace Go.Proofs.YtmocoldobnimfaaGreat
section
open Go.RowKit
attribute [local go_sem ↓] Go.wp_at_zero Go.wp_at_succ
theorem yformed_cells (op mn mx md nn:Int)(neg:Bool)(A K:Option Addr)(c kc nk:Nat)(l:List Sp)(p q:Int)(w:World)(hsl:SL w A c l)(hk:nk≤kc∧kc≤9223372036854775807):Calls Tryz.prog 153 #[.agg #[.int .i64 op,.slice A l.length c,.slice K nk kc,.int .i64 mn,.int .i64 mx,.int .i64 md,.int .i64 nn,.bool neg],.int .i64 p,.int .i64 q] w (RetB w):=by
 have hll:=hsl.len;have B0:=Blk.new w 26 #[.int .i64 op,.slice A l.length c,.slice K nk kc,.int .i64 mn,.int .i64 mx,.int .i64 md,.int .i64 nn,.bool neg];have E0:=Ext.alloc w (.cells #[.int .i64 op,.slice A l.length c,.slice K nk kc,.int .i64 mn,.int .i64 mx,.int .i64 md,.int .i64 nn,.bool neg] 26);have HSP:=fun(w':World) (x:Ext w w')=>lh (yspans_any A c l q w' (hsl.ext x));have HKN:=fun(w':World)=>lh (ykidsN_any op w');clear hsl;go_enter Tryz.func153,Tryz.ntmps153
 go_upto_region 1 with fail
 obtain⟨gx,hgx⟩:∃gx,gx=w.heap.size:=⟨_,rfl⟩
 rw[←hgx] at B0 ⊢;clear hgx;generalize w.alloc (.cells #[.int .i64 op,.slice A l.length c,.slice K nk kc,.int .i64 mn,.int .i64 mx,.int .i64 md,.int .i64 nn,.bool neg] 26)=wa at *;have z0:=B0.cell 0
 go_upto_region 2 with(go_at_call 192;refine(HKN _).out.mono ?_;rintro e wb ⟨x,y,rfl,xb⟩)
 have Bb:=B0.ext xb;obtain⟨y0,y1,y2,y3,y4,y5,y6,y7⟩:wb.cell? ⟨gx,0,none⟩=some (.int .i64 op)∧wb.cell? ⟨gx,1,none⟩=some (.slice A l.length c)∧wb.cell? ⟨gx,2,none⟩=some (.slice K nk kc)∧wb.cell? ⟨gx,3,none⟩=some (.int .i64 mn)∧wb.cell? ⟨gx,4,none⟩=some (.int .i64 mx)∧wb.cell? ⟨gx,5,none⟩=some (.int .i64 md)∧wb.cell? ⟨gx,6,none⟩=some (.int .i64 nn)∧wb.cell? ⟨gx,7,none⟩=some (.bool neg):=⟨Bb.cell 0,Bb.cell 1,Bb.cell 2,Bb.cell 3,Bb.cell 4,Bb.cell 5,Bb.cell 6,Bb.cell 7⟩;clear z0 B0;have X0:=E0.trans xb
 go_wp2_with (go_at_call 193;refine(HSP wb X0).out.mono ?_;rintro e ws ⟨b,rfl,xs⟩;have Bs:=Bb.ext xs;obtain⟨u0,u1,u2,u3,u4,u5,u6,u7⟩:ws.cell? ⟨gx,0,none⟩=some (.int .i64 op)∧ws.cell? ⟨gx,1,none⟩=some (.slice A l.length c)∧ws.cell? ⟨gx,2,none⟩=some (.slice K nk kc)∧ws.cell? ⟨gx,3,none⟩=some (.int .i64 mn)∧ws.cell? ⟨gx,4,none⟩=some (.int .i64 mx)∧ws.cell? ⟨gx,5,none⟩=some (.int .i64 md)∧ws.cell? ⟨gx,6,none⟩=some (.int .i64 nn)∧ws.cell? ⟨gx,7,none⟩=some (.bool neg):=⟨Bs.cell 0,Bs.cell 1,Bs.cell 2,Bs.cell 3,Bs.cell 4,Bs.cell 5,Bs.cell 6,Bs.cell 7⟩;have X1:=X0.trans xs;cases b)
 all_goals
  go_ret
  first|exact⟨_,rfl,X1⟩|exact⟨_,rfl,X0⟩
end
section
open Go.RowKit
theorem yformed_any (bd:Nat)(S:Nat→Prop)(p q:Int)(d:Nat)(w:World)(v:Value)(h:TreeAt bd S w d v):Calls Tryz.prog 153 #[v,.int .i64 p,.int .i64 q] w (RetB w):=by
 obtain⟨e,rfl⟩:=h.pos;obtain⟨n,rfl,hok,hsl,hkl,hkc,hcl,hks⟩:=h.node;exact yformed_cells n.op n.mn n.mx n.md n.n n.neg n.A n.K n.c n.kc n.ks.length n.l p q w hsl ⟨hkl,by unfold maxLen at hkc;omega⟩
theorem yvalid_any (bd:Nat)(S:Nat→Prop)(d:Nat)(w:World)(n:Nd)(gr:Int)(rn:Bool)(ht:TreeAt bd S w d n.val) :
 Calls Tryz.prog 63 #[.agg #[.int .i64 n.op,.slice n.A n.l.length n.c,.slice n.K n.ks.length n.kc,.int .i64 n.mn,.int .i64 n.mx,.int .i64 n.md,.int .i64 n.n,.bool n.neg,.int .i64 gr,.bool rn]] w (RetAn w):=
 yvalid_of bd S (fun p q d w v h=>yformed_any bd S p q d w v h) d w n gr rn ht
end
section
open Go.RowKit
attribute [local go_sem ↓] Go.wp_at_zero Go.wp_at_succ
structure GpAt (E:List Int)(w:World)(A:Option Addr)(c:Nat)(hs:List Hin):Prop where
 pl:PL w A c hs
 sets:∀h∈hs,SetE E h.l
 len:hs.length≤1000
theorem GpAt.ext {E:List Int}{w w':World}{A:Option Addr}{c:Nat}{hs:List Hin}(h:GpAt E w A c hs)(x:Ext w w'):GpAt E w' A c hs:=⟨h.pl.ext x,h.sets,h.len⟩
theorem GpAt.nil (E:List Int)(w:World):GpAt E w none 0 []:=⟨PL.nil w,by simp,by simp⟩
def RetGp (E:List Int)(w:World)(e:Ending)(w':World):Prop:=
 ∃(A:Option Addr) (c:Nat) (hs:List Hin) (caps:Int) (rn:Bool) (k:Int),e=.returned (.tuple #[.agg #[.slice A hs.length c,.int .i64 caps,.bool rn],.int .i64 k])∧GpAt E w' A c hs∧I64 caps∧Ext w w'
def setGp (w:World)(g:Nat)(A:Option Addr)(n c:Nat)(caps:Int)(rn:Bool):World:=((w.setCell ⟨g,0,none⟩ (.slice A n c)).setCell ⟨g,1,none⟩ (.int .i64 caps)).setCell ⟨g,2,none⟩ (.bool rn)
theorem setGp_blk {w:World}{g T:Nat}{a0 a1 a2:Value}(h:Blk w g T #[a0,a1,a2])(A:Option Addr)(n c:Nat)(caps:Int)(rn:Bool):Blk (setGp w g A n c caps rn) g T #[.slice A n c,.int .i64 caps,.bool rn]:=by
 have h:=((h.set 0 (.slice A n c)).set 1 (.int .i64 caps)).set 2 (.bool rn)
 simpa[setGp] using h
theorem setGp_ext {a w:World}{g:Nat}(h:Ext a w)(hg:a.heap.size≤g)(A:Option Addr)(n c:Nat)(caps:Int)(rn:Bool):Ext a (setGp w g A n c caps rn):=
 ((h.setNew (p:=⟨g,0,none⟩) hg _).setNew (p:=⟨g,1,none⟩) hg _).setNew (p:=⟨g,2,none⟩) hg _
theorem setGp_kp {L:List Nat}{a w:World}{g:Nat}(h:Kp L a w)(hg:g∈L)(A:Option Addr)(n c:Nat)(caps:Int)(rn:Bool):Kp L a (setGp w g A n c caps rn):=
 ((h.set (p:=⟨g,0,none⟩) (.inl hg) _).set (p:=⟨g,1,none⟩) (.inl hg) _).set (p:=⟨g,2,none⟩) (.inl hg) _
theorem setGp_kpp {p:Nat→Prop}{a w:World}{g:Nat}(h:KpP p a w)(hg:p g)(A:Option Addr)(n c:Nat)(caps:Int)(rn:Bool):KpP p a (setGp w g A n c caps rn):=
 ((h.set (x:=⟨g,0,none⟩) (.inl hg) _).set (x:=⟨g,1,none⟩) (.inl hg) _).set (x:=⟨g,2,none⟩) (.inl hg) _
theorem xcompile_any (bd:Nat)(S:Nat→Prop)(hbd:3≤bd)(d:Nat)(hd:lenB bd d≤1000)(hd2:d≤1000)(w:World)(n:Nd)(gr:Int)(rn:Bool)(ht:TreeAt bd S w d n.val)(hgr:I64 gr) :
 Calls Tryz.prog 16 #[.agg #[.int .i64 n.op,.slice n.A n.l.length n.c,.slice n.K n.ks.length n.kc,.int .i64 n.mn,.int .i64 n.mx,.int .i64 n.md,.int .i64 n.n,.bool n.neg,.int .i64 gr,.bool rn]] w (RetGp rimE w):=by
 obtain⟨B0,B2,E0⟩:=alloc2 w 28 #[.int .i64 n.op,.slice n.A n.l.length n.c,.slice n.K n.ks.length n.kc,.int .i64 n.mn,.int .i64 n.mx,.int .i64 n.md,.int .i64 n.n,.bool n.neg,.int .i64 gr,.bool rn] 33 #[.slice none 0 0,.int .i64 0,.bool false];obtain⟨iI,jI0,jI1,jI2,jI3⟩:=info_parts infoIn;have HT:=lh ht;have HG:=lh hgr;clear ht hgr;go_enter Tryz.func16,Tryz.ntmps16
 go_upto_region 1 with fail
 obtain⟨g1,hg1⟩:∃g,g=w.heap.size:=⟨_,rfl⟩;obtain⟨g2,hg2e⟩:∃g,g=w.heap.size+1:=⟨_,rfl⟩
 rw[←hg2e] at B2 ⊢
 rw[←hg1] at B0 ⊢;have hne:g1≠g2:=om;have hg2:w.heap.size≤g2:=om;clear hg1 hg2e;generalize ((w.alloc (.cells #[.int .i64 n.op,.slice n.A n.l.length n.c,.slice n.K n.ks.length n.kc,.int .i64 n.mn,.int .i64 n.mx,.int .i64 n.md,.int .i64 n.n,.bool n.neg,.int .i64 gr,.bool rn] 28)).alloc (.cells #[.slice none 0 0,.int .i64 0,.bool false] 33))=wa at *;have HXa:=lh E0;have HTa:=lh (HT.out.ext E0);have HV:=lh (yvalid_any bd S d wa n gr rn HTa.out);have HC:=fun(w':World) (x:Ext wa w')=>lh (xcompiles_any bd S d w' _ (HTa.out.ext x) none 0 [] (IL.nil w') (by simp;omega));have HS:=fun(w':World) (x:Ext wa w')=>lh (xsize_any bd S d w' _ (HTa.out.ext x));unfold Nd.val at HC HS;have z0:=B0.cell 0;have z1:=B0.cell 1;have z2:=B0.cell 2;have z3:=B0.cell 3;have z4:=B0.cell 4;have z5:=B0.cell 5;have z6:=B0.cell 6;have z7:=B0.cell 7;have z8:=B0.cell 8;have z9:=B0.cell 9;clear E0
 go_upto_region 2 with(go_at_call 63;refine HV.out.mono ?_;rintro e w3 ⟨x,rfl,x3⟩)
 clear HV;have B03:=B0.ext x3;have B3:=B2.ext x3;have HX3:=lh (HXa.out.trans x3);have H13:=lh x3;have z0:=B03.cell 0;have z1:=B03.cell 1;have z2:=B03.cell 2;have z3:=B03.cell 3;have z4:=B03.cell 4;have z5:=B03.cell 5;have z6:=B03.cell 6;have z7:=B03.cell 7;have z8:=B03.cell 8;have z9:=B03.cell 9;obtain⟨y0,y1,y2,f0,f1,f2,_⟩:=B3.c3;clear x3 B0 B2;by_cases hx:x=0
 ·have hx0:(x != 0)=false:=by simp[hx]
  go_upto_region 6 with(go_at_call 62;refine(HC _ H13.out).out.mono ?_;rintro e w4 ⟨b4,rfl,x4⟩;have B4:=B3.ext x4;have B04:=B03.ext x4;have HX4:=lh (HX3.out.trans x4);have H14:=lh (H13.out.trans x4);clear x4;obtain⟨y0,y1,y2,f0,f1,f2,_⟩:=B4.c3;have k0:=B04.cell 0;have k1:=B04.cell 1;have k2:=B04.cell 2;have k3:=B04.cell 3;have k4:=B04.cell 4;have k5:=B04.cell 5;have k6:=B04.cell 6;have k7:=B04.cell 7;have k8:=B04.cell 8;have k9:=B04.cell 9;cases b4)
  ·have b9:=setGp_blk B4 none 0 0 0 false;have x9:=setGp_ext HX4.out hg2 none 0 0 0 false;change bodyPost _ _ _ _ _ (setGp w4 g2 none 0 0 0 false);generalize setGp w4 g2 none 0 0 0 false=w9 at *;obtain⟨r0,r1,r2,_⟩:=b9.c3;refine bodyPost_ret (v:=.tuple #[.agg #[.slice none 0 0,.int .i64 0,.bool false],.int .i64 10]) (by simp[results,Tryz.results16,go_sem,r0,r1,r2]) rfl ⟨none,0,[],0,false,10,rfl,GpAt.nil _ _,by simp[I64],x9⟩
  ·clear HC z0 z1 z2 z3 z4 z5 z6 z7 z8 z9
   go_upto_region 8 with(go_at_call 64;refine(HS _ H14.out).out.mono ?_;rintro e w5 ⟨sz,rfl,hsz,x5⟩;have B5:=B4.ext x5;have B05:=B04.ext x5;have HX5:=lh (HX4.out.trans x5);have H15:=lh (H14.out.trans x5);clear x5;obtain⟨y0,y1,y2,f0,f1,f2,_⟩:=B5.c3;have k0:=B05.cell 0;have k1:=B05.cell 1;have k2:=B05.cell 2;have k3:=B05.cell 3;have k4:=B05.cell 4;have k5:=B05.cell 5;have k6:=B05.cell 6;have k7:=B05.cell 7;have k8:=B05.cell 8;have k9:=B05.cell 9;by_cases hbig:8192<wrap64 (sz+1))
   ·have b9:=setGp_blk B5 none 0 0 0 false;have x9:=setGp_ext HX5.out hg2 none 0 0 0 false;change bodyPost _ _ _ _ _ (setGp w5 g2 none 0 0 0 false);generalize setGp w5 g2 none 0 0 0 false=w9 at *;obtain⟨r0,r1,r2,_⟩:=b9.c3;refine bodyPost_ret (v:=.tuple #[.agg #[.slice none 0 0,.int .i64 0,.bool false],.int .i64 4]) (by simp[results,Tryz.results16,go_sem,r0,r1,r2]) rfl ⟨none,0,[],0,false,4,rfl,GpAt.nil _ _,by simp[I64],x9⟩
   ·have HGG:=lh B5.lt;have HB5:=lh B5;clear y0 y1 y2 f0 f1 f2;have q0:=fun(w':World) (h:Kp [g2] w5 w')=>h.cell k0 (by simp[hne]);have q1:=fun(w':World) (h:Kp [g2] w5 w')=>h.cell k1 (by simp[hne]);have q2:=fun(w':World) (h:Kp [g2] w5 w')=>h.cell k2 (by simp[hne]);have q3:=fun(w':World) (h:Kp [g2] w5 w')=>h.cell k3 (by simp[hne]);have q4:=fun(w':World) (h:Kp [g2] w5 w')=>h.cell k4 (by simp[hne]);have q5:=fun(w':World) (h:Kp [g2] w5 w')=>h.cell k5 (by simp[hne]);have q6:=fun(w':World) (h:Kp [g2] w5 w')=>h.cell k6 (by simp[hne]);have q7:=fun(w':World) (h:Kp [g2] w5 w')=>h.cell k7 (by simp[hne]);have q8:=fun(w':World) (h:Kp [g2] w5 w')=>h.cell k8 (by simp[hne]);have q9:=fun(w':World) (h:Kp [g2] w5 w')=>h.cell k9 (by simp[hne]);refine Xr.start [g2] kr ?_;refine Xtk 0 ?_;refine Xtn ?_;refine Xtk 3 ?_;refine Xtk 6 ?_
    iterate 3(refine Xtn ?_)
    refine Xr.lazy 4 26 5 (fun g=>.slice (some ⟨g,0,none⟩) 1 1) 123 #[.int .i64 0,.int .i64 0,.int .i64 0,.int .i64 0,.slice none 0 0] rfl (by simpa using HGG.out) dK si (fun w'=>by go_simp) ?_;refine Xcl 2 fun w6 hE6 hK6 K hKK=>?_;have HCD:=xcode_any w bd S hbd d w6 n.val (HX5.out.trans hE6) HT.out 0 om om;unfold Nd.val at HCD;go_simp;refine HCD.mono ?_;rintro e w7 ⟨A7,c7,hs7,rfl,hl7,h7⟩;refine hKK _ _ h7.ext ?_;clear hKK HCD;refine ptm ?_;have x67:=h7.ext;have HAW:=OwnS.row h7.own;have hup7:∀k,A7.map (·.block)=some k→w6.heap.size≤k∧k<w7.heap.size:=fun k hk=>⟨HAW k hk,(OwnS.blt h7.own hk).1⟩;obtain⟨ys,HYS⟩:∃ys,Hid (ys=hs7++[(⟨0,0,0,0,none,0,[]⟩:Hin)]):=⟨_,lh rfl⟩;have hyl:Hid (ys.length=hs7.length+1):=lh (by rw[HYS.out,List.length_append];simp);refine Xr.stepZ rfl dK (fun _=>by rfl) (fun w8 g8 hE8 hK8 hg8 hB8 hno K hKK=>?_);refine wp_appN (w0:=w) (base:=w6) _ _ _ rfl iI Tryz.underlying31 jI0 jI1 jI2 jI3 A7 c7 hs7 rfl (h7.up hE8) _ 1 [⟨0,0,0,0,none,0,[]⟩] rfl (hin_blk hB8) (fun h hh=>by rw[List.mem_singleton.1 hh];exact HinOk.plain w (by simp[I64])) (by simp only[List.length_singleton];omega) ys HYS.out ?_;intro A9 c9 w9 h9 hr9 hg9 hat9;have x59:=hE6.trans h9.ext;refine hKK _ _ (WI_grown hg9 (fun i hi=>.inr ⟨(w6.heap.size,w7.heap.size),by simp,(hup7 i hi).1,(hup7 i hi).2⟩)) (Kp.of_ext x59) ?_;clear hKK;refine ptm ?_;refine Xtk 10 ?_;have H9:=lh h9;clear h9 hr9 hg9 hat9 h7 HAW hup7;refine Xsp 11 fun w10 hE10 hK10 K hKK=>?_;have B10:=HB5.out.ext (x59.trans hE10);obtain⟨y0,y1,y2,f0,f1,f2,_⟩:=B10.c3
    go_simp;change K _ (setGp w10 g2 A9 ys.length c9 gr rn);refine hKK _ _ (setGp_kpp (KpP.refl _ _) (.inl si) _ _ _ _ _) (setGp_kp hK10 si _ _ _ _ _) ?_;clear hKK;refine ptm ?_;refine Xtk 12 ?_;refine Xdn fun w12 hE12 hK12=>?_;have b9:=(setGp_blk B10 A9 ys.length c9 gr rn).ext hE12;have x12:=(setGp_ext (HX5.out.trans (x59.trans hE10)) hg2 A9 ys.length c9 gr rn).trans hE12;have HP:Hid (GpAt rimE w12 A9 c9 ys):=lh (by
     have h6:=hE6.size;have hlt:=HGG.out;have o10:=OwnS.kp (OwnS.ext H9.out.own hE10) (setGp_kpp (p:=(·=g2)) (KpP.refl _ w10) rfl A9 ys.length c9 gr rn) (fun b h1 h2=>by have h3:=OwnS.row H9.out.own b h1;have h4:b=g2:=h2;omega);exact⟨PL.of_own (OwnS.ext o10 hE12) (fun z hz=>(H9.out.ok z hz).1) (fun z hz=>(H9.out.ok z hz).2.1.ext x12),fun z hz=>(H9.out.ok z hz).2.2,by have:=hyl.out;omega⟩)
    clear H9 hE12 hK12 hE10 hK10 B10;obtain⟨r0,r1,r2,_⟩:=b9.c3
    go_wp2_with fail
    refine bodyPost_ret (v:=.tuple #[.agg #[.slice A9 ys.length c9,.int .i64 gr,.bool rn],.int .i64 0]) (by simp[results,Tryz.results16,go_sem,r0,r1,r2]) rfl ⟨A9,c9,ys,gr,rn,0,rfl,HP.out,HG.out,x12⟩
 ·have hx1:(x != 0)=true:=by simp[hx]
  go_wp2_with fail
  have b9:=setGp_blk B3 none 0 0 0 false;have x9:=setGp_ext HX3.out hg2 none 0 0 0 false;change bodyPost _ _ _ _ _ (setGp w3 g2 none 0 0 0 false);generalize setGp w3 g2 none 0 0 0 false=w9 at *;obtain⟨r0,r1,r2,_⟩:=b9.c3;refine bodyPost_ret (v:=.tuple #[.agg #[.slice none 0 0,.int .i64 0,.bool false],.int .i64 x]) (by simp[results,Tryz.results16,go_sem,r0,r1,r2]) rfl ⟨none,0,[],0,false,x,rfl,GpAt.nil _ _,by simp[I64],x9⟩
end
end Go.Proofs.YtmocoldobnimfaaGreat
