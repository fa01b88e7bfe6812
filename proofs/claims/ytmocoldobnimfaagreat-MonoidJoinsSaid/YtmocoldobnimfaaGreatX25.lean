/- Texts of this proof: C6. -/
import Derived.Test.YtmocoldobnimfaaGreatX21
set_option linter.all false
set_option maxRecDepth 100000
set_option maxHeartbeats 16000000
namespace Go.Proofs.YtmocoldobnimfaaGreat
section
open Go.RowKit
attribute [local go_sem ↓] Go.wp_at_zero Go.wp_at_succ
def setIn (w:World)(g:Nat)(h:Hin):World:=
 (((((w.setCell ⟨g,0,none⟩ (.int .i64 h.op)).setCell ⟨g,1,none⟩ (.int .i64 h.x)).setCell ⟨g,2,none⟩ (.int .i64 h.y)).setCell ⟨g,3,none⟩ (.int .i64 h.n)).setCell ⟨g,4,none⟩ (.slice h.A h.l.length h.c))
def Hin.cs (h:Hin):Array Value:=#[.int .i64 h.op,.int .i64 h.x,.int .i64 h.y,.int .i64 h.n,.slice h.A h.l.length h.c]
theorem setIn_blk {w:World}{g T:Nat}{a0 a1 a2 a3 a4:Value}(h:Blk w g T #[a0,a1,a2,a3,a4])(n:Hin):Blk (setIn w g n) g T n.cs:=by
 have h:=(((((h.set 0 (.int .i64 n.op)).set 1 (.int .i64 n.x)).set 2 (.int .i64 n.y)).set 3 (.int .i64 n.n)).set 4 (.slice n.A n.l.length n.c))
 simpa[setIn,Hin.cs] using h
theorem setIn_ext {a w:World}{g:Nat}(h:Ext a w)(hg:a.heap.size≤g)(n:Hin):Ext a (setIn w g n):=
 (((((h.setNew (p:=⟨g,0,none⟩) hg _).setNew (p:=⟨g,1,none⟩) hg _).setNew (p:=⟨g,2,none⟩) hg _).setNew (p:=⟨g,3,none⟩) hg _).setNew (p:=⟨g,4,none⟩) hg _)
theorem in_cells {w:World}{g T:Nat}{n:Hin}(h:Blk w g T n.cs):w.cell? ⟨g,0,none⟩=some (.int .i64 n.op)∧w.cell? ⟨g,1,none⟩=some (.int .i64 n.x)∧w.cell? ⟨g,2,none⟩=some (.int .i64 n.y)∧w.cell? ⟨g,3,none⟩=some (.int .i64 n.n)∧w.cell? ⟨g,4,none⟩=some (.slice n.A n.l.length n.c):=
 ⟨h.cell 0,h.cell 1,h.cell 2,h.cell 3,h.cell 4⟩
theorem in_frz {w:World}{g T:Nat}{cs:Array Value}(h:Blk w g T cs):w.frozen? ⟨g,0,none⟩=false∧w.frozen? ⟨g,1,none⟩=false∧w.frozen? ⟨g,2,none⟩=false∧w.frozen? ⟨g,3,none⟩=false∧w.frozen? ⟨g,4,none⟩=false:=
 ⟨h.frz 0,h.frz 1,h.frz 2,h.frz 3,h.frz 4⟩
theorem C6z1 {P:Prop} (h:P:=by
 have H6:=lh h6;have z26:=x6.cell z2;obtain⟨b',o',hK',n,ht,k0,k1,k2,k3,k4,k5,k6,k7⟩:=kid8x (HX0.out.trans x6) HC.out HK.out hlt0n;injection hK' with hK';injection hK' with e1 e2 _
 subst e1;subst e2;simp only[Nat.zero_mul,Nat.add_zero] at k0 k1 k2 k3 k4 k5 k6 k7;have HT:=lh ht;have HX6:=lh (HX0.out.trans x6);have HX16:=lh x6;clear ht h6 x6 hr6 hg6 y0 y1 y2 y3 y4 bn HIn;have hc6:=H6.out.len
 go_wp2_with (first|(go_at_call 65;refine(HIH.out w6 _ HX6.out HT.out (fm+(hs.length:Int)+1) om om).mono ?_;rintro e w7 ⟨A7,c7,hs7,rfl,hl7,h7⟩;have H7:=lh h7;have hc7:=h7.len;have x7:=h7.ext;clear h7)|(at_builtin;obtain⟨ys2,HY2⟩:∃ys,Hid (ys=ys1++hs7):=⟨_,lh rfl⟩;refine wpList_appN rfl _ _ _ rfl iI Tryz.underlying31 jI0 jI1 jI2 jI3 A6 c6 ys1 rfl (H6.out.up x7) A7 c7 hs7 rfl (OwnS.cells H7.out.own) H7.out.ok (by have:=hl1.out;omega) ys2 HY2.out ?_;intro A8 c8 w8 h8 x8 hr8 hg8;have H8:=lh h8;have HX8:=lh x8;clear h8 hg8 hr8 x8))
 have hyl:ys2.length=hs.length+1+hs7.length:=by rw[HY2.out,List.length_append,hl1.out]
 go_roundw
 case rel=>exact⟨k+1,A8,c8,ys2,by go_num,rfl,om,.inr om,om,HX8.out,H8⟩
 case measure=>simp[intOf];omega):P:=h
theorem C6z2 {P:Prop} (h:P:=by
 have H7:=lh h7;have hc7:=h7.len;clear h7 x7 hr7 hg7 H6 HG6 HIn H8n y0 y1 y2 y3 y4 bn
 go_wp2_with (at_builtin;refine wpList_appN (w0:=w0) rfl _ _ _ rfl iI Tryz.underlying31 jI0 jI1 jI2 jI3 A7 c7 ys2 rfl (H7.out.up (Ext.alloc w7 _)) _ 1 [⟨3,fm+(hs.length:Int),0,0,none,0,[]⟩] rfl (hin_blk (Blk.new _ _ _)) (fun h hh=>by rw[List.mem_singleton.1 hh];exact HinOk.plain w0 (by simp only[I64];omega)) (by have:=hl2.out;simp only[List.length_singleton];omega) ys3 HY3.out ?_;intro A9 c9 w9 h9 x9 hr9 hg9)
 go_ret
 exact⟨A9,c9,ys3,rfl,by have h3:=hl3.out;have h8:=hl8;exact(Nat.eq_zero_or_pos m).elim (fun e=>by rw[e] at hlm;omega) (fun e=>om),h9.low HE0.out⟩):P:=h
theorem xrep_any (w0:World)(bd:Nat)(S:Nat→Prop)(d B:Nat)(IH:CodeAll bd S w0 d B)(hB:2≤B)(hbd:2≤bd)(w:World)(x0:Ext w0 w)(A:Option Addr)(c:Nat)(l:List Sp)(K:Option Addr)(kc:Nat)(ks:List Value)(m:Nat)(mx md nn:Int)(neg:Bool)(fm:Int)
 (ht4:TreeAt bd S w0 (d+1) (.agg #[.int .i64 4,.slice A l.length c,.slice K ks.length kc,.int .i64 (m:Int),.int .i64 mx,.int .i64 md,.int .i64 nn,.bool neg])) (h1k:1≤ks.length) (hm:m≤bd) (hmx : -1≤mx∧mx≤bd) (hmm:mx = -1→m+1≤bd) (hmd:0≤md∧md≤1) (hkl:ks.length≤kc∧kc≤maxLen) (hcl:CellsAt w0 K (ks.flatMap cellsOf)) (hks:∀u∈ks,TreeAt bd S w0 d u) (hf:0≤fm) (hfB:fm+(B*bd:Nat)≤1000000) :
 Calls Tryz.prog 112 #[.agg #[.int .i64 4,.slice A l.length c,.slice K ks.length kc,.int .i64 (m:Int),.int .i64 mx,.int .i64 md,.int .i64 nn,.bool neg],.int .i64 fm] w (RetCd 123 w0 (B*bd) w):=by
 obtain⟨iI,jI0,jI1,jI2,jI3⟩:=info_parts infoIn;have B0:=Blk.new w 26 #[.int .i64 4,.slice A l.length c,.slice K ks.length kc,.int .i64 (m:Int),.int .i64 mx,.int .i64 md,.int .i64 nn,.bool neg];have E0:=Ext.alloc w (.cells #[.int .i64 4,.slice A l.length c,.slice K ks.length kc,.int .i64 (m:Int),.int .i64 mx,.int .i64 md,.int .i64 nn,.bool neg] 26);have HIH:=lh IH;have HC:=lh hcl;have HK:=lh hks;have HT4:=lh ht4;have HMM:=lh hmm;have HKL:ks.length≤kc∧kc≤9223372036854775807:=⟨hkl.1,by have:=hkl.2;unfold maxLen at this;omega⟩;have hlt0:(0:Int)<ks.length:=om;have hlt0n:0<ks.length:=om;have hBm:B*m≤B*bd:=mul_le2 hm;have hB2:B*2≤B*bd:=mul_le2 hbd;obtain⟨b,o,hK⟩:∃b o,K=some ⟨b,o,none⟩:=by
  obtain⟨b,o,hK,_⟩:=kid8x (x0.trans E0) hcl hks (i:=0) om;exact⟨b,o,hK⟩
 subst hK;clear hcl hks hkl IH h1k ht4 hmm;go_enter Tryz.func112,Tryz.ntmps112
 go_upto_region 1 with fail
 obtain⟨gx,hgx⟩:∃gx,gx=w.heap.size:=⟨_,rfl⟩
 rw[←hgx] at B0 ⊢;clear hgx;generalize w.alloc (.cells #[.int .i64 4,.slice A l.length c,.slice (some ⟨b,o,none⟩) ks.length kc,.int .i64 (m:Int),.int .i64 mx,.int .i64 md,.int .i64 nn,.bool neg] 26)=wa at *;have X0:=x0.trans E0;have HX0:=lh X0;have z2:wa.cell? ⟨gx,2,none⟩=some (.slice (some ⟨b,o,none⟩) ks.length kc):=B0.cell 2;have z3:wa.cell? ⟨gx,3,none⟩=some (.int .i64 (m:Int)):=B0.cell 3;have z4:wa.cell? ⟨gx,4,none⟩=some (.int .i64 mx):=B0.cell 4;have z5:wa.cell? ⟨gx,5,none⟩=some (.int .i64 md):=B0.cell 5;have HB0:=lh B0;have HE0:=lh E0;clear B0 E0 X0
 go_upto_region 3 with fail
 go_loopw [6,5] (fun v6 v5 wr=>∃(i:Nat) (A5:Option Addr) (c5:Nat) (hs:List Hin),v6=.int .i64 i∧v5=.slice A5 hs.length c5∧i≤m∧hs.length+2*i≤B*i∧Ext wa wr∧Hid (CdI w0 wa wr 123 A5 c5 hs)) (fun v _ _=>m-(intOf v).toNat)
 case atStart=>exact⟨0,none,0,[],rfl,rfl,om,by simp,Ext.rfl' _,lh (CdI.nil (Ext.rfl' wa))⟩
 case round=>
  obtain⟨i,A5,c5,hs,rfl,rfl,hi,hlen,x1,HI⟩:=hrel;have hcaps:=HI.out.len;have z2r:=x1.cell z2;have z3r:=x1.cell z3;have z4r:=x1.cell z4;have z5r:=x1.cell z5;obtain⟨b',o',hK',n,ht,k0,k1,k2,k3,k4,k5,k6,k7⟩:=kid8x (HX0.out.trans x1) HC.out HK.out hlt0n;injection hK' with hK';injection hK' with e1 e2 _
  subst e1;subst e2;simp only[Nat.zero_mul,Nat.add_zero] at k0 k1 k2 k3 k4 k5 k6 k7;have HT:=lh ht;have HXR:=lh (HX0.out.trans x1);have ewp:IntKind.i64.wrap (fm+(hs.length:Int))=fm+(hs.length:Int):=by have:=mul_le2 (B:=B) hi;rw[IntKind.wrap_i64];omega
  clear ht;by_cases hlt:i<m
  ·have hiI:(i:Int)<(m:Int):=om;have hm1:=mul_step B i;have hm2:B*(i+1)≤B*m:=mul_le2 hlt
   go_wp2_with (first|(go_at_call 65;refine(HIH.out wr _ HXR.out HT.out (fm+(hs.length:Int)) om om).mono ?_;rintro e w3 ⟨A3,c3,hs3,rfl,hl3,h3⟩;have H3:=lh h3;have hc3:=h3.len;have x3:=h3.ext;clear h3)|(at_builtin;obtain⟨ys,HY⟩:∃ys,Hid (ys=hs++hs3):=⟨_,lh rfl⟩;refine wpList_appN rfl _ _ _ rfl iI Tryz.underlying31 jI0 jI1 jI2 jI3 A5 c5 hs rfl (HI.out.up x3) A3 c3 hs3 rfl (OwnS.cells H3.out.own) H3.out.ok om ys HY.out ?_;intro A8 c8 w8 h8 x8 hr8 hg8;have H8:=lh h8;have HG8:=lh hg8;have HR8:=lh hr8;clear h8 hg8 hr8))
   have hyl:ys.length=hs.length+hs3.length:=by rw[HY.out];simp
   go_roundw
   case rel=>exact⟨i+1,A8,c8,ys,by go_num,rfl,om,om,(x1.trans x3).grown HG8.out (fun k hk=>HR8.out k hk),H8⟩
   case measure=>simp[intOf];omega
  ·have hiI:¬(i:Int)<(m:Int):=om;have hlm:hs.length+2*m≤B*m:=by
    have e:i=m:=om;rw[e] at hlen;exact hlen
   clear hlen;by_cases hm1:mx = -1
   ·subst hm1;have hm1b:m+1≤bd:=HMM.out rfl;have hBm1:B*(m+1)≤B*bd:=mul_le2 hm1b;have hms:=mul_step B m;have hq:hs.length+1+B≤B*bd:=(Nat.eq_zero_or_pos m).elim (fun e=>by rw[e] at hlm;omega) (fun e=>om);have ewq:IntKind.i64.wrap (fm+(hs.length:Int)+1)=fm+(hs.length:Int)+1:=wj
    go_upto_region 9 with(go_at_call 65;refine(HIH.out wr _ HXR.out HT.out (fm+(hs.length:Int)+1) om om).mono ?_;rintro e w8 ⟨A8,c8,hs8,rfl,hl8,h8⟩)
    have x8:=h8.ext;have H8:=lh h8;have hc8:=h8.len;have z58:=x8.cell z5r;have ewe:IntKind.i64.wrap (fm+(hs.length:Int)+(hs8.length:Int))=fm+(hs.length:Int)+(hs8.length:Int):=wj;have ewf:IntKind.i64.wrap (fm+(hs.length:Int)+(hs8.length:Int)+2)=fm+(hs.length:Int)+(hs8.length:Int)+2:=wj;clear h8 k0 k1 k2 k3 k4 k5 k6 k7 z2r z3r z4r z5r;have XI:=Ext.alloc w8 (.cells #[.int .i64 2,.int .i64 (fm+(hs.length:Int)+1),.int .i64 (fm+(hs.length:Int)+(hs8.length:Int)+2),.int .i64 0,.slice none 0 0] 123);have BI:=Blk.new w8 123 #[.int .i64 2,.int .i64 (fm+(hs.length:Int)+1),.int .i64 (fm+(hs.length:Int)+(hs8.length:Int)+2),.int .i64 0,.slice none 0 0];have z5b:=XI.cell z58
    go_upto_region 11 with fail
    obtain⟨gI,hgI0⟩:∃g,g=w8.heap.size:=⟨_,rfl⟩
    rw[←hgI0] at BI ⊢;have hgI:w8.heap.size≤gI:=om;clear hgI0;generalize w8.alloc (.cells #[.int .i64 2,.int .i64 (fm+(hs.length:Int)+1),.int .i64 (fm+(hs.length:Int)+(hs8.length:Int)+2),.int .i64 0,.slice none 0 0] 123)=wb at *;obtain⟨y0,y1,y2,y3,y4⟩:wb.cell? ⟨gI,0,none⟩=some (.int .i64 2)∧wb.cell? ⟨gI,1,none⟩=some (.int .i64 (fm+(hs.length:Int)+1))∧wb.cell? ⟨gI,2,none⟩=some (.int .i64 (fm+(hs.length:Int)+(hs8.length:Int)+2))∧wb.cell? ⟨gI,3,none⟩=some (.int .i64 0)∧wb.cell? ⟨gI,4,none⟩=some (.slice none 0 0):=⟨BI.cell 0,BI.cell 1,BI.cell 2,BI.cell 3,BI.cell 4⟩;by_cases hmd1:md=1
    ·subst hmd1;obtain⟨f0,f1,f2,f3,f4⟩:=in_frz BI
     go_upto_region 13 with fail
     have bn:=setIn_blk BI ⟨2,(fm+(hs.length:Int)+(hs8.length:Int)+2),(fm+(hs.length:Int)+1),0,none,0,[]⟩;have xn:=setIn_ext XI hgI ⟨2,(fm+(hs.length:Int)+(hs8.length:Int)+2),(fm+(hs.length:Int)+1),0,none,0,[]⟩;change Code.wp _ _ _ _ (setIn wb gI ⟨2,(fm+(hs.length:Int)+(hs8.length:Int)+2),(fm+(hs.length:Int)+1),0,none,0,[]⟩);clear y0 y1 y2 y3 y4 f0 f1 f2 f3 f4 BI XI;generalize setIn wb gI ⟨2,(fm+(hs.length:Int)+(hs8.length:Int)+2),(fm+(hs.length:Int)+1),0,none,0,[]⟩=wn at *;obtain⟨y0,y1,y2,y3,y4⟩:=in_cells bn;simp only[List.length_nil] at y4;have HIn:=lh (HI.out.up (x8.trans xn));have H8n:=lh (H8.out.up xn);have HAP:Hid (∀b,A5.map (·.block)=some b→A8.map (·.block)=some b→False):=lh (fun b h1 h2=>by have h3:=(OwnS.blt HI.out.own h1).1;have h4:=OwnS.row H8.out.own b h2;omega);obtain⟨ys1,HY1⟩:∃ys,Hid (ys=hs++[(⟨2,(fm+(hs.length:Int)+(hs8.length:Int)+2),(fm+(hs.length:Int)+1),0,none,0,[]⟩:Hin)]):=⟨_,lh rfl⟩;obtain⟨ys2,HY2⟩:∃ys,Hid (ys=ys1++hs8):=⟨_,lh rfl⟩;obtain⟨ys3,HY3⟩:∃ys,Hid (ys=ys2++[(⟨3,fm+(hs.length:Int),0,0,none,0,[]⟩:Hin)]):=⟨_,lh rfl⟩;have hl1:Hid (ys1.length=hs.length+1):=lh (by rw[HY1.out,List.length_append];simp);have hl2:Hid (ys2.length=hs.length+1+hs8.length):=lh (by rw[HY2.out,List.length_append,hl1.out]);have hl3:Hid (ys3.length=hs.length+hs8.length+2):=lh (by rw[HY3.out,List.length_append,hl2.out];simp;omega)
     go_upto_region 14 with(first|(at_builtin;refine wpList_appN (w0:=w0) rfl _ _ _ rfl iI Tryz.underlying31 jI0 jI1 jI2 jI3 A5 c5 hs rfl (HIn.out.up (Ext.alloc wn _)) _ 1 [⟨2,(fm+(hs.length:Int)+(hs8.length:Int)+2),(fm+(hs.length:Int)+1),0,none,0,[]⟩] rfl (hin_blk (Blk.new _ _ _)) (fun h hh=>by rw[List.mem_singleton.1 hh];exact HinOk.plain w0 (by simp only[I64];omega)) (by simp only[List.length_singleton];omega) ys1 HY1.out ?_;intro A6 c6 w6 h6 x6 hr6 hg6;have H6:=lh h6;have HG6:=lh hg6;clear h6 x6 hr6 hg6)|(at_builtin;refine wpList_appN (w0:=w0) rfl _ _ _ rfl iI Tryz.underlying31 jI0 jI1 jI2 jI3 A6 c6 ys1 rfl H6.out A8 c8 hs8 rfl (OwnS.cells (OwnS.kp (OwnS.ext H8n.out.own (Ext.alloc wn _)) (KpP.of_grown HG6.out) (fun b h1 h2=>HAP.out b h2 h1))) H8n.out.ok (by have:=hl1.out;omega) ys2 HY2.out ?_;intro A7 c7 w7 h7 x7 hr7 hg7))
     exact C6z2
    ·have hmd0:(md == 1)=false:=by simp[hmd1]
     go_upto_region 13 with fail
     have bn:=BI;have xn:=XI;clear BI XI;generalize wb=wn at *;have HIn:=lh (HI.out.up (x8.trans xn));have H8n:=lh (H8.out.up xn);have HAP:Hid (∀b,A5.map (·.block)=some b→A8.map (·.block)=some b→False):=lh (fun b h1 h2=>by have h3:=(OwnS.blt HI.out.own h1).1;have h4:=OwnS.row H8.out.own b h2;omega);obtain⟨ys1,HY1⟩:∃ys,Hid (ys=hs++[(⟨2,(fm+(hs.length:Int)+1),(fm+(hs.length:Int)+(hs8.length:Int)+2),0,none,0,[]⟩:Hin)]):=⟨_,lh rfl⟩;obtain⟨ys2,HY2⟩:∃ys,Hid (ys=ys1++hs8):=⟨_,lh rfl⟩;obtain⟨ys3,HY3⟩:∃ys,Hid (ys=ys2++[(⟨3,fm+(hs.length:Int),0,0,none,0,[]⟩:Hin)]):=⟨_,lh rfl⟩;have hl1:Hid (ys1.length=hs.length+1):=lh (by rw[HY1.out,List.length_append];simp);have hl2:Hid (ys2.length=hs.length+1+hs8.length):=lh (by rw[HY2.out,List.length_append,hl1.out]);have hl3:Hid (ys3.length=hs.length+hs8.length+2):=lh (by rw[HY3.out,List.length_append,hl2.out];simp;omega)
     go_upto_region 14 with(first|(at_builtin;refine wpList_appN (w0:=w0) rfl _ _ _ rfl iI Tryz.underlying31 jI0 jI1 jI2 jI3 A5 c5 hs rfl (HIn.out.up (Ext.alloc wn _)) _ 1 [⟨2,(fm+(hs.length:Int)+1),(fm+(hs.length:Int)+(hs8.length:Int)+2),0,none,0,[]⟩] rfl (hin_blk (Blk.new _ _ _)) (fun h hh=>by rw[List.mem_singleton.1 hh];exact HinOk.plain w0 (by simp only[I64];omega)) (by simp only[List.length_singleton];omega) ys1 HY1.out ?_;intro A6 c6 w6 h6 x6 hr6 hg6;have H6:=lh h6;have HG6:=lh hg6;clear h6 x6 hr6 hg6)|(at_builtin;refine wpList_appN (w0:=w0) rfl _ _ _ rfl iI Tryz.underlying31 jI0 jI1 jI2 jI3 A6 c6 ys1 rfl H6.out A8 c8 hs8 rfl (OwnS.cells (OwnS.kp (OwnS.ext H8n.out.own (Ext.alloc wn _)) (KpP.of_grown HG6.out) (fun b h1 h2=>HAP.out b h2 h1))) H8n.out.ok (by have:=hl1.out;omega) ys2 HY2.out ?_;intro A7 c7 w7 h7 x7 hr7 hg7))
     exact C6z2
   ·have hm1f:(mx == -1)=false:=by simp[hm1]
    obtain⟨q,rfl⟩:∃q:Nat,mx=q:=⟨mx.toNat,om⟩;clear k0 k1 k2 k3 k4 k5 k6 k7;have BR:=HB0.out.ext x1;have r0:=BR.cell 0;have r1:=BR.cell 1;have r6:=BR.cell 6;have r7:=BR.cell 7;clear BR;have HT4r:=lh (HT4.out.ext HXR.out);have HSZ:=lh (xsize_any bd S (d+1) wr _ HT4r.out);unfold Nd.val at HSZ
    go_upto_region 17 with(go_at_call 64;refine HSZ.out.mono ?_;rintro e w8 ⟨sz,rfl,hsz,x8⟩;have z38:=x8.cell z3r;have z48:=x8.cell z4r)
    have hen:=i64_wrap64 (fm+sz);generalize wrap64 (fm+sz)=en at *;have x18:=x1.trans x8;have HI8:=lh (HI.out.up x8);have him:i=m:=om;clear hlt hiI;subst him;clear z38 z48 r0 r1 r6 r7 z2r z3r z4r z5r HT4r HSZ HI x1 HXR
    go_loopw [12,5] (fun v12 v5 wq=>∃(k:Nat) (A5:Option Addr) (c5:Nat) (hs:List Hin),v12=.int .i64 k∧v5=.slice A5 hs.length c5∧i≤k∧(k=i∨k≤q)∧hs.length+i+k≤B*k∧Ext wa wq∧Hid (CdI w0 wa wq 123 A5 c5 hs)) (fun v _ _=>q-(intOf v).toNat)
    case atStart=>exact⟨i,A5,c5,hs,rfl,rfl,Nat.le_refl _,.inl rfl,om,x18,HI8⟩
    case round=>
     clear HI8 x18 hlm hcaps;obtain⟨k,A5,c5,hs,rfl,rfl,hik,hkq,hlen,x1,HI⟩:=hrel;have hcaps:=HI.out.len;have z2r:=x1.cell z2;have z4r:=x1.cell z4;have z5r:=x1.cell z5;by_cases hlt:k<q
     ·have hiI:(k:Int)<(q:Int):=om;have hm1:=mul_step B k;have hm2:B*(k+1)≤B*bd:=mul_le2 om;have hq:hs.length+1+B≤B*bd:=(Nat.eq_zero_or_pos k).elim (fun e=>by rw[e] at hlen;omega) (fun e=>om);have HXR:=lh (HX0.out.trans x1);have ewp:IntKind.i64.wrap (fm+(hs.length:Int))=fm+(hs.length:Int):=wj;have ewq:IntKind.i64.wrap (fm+(hs.length:Int)+1)=fm+(hs.length:Int)+1:=wj;have XI:=Ext.alloc wr (.cells #[.int .i64 2,.int .i64 (fm+(hs.length:Int)+1),.int .i64 en,.int .i64 0,.slice none 0 0] 123);have BI:=Blk.new wr 123 #[.int .i64 2,.int .i64 (fm+(hs.length:Int)+1),.int .i64 en,.int .i64 0,.slice none 0 0];have z5b:=XI.cell z5r
      go_upto_region 21 with fail
      obtain⟨gI,hgI0⟩:∃g,g=wr.heap.size:=⟨_,rfl⟩
      rw[←hgI0] at BI ⊢;have hgI:wr.heap.size≤gI:=om;clear hgI0;generalize wr.alloc (.cells #[.int .i64 2,.int .i64 (fm+(hs.length:Int)+1),.int .i64 en,.int .i64 0,.slice none 0 0] 123)=wb at *;obtain⟨y0,y1,y2,y3,y4⟩:wb.cell? ⟨gI,0,none⟩=some (.int .i64 2)∧wb.cell? ⟨gI,1,none⟩=some (.int .i64 (fm+(hs.length:Int)+1))∧wb.cell? ⟨gI,2,none⟩=some (.int .i64 en)∧wb.cell? ⟨gI,3,none⟩=some (.int .i64 0)∧wb.cell? ⟨gI,4,none⟩=some (.slice none 0 0):=⟨BI.cell 0,BI.cell 1,BI.cell 2,BI.cell 3,BI.cell 4⟩;by_cases hmd1:md=1
      ·subst hmd1;obtain⟨f0,f1,f2,f3,f4⟩:=in_frz BI
       go_upto_region 23 with fail
       have bn:=setIn_blk BI ⟨2,en,(fm+(hs.length:Int)+1),0,none,0,[]⟩;have xn:=setIn_ext XI hgI ⟨2,en,(fm+(hs.length:Int)+1),0,none,0,[]⟩;change Code.wp _ _ _ _ (setIn wb gI ⟨2,en,(fm+(hs.length:Int)+1),0,none,0,[]⟩);clear y0 y1 y2 y3 y4 f0 f1 f2 f3 f4 BI XI;generalize setIn wb gI ⟨2,en,(fm+(hs.length:Int)+1),0,none,0,[]⟩=wn at *;obtain⟨y0,y1,y2,y3,y4⟩:=in_cells bn;simp only[List.length_nil] at y4;have HIn:=lh (HI.out.up xn);obtain⟨ys1,HY1⟩:∃ys,Hid (ys=hs++[(⟨2,en,(fm+(hs.length:Int)+1),0,none,0,[]⟩:Hin)]):=⟨_,lh rfl⟩;have hl1:Hid (ys1.length=hs.length+1):=lh (by rw[HY1.out,List.length_append];simp)
       go_upto_region 24 with(at_builtin;refine wpList_appN (w0:=w0) rfl _ _ _ rfl iI Tryz.underlying31 jI0 jI1 jI2 jI3 A5 c5 hs rfl (HIn.out.up (Ext.alloc wn _)) _ 1 [⟨2,en,(fm+(hs.length:Int)+1),0,none,0,[]⟩] rfl (hin_blk (Blk.new _ _ _)) (fun h hh=>by rw[List.mem_singleton.1 hh];exact HinOk.plain w0 (by have hen':=hen;simp only[I64] at hen' ⊢;omega)) (by simp only[List.length_singleton];omega) ys1 HY1.out ?_;intro A6 c6 w6 h6 x6 hr6 hg6)
       exact C6z1
      ·have hmd0:(md == 1)=false:=by simp[hmd1]
       go_upto_region 23 with fail
       have bn:=BI;have xn:=XI;clear BI XI;generalize wb=wn at *;have HIn:=lh (HI.out.up xn);obtain⟨ys1,HY1⟩:∃ys,Hid (ys=hs++[(⟨2,(fm+(hs.length:Int)+1),en,0,none,0,[]⟩:Hin)]):=⟨_,lh rfl⟩;have hl1:Hid (ys1.length=hs.length+1):=lh (by rw[HY1.out,List.length_append];simp)
       go_upto_region 24 with(at_builtin;refine wpList_appN (w0:=w0) rfl _ _ _ rfl iI Tryz.underlying31 jI0 jI1 jI2 jI3 A5 c5 hs rfl (HIn.out.up (Ext.alloc wn _)) _ 1 [⟨2,(fm+(hs.length:Int)+1),en,0,none,0,[]⟩] rfl (hin_blk (Blk.new _ _ _)) (fun h hh=>by rw[List.mem_singleton.1 hh];exact HinOk.plain w0 (by have hen':=hen;simp only[I64] at hen' ⊢;omega)) (by simp only[List.length_singleton];omega) ys1 HY1.out ?_;intro A6 c6 w6 h6 x6 hr6 hg6)
       exact C6z1
     ·have hiI:¬(k:Int)<(q:Int):=om;have hm2:B*k≤B*bd:=mul_le2 om;have hm3:k≤1→B*k≤B*1:=fun h=>mul_le2 h
      go_wp2_with fail
      go_ret
      exact⟨A5,c5,hs,rfl,by exact(Nat.lt_or_ge 1 k).elim (fun h=>om) (fun h=>by have h9:=hm3 h;omega),HI.out.low HE0.out⟩
end
end Go.Proofs.YtmocoldobnimfaaGreat
