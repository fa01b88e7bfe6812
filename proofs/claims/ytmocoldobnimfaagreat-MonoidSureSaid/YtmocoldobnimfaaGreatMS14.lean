/- Texts of this proof: C2 Y1 Y2 OU. -/
import Derived.Test.YtmocoldobnimfaaGreatMS11
set_option linter.all false
set_option maxRecDepth 100000
set_option maxHeartbeats 16000000
namespace Go.Proofs.YtmocoldobnimfaaGreat
section
open Go.RowKit
attribute [local go_sem ↓] Go.wp_at_zero Go.wp_at_succ
theorem qM:(Tryz.prog.info? 123).map (fun i=>(i.zero,i.size,i.bytes))=some (some (.agg #[.int .i64 0,.int .i64 0,.int .i64 0,.int .i64 0,.slice none 0 0]),5,56):=by kernel_rfl
def VI (bd:Nat)(S:Nat->Prop)(w0:World)(d B:Nat):Prop:=
 ∀(w:World) (v:Value),Ext w0 w->Qx bd S w0 d v->∀fm:Int,0<=fm->fm+B<=1000000->Calls Tryz.prog 65 #[v,.int .i64 fm] w (JT 123 w0 B w)
theorem VL {bd:Nat}{S:Nat->Prop}{w w0:World}{d:Nat}{K:Option Addr}{ks:List Value}(x:Ext w0 w)(hc:QP w0 K (ks.flatMap Q8))(ht:∀u∈ks,Qx bd S w0 d u){i:Nat}(hi:i<ks.length) :
 ∃b o,K=some ⟨b,o,none⟩/\∃n:Nd,Qx bd S w0 d n.val/\w.cell? ⟨b,o+i*8,none⟩=some (.int .i64 n.op)/\w.cell? ⟨b,o+i*8+1,none⟩=some (.slice n.A n.l.length n.c)/\w.cell? ⟨b,o+i*8+2,none⟩=some (.slice n.K n.ks.length n.kc)/\
  w.cell? ⟨b,o+i*8+3,none⟩=some (.int .i64 n.mn)/\w.cell? ⟨b,o+i*8+4,none⟩=some (.int .i64 n.mx)/\w.cell? ⟨b,o+i*8+5,none⟩=some (.int .i64 n.md)/\w.cell? ⟨b,o+i*8+6,none⟩=some (.int .i64 n.n)/\w.cell? ⟨b,o+i*8+7,none⟩=some (.bool n.neg):=by
 obtain⟨b,o,hK,n,h,k0,k1,k2,k3,k4,k5,k6,k7⟩:=YU hc ht hi;exact⟨b,o,hK,n,h,x.cell k0,x.cell k1,x.cell k2,x.cell k3,x.cell k4,x.cell k5,x.cell k6,x.cell k7⟩
theorem LB (w0 w:World)(x0:Ext w0 w)(A:Option Addr)(c:Nat)(l:List Sp)(K:Option Addr)(kc:Nat)(ks:List Value)(mn mx md nn:Int)(neg:Bool)(fm:Int)(hsl:SL w0 A c l)(hset:Vv l) :
 Calls Tryz.prog 65 #[.agg #[.int .i64 1,.slice A l.length c,.slice K ks.length kc,.int .i64 mn,.int .i64 mx,.int .i64 md,.int .i64 nn,.bool neg],.int .i64 fm] w (JT 123 w0 3 w):=by
 have B0:=Blk.new w 26 #[.int .i64 1,.slice A l.length c,.slice K ks.length kc,.int .i64 mn,.int .i64 mx,.int .i64 md,.int .i64 nn,.bool neg];have E0:=Ext.alloc w (.cells #[.int .i64 1,.slice A l.length c,.slice K ks.length kc,.int .i64 mn,.int .i64 mx,.int .i64 md,.int .i64 nn,.bool neg] 26);have HS:=lh hsl;have hll:=hsl.len;clear hsl;go_enter Tryz.func65,Tryz.ntmps65
 go_upto_region 1 with fail
 obtain⟨gx,hgx⟩:∃gx,gx=w.heap.size:=⟨_,rfl⟩
 rw[<-hgx] at B0 ⊢;clear hgx;generalize w.alloc (.cells #[.int .i64 1,.slice A l.length c,.slice K ks.length kc,.int .i64 mn,.int .i64 mx,.int .i64 md,.int .i64 nn,.bool neg] 26)=wa at *;have z0:wa.cell? ⟨gx,0,none⟩=some (.int .i64 1):=B0.cell 0;have z1:wa.cell? ⟨gx,1,none⟩=some (.slice A l.length c):=B0.cell 1;have z2:wa.cell? ⟨gx,2,none⟩=some (.slice K ks.length kc):=B0.cell 2;have z6:wa.cell? ⟨gx,6,none⟩=some (.int .i64 nn):=B0.cell 6
 go_wp2_with fail
 go_ret
 exact⟨_,1,[⟨1,0,0,0,A,c,l⟩],rfl,by simp,Oj (h:=⟨1,0,0,0,A,c,l⟩) (Blk.new wa _ _) E0.size (E0.trans (Ext.alloc _ _)) ⟨by simp[Hin.wf,I64],HS.out,aS hset⟩⟩
theorem Gq (w0 w:World)(x0:Ext w0 w)(A:Option Addr)(c:Nat)(l:List Sp)(K:Option Addr)(kc:Nat)(ks:List Value)(mn mx md nn:Int)(neg:Bool)(fm:Int)(hn:0<=nn/\nn<=9) :
 Calls Tryz.prog 65 #[.agg #[.int .i64 11,.slice A l.length c,.slice K ks.length kc,.int .i64 mn,.int .i64 mx,.int .i64 md,.int .i64 nn,.bool neg],.int .i64 fm] w (JT 123 w0 3 w):=by
 have B0:=Blk.new w 26 #[.int .i64 11,.slice A l.length c,.slice K ks.length kc,.int .i64 mn,.int .i64 mx,.int .i64 md,.int .i64 nn,.bool neg];have E0:=Ext.alloc w (.cells #[.int .i64 11,.slice A l.length c,.slice K ks.length kc,.int .i64 mn,.int .i64 mx,.int .i64 md,.int .i64 nn,.bool neg] 26);go_enter Tryz.func65,Tryz.ntmps65
 go_upto_region 1 with fail
 obtain⟨gx,hgx⟩:∃gx,gx=w.heap.size:=⟨_,rfl⟩
 rw[<-hgx] at B0 ⊢;clear hgx;generalize w.alloc (.cells #[.int .i64 11,.slice A l.length c,.slice K ks.length kc,.int .i64 mn,.int .i64 mx,.int .i64 md,.int .i64 nn,.bool neg] 26)=wa at *;have z0:wa.cell? ⟨gx,0,none⟩=some (.int .i64 11):=B0.cell 0;have z1:wa.cell? ⟨gx,1,none⟩=some (.slice A l.length c):=B0.cell 1;have z2:wa.cell? ⟨gx,2,none⟩=some (.slice K ks.length kc):=B0.cell 2;have z6:wa.cell? ⟨gx,6,none⟩=some (.int .i64 nn):=B0.cell 6
 go_wp2_with fail
 go_ret
 exact⟨_,1,[⟨5,0,0,nn,none,0,[]⟩],rfl,by simp,Oj (h:=⟨5,0,0,nn,none,0,[]⟩) (Blk.new wa _ _) E0.size (E0.trans (Ext.alloc _ _)) (ZJ.plain _ (by simp[I64];omega))⟩
theorem LC (w0 w:World)(x0:Ext w0 w)(A:Option Addr)(c:Nat)(l:List Sp)(K:Option Addr)(kc:Nat)(ks:List Value)(mn mx md nn:Int)(neg:Bool)(fm:Int) :
 Calls Tryz.prog 65 #[.agg #[.int .i64 0,.slice A l.length c,.slice K ks.length kc,.int .i64 mn,.int .i64 mx,.int .i64 md,.int .i64 nn,.bool neg],.int .i64 fm] w (JT 123 w0 3 w):=by
 have B0:=Blk.new w 26 #[.int .i64 0,.slice A l.length c,.slice K ks.length kc,.int .i64 mn,.int .i64 mx,.int .i64 md,.int .i64 nn,.bool neg];have E0:=Ext.alloc w (.cells #[.int .i64 0,.slice A l.length c,.slice K ks.length kc,.int .i64 mn,.int .i64 mx,.int .i64 md,.int .i64 nn,.bool neg] 26);go_enter Tryz.func65,Tryz.ntmps65
 go_upto_region 1 with fail
 obtain⟨gx,hgx⟩:∃gx,gx=w.heap.size:=⟨_,rfl⟩
 rw[<-hgx] at B0 ⊢;clear hgx;generalize w.alloc (.cells #[.int .i64 0,.slice A l.length c,.slice K ks.length kc,.int .i64 mn,.int .i64 mx,.int .i64 md,.int .i64 nn,.bool neg] 26)=wa at *;have z0:wa.cell? ⟨gx,0,none⟩=some (.int .i64 0):=B0.cell 0;have z1:wa.cell? ⟨gx,1,none⟩=some (.slice A l.length c):=B0.cell 1;have z2:wa.cell? ⟨gx,2,none⟩=some (.slice K ks.length kc):=B0.cell 2;have z6:wa.cell? ⟨gx,6,none⟩=some (.int .i64 nn):=B0.cell 6
 go_wp2_with fail
 go_ret
 exact⟨none,0,[],rfl,by simp,CdI.nil E0⟩
theorem LD (w0 w:World)(x0:Ext w0 w)(A:Option Addr)(c:Nat)(l:List Sp)(K:Option Addr)(kc:Nat)(ks:List Value)(mn mx md nn:Int)(neg:Bool)(fm:Int)(bd:Nat)(S:Nat->Prop)(d B:Nat)(IH:VI bd S w0 d B)(hB:2<=B)(hkl:ks.length<=kc/\kc<=maxLen)(hcl:QP w0 K (ks.flatMap Q8))(hks:∀u∈ks,Qx bd S w0 d u)(hf:0<=fm)(hfB:fm+(B*ks.length:Nat)<=1000000) :
 Calls Tryz.prog 65 #[.agg #[.int .i64 2,.slice A l.length c,.slice K ks.length kc,.int .i64 mn,.int .i64 mx,.int .i64 md,.int .i64 nn,.bool neg],.int .i64 fm] w (JT 123 w0 (B*ks.length+(2-2*ks.length)) w):=by
 have B0:=Blk.new w 26 #[.int .i64 2,.slice A l.length c,.slice K ks.length kc,.int .i64 mn,.int .i64 mx,.int .i64 md,.int .i64 nn,.bool neg];have E0:=Ext.alloc w (.cells #[.int .i64 2,.slice A l.length c,.slice K ks.length kc,.int .i64 mn,.int .i64 mx,.int .i64 md,.int .i64 nn,.bool neg] 26);obtain⟨iI,jI0,jI1,jI2,jI3⟩:=info_parts qM;have HIH:=lh IH;have HC:=lh hcl;have HK:=lh hks;have HKL:ks.length<=kc/\kc<=9223372036854775807:=⟨hkl.1,by have:=hkl.2;unfold maxLen at this;omega⟩;clear IH hcl hks hkl;go_enter Tryz.func65,Tryz.ntmps65
 go_upto_region 1 with fail
 obtain⟨gx,hgx⟩:∃gx,gx=w.heap.size:=⟨_,rfl⟩
 rw[<-hgx] at B0 ⊢;clear hgx;generalize w.alloc (.cells #[.int .i64 2,.slice A l.length c,.slice K ks.length kc,.int .i64 mn,.int .i64 mx,.int .i64 md,.int .i64 nn,.bool neg] 26)=wa at *;have z0:wa.cell? ⟨gx,0,none⟩=some (.int .i64 2):=B0.cell 0;have z1:wa.cell? ⟨gx,1,none⟩=some (.slice A l.length c):=B0.cell 1;have z2:wa.cell? ⟨gx,2,none⟩=some (.slice K ks.length kc):=B0.cell 2;have z6:wa.cell? ⟨gx,6,none⟩=some (.int .i64 nn):=B0.cell 6;have X0:=x0.trans E0
 go_upto_region 9 with fail
 go_loopw [6,5] (fun v6 v5 wr=>∃(i:Nat) (A5:Option Addr) (c5:Nat) (hs:List Hin),v6=.int .i64 i/\v5=.slice A5 hs.length c5/\i<=ks.length/\hs.length+2*i<=B*i/\Ext wa wr/\Hid (CdI w0 wa wr 123 A5 c5 hs)) (fun v _ _=>ks.length-(intOf v).toNat)
 case atStart=>exact⟨0,none,0,[],rfl,rfl,om,by simp,Ext.rfl' _,lh (CdI.nil (Ext.rfl' wa))⟩
 case round=>
  obtain⟨i,A5,c5,hs,rfl,rfl,hi,hlen,x1,HI⟩:=hrel;have hcaps:=HI.out.len;have z2r:=x1.cell z2;by_cases hlt:i<ks.length
  ·have hiI:(i:Int)<ks.length:=om;have hm1:=qF B i;have hm2:B*(i+1)<=B*ks.length:=ZR hlt;obtain⟨b,o,hK,n,ht,k0,k1,k2,k3,k4,k5,k6,k7⟩:=VL (X0.trans x1) HC.out HK.out hlt;have hK':=hK;subst hK';have HT:=lh ht;have XR:=lh (X0.trans x1);have ewp:IntKind.i64.wrap (fm+(hs.length:Int))=fm+(hs.length:Int):=wj;clear ht
   go_wp2_with (first|(go_at_call 65;refine(HIH.out wr _ XR.out HT.out (fm+(hs.length:Int)) om om).mono ?_;rintro e w3 ⟨A3,c3,hs3,rfl,hl3,h3⟩;have H3:=lh h3;have hc3:=h3.len;have x3:=h3.ext;clear h3)|(at_builtin;obtain⟨ys,HY⟩:∃ys,Hid (ys=hs++hs3):=⟨_,lh rfl⟩;refine Q7 rfl _ _ _ rfl iI Tryz.underlying31 jI0 jI1 jI2 jI3 A5 c5 hs rfl (HI.out.up x3) A3 c3 hs3 rfl (QQ.cells H3.out.own) H3.out.ok om ys HY.out ?_;intro A8 c8 w8 h8 x8 hr8 hg8;have H8:=lh h8;have HG8:=lh hg8;have HR8:=lh hr8;clear h8 hg8 hr8))
   have hyl:ys.length=hs.length+hs3.length:=by rw[HY.out];simp
   go_roundw
   case rel=>exact⟨i+1,A8,c8,ys,by go_num,rfl,om,om,(x1.trans x3).grown HG8.out (fun k hk=>by exact HR8.out k hk),H8⟩
   case measure=>simp[intOf];omega
  ·have hiI:¬(i:Int)<ks.length:=om;have e:i=ks.length:=om;subst e
   go_wp2_with fail
   go_ret
   exact⟨A5,c5,hs,rfl,om,HI.out.low E0⟩
def I32 (x:Int):Prop:=-2147483648<=x/\x<=2147483647
structure KL (w:World)(A:Option Addr)(c:Nat)(xs:List Int):Prop where
 le:xs.length<=c
 cap:c<=maxLen
 rng:∀x∈xs,I32 x
 at_:xs≠[]->∃b o,A=some ⟨b,o,none⟩/\∀i (h:i<xs.length),w.cell? ⟨b,o+i,none⟩=some (.int .i32 xs[i])
namespace KL
variable {w w':World} {A:Option Addr} {c:Nat} {xs:List Int}
theorem ext (h:KL w A c xs)(k:Ext w w'):KL w' A c xs:=by
 refine⟨h.le,h.cap,h.rng,fun hn=>?_⟩;obtain⟨b,o,rfl,hc⟩:=h.at_ hn;exact⟨b,o,rfl,fun i hi=>k.cell (hc i hi)⟩
theorem len (h:KL w A c xs):xs.length<=c/\c<=9223372036854775807:=⟨h.le,by have:=h.cap;unfold maxLen at this;omega⟩
theorem get {k:Nat}(h:KL w A c xs)(hk:k<xs.length):∃b o,A=some ⟨b,o,none⟩/\w.cell? ⟨b,o+k,none⟩=some (.int .i32 xs[k]):=by
 obtain⟨b,o,rfl,hc⟩:=h.at_ (by intro h0;subst h0;simp at hk);exact⟨b,o,rfl,hc k hk⟩
end KL
structure Sm where
 m:Nat
 len:Nat
 tA:Option Addr
 tc:Nat
 tg:List Int
 lA:Option Addr
 lc:Nat
 last:List Int
 sA:Option Addr
 sc:Nat
 st:List Int
 eA:Option Addr
 ec:Nat
 en:List Int
def By (s:Sm):Array Value:=#[.pointer (some ⟨s.m,0,none⟩),.int .i64 s.len,.slice s.tA s.tg.length s.tc,.slice s.lA s.last.length s.lc,.slice s.sA s.st.length s.sc,.slice s.eA s.en.length s.ec]
structure Kw (w:World)(g:Nat)(s:Sm):Prop where
 blk:Blk w g 154 (By s)
 tg:KL w s.tA s.tc s.tg
 last:KL w s.lA s.lc s.last
 st:KL w s.sA s.sc s.st
 en:KL w s.eA s.ec s.en
 ty:∀A∈[s.tA,s.lA,s.sA,s.eA],∀b,A.map (·.block)=some b->∃cur,w.heap[b]? = some (.cells cur 21 (0,0))
theorem Kw.ext {w w':World}{g:Nat}{s:Sm}(h:Kw w g s)(k:Ext w w'):Kw w' g s:=⟨h.blk.ext k,h.tg.ext k,h.last.ext k,h.st.ext k,h.en.ext k,fun A hA b e=>by
 obtain⟨cur,q⟩:=h.ty A hA b e;exact⟨cur,(k.block b (Array.getElem?_eq_some_iff.1 q).1).trans q⟩⟩
def Y0 (n:Nat)(tg last:List Int)(st la:Int):Int×Int:=
 if st = -1 then(-1,la) else(tg.getD st.toNat 0,if last.getD st.toNat 0 = -1 then la else(n:Int)+last.getD st.toNat 0)
theorem OP (w:World)(ga gb:Nat)(a b:Sm)(ha:Kw w ga a)(hb:Kw w gb b)(hlen:a.len<=1000000)(hl:b.last.length=b.tg.length)(hlr:∀x∈b.last,-1<=x/\x<=1000000)(st la:Int)(h0 : -1<=st)(h1:st<b.tg.length) :
 Calls Tryz.prog 132 #[.pointer (some ⟨ga,0,none⟩),.pointer (some ⟨gb,0,none⟩),.int .i32 st,.int .i32 la] w (QD (.tuple #[.int .i32 (Y0 a.len b.tg b.last st la).1,.int .i32 (Y0 a.len b.tg b.last st la).2]) w):=by
 by_cases hd:st = -1
 ·subst hd;have HA:=lh (show Y0 a.len b.tg b.last (-1) la=(-1,la) by simp[Y0]);rw[HA.out];go_enter Tryz.func132,Tryz.ntmps132
  go_wp2_with fail
  go_ret2
  exact⟨rfl,Ext.rfl' _⟩
 ·obtain⟨k,rfl⟩:∃k:Nat,st=k:=⟨st.toNat,om⟩;have hk:k<b.tg.length:=om;have hk2:k<b.last.length:=om;obtain⟨tb,oo,htA,ct⟩:=hb.tg.get hk;obtain⟨lb,lo,hlA,cl⟩:=hb.last.get hk2;have r1:w.cell? ⟨ga,1,none⟩=some (.int .i64 a.len):=ha.blk.cell 1;have q2:w.cell? ⟨gb,2,none⟩=some (.slice b.tA b.tg.length b.tc):=hb.blk.cell 2;have q3:w.cell? ⟨gb,3,none⟩=some (.slice b.lA b.last.length b.lc):=hb.blk.cell 3;have hrl:=hlr _ (List.getElem_mem hk2);have HA:=lh (show Y0 a.len b.tg b.last (k:Int) la=(b.tg[k],if b.last[k] = -1 then la else(a.len:Int)+b.last[k]) by
   unfold Y0;rw[if_neg om];simp[List.getD_eq_getElem?_getD,hk,hk2])
  rw[HA.out];rw[htA] at q2;rw[hlA,hl] at q3;have hw1:IntKind.i32.wrap (a.len:Int)=a.len:=wraps_i32 _ om om;generalize b.last[k]=x at *;generalize b.tg[k]=y at *;clear HA hl htA hlA hlr h0 h1 hk2 ha hb;generalize b.tg.length=n at *;have hkI:(k:Int)<n:=om;by_cases hx:x = -1
  ·subst hx;simp only[if_true];go_enter Tryz.func132,Tryz.ntmps132
   go_wp2_with fail
   go_ret2
   exact⟨rfl,Ext.rfl' _⟩
  ·rw[if_neg hx];have hw2:IntKind.i32.wrap ((a.len:Int)+x)=a.len+x:=wraps_i32 _ om om;go_enter Tryz.func132,Tryz.ntmps132;have j1:=kc0 r1;have j3:=kc0 q3;have jl:=kc0 cl
   go_upto_region 4 with fail
   refine Xr.start [] kr ?_;refine Xtk 0 ?_
   iterate 13(refine Xtn ?_)
   refine Xdn fun w4 hE4 hK4=>?_;have r2':w4.cell? ⟨gb,2,none⟩=some (.slice (some ⟨tb,oo,none⟩) n b.tc):=hE4.cell q2;have ct':=hE4.cell ct;clear j1 j3 jl r1 q2 q3 ct cl
   go_wp2_with fail
   go_ret2
   exact⟨rfl,hE4⟩
structure Kr where
 A:Option Addr
 c:Nat
 l:List Int
structure NXL (w:World)(A:Option Addr)(c:Nat)(hs:List Kr):Prop where
 le:hs.length<=c
 cap:c<=maxLen
 il:∀h∈hs,KL w h.A h.c h.l
 at_:hs≠[]->∃b o,A=some ⟨b,o,none⟩/\∀i (h:i<hs.length),w.cell? ⟨b,o+i,none⟩=some (.slice hs[i].A hs[i].l.length hs[i].c)
namespace NXL
variable {w w':World} {A:Option Addr} {c:Nat} {hs:List Kr}
theorem ext (h:NXL w A c hs)(k:Ext w w'):NXL w' A c hs:=by
 refine⟨h.le,h.cap,fun z hz=>(h.il z hz).ext k,fun hn=>?_⟩;obtain⟨b,o,rfl,hc⟩:=h.at_ hn;exact⟨b,o,rfl,fun i hi=>k.cell (hc i hi)⟩
theorem len (h:NXL w A c hs):hs.length<=c/\c<=9223372036854775807:=⟨h.le,by have:=h.cap;unfold maxLen at this;omega⟩
theorem get {k:Nat}(h:NXL w A c hs)(hk:k<hs.length):∃b o,A=some ⟨b,o,none⟩/\w.cell? ⟨b,o+k,none⟩=some (.slice hs[k].A hs[k].l.length hs[k].c)/\KL w hs[k].A hs[k].c hs[k].l:=by
 obtain⟨b,o,rfl,hc⟩:=h.at_ (by intro h0;subst h0;simp at hk);exact⟨b,o,rfl,hc k hk,h.il _ (List.getElem_mem hk)⟩
end NXL
def Wq (hs:List Kr):List (List Int):=hs.map (·.l)
theorem AY (hs:List Kr):(Wq hs).length=hs.length:=by simp[Wq]
structure Ma where
 runes:Bool
 rA:Option Addr
 rn:Nat
 rc:Nat
 first:Int
 nA:Option Addr
 nc:Nat
 next:List Kr
 dA:Option Addr
 dc:Nat
 done:List Bool
 oA:Option Addr
 oc:Nat
 opn:List Bool
def Bx (m:Ma):Array Value:=#[.bool m.runes,.slice m.rA m.rn m.rc,.int .i32 m.first,.slice m.nA m.next.length m.nc,.slice m.dA m.done.length m.dc,.slice m.oA m.opn.length m.oc]
structure V9 (w:World)(g:Nat)(m:Ma):Prop where
 blk:Blk w g 136 (Bx m)
 nx:NXL w m.nA m.nc m.next
 dn:IB w m.dA m.dc m.done
 op:IB w m.oA m.oc m.opn
theorem V9.ext {w w':World}{g:Nat}{m:Ma}(h:V9 w g m)(k:Ext w w'):V9 w' g m:=⟨h.blk.ext k,h.nx.ext k,h.dn.ext k,h.op.ext k⟩
structure VB (nc:Nat)(m:Ma):Prop where
 row:∀h∈m.next,h.l.length=nc
 rng:∀h∈m.next,∀x∈h.l,-1<=x/\x<m.next.length
 dl:m.done.length=m.next.length
 len:m.next.length<=1000000
 first : -1<=m.first/\m.first<m.next.length
def VP (nx:List (List Int))(dn:List Bool):List Int->Nat->Int->Int->Int×Int
 | [],_,st,la=>(st,la)
 | c::cs,k,st,la=>if st = -1 then(st,la) else
  VP nx dn cs (k+1) ((nx.getD st.toNat []).getD c.toNat 0) (if(nx.getD st.toNat []).getD c.toNat 0≠-1/\dn.getD ((nx.getD st.toNat []).getD c.toNat 0).toNat false=true then((k+1:Nat):Int) else la)
theorem OR (nx:List (List Int))(dn:List Bool)(l:List Int)(k:Nat)(la:Int):VP nx dn l k (-1) la=(-1,la):=by
 cases l<;>simp[VP]
theorem LE (w:World)(g:Nat)(m:Ma)(nc:Nat)(hm:V9 w g m)(ok:VB nc m)(CA:Option Addr)(cc:Nat)(cs:List Int)(hC:IL w CA cc cs)(hcl:cs.length<=1000000)(hcr:∀x∈cs,0<=x/\x<nc)(st:Int)(h0 : -1<=st)(h1:st<m.next.length)(fr:Nat)(hfr:fr<=cs.length)(la:Int) :
 Calls Tryz.prog 134 #[.pointer (some ⟨g,0,none⟩),.int .i32 st,.slice CA cs.length cc,.int .i64 fr,.int .i32 la] w (QD (.tuple #[.int .i32 (VP (Wq m.next) m.done (cs.drop fr) fr st la).1,.int .i32 (VP (Wq m.next) m.done (cs.drop fr) fr st la).2]) w):=by
 have hcc:=hC.len;have hnl:=hm.nx.len;have hdl:=hm.dn.len;have DL:=lh ok.dl;have OK:=lh ok;have hmx:=ok.len;have HM:=lh hm;have HC:=lh hC;have HCR:=lh hcr;obtain⟨res,hres⟩:∃res,Hid (VP (Wq m.next) m.done (cs.drop fr) fr st la=res):=⟨_,lh rfl⟩;rw[hres.out];clear ok hm hC hcr;go_enter Tryz.func134,Tryz.ntmps134
 go_upto_region 2 with fail
 go_loopw [1,4,12] (fun v1 v4 v7 wr=>∃(s l:Int) (k:Nat),v1=.int .i32 s/\v4=.int .i32 l/\v7=.int .i64 k/\k<=cs.length/\-1<=s/\s<m.next.length/\Hid (VP (Wq m.next) m.done (cs.drop k) k s l=res)/\Ext w wr) (fun _ _ v _=>cs.length-(intOf v).toNat)
 case atStart=>exact⟨st,la,fr,rfl,rfl,rfl,hfr,h0,h1,hres,Ext.rfl' _⟩
 case round=>
  obtain⟨s,l,k,rfl,rfl,rfl,hk,hs0,hs1,hr,x1⟩:=hrel;have HM1:=lh (HM.out.ext x1);have HC1:=lh (HC.out.ext x1);have c3:wr.cell? ⟨g,3,none⟩=some (.slice m.nA m.next.length m.nc):=HM1.out.blk.cell 3;by_cases hlt:k<cs.length
  ·have hkI:(k:Int)<cs.length:=om;by_cases hd:s = -1
   ·subst hd;have hrv:=hr.out;rw[OR] at hrv;subst hrv
    go_wp2_with fail
    go_ret2
    exact⟨rfl,x1⟩
   ·obtain⟨sn,rfl⟩:∃sn:Nat,s=sn:=⟨s.toNat,om⟩;have hsn:sn<m.next.length:=om;obtain⟨nb,no,hnA,cnx,KR⟩:=HM1.out.nx.get hsn;obtain⟨cb,co,hCA,ck⟩:=HC1.out.get hlt;have hcr:=HCR.out _ (List.getElem_mem hlt);have hrow:=OK.out.row _ (List.getElem_mem hsn);have hrng:=OK.out.rng _ (List.getElem_mem hsn);obtain⟨q,hq⟩:∃q:Nat,cs[k]=(q:Int):=⟨cs[k].toNat,om⟩;have hqc:q<m.next[sn].l.length:=by rw[hrow];omega
    obtain⟨rb,ro,hrA,ct⟩:=KR.get hqc;have ht:=hrng _ (List.getElem_mem hqc);have hst:((Wq m.next).getD ((sn:Nat):Int).toNat []).getD ((q:Nat):Int).toNat 0=m.next[sn].l[q]:=by
     simp[Wq,List.getD_eq_getElem?_getD,hsn,hqc]
    have hr2:=hr.out;rw[List.drop_eq_getElem_cons hlt,VP,if_neg hd,hq,hst] at hr2;rw[hq] at ck;rw[hrA] at cnx;have hqI:(q:Int)<m.next[sn].l.length:=om;have hsI:(sn:Int)<m.next.length:=om;have d3:=c3;rw[hnA] at d3;have hC2:=hCA;subst hC2;clear hst hr hrow hrng KR hcr hq;generalize m.next[sn].l[q]=t at *;generalize m.next[sn].l.length=rl at *;generalize m.next[sn].c=rcp at *;clear c3 hrA;have hwk:IntKind.i64.wrap ((k:Int)+1)=((k+1:Nat):Int):=wj;have hwk3:IntKind.i32.wrap ((k:Int)+1)=((k+1:Nat):Int):=by rw[IntKind.wrap_i32];omega
    have j3:=kc0 d3;have jn:=kc0 cnx;have jk:=kc0 ck;have jt:=kc0 ct;by_cases htd:t = -1
    ·subst htd;have hr3:=lh (show VP (Wq m.next) m.done (cs.drop (k+1)) (k+1) (-1) l=res by rw[<-hr2];simp);clear hr2
     go_upto_region 4 with fail
     refine Xr.start [] kr ?_;refine Xtk 0 ?_
     iterate 13(refine Xtn ?_)
     refine Xdn fun w4 hE4 hK4=>?_;have x4:=x1.trans hE4;clear d3 cnx ck ct j3 jn jk jt
     go_wp2_with fail
     go_roundw
     case rel=>exact⟨-1,l,k+1,rfl,rfl,by go_num,om,om,om,hr3,x4⟩
     case measure=>simp[intOf];omega
    ·obtain⟨tn,rfl⟩:∃tn:Nat,t=tn:=⟨t.toNat,om⟩;have htn:tn<m.done.length:=by rw[DL.out];omega
     go_upto_region 4 with fail
     refine Xr.start [] kr ?_;refine Xtk 0 ?_
     iterate 13(refine Xtn ?_)
     refine Xdn fun w4 hE4 hK4=>?_;have x4:=x1.trans hE4;clear d3 cnx ck ct j3 jn jk jt;obtain⟨db,dd,hdA,cd⟩:=(HM.out.ext x4).dn.get htn;have htI:(tn:Int)<m.done.length:=om;have c5:w4.cell? ⟨g,4,none⟩=some (.slice m.dA m.done.length m.dc):=(HM.out.ext x4).blk.cell 4;rw[hdA] at c5;clear hdA;have hgd:m.done.getD ((tn:Nat):Int).toNat false=m.done[tn]:=by simp[List.getD_eq_getElem?_getD,htn]
     rw[hgd] at hr2;clear hgd;generalize m.done[tn]=tdn at *;cases tdn
     ·have hr3:=lh (show VP (Wq m.next) m.done (cs.drop (k+1)) (k+1) (tn:Int) l=res by rw[<-hr2];simp);clear hr2
      go_wp2_with fail
      go_roundw
      case rel=>exact⟨tn,l,k+1,rfl,rfl,by go_num,om,om,om,hr3,x4⟩
      case measure=>simp[intOf];omega
     ·have hr3:=lh (show VP (Wq m.next) m.done (cs.drop (k+1)) (k+1) (tn:Int) ((k+1:Nat):Int)=res by rw[<-hr2];simp[htd]);clear hr2
      go_wp2_with fail
      go_roundw
      case rel=>exact⟨tn,((k+1:Nat):Int),k+1,rfl,by go_num,by go_num,om,om,om,hr3,x4⟩
      case measure=>simp[intOf];omega
  ·have hkI:¬(k:Int)<cs.length:=om;have hrv:=hr.out;rw[List.drop_eq_nil_of_le om] at hrv;have hrv2:(s,l)=res:=hrv;subst hrv2;clear hrv
   go_wp2_with fail
   go_ret2
   exact⟨rfl,x1⟩
def V4 (w:World)(g:Nat)(a d:Int)(A:Option Addr)(n c:Nat):World:=((w.setCell ⟨g,0,none⟩ (.int .i64 a)).setCell ⟨g,1,none⟩ (.int .i64 d)).setCell ⟨g,2,none⟩ (.slice A n c)
theorem vy {w:World}{g T:Nat}{a0 a1 a2:Value}(h:Blk w g T #[a0,a1,a2])(a d:Int)(A:Option Addr)(n c:Nat):Blk (V4 w g a d A n c) g T #[.int .i64 a,.int .i64 d,.slice A n c]:=by
 have h:=((h.set 0 (.int .i64 a)).set 1 (.int .i64 d)).set 2 (.slice A n c)
 simpa[V4] using h
theorem Gz {L:List Nat}{u w:World}{g:Nat}(h:Kp L u w)(hg:g∈L)(a d:Int)(A:Option Addr)(n c:Nat):Kp L u (V4 w g a d A n c):=
 ((h.set (p:=⟨g,0,none⟩) (.inl hg) _).set (p:=⟨g,1,none⟩) (.inl hg) _).set (p:=⟨g,2,none⟩) (.inl hg) _
theorem zY {p:Nat->Prop}{u w:World}{g:Nat}(h:KpP p u w)(hg:p g)(a d:Int)(A:Option Addr)(n c:Nat):KpP p u (V4 w g a d A n c):=
 ((h.set (x:=⟨g,0,none⟩) (.inl hg) _).set (x:=⟨g,1,none⟩) (.inl hg) _).set (x:=⟨g,2,none⟩) (.inl hg) _
end
