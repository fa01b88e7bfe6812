/- Texts of this proof: I4 OG I8. -/
import Derived.Test.YtmgpefenkilffaaGreatSW26
import Derived.Test.YtmgpefenkilffaaGreatSW34
import Derived.Test.YtmgpefenkilffaaGreatSW36
set_option linter.all false
set_option maxRecDepth 100000
set_option maxHeartbeats 16000000
namespace Go.Proofs.YtmgpefenkilffaaGreat
section
open Go.RowKit
attribute [local go_sem ↓] Go.wp_at_zero Go.wp_at_succ
def szK (l:List Tm)(i:Nat):Nat:=((l.take i).map szF).sum
theorem szK_succ (l:List Tm)(i:Nat)(hi:i<l.length):szK l (i+1)=szK l i+szF l[i]:=by
 unfold szK;rw[List.take_succ_eq_append_getElem hi,List.map_append,List.sum_append];simp
theorem szK_all (l:List Tm){i:Nat}(hi:l.length<=i):szK l i=(l.map szF).sum:=by unfold szK;rw[List.take_of_length_le hi]
def lenK (h:Hd)(s k:Nat):Nat:=
 if h.op=1\/h.op=11 then 1 else if h.op=3 then s+2*k-2 else if h.op=5 then s+2 else if h.op=4 then(if h.mx = -1 then(h.mn.toNat+1)*s+2 else h.mx.toNat*s+(h.mx.toNat-h.mn.toNat)) else s
theorem szF_len (T:Tm):szF T=lenK T.hd (T.kids.map szF).sum T.kids.length:=by rw[szF_eq];unfold szH lenK;rw[List.length_map]
theorem lenEndG {P:Prop}(h:P:=by
 go_wp2
 all_goals first
  | (exfalso;omega)
  | (
   go_ret
   exact⟨by rw[HSZ.out];show Ending.returned (Value.int IntKind.i64 (min _ _))=Ending.returned (Value.int IntKind.i64 _);congr 2<;>first|omega|(simp only[IntKind.wrap_i64];omega),XR.out⟩)):P:=h
theorem lenEndQ {P:Prop}(h:P:=by
 go_upto_region 20 with fail
 refine Xr.start [] kr ?_;refine Xtk 0 ?_
 iterate 14(refine Xtn ?_)
 refine Xdn fun w7 hE7 hK7=>?_;have X7:=lh (XR.out.trans hK7.nil);clear hE7 hK7 d3 d4
 go_wp2_with fail
 all_goals first
  | (exfalso;omega)
  | (
   go_ret
   exact⟨by rw[HSZ.out];show Ending.returned (Value.int IntKind.i64 (min _ _))=Ending.returned (Value.int IntKind.i64 _);congr 2<;>first|omega|(simp only[IntKind.wrap_i64];omega),X7.out⟩)):P:=h
theorem hlen_stepG (u C:Int)(d:Nat)(hd6:d+1<=6)
 (IH:∀(w:World) (b o:Nat) (T:Tm) (_:PgAt w b o d T) (_:GdT u C T),Calls Tryz.prog 80 #[.pointer (some ⟨b,o,none⟩)] w (RetV (.int .i64 (szF T:Nat)) w))
 (w:World) (b o:Nat) (T:Tm) (hp:PgAt w b o (d+1) T) (hg:GdT u C T):Calls Tryz.prog 80 #[.pointer (some ⟨b,o,none⟩)] w (RetV (.int .i64 (szF T:Nat)) w):=by
 obtain⟨n,hn⟩:=hp.node;have HN:=lh hn;have HGD:=lh hg;have HLEN:=lh hn.len;have hcap:n.ks.length<=n.kc/\n.kc<=9223372036854775807:=⟨hn.pn.le,by have:=hn.pn.cap;unfold maxLen at this;omega⟩;have hfew:n.ks.length<=3:=hn.pn.ok.few;have HB:Hid (∀i (hi:i<T.kids.length),szF T.kids[i]<=1456):=lh (fun i hi=>by
  obtain⟨kb,ko,_,nk,_,hk⟩:=hn.kid i hi;exact Nat.le_trans (szF_le hk (hg.at_.2 i hi)) (szB_le om))
 have HNUM:Hid (HdOk u C n.hd T.kids):=lh (by rw[<-hn.hd];exact hg.at_.1);have HSF:Hid (szF T=lenK n.hd (szK T.kids n.ks.length) n.ks.length):=lh (by rw[szF_len,hn.hd,szK_all T.kids (by rw[hn.len];exact Nat.le_refl _),hn.len]);have hop:=hn.pn.ok.op;obtain⟨_,_,c2,_⟩:=hn.pn.p.c8;clear hn hp hg;go_enter Tryz.func80,Tryz.ntmps80
 go_upto_region 3 with fail
 clear c2
 go_loopw [3,11] (fun v3 v wr=>∃(i kk:Nat),v3=.int .i64 kk/\v=.int .i64 i/\i<=n.ks.length/\kk<=1456*i/\Hid (kk=szK T.kids i)/\Hid (Ext w wr)) (fun _ v _=>n.ks.length-(intOf v).toNat)
 case atStart=>exact⟨0,0,rfl,rfl,Nat.zero_le _,Nat.le_refl _,lh (by simp[szK]),lh (Ext.rfl' _)⟩
 case round=>
  obtain⟨i,kk,rfl,rfl,hi,hkk,HKK,XR⟩:=hrel;have HNr:=lh (HN.out.ext XR.out);by_cases hlt:i<n.ks.length
  ·have hj:i<T.kids.length:=by have:=HLEN.out;omega
   obtain⟨kb,ko,eK,HKID⟩:=HNr.out.kid i hj;have cr:=HNr.out.pn.p.c8.2.2.1;rw[eK] at cr;clear eK;have HI:=lh (IH wr kb (ko+i*8) T.kids[i] HKID (HGD.out.at_.2 i hj));have HS1:=lh (szK_succ T.kids i hj);have hz:=HB.out i hj;obtain⟨z,hze⟩:∃z,z=szF T.kids[i]:=⟨_,rfl⟩
   rw[<-hze] at HI hz HS1;clear HKID hze
   go_wp2_with (go_at_call 80;refine HI.out.mono ?_;rintro e w6 ⟨rfl,x6⟩;have X6:=lh (XR.out.trans x6);clear x6)
   all_goals first
    | (exfalso;omega)
    | (
     go_roundw
     case rel=>exact⟨i+1,kk+z,by congr 1;omega,by go_num,om,om,lh (by rw[HS1.out,<-HKK.out]),X6⟩
     case measure=>simp[intOf];omega)
  ·have hle:(n.ks.length:Int)<=i:=om;obtain rfl:i=n.ks.length:=om;obtain⟨c0,_,c2,c3,c4,_⟩:=HNr.out.pn.p.c8;have HSG:Hid (szF T=lenK n.hd kk n.ks.length):=lh (by rw[HSF.out,HKK.out]);have hnum:=HNUM.out.num;have hml:2<=n.ks.length\/n.op≠3:=by
    have:=HN.out.pn.ok.alt;by_cases h:n.op=3
    ·exact .inl (this h)
    ·exact .inr h
   have h0k:n.op=0->kk=0:=fun h=>by
    rcases hnum with h1|h1|h1|h1|h1|h1
    ·have h2:=h1.2.2.2.2.2.2;rw[HKK.out];unfold szK;rw[h2];simp
    ·exact absurd (h1.1.symm.trans h) de
    ·rcases h1.1 with h2|h2<;>exact absurd (h2.symm.trans h) de
    ·exact absurd (h1.1.symm.trans h) de
    ·exact absurd (h1.1.symm.trans h) de
    ·exact absurd (h1.1.symm.trans h) de
   have hrep:n.op=4->(n.mn=0\/n.mn=1\/n.mn=2)/\(n.mx = -1\/n.mx=1\/n.mx=2\/n.mx=3)/\(n.mx = -1\/n.mn<=n.mx):=fun h=>by
    rcases hnum with h1|h1|h1|h1|h1|h1
    ·exact absurd (h1.1.symm.trans h) de
    ·exact absurd (h1.1.symm.trans h) de
    ·rcases h1.1 with h2|h2<;>exact absurd (h2.symm.trans h) de
    ·obtain⟨_,_,⟨h3,h4,h5⟩,_⟩:=h1;have h3:0<=n.mn:=h3;have h4:n.mn<=2:=h4;have h5:n.mx = -1\/(1<=n.mx/\n.mx<=3/\n.mn<=n.mx):=h5;omega
    ·exact absurd (h1.1.symm.trans h) de
    ·exact absurd (h1.1.symm.trans h) de
   have hk1:n.op=4->n.ks.length=1:=fun h=>by
    rcases hnum with h1|h1|h1|h1|h1|h1
    ·exact absurd (h1.1.symm.trans h) de
    ·exact absurd (h1.1.symm.trans h) de
    ·rcases h1.1 with h2|h2<;>exact absurd (h2.symm.trans h) de
    ·obtain⟨_,_,_,_,_,t,h2,_⟩:=h1;rw[HLEN.out,h2];rfl
    ·exact absurd (h1.1.symm.trans h) de
    ·exact absurd (h1.1.symm.trans h) de
   have HK1:=lh hk1;have HREP:=lh hrep;have H0K:=lh h0k;unfold lenK Nd.hd at HSG
   simp only at HSG
   clear hnum hrep h0k HSF HNUM hk1;generalize n.op=op at *;generalize n.mn=mn at *;generalize n.mx=mx at *;rcases hop with rfl|rfl|rfl|rfl|rfl|rfl|rfl
   ·have HSZ:Hid ((szF T:Int)=kk):=lh (by rw[HSG.out];simp);clear HSG;exact lenEndG
   ·have HSZ:Hid ((szF T:Int)=1):=lh (by rw[HSG.out];simp);clear HSG;exact lenEndG
   ·have HSZ:Hid ((szF T:Int)=kk):=lh (by rw[HSG.out];simp);clear HSG;exact lenEndG
   ·have hml2:2<=n.ks.length:=om;have HSZ:Hid ((szF T:Int)=kk+2*n.ks.length-2):=lh (by rw[HSG.out];simp;omega);clear HSG;exact lenEndG
   ·obtain⟨h1,h2,h3⟩:=HREP.out rfl;have hkk2:kk<=1456:=by have:=HK1.out rfl;omega
    clear HREP H0K hml hkk HK1;rcases h2 with rfl|rfl|rfl|rfl
    ·rcases h1 with rfl|rfl|rfl
     ·have HSZ:Hid ((szF T:Int)=kk+2):=lh (by rw[HSG.out];simp;try omega);clear HSG h3;exact lenEndG
     ·have HSZ:Hid ((szF T:Int)=2*kk+2):=lh (by rw[HSG.out];simp;try omega);clear HSG h3;exact lenEndG
     ·have HSZ:Hid ((szF T:Int)=3*kk+2):=lh (by rw[HSG.out];simp;try omega);clear HSG h3;exact lenEndG
    ·rcases h1 with rfl|rfl|rfl
     ·have HSZ:Hid ((szF T:Int)=1*kk+1):=lh (by rw[HSG.out];simp;try omega);have d3:=kc0 c3;have d4:=kc0 c4;clear HSG h3;exact lenEndQ
     ·have HSZ:Hid ((szF T:Int)=1*kk+0):=lh (by rw[HSG.out];simp;try omega);have d3:=kc0 c3;have d4:=kc0 c4;clear HSG h3;exact lenEndQ
     ·exfalso;omega
    ·rcases h1 with rfl|rfl|rfl
     ·have HSZ:Hid ((szF T:Int)=2*kk+2):=lh (by rw[HSG.out];simp;try omega);have d3:=kc0 c3;have d4:=kc0 c4;clear HSG h3;exact lenEndQ
     ·have HSZ:Hid ((szF T:Int)=2*kk+1):=lh (by rw[HSG.out];simp;try omega);have d3:=kc0 c3;have d4:=kc0 c4;clear HSG h3;exact lenEndQ
     ·have HSZ:Hid ((szF T:Int)=2*kk+0):=lh (by rw[HSG.out];simp;try omega);have d3:=kc0 c3;have d4:=kc0 c4;clear HSG h3;exact lenEndQ
    ·rcases h1 with rfl|rfl|rfl
     ·have HSZ:Hid ((szF T:Int)=3*kk+3):=lh (by rw[HSG.out];simp;try omega);have d3:=kc0 c3;have d4:=kc0 c4;clear HSG h3;exact lenEndQ
     ·have HSZ:Hid ((szF T:Int)=3*kk+2):=lh (by rw[HSG.out];simp;try omega);have d3:=kc0 c3;have d4:=kc0 c4;clear HSG h3;exact lenEndQ
     ·have HSZ:Hid ((szF T:Int)=3*kk+1):=lh (by rw[HSG.out];simp;try omega);have d3:=kc0 c3;have d4:=kc0 c4;clear HSG h3;exact lenEndQ
   ·have HSZ:Hid ((szF T:Int)=kk+2):=lh (by rw[HSG.out];simp);clear HSG;exact lenEndG
   ·have HSZ:Hid ((szF T:Int)=1):=lh (by rw[HSG.out];simp);clear HSG;exact lenEndG
theorem hlen_G (u C:Int):∀(d:Nat) (_:d<=6) (w:World) (b o:Nat) (T:Tm) (_:PgAt w b o d T) (_:GdT u C T),Calls Tryz.prog 80 #[.pointer (some ⟨b,o,none⟩)] w (RetV (.int .i64 (szF T:Nat)) w)
 | 0,_,w,b,o,T,hp,_=>by obtain⟨e,he⟩:=hp.pos;omega
 | d+1,h,w,b,o,T,hp,hg=>hlen_stepG u C d h (hlen_G u C d om) w b o T hp hg
theorem lenB_6:∀{d:Nat},d<=6->lenB 3 d<=1000
 | 0,_=>by simp[lenB]
 | 1,_=>by simp[lenB]
 | 2,_=>by simp[lenB]
 | 3,_=>by simp[lenB]
 | 4,_=>by simp[lenB]
 | 5,_=>by simp[lenB]
 | 6,_=>by simp[lenB]
 | d+7,h=>om
def RetCoG (F:List Ins->List Ins)(B:Nat)(w:World)(e:Ending)(w':World):Prop:=∃A c hs,e=.returned (.slice A hs.length c)/\hs.length+2<=B/\OwnS w' w.heap.size 129 5 A hs.length c (flatN hs)/\(∀h∈hs,h.wf/\OwnP w' 0 h.A h.c h.l/\(∀s∈h.l,I64 s.1/\I64 s.2)/\SetE rimE h.l)/\Ext w w'/\Hid (insL hs=F [])
theorem hcode_G (d:Nat)(hB:lenB 3 d<=100000)(w:World)(b o:Nat)(T:Tm)(hp:PgAt w b o d T) :
 Calls Tryz.prog 81 #[.pointer (some ⟨b,o,none⟩)] w (RetCoG (codeT T) (lenB 3 d) w):=by
 have HP:=lh hp;clear hp;have X1:=Ext.alloc w (.cells #[.slice none 0 0] 33);have B1:=Blk.new w 33 #[.slice none 0 0];go_enter Tryz.func81,Tryz.ntmps81
 go_upto_region 2 with fail
 obtain⟨gc,hgc⟩:∃g,g=w.heap.size:=⟨_,rfl⟩
 rw[<-hgc] at B1 ⊢;have HGC:=lh hgc;clear hgc;generalize w.alloc (.cells #[.slice none 0 0] 33)=w1 at *;have B2:=Blk.new w1 272 #[.nilFunc];have hst:=store_blkF B2 160 #[.pointer (some ⟨gc,0,none⟩)];have X2:=Ext.alloc w1 (.cells #[.func (Fn.func 160) #[] #[.pointer (some ⟨gc,0,none⟩)]] 272);have B3:Blk (w1.alloc (.cells #[.func (Fn.func 160) #[] #[.pointer (some ⟨gc,0,none⟩)]] 272)) w1.heap.size 272 #[.func (Fn.func 160) #[] #[.pointer (some ⟨gc,0,none⟩)]]:=Blk.new w1 _ _
 go_upto_region 3 with fail
 generalize w1.alloc (.cells #[.func (Fn.func 160) #[] #[.pointer (some ⟨gc,0,none⟩)]] 272)=w2 at *;clear hst B2;obtain⟨gq,hgq⟩:∃g,g=w1.heap.size:=⟨_,rfl⟩
 rw[<-hgq] at B3 ⊢;clear hgq;have X4:=Ext.alloc w2 (.cells #[.nilFunc] 273);have B4:=Blk.new w2 273 #[.nilFunc]
 go_upto_region 4 with fail
 obtain⟨gw,hgw⟩:∃g,g=w2.heap.size:=⟨_,rfl⟩
 rw[<-hgw] at B4 ⊢;have HGW:=lh hgw;clear hgw;generalize w2.alloc (.cells #[.nilFunc] 273)=w3 at *;have B5:=Blk.new w3 273 #[.nilFunc];have hst:=store_blkF B5 161 #[.pointer (some ⟨gw,0,none⟩),.pointer (some ⟨gq,0,none⟩),.pointer (some ⟨gc,0,none⟩)];have X5:=Ext.alloc w3 (.cells #[.func (Fn.func 161) #[] #[.pointer (some ⟨gw,0,none⟩),.pointer (some ⟨gq,0,none⟩),.pointer (some ⟨gc,0,none⟩)]] 273);have Br:Blk (w3.alloc (.cells #[.func (Fn.func 161) #[] #[.pointer (some ⟨gw,0,none⟩),.pointer (some ⟨gq,0,none⟩),.pointer (some ⟨gc,0,none⟩)]] 273)) w3.heap.size 273 #[.func (Fn.func 161) #[] #[.pointer (some ⟨gw,0,none⟩),.pointer (some ⟨gq,0,none⟩),.pointer (some ⟨gc,0,none⟩)]]:=Blk.new w3 _ _;have HWLT:=lh B4.lt
 go_upto_region 5 with fail
 generalize w3.alloc (.cells #[.func (Fn.func 161) #[] #[.pointer (some ⟨gw,0,none⟩),.pointer (some ⟨gq,0,none⟩),.pointer (some ⟨gc,0,none⟩)]] 273)=w4 at *;clear hst B5;obtain⟨gr,hgr⟩:∃g,g=w3.heap.size:=⟨_,rfl⟩
 rw[<-hgr] at Br ⊢;have hrw:Hid (gr≠gw):=lh (by have:=HWLT.out;omega);clear hgr;have B6:=Blk.new w4 275 #[.nilFunc];have hst:=store_blkF B6 163 #[.pointer (some ⟨gq,0,none⟩),.pointer (some ⟨gw,0,none⟩),.pointer (some ⟨gc,0,none⟩)];have X6:=Ext.alloc w4 (.cells #[.func (Fn.func 163) #[] #[.pointer (some ⟨gq,0,none⟩),.pointer (some ⟨gw,0,none⟩),.pointer (some ⟨gc,0,none⟩)]] 275);have Ba:Blk (w4.alloc (.cells #[.func (Fn.func 163) #[] #[.pointer (some ⟨gq,0,none⟩),.pointer (some ⟨gw,0,none⟩),.pointer (some ⟨gc,0,none⟩)]] 275)) w4.heap.size 275 #[.func (Fn.func 163) #[] #[.pointer (some ⟨gq,0,none⟩),.pointer (some ⟨gw,0,none⟩),.pointer (some ⟨gc,0,none⟩)]]:=Blk.new w4 _ _
 go_upto_region 6 with fail
 generalize w4.alloc (.cells #[.func (Fn.func 163) #[] #[.pointer (some ⟨gq,0,none⟩),.pointer (some ⟨gw,0,none⟩),.pointer (some ⟨gc,0,none⟩)]] 275)=w5 at *;clear hst B6;obtain⟨ga,hga⟩:∃g,g=w4.heap.size:=⟨_,rfl⟩
 rw[<-hga] at Ba ⊢;clear hga;have XX:=lh (X5.trans X6);have B7:=B4.ext XX.out;have Br5:=Br.ext X6;have hst:=store_blkF B7 164 #[.pointer (some ⟨gq,0,none⟩),.pointer (some ⟨gw,0,none⟩),.pointer (some ⟨ga,0,none⟩),.pointer (some ⟨gr,0,none⟩)];have XE2:=lh ((X1.trans X2).trans (X4.trans XX.out));have hlow:Hid (w.heap.size<=gw):=lh (by have h1:=X1.size;have h2:=X2.size;have h3:=HGW.out;omega);have X7:=lh (XE2.out.setNew (p:=⟨gw,0,none⟩) hlow.out (.func (Fn.func 164) #[] #[.pointer (some ⟨gq,0,none⟩),.pointer (some ⟨gw,0,none⟩),.pointer (some ⟨ga,0,none⟩),.pointer (some ⟨gr,0,none⟩)]));have B8:Blk (w5.setCell ⟨gw,0,none⟩ (.func (Fn.func 164) #[] #[.pointer (some ⟨gq,0,none⟩),.pointer (some ⟨gw,0,none⟩),.pointer (some ⟨ga,0,none⟩),.pointer (some ⟨gr,0,none⟩)])) gw 273 #[.func (Fn.func 164) #[] #[.pointer (some ⟨gq,0,none⟩),.pointer (some ⟨gw,0,none⟩),.pointer (some ⟨ga,0,none⟩),.pointer (some ⟨gr,0,none⟩)]]:=Blk.set B7 0 _;have Bc:=((((B1.ext X2).ext X4).ext XX.out).far (Blk.neT (((B1.ext X2).ext X4).ext XX.out) B7 de) (p:=⟨gw,0,none⟩) (.func (Fn.func 164) #[] #[.pointer (some ⟨gq,0,none⟩),.pointer (some ⟨gw,0,none⟩),.pointer (some ⟨ga,0,none⟩),.pointer (some ⟨gr,0,none⟩)]));have Bq:=(((B3.ext X4).ext XX.out).far (Blk.neT ((B3.ext X4).ext XX.out) B7 de) (p:=⟨gw,0,none⟩) (.func (Fn.func 164) #[] #[.pointer (some ⟨gq,0,none⟩),.pointer (some ⟨gw,0,none⟩),.pointer (some ⟨ga,0,none⟩),.pointer (some ⟨gr,0,none⟩)]));have Br6:=Br5.far hrw.out (p:=⟨gw,0,none⟩) (.func (Fn.func 164) #[] #[.pointer (some ⟨gq,0,none⟩),.pointer (some ⟨gw,0,none⟩),.pointer (some ⟨ga,0,none⟩),.pointer (some ⟨gr,0,none⟩)])
 have Ba6:=Ba.far (Blk.neT Ba B7 de) (p:=⟨gw,0,none⟩) (.func (Fn.func 164) #[] #[.pointer (some ⟨gq,0,none⟩),.pointer (some ⟨gw,0,none⟩),.pointer (some ⟨ga,0,none⟩),.pointer (some ⟨gr,0,none⟩)])
 go_upto_region 7 with fail
 generalize w5.setCell ⟨gw,0,none⟩ (.func (Fn.func 164) #[] #[.pointer (some ⟨gq,0,none⟩),.pointer (some ⟨gw,0,none⟩),.pointer (some ⟨ga,0,none⟩),.pointer (some ⟨gr,0,none⟩)])=w6 at *;clear hst B7 B1 B3 B4 X1 X2 X4 X5 X6 Br Br5 Ba;have c5:w6.cell? ⟨gw,0,none⟩=some (.func (Fn.func 164) #[] #[.pointer (some ⟨gq,0,none⟩),.pointer (some ⟨gw,0,none⟩),.pointer (some ⟨ga,0,none⟩),.pointer (some ⟨gr,0,none⟩)]):=B8.cell 0;have HW:=lh (hwrite_allG w w.heap.size gc gq gw ga gr (Nat.le_refl _) (by have:=HGC.out;omega) d b o T HP.out w6 none 0 [] ⟨Bc,OwnS.nil _ _ _ _,by simp,⟨⟨Bq,B8⟩,Br6,Ba6⟩,X7.out⟩ (by simpa using hB));clear Bq B8 Bc Br6 Ba6
 go_upto_region 8 with(go_at_call 164;refine HW.out.mono ?_;rintro e w7 ⟨hs,A,c,rfl,hcs,hct,hlo,hhi,HI⟩)
 have c8:w7.cell? ⟨gc,0,none⟩=some (.slice A hs.length c):=hcs.b.cell 0;have HH:=lh hcs;have HL:Hid (hs.length+2<=lenB 3 d):=lh (by simpa using hhi);clear hcs hct hlo hhi HW
 go_wp2_with fail
 go_ret
 exact⟨A,c,hs,rfl,HL.out,HH.out.o,HH.out.it,HH.out.x,HI⟩
def RetGc (G:List Ins)(gr:Int)(rn:Bool)(w:World)(e:Ending)(w':World):Prop:=∃(A:Option Addr) (c:Nat) (hs:List Hin),e=.returned (.tuple #[.agg #[.slice A hs.length c,.int .i64 gr,.bool rn],.int .i64 0])/\GpAt rimE w' A c hs/\Ext w w'/\insL hs=G++[⟨0,0,0,0,[]⟩]
theorem hcompile_G (u:Int)(d:Nat)(S:Nat->Prop)(hd:d<=6)(w:World)(n:Nd)(gr:Int)(rn:Bool)(T:Tm)(ht:TreeG 3 S w d n.val T)(hg:GdT u gr T)(hcn:cnt T<=256)(hcm:comp T []=true)(hgr:0<=gr/\gr<=9) :
 Calls Tryz.prog 27 #[.agg (patN n gr rn)] w (RetGc (codeT T []) gr rn w):=by
 obtain⟨B0,B2,E0⟩:=alloc2 w 63 (patN n gr rn) 35 #[.slice none 0 0,.int .i64 0,.bool false];obtain⟨iN,jN0,jN1,jN2,jN3⟩:=info_parts infoIs;have hB:lenB 3 d<=1000:=lenB_6 hd;have HT:=lh ht;have HGD:=lh hg;have HCM:=lh hcm;have HVV:=fun(w':World) (y':Ext w w')=>lh (hvalid_G u d S w' n gr rn T (ht.ext y') hg hcn om hgr);have hszb:szF T<=1456:=Nat.le_trans (szF_le ht hg) (szB_le hd);clear ht hg hcm;unfold patN at B0 B2 E0;unfold patN at HVV ⊢;go_enter Tryz.func27,Tryz.ntmps27
 go_upto_region 1 with fail
 obtain⟨g1,hg1⟩:∃g,g=w.heap.size:=⟨_,rfl⟩;obtain⟨g2,hg2e⟩:∃g,g=w.heap.size+1:=⟨_,rfl⟩
 rw[<-hg2e] at B2 ⊢
 rw[<-hg1] at B0 ⊢;have hne:g1≠g2:=om;have hg2:w.heap.size<=g2:=om;clear hg1 hg2e;generalize ((w.alloc (.cells #[.int .i64 n.op,.slice n.A n.l.length n.c,.slice n.K n.ks.length n.kc,.int .i64 n.mn,.int .i64 n.mx,.int .i64 n.md,.int .i64 n.n,.bool n.neg,.int .i64 gr,.bool rn] 63)).alloc (.cells #[.slice none 0 0,.int .i64 0,.bool false] 35))=wa at *;have HXa:=lh E0;have HTa:=lh (HT.out.ext E0);have HP:=fun(w':World) (x:Ext wa w')=>lh (patN_pg (d:=d) (gp:=g1) HTa.out x (B0.ext x));have HC:=fun(w':World) (x:Ext wa w')=>lh (comp_G u gr w' d om w' (Ext.rfl' _) g1 0 T (HP w' x).out HGD.out none 0 [] (OwnS.nil _ _ _ _) HCM.out (by simp;omega) si);have HS:=fun(w':World) (x:Ext wa w')=>lh (hlen_G u gr d hd w' g1 0 T (HP w' x).out HGD.out);have z0:=B0.cell 0;have z1:=B0.cell 1;have z2:=B0.cell 2;have z3:=B0.cell 3;have z4:=B0.cell 4;have z5:=B0.cell 5;have z6:=B0.cell 6;have z7:=B0.cell 7;have z8:=B0.cell 8;have z9:=B0.cell 9;clear E0;have HV:=HVV wa HXa.out
 go_upto_region 2 with(go_at_call 78;refine HV.out.mono ?_;rintro e w3 ⟨rfl,x3⟩)
 clear HV HVV;have B03:=B0.ext x3;have B3:=B2.ext x3;have HX3:=lh (HXa.out.trans x3);have H13:=lh x3;obtain⟨y0,y1,y2,f0,f1,f2,_⟩:=B3.c3;clear x3 B0 B2 z0 z1 z2 z3 z4 z5 z6 z7 z8 z9
 go_upto_region 4 with fail
 go_upto_region 6 with(go_at_call 79;refine(HC _ H13.out).out.mono ?_;rintro e w4 ⟨rfl,x4,_,_⟩;have B4:=B3.ext x4;have B04:=B03.ext x4;have HX4:=lh (HX3.out.trans x4);have H14:=lh (H13.out.trans x4);clear x4;obtain⟨y0,y1,y2,f0,f1,f2,_⟩:=B4.c3)
 clear HC;have HSL:=lh hszb;obtain⟨sz,hsz⟩:∃z,z=szF T:=⟨_,rfl⟩
 rw[<-hsz] at HS hszb;clear hsz
 go_upto_region 8 with(go_at_call 80;refine(HS _ H14.out).out.mono ?_;rintro e w5 ⟨rfl,x5⟩;have B5:=B4.ext x5;have B05:=B04.ext x5;have HX5:=lh (HX4.out.trans x5);have H15:=lh (H14.out.trans x5);clear x5;obtain⟨y0,y1,y2,f0,f1,f2,_⟩:=B5.c3)
 have HGG:=lh B5.lt;have HB5:=lh B5;have k8:w5.cell? ⟨g1,8,none⟩=some (.int .i64 gr):=B05.cell 8;have k9:w5.cell? ⟨g1,9,none⟩=some (.bool rn):=B05.cell 9;clear y0 y1 y2 f0 f1 f2 B4 B04 B3 B03 B5 B05 hszb HS;have q8:=fun(w':World) (h:Kp [g2] w5 w')=>h.cell k8 (by simp[hne]);have q9:=fun(w':World) (h:Kp [g2] w5 w')=>h.cell k9 (by simp[hne]);clear k8 k9;refine Xr.start [g2] kr ?_;refine Xtk 0 ?_;refine Xtk 2 ?_;refine Xtk 5 ?_
 iterate 3(refine Xtn ?_)
 refine Xr.lazy 3 23 4 (fun g=>.slice (some ⟨g,0,none⟩) 1 1) 129 #[.int .i64 0,.int .i64 0,.int .i64 0,.int .i64 0,.slice none 0 0] rfl (by simpa using HGG.out) dK si (fun w'=>by go_simp) ?_;refine Xcl 1 fun w6 hE6 hK6 K hKK=>?_;have hs6:=hE6.size;have HCD:=hcode_G d om w6 g1 0 T (HP w6 (H15.out.trans hE6)).out;go_simp;refine HCD.mono ?_;rintro e w7 ⟨A7,c7,hs7,rfl,hl7,ho7,hit7,x7,HI7⟩;refine hKK _ _ x7 ?_;clear hKK HCD;refine ptm ?_;have HAW:=OwnS.row ho7;have hup7:∀k,A7.map (·.block)=some k->w6.heap.size<=k/\k<w7.heap.size:=fun k hk=>⟨HAW k hk,(OwnS.blt ho7 hk).1⟩;have HL7:=lh hl7;clear hl7;refine Xr.stepZ rfl dK (fun _=>by rfl) (fun w8 g8 hE8 hK8 hg8 hB8 hno K hKK=>?_);have hl7:=HL7.out;refine wp_app _ _ _ _ rfl w6.heap.size 129 iN _ 5 56 Tryz.underlying33 jN0 jN1 jN2 jN3 rfl om A7 hs7.length c7 (flatN hs7) rfl (OwnS.ext ho7 hE8) _ 1 1 (flatN [inD]) rfl rfl (flat_blk (h:=inD) hB8) (flatN_one _) um om (by have:=(x7.trans hE8).size;omega) ?_;intro A9 c9 w9 h9 hg9 hat9;clear hl7;have x69:Ext w6 w9:=Ext.app (x7.trans hE8) (OwnS.ext ho7 hE8) hg9;have x59:=hE6.trans x69;have kg9:=KpP.of_grown hg9;have hA7:∀b,A7.map (·.block)=some b->∃cur,w8.heap[b]? = some (.cells cur 129 (0,0)):=fun b e=>by
  rcases OwnS.form (OwnS.ext ho7 hE8) with⟨rfl,_⟩|⟨g,cur,rfl,_,hh,_⟩
  ·cases e
  ·injection e with e;subst e;exact⟨cur,hh⟩
 have IT9:Hid (∀h∈hs7,h.wf/\OwnP w9 0 h.A h.c h.l/\(∀s∈h.l,I64 s.1/\I64 s.2)/\SetE rimE h.l):=lh (fun h hh=>by
  obtain⟨a1,a2,a3⟩:=hit7 h hh;refine⟨a1,OwnP.kp (OwnS.ext a2 hE8) kg9 (fun b e1 e2=>?_),a3⟩;obtain⟨cur,hc⟩:=hA7 b e2;rcases OwnS.form (OwnS.ext a2 hE8) with⟨e3,_⟩|⟨g,cur',e3,_,hh',_⟩
  ·rw[e3] at e1;cases e1
  ·rw[e3] at e1;injection e1 with e1;subst e1;exact Blk.neT hh' hc de rfl)
 refine hKK _ _ (WI_grown hg9 (fun i hi=>.inr ⟨(w6.heap.size,w7.heap.size),by simp,(hup7 i hi).1,(hup7 i hi).2⟩)) (Kp.of_ext x59) ?_;clear hKK;refine ptm ?_;refine Xtk 9 ?_
 rw[<-flatN_append] at h9;have H9:=lh h9;clear h9 hg9 hat9 ho7 HAW hup7 hA7 kg9 hit7;refine Xsp 10 fun w10 hE10 hK10 K hKK=>?_;have B10:=HB5.out.ext (x59.trans hE10);obtain⟨y0,y1,y2,f0,f1,f2,_⟩:=B10.c3;go_simp;change K _ (setPg w10 g2 A9 (hs7.length+1) c9 gr rn);refine hKK _ _ (setPg_kpp (KpP.refl _ _) (.inl si) _ _ _ _ _) (setPg_kp hK10 si _ _ _ _ _) ?_;clear hKK;refine ptm ?_;refine Xtk 11 ?_;refine Xdn fun w12 hE12 hK12=>?_;have b9:=(setPg_blk B10 A9 (hs7.length+1) c9 gr rn).ext hE12;have x12:=(setPg_ext (HX5.out.trans (x59.trans hE10)) hg2 A9 (hs7.length+1) c9 gr rn).trans hE12;have kk:KpP (·=g2) w10 (setPg w10 g2 A9 (hs7.length+1) c9 gr rn):=setPg_kpp (KpP.refl (·=g2) w10) rfl A9 (hs7.length+1) c9 gr rn;have HQ:Hid (GpAt rimE w12 A9 c9 (hs7++[inD])):=lh (by
  have h6:=hE6.size;have hlt:=HGG.out;have o10:=OwnS.kp (OwnS.ext H9.out hE10) kk (fun b h1 h2=>by have h3:=OwnS.row H9.out b h1;have h4:b=g2:=h2;omega);have o12:=OwnS.ext o10 hE12;rw[show hs7.length+1=(hs7++[inD]).length by simp] at o12;have it:∀h∈hs7,h.wf/\SL w12 h.A h.c h.l:=fun h hh=>by
   obtain⟨a1,a2,a3,_⟩:=IT9.out h hh;have a4:=OwnP.kp (OwnS.ext a2 hE10) kk (fun b e1 e2=>by
    have e2':b=g2:=e2;rcases OwnS.form (OwnS.ext a2 hE10) with⟨e3,_⟩|⟨g,cur',e3,_,hh',_⟩
    ·rw[e3] at e1;cases e1
    ·rw[e3] at e1;injection e1 with e1;exact Blk.neT hh' B10 de (e1.trans e2'))
   exact⟨a1,SL.of_own (OwnS.ext a4 hE12) a3⟩
  refine⟨PL.of_own o12 (fun z hz=>?_) (fun z hz=>?_),fun z hz=>?_,by have:=HL7.out;simp;omega⟩
  ·rcases List.mem_append.1 hz with hz|hz
   ·exact(it z hz).1
   ·rw[List.mem_singleton.1 hz];simp[Hin.wf,I64,inD]
  ·rcases List.mem_append.1 hz with hz|hz
   ·exact(it z hz).2
   ·rw[List.mem_singleton.1 hz];exact SL.nil _
  ·rcases List.mem_append.1 hz with hz|hz
   ·exact(IT9.out z hz).2.2.2
   ·rw[List.mem_singleton.1 hz];exact SetE.nil _)
 have HLN:Hid ((hs7++[inD]).length=hs7.length+1):=lh si;clear H9 hE12 hK12 hE10 hK10 B10 kk IT9;obtain⟨r0,r1,r2,_⟩:=b9.c3
 go_wp2_with fail
 refine bodyPost_ret (v:=.tuple #[.agg #[.slice A9 (hs7.length+1) c9,.int .i64 gr,.bool rn],.int .i64 0]) (by simp[results,Tryz.results27,go_sem,r0,r1,r2]) rfl ⟨A9,c9,hs7++[inD],by rw[HLN.out],HQ.out,x12,by rw[insL_append,HI7.out];rfl⟩
end
end Go.Proofs.YtmgpefenkilffaaGreat
