/- Texts of this proof: I4. -/
import Derived.Test.YtmgpefenkilffaaGreatSP30
import Derived.Test.YtmgpefenkilffaaGreatSP33
set_option linter.all false
set_option maxRecDepth 100000
set_option maxHeartbeats 16000000
namespace Go.Proofs.YtmgpefenkilffaaGreat
section
open Go.RowKit
attribute [local go_sem ↓] Go.wp_at_zero Go.wp_at_succ
def szK (l:List Tm)(i:Nat):Nat:=((l.take i).map szF).sum
theorem szK_succ (l:List Tm)(i:Nat)(hi:i<l.length):szK l (i+1)=szK l i+szF l[i]:=by
 unfold szK;rw[List.take_succ_eq_append_getElem hi,List.map_append,List.sum_append];simp
theorem szK_all (l:List Tm){i:Nat}(hi:l.length<=i):szK l i=(l.map szF).sum:=by unfold szK;rw[List.take_of_length_le hi]
def lenK (h:Hd)(s k:Nat):Nat:=
 if h.op=1\/h.op=11 then 1 else if h.op=3 then s+2*k-2 else if h.op=5 then s+2 else if h.op=4 then(if h.mx = -1 then(h.mn.toNat+1)*s+2 else h.mx.toNat*s+(h.mx.toNat-h.mn.toNat)) else s
theorem szF_len (T:Tm):szF T=lenK T.hd (T.kids.map szF).sum T.kids.length:=by rw[szF_eq];unfold szH lenK;rw[List.length_map]
theorem lenEndG {P:Prop}(h:P:=by
 go_wp2
 all_goals first
  | (exfalso;omega)
  | (
   go_ret
   exact⟨by rw[HSZ.out];show Ending.returned (Value.int IntKind.i64 (min _ _))=Ending.returned (Value.int IntKind.i64 _);congr 2<;>first|omega|(simp only[IntKind.wrap_i64];omega),XR.out⟩)):P:=h
theorem lenEndQ {P:Prop}(h:P:=by
 go_upto_region 20 with fail
 refine Xr.start [] kr ?_;refine Xtk 0 ?_
 iterate 14(refine Xtn ?_)
 refine Xdn fun w7 hE7 hK7=>?_;have X7:=lh (XR.out.trans hK7.nil);clear hE7 hK7 d3 d4
 go_wp2_with fail
 all_goals first
  | (exfalso;omega)
  | (
   go_ret
   exact⟨by rw[HSZ.out];show Ending.returned (Value.int IntKind.i64 (min _ _))=Ending.returned (Value.int IntKind.i64 _);congr 2<;>first|omega|(simp only[IntKind.wrap_i64];omega),X7.out⟩)):P:=h
theorem hlen_stepG (u C:Int)(d:Nat)(hd6:d+1<=6)
 (IH:∀(w:World) (b o:Nat) (T:Tm) (_:PgAt w b o d T) (_:GdT u C T),Calls Tryz.prog 80 #[.pointer (some ⟨b,o,none⟩)] w (RetV (.int .i64 (szF T:Nat)) w))
 (w:World) (b o:Nat) (T:Tm) (hp:PgAt w b o (d+1) T) (hg:GdT u C T):Calls Tryz.prog 80 #[.pointer (some ⟨b,o,none⟩)] w (RetV (.int .i64 (szF T:Nat)) w):=by
 obtain⟨n,hn⟩:=hp.node;have HN:=lh hn;have HGD:=lh hg;have HLEN:=lh hn.len;have hcap:n.ks.length<=n.kc/\n.kc<=9223372036854775807:=⟨hn.pn.le,by have:=hn.pn.cap;unfold maxLen at this;omega⟩;have hfew:n.ks.length<=3:=hn.pn.ok.few;have HB:Hid (∀i (hi:i<T.kids.length),szF T.kids[i]<=1456):=lh (fun i hi=>by
  obtain⟨kb,ko,_,nk,_,hk⟩:=hn.kid i hi;exact Nat.le_trans (szF_le hk (hg.at_.2 i hi)) (szB_le om))
 have HNUM:Hid (HdOk u C n.hd T.kids):=lh (by rw[<-hn.hd];exact hg.at_.1);have HSF:Hid (szF T=lenK n.hd (szK T.kids n.ks.length) n.ks.length):=lh (by rw[szF_len,hn.hd,szK_all T.kids (by rw[hn.len];exact Nat.le_refl _),hn.len]);have hop:=hn.pn.ok.op;obtain⟨_,_,c2,_⟩:=hn.pn.p.c8;clear hn hp hg;go_enter Tryz.func80,Tryz.ntmps80
 go_upto_region 3 with fail
 clear c2
 go_loopw [3,11] (fun v3 v wr=>∃(i kk:Nat),v3=.int .i64 kk/\v=.int .i64 i/\i<=n.ks.length/\kk<=1456*i/\Hid (kk=szK T.kids i)/\Hid (Ext w wr)) (fun _ v _=>n.ks.length-(intOf v).toNat)
 case atStart=>exact⟨0,0,rfl,rfl,Nat.zero_le _,Nat.le_refl _,lh (by simp[szK]),lh (Ext.rfl' _)⟩
 case round=>
  obtain⟨i,kk,rfl,rfl,hi,hkk,HKK,XR⟩:=hrel;have HNr:=lh (HN.out.ext XR.out);by_cases hlt:i<n.ks.length
  ·have hj:i<T.kids.length:=by have:=HLEN.out;omega
   obtain⟨kb,ko,eK,HKID⟩:=HNr.out.kid i hj;have cr:=HNr.out.pn.p.c8.2.2.1;rw[eK] at cr;clear eK;have HI:=lh (IH wr kb (ko+i*8) T.kids[i] HKID (HGD.out.at_.2 i hj));have HS1:=lh (szK_succ T.kids i hj);have hz:=HB.out i hj;obtain⟨z,hze⟩:∃z,z=szF T.kids[i]:=⟨_,rfl⟩
   rw[<-hze] at HI hz HS1;clear HKID hze
   go_wp2_with (go_at_call 80;refine HI.out.mono ?_;rintro e w6 ⟨rfl,x6⟩;have X6:=lh (XR.out.trans x6);clear x6)
   all_goals first
    | (exfalso;omega)
    | (
     go_roundw
     case rel=>exact⟨i+1,kk+z,by congr 1;omega,by go_num,om,om,lh (by rw[HS1.out,<-HKK.out]),X6⟩
     case measure=>simp[intOf];omega)
  ·have hle:(n.ks.length:Int)<=i:=om;obtain rfl:i=n.ks.length:=om;obtain⟨c0,_,c2,c3,c4,_⟩:=HNr.out.pn.p.c8;have HSG:Hid (szF T=lenK n.hd kk n.ks.length):=lh (by rw[HSF.out,HKK.out]);have hnum:=HNUM.out.num;have hml:2<=n.ks.length\/n.op≠3:=by
    have:=HN.out.pn.ok.alt;by_cases h:n.op=3
    ·exact .inl (this h)
    ·exact .inr h
   have h0k:n.op=0->kk=0:=fun h=>by
    rcases hnum with h1|h1|h1|h1|h1|h1
    ·have h2:=h1.2.2.2.2.2.2;rw[HKK.out];unfold szK;rw[h2];simp
    ·exact absurd (h1.1.symm.trans h) de
    ·rcases h1.1 with h2|h2<;>exact absurd (h2.symm.trans h) de
    ·exact absurd (h1.1.symm.trans h) de
    ·exact absurd (h1.1.symm.trans h) de
    ·exact absurd (h1.1.symm.trans h) de
   have hrep:n.op=4->(n.mn=0\/n.mn=1\/n.mn=2)/\(n.mx = -1\/n.mx=1\/n.mx=2\/n.mx=3)/\(n.mx = -1\/n.mn<=n.mx):=fun h=>by
    rcases hnum with h1|h1|h1|h1|h1|h1
    ·exact absurd (h1.1.symm.trans h) de
    ·exact absurd (h1.1.symm.trans h) de
    ·rcases h1.1 with h2|h2<;>exact absurd (h2.symm.trans h) de
    ·obtain⟨_,_,⟨h3,h4,h5⟩,_⟩:=h1;have h3:0<=n.mn:=h3;have h4:n.mn<=2:=h4;have h5:n.mx = -1\/(1<=n.mx/\n.mx<=3/\n.mn<=n.mx):=h5;omega
    ·exact absurd (h1.1.symm.trans h) de
    ·exact absurd (h1.1.symm.trans h) de
   have hk1:n.op=4->n.ks.length=1:=fun h=>by
    rcases hnum with h1|h1|h1|h1|h1|h1
    ·exact absurd (h1.1.symm.trans h) de
    ·exact absurd (h1.1.symm.trans h) de
    ·rcases h1.1 with h2|h2<;>exact absurd (h2.symm.trans h) de
    ·obtain⟨_,_,_,_,_,t,h2,_⟩:=h1;rw[HLEN.out,h2];rfl
    ·exact absurd (h1.1.symm.trans h) de
    ·exact absurd (h1.1.symm.trans h) de
   have HK1:=lh hk1;have HREP:=lh hrep;have H0K:=lh h0k;unfold lenK Nd.hd at HSG
   simp only at HSG
   clear hnum hrep h0k HSF HNUM hk1;generalize n.op=op at *;generalize n.mn=mn at *;generalize n.mx=mx at *;rcases hop with rfl|rfl|rfl|rfl|rfl|rfl|rfl
   ·have HSZ:Hid ((szF T:Int)=kk):=lh (by rw[HSG.out];simp);clear HSG;exact lenEndG
   ·have HSZ:Hid ((szF T:Int)=1):=lh (by rw[HSG.out];simp);clear HSG;exact lenEndG
   ·have HSZ:Hid ((szF T:Int)=kk):=lh (by rw[HSG.out];simp);clear HSG;exact lenEndG
   ·have hml2:2<=n.ks.length:=om;have HSZ:Hid ((szF T:Int)=kk+2*n.ks.length-2):=lh (by rw[HSG.out];simp;omega);clear HSG;exact lenEndG
   ·obtain⟨h1,h2,h3⟩:=HREP.out rfl;have hkk2:kk<=1456:=by have:=HK1.out rfl;omega
    clear HREP H0K hml hkk HK1;rcases h2 with rfl|rfl|rfl|rfl
    ·rcases h1 with rfl|rfl|rfl
     ·have HSZ:Hid ((szF T:Int)=kk+2):=lh (by rw[HSG.out];simp;try omega);clear HSG h3;exact lenEndG
     ·have HSZ:Hid ((szF T:Int)=2*kk+2):=lh (by rw[HSG.out];simp;try omega);clear HSG h3;exact lenEndG
     ·have HSZ:Hid ((szF T:Int)=3*kk+2):=lh (by rw[HSG.out];simp;try omega);clear HSG h3;exact lenEndG
    ·rcases h1 with rfl|rfl|rfl
     ·have HSZ:Hid ((szF T:Int)=1*kk+1):=lh (by rw[HSG.out];simp;try omega);have d3:=kc0 c3;have d4:=kc0 c4;clear HSG h3;exact lenEndQ
     ·have HSZ:Hid ((szF T:Int)=1*kk+0):=lh (by rw[HSG.out];simp;try omega);have d3:=kc0 c3;have d4:=kc0 c4;clear HSG h3;exact lenEndQ
     ·exfalso;omega
    ·rcases h1 with rfl|rfl|rfl
     ·have HSZ:Hid ((szF T:Int)=2*kk+2):=lh (by rw[HSG.out];simp;try omega);have d3:=kc0 c3;have d4:=kc0 c4;clear HSG h3;exact lenEndQ
     ·have HSZ:Hid ((szF T:Int)=2*kk+1):=lh (by rw[HSG.out];simp;try omega);have d3:=kc0 c3;have d4:=kc0 c4;clear HSG h3;exact lenEndQ
     ·have HSZ:Hid ((szF T:Int)=2*kk+0):=lh (by rw[HSG.out];simp;try omega);have d3:=kc0 c3;have d4:=kc0 c4;clear HSG h3;exact lenEndQ
    ·rcases h1 with rfl|rfl|rfl
     ·have HSZ:Hid ((szF T:Int)=3*kk+3):=lh (by rw[HSG.out];simp;try omega);have d3:=kc0 c3;have d4:=kc0 c4;clear HSG h3;exact lenEndQ
     ·have HSZ:Hid ((szF T:Int)=3*kk+2):=lh (by rw[HSG.out];simp;try omega);have d3:=kc0 c3;have d4:=kc0 c4;clear HSG h3;exact lenEndQ
     ·have HSZ:Hid ((szF T:Int)=3*kk+1):=lh (by rw[HSG.out];simp;try omega);have d3:=kc0 c3;have d4:=kc0 c4;clear HSG h3;exact lenEndQ
   ·have HSZ:Hid ((szF T:Int)=kk+2):=lh (by rw[HSG.out];simp);clear HSG;exact lenEndG
   ·have HSZ:Hid ((szF T:Int)=1):=lh (by rw[HSG.out];simp);clear HSG;exact lenEndG
theorem hlen_G (u C:Int):∀(d:Nat) (_:d<=6) (w:World) (b o:Nat) (T:Tm) (_:PgAt w b o d T) (_:GdT u C T),Calls Tryz.prog 80 #[.pointer (some ⟨b,o,none⟩)] w (RetV (.int .i64 (szF T:Nat)) w)
 | 0,_,w,b,o,T,hp,_=>by obtain⟨e,he⟩:=hp.pos;omega
 | d+1,h,w,b,o,T,hp,hg=>hlen_stepG u C d h (hlen_G u C d om) w b o T hp hg
end
end Go.Proofs.YtmgpefenkilffaaGreat
