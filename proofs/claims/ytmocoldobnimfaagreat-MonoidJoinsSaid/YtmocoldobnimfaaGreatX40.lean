/- Texts of this proof: J12 J13 J14 J15. -/
import Derived.Test.YtmocoldobnimfaaGreatX37
set_option linter.all false
set_option maxRecDepth 100000
set_option maxHeartbeats 16000000
namespace Go.Proofs.YtmocoldobnimfaaGreat
section
open Go.RowKit
attribute [local go_sem ↓] Go.wp_at_zero Go.wp_at_succ
theorem J12z1 {P:Prop} (h:P:=by
 refine Xr.start [] kr ?_;refine Xtk 0 ?_
 iterate 6(refine Xtn ?_)
 iterate 11(first|refine Xtn ?_|refine Xsn ?_)
 iterate 2(refine Xtn ?_)
 iterate 7(first|refine Xtn ?_|refine Xsn ?_)
 iterate 2(refine Xtn ?_)
 iterate 17(first|refine Xtn ?_|refine Xsn ?_)
 refine Xtn ?_;refine Xdn fun w2 hE2 hK2=>?_;have x3:=x1.trans hK2.nil;clear k1 k2 k3 g1 g2 g3 hE2 hK2
 go_wp2_with fail
 go_ret
 exact⟨_,rfl,x3⟩):P:=h
theorem J12z2 {P:Prop} (h:P:=by
 refine Xr.start [] kr ?_;refine Xtk 0 ?_
 iterate 6(refine Xtn ?_)
 iterate 11(first|refine Xtn ?_|refine Xsn ?_)
 iterate 2(refine Xtn ?_)
 iterate 7(first|refine Xtn ?_|refine Xsn ?_)
 iterate 2(refine Xtn ?_)
 iterate 17(first|refine Xtn ?_|refine Xsn ?_)
 refine Xtn ?_;refine Xdn fun w2 hE2 hK2=>?_;have x3:=x1.trans hK2.nil;clear k1 k2 g1 g2 hE2 hK2
 go_wp2_with fail
 go_ret
 exact⟨_,rfl,x3⟩):P:=h
theorem yspans_any (A:Option Addr)(c:Nat)(l:List Sp)(top:Int)(w:World)(hl:SL w A c l):Calls Tryz.prog 193 #[.slice A l.length c,.int .i64 top] w (RetB w):=by
 have hlen:=hl.len;go_enter Tryz.func193,Tryz.ntmps193;by_cases h64:64<l.length
 ·have h64I:(64:Int)<l.length:=om
  go_wp2_with fail
  go_ret
  exact⟨_,rfl,Ext.rfl' _⟩
 ·have h64I:¬(64:Int)<l.length:=om
  go_upto_region 4 with fail
  go_loopw [5] (fun v wr=>∃i:Nat,v=.int .i64 i∧i≤l.length∧Ext w wr) (fun v _=>l.length-(intOf v).toNat)
  case atStart=>exact⟨0,rfl,om,Ext.rfl' _⟩
  case round=>
   obtain⟨i,rfl,hi,x1⟩:=hrel;by_cases hlt:i<l.length
   ·have hI:(i:Int)<l.length:=om;obtain⟨b,o,hA,g1,g2⟩:=(hl.ext x1).get hlt;have hA':=hA;subst hA';by_cases h0:0<i
    ·obtain⟨b2,o2,hA2,g4,g3⟩:=(hl.ext x1).get (show i-1<l.length by omega);obtain⟨rfl,rfl⟩:b=b2∧o=o2:=by injection hA2 with h1;injection h1 with h2 h3 h4;exact⟨h2,h3⟩
     obtain⟨k,rfl⟩:∃k,i=k+1:=⟨i-1,om⟩;simp only[Nat.add_sub_cancel] at g3;generalize l[k+1]=s at *;generalize l[k]=p at *;obtain⟨lo,hi2⟩:=s;obtain⟨plo,phi⟩:=p
     simp only at g1 g2 g3
     clear g4 hA2 hA;have hki:(0:Int)<(k:Int)+1:=om;have hwk2:IntKind.i64.wrap (k:Int)=(k:Int):=wj;have hk0:(0:Int)≤(k:Int)+1:=om;have hk1:(k:Int)+1<(l.length:Int):=om;have hk2:(k:Int)<(l.length:Int):=om;have hto:((k:Int)+1).toNat=k+1:=om;have hwk:IntKind.i64.wrap ((k:Int)+1-1)=(k:Int):=wj
     go_upto_region 6 with fail
     have k1:=kc0 g1;have k2:=kc0 g2;have k3:=kc0 g3;by_cases c1:lo<0
     ·exact J12z1
     ·by_cases c2:hi2<lo
      ·exact J12z1
      ·by_cases c3:top<hi2
       ·exact J12z1
       ·by_cases c5:lo≤IntKind.i64.wrap (phi+1)
        ·exact J12z1
        ·refine Xr.start [] kr ?_;refine Xtk 0 ?_
         iterate 6(refine Xtn ?_)
         iterate 11(first|refine Xtn ?_|refine Xsn ?_)
         iterate 2(refine Xtn ?_)
         iterate 7(first|refine Xtn ?_|refine Xsn ?_)
         iterate 2(refine Xtn ?_)
         iterate 17(first|refine Xtn ?_|refine Xsn ?_)
         refine Xtn ?_;refine Xdn fun w2 hE2 hK2=>?_;have x3:=x1.trans hK2.nil;clear k1 k2 k3 g1 g2 g3 hE2 hK2
         go_wp2_with fail
         go_roundw
         case rel=>exact⟨k+1+1,by go_num,om,x3⟩
         case measure=>simp[intOf];omega
    ·obtain rfl:i=0:=om;generalize l[0]=s at *;obtain⟨lo,hi2⟩:=s;simp only[Nat.zero_mul,Nat.add_zero] at g1 g2
     go_upto_region 6 with fail
     have k1:=kc0 g1;have k2:=kc0 g2;by_cases c1:lo<0
     ·exact J12z2
     ·by_cases c2:hi2<lo
      ·exact J12z2
      ·by_cases c3:top<hi2
       ·exact J12z2
       ·refine Xr.start [] kr ?_;refine Xtk 0 ?_
        iterate 6(refine Xtn ?_)
        iterate 11(first|refine Xtn ?_|refine Xsn ?_)
        iterate 2(refine Xtn ?_)
        iterate 7(first|refine Xtn ?_|refine Xsn ?_)
        iterate 2(refine Xtn ?_)
        iterate 17(first|refine Xtn ?_|refine Xsn ?_)
        refine Xtn ?_;refine Xdn fun w2 hE2 hK2=>?_;have x3:=x1.trans hK2.nil;clear k1 k2 g1 g2 hE2 hK2
        go_wp2_with fail
        go_roundw
        case rel=>exact⟨1,by go_num,om,x3⟩
        case measure=>simp[intOf];omega
   ·have hI:¬(i:Int)<l.length:=om
    go_wp2_with fail
    go_ret
    exact⟨_,rfl,x1⟩
end
section
open Go.RowKit
attribute [local go_sem ↓] Go.wp_at_zero Go.wp_at_succ
theorem ywhole_of (bd:Nat)(S:Nat→Prop)(p q:Int)(hF:∀(d:Nat) (w:World) (v:Value),TreeAt bd S w d v→Calls Tryz.prog 153 #[v,.int .i64 p,.int .i64 q] w (RetB w)):∀(d:Nat) (w:World) (v:Value),TreeAt bd S w d v→Calls Tryz.prog 111 #[v,.int .i64 p,.int .i64 q] w (RetB w):=by
 intro d;induction d with
 | zero=>intro w v h;obtain⟨e,he⟩:=h.pos;omega
 | succ d ih=>
  intro w v h;obtain⟨n,rfl,hok,hsl,hkl,hkc,hcl,hks⟩:=h.node;have HF:=fun(w':World) (x:Ext w w')=>lh (hF (d+1) w' n.val (h.ext x));obtain⟨op,A,c,l,K,kc,ks,mn,mx,md,nn,neg⟩:=n
  simp only at hsl hkl hkc hcl hks
  unfold Nd.val at HF ⊢
  simp only at HF ⊢
  have HIH:=lh ih;clear ih h hok hF;have B0:=Blk.new w 26 #[.int .i64 op,.slice A l.length c,.slice K ks.length kc,.int .i64 mn,.int .i64 mx,.int .i64 md,.int .i64 nn,.bool neg];have E0:=Ext.alloc w (.cells #[.int .i64 op,.slice A l.length c,.slice K ks.length kc,.int .i64 mn,.int .i64 mx,.int .i64 md,.int .i64 nn,.bool neg] 26);have HC:=lh (hcl.ext E0);have HK:=lh (fun u hu=>(hks u hu).ext E0);have HKL:ks.length≤kc∧kc≤9223372036854775807:=⟨hkl,by unfold maxLen at hkc;omega⟩;have HFa:=HF _ E0;clear hcl hks hsl hkl hkc HF;go_enter Tryz.func111,Tryz.ntmps111
  go_upto_region 1 with fail
  obtain⟨gx,hgx⟩:∃gx,gx=w.heap.size:=⟨_,rfl⟩
  rw[←hgx] at B0 ⊢;clear hgx;generalize w.alloc (.cells #[.int .i64 op,.slice A l.length c,.slice K ks.length kc,.int .i64 mn,.int .i64 mx,.int .i64 md,.int .i64 nn,.bool neg] 26)=wa at *;have z0:wa.cell? ⟨gx,0,none⟩=some (.int .i64 op):=B0.cell 0;have z1:wa.cell? ⟨gx,1,none⟩=some (.slice A l.length c):=B0.cell 1;have z2:wa.cell? ⟨gx,2,none⟩=some (.slice K ks.length kc):=B0.cell 2;have z3:wa.cell? ⟨gx,3,none⟩=some (.int .i64 mn):=B0.cell 3;have z4:wa.cell? ⟨gx,4,none⟩=some (.int .i64 mx):=B0.cell 4;have z5:wa.cell? ⟨gx,5,none⟩=some (.int .i64 md):=B0.cell 5;have z6:wa.cell? ⟨gx,6,none⟩=some (.int .i64 nn):=B0.cell 6;have z7:wa.cell? ⟨gx,7,none⟩=some (.bool neg):=B0.cell 7
  go_wp2_with (go_at_call 153;refine HFa.out.mono ?_;rintro e wb ⟨bb,rfl,xb⟩;cases bb)
  ·go_ret
   exact⟨_,rfl,E0.trans xb⟩
  ·have z2b:=xb.cell z2
   go_loopw [7] (fun v wr=>∃(i:Nat),v=.int .i64 i∧i≤ks.length∧Ext wa wr) (fun v _=>ks.length-(intOf v).toNat)
   case atStart=>exact⟨0,rfl,om,xb⟩
   case round=>
    obtain⟨i,rfl,hi,x1⟩:=hrel;have z2r:=x1.cell z2;by_cases hlt:i<ks.length
    ·have hiI:(i:Int)<ks.length:=om;obtain⟨b,o,hK,n,ht,k0,k1,k2,k3,k4,k5,k6,k7⟩:=kid8 (HC.out.ext x1) (fun u hu=>(HK.out u hu).ext x1) hlt;have hK':=hK;subst hK';have HT:=lh ht;clear ht
     go_wp2_with (go_at_call 111;refine(HIH.out wr _ HT.out).mono ?_;rintro e w3 ⟨b3,rfl,x3⟩;cases b3)
     ·go_ret
      exact⟨_,rfl,E0.trans (x1.trans x3)⟩
     ·go_roundw
      case rel=>exact⟨i+1,by go_num,om,x1.trans x3⟩
      case measure=>simp[intOf];omega
    ·have hiI:¬(i:Int)<ks.length:=om
     go_wp2_with fail
     go_ret
     exact⟨_,rfl,E0.trans x1⟩
end
section
open Go.RowKit
attribute [local go_sem ↓] Go.wp_at_zero Go.wp_at_succ
theorem J14z1 {P:Prop} (h:P:=by
 cases rn
 all_goals
  go_wp2_with (first|(go_at_call 109;refine(HS _ (by first|exact Ext.rfl' _|assumption)).out.mono ?_;rintro e wb ⟨x,rfl,xb⟩;obtain⟨y0,y1,y2,y3,y4,y5,y6,y7,y8,y9⟩:=HB _ xb;rcases Int.lt_or_le 256 x with hx|hx)|(go_at_call 110;refine(HD _ (by assumption)).out.mono ?_;rintro e wd ⟨x2,rfl,xd0⟩;have xd:=Ext.trans (by assumption) xd0;clear xd0;obtain⟨u0,u1,u2,u3,u4,u5,u6,u7,u8,u9⟩:=HB _ xd;rcases Int.lt_or_le 24 x2 with hx2|hx2)|(go_at_call 111;refine(HW _ _ xd).out.mono ?_;rintro e we ⟨b,rfl,xe0⟩;have xe:=Ext.trans xd xe0;cases b))
  all_goals
   go_ret
   first|exact⟨_,rfl,E0.trans xe⟩|exact⟨_,rfl,E0.trans xd⟩|exact⟨_,rfl,E0.trans xb⟩):P:=h
theorem yvalid_of (bd:Nat)(S:Nat→Prop)(hF:∀(p q:Int) (d:Nat) (w:World) (v:Value),TreeAt bd S w d v→Calls Tryz.prog 153 #[v,.int .i64 p,.int .i64 q] w (RetB w))(d:Nat)(w:World)(n:Nd)(gr:Int)(rn:Bool)(ht:TreeAt bd S w d n.val) :
 Calls Tryz.prog 63 #[.agg #[.int .i64 n.op,.slice n.A n.l.length n.c,.slice n.K n.ks.length n.kc,.int .i64 n.mn,.int .i64 n.mx,.int .i64 n.md,.int .i64 n.n,.bool n.neg,.int .i64 gr,.bool rn]] w (RetAn w):=by
 have B0:=Blk.new w 28 #[.int .i64 n.op,.slice n.A n.l.length n.c,.slice n.K n.ks.length n.kc,.int .i64 n.mn,.int .i64 n.mx,.int .i64 n.md,.int .i64 n.n,.bool n.neg,.int .i64 gr,.bool rn];have E0:=Ext.alloc w (.cells #[.int .i64 n.op,.slice n.A n.l.length n.c,.slice n.K n.ks.length n.kc,.int .i64 n.mn,.int .i64 n.mx,.int .i64 n.md,.int .i64 n.n,.bool n.neg,.int .i64 gr,.bool rn] 28);have HT:=lh (ht.ext E0);clear ht;go_enter Tryz.func63,Tryz.ntmps63
 go_upto_region 1 with fail
 obtain⟨gx,hgx⟩:∃gx,gx=w.heap.size:=⟨_,rfl⟩
 rw[←hgx] at B0 ⊢;clear hgx;generalize w.alloc (.cells #[.int .i64 n.op,.slice n.A n.l.length n.c,.slice n.K n.ks.length n.kc,.int .i64 n.mn,.int .i64 n.mx,.int .i64 n.md,.int .i64 n.n,.bool n.neg,.int .i64 gr,.bool rn] 28)=wa at *;have HB:=fun(w':World) (x:Ext wa w')=>show w'.cell? ⟨gx,0,none⟩=some (.int .i64 n.op)∧w'.cell? ⟨gx,1,none⟩=some (.slice n.A n.l.length n.c)∧w'.cell? ⟨gx,2,none⟩=some (.slice n.K n.ks.length n.kc)∧w'.cell? ⟨gx,3,none⟩=some (.int .i64 n.mn)∧w'.cell? ⟨gx,4,none⟩=some (.int .i64 n.mx)∧w'.cell? ⟨gx,5,none⟩=some (.int .i64 n.md)∧w'.cell? ⟨gx,6,none⟩=some (.int .i64 n.n)∧w'.cell? ⟨gx,7,none⟩=some (.bool n.neg)∧w'.cell? ⟨gx,8,none⟩=some (.int .i64 gr)∧w'.cell? ⟨gx,9,none⟩=some (.bool rn) from⟨(B0.ext x).cell 0,(B0.ext x).cell 1,(B0.ext x).cell 2,(B0.ext x).cell 3,(B0.ext x).cell 4,(B0.ext x).cell 5,(B0.ext x).cell 6,(B0.ext x).cell 7,(B0.ext x).cell 8,(B0.ext x).cell 9⟩
 have HS:=fun(w':World) (x:Ext wa w')=>lh (ysize_any bd S d w' n.val (HT.out.ext x));have HD:=fun(w':World) (x:Ext wa w')=>lh (ydepth_any bd S d w' n.val (HT.out.ext x));have HW:=fun(q:Int) (w':World) (x:Ext wa w')=>lh (ywhole_of bd S gr q (hF gr q) d w' n.val (HT.out.ext x));unfold Nd.val at HS HD HW;obtain⟨z0,z1,z2,z3,z4,z5,z6,z7,z8,z9⟩:=HB _ (Ext.rfl' _);have HHF:=lh hF;clear hF;by_cases hg0:gr<0
 ·exact J14z1
 ·by_cases hg9:9<gr
  ·exact J14z1
  ·exact J14z1
end
section
open Go.RowKit
theorem usesOk_0:UsesOk 0:=by unfold UsesOk;decide +kernel
theorem usesOk_16:UsesOk 16:=by unfold UsesOk;decide +kernel
theorem usesOk_64:UsesOk 64:=by unfold UsesOk;decide +kernel
theorem usesOk_80:UsesOk 80:=by unfold UsesOk;decide +kernel
end
end Go.Proofs.YtmocoldobnimfaaGreat
