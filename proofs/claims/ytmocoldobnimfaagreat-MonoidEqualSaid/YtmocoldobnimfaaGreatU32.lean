/- Texts of this proof: J12. -/
import Derived.Test.YtmocoldobnimfaaGreatU31
set_option linter.all false
set_option maxRecDepth 100000
set_option maxHeartbeats 16000000
namespace Go.Proofs.YtmocoldobnimfaaGreat
section
open Go.RowKit
attribute [local go_sem ↓] Go.wp_at_zero Go.wp_at_succ
theorem J12z1 {P:Prop} (h:P:=by
 refine Xr.start [] kr ?_;refine Xtk 0 ?_
 iterate 6(refine Xtn ?_)
 iterate 11(first|refine Xtn ?_|refine Xsn ?_)
 iterate 2(refine Xtn ?_)
 iterate 7(first|refine Xtn ?_|refine Xsn ?_)
 iterate 2(refine Xtn ?_)
 iterate 17(first|refine Xtn ?_|refine Xsn ?_)
 refine Xtn ?_;refine Xdn fun w2 hE2 hK2=>?_;have x3:=x1.trans hK2.nil;clear k1 k2 k3 g1 g2 g3 hE2 hK2
 go_wp2_with fail
 go_ret
 exact⟨_,rfl,x3⟩):P:=h
theorem J12z2 {P:Prop} (h:P:=by
 refine Xr.start [] kr ?_;refine Xtk 0 ?_
 iterate 6(refine Xtn ?_)
 iterate 11(first|refine Xtn ?_|refine Xsn ?_)
 iterate 2(refine Xtn ?_)
 iterate 7(first|refine Xtn ?_|refine Xsn ?_)
 iterate 2(refine Xtn ?_)
 iterate 17(first|refine Xtn ?_|refine Xsn ?_)
 refine Xtn ?_;refine Xdn fun w2 hE2 hK2=>?_;have x3:=x1.trans hK2.nil;clear k1 k2 g1 g2 hE2 hK2
 go_wp2_with fail
 go_ret
 exact⟨_,rfl,x3⟩):P:=h
theorem yspans_any (A:Option Addr)(c:Nat)(l:List Sp)(top:Int)(w:World)(hl:SL w A c l):Calls Tryz.prog 193 #[.slice A l.length c,.int .i64 top] w (RetB w):=by
 have hlen:=hl.len;go_enter Tryz.func193,Tryz.ntmps193;by_cases h64:64<l.length
 ·have h64I:(64:Int)<l.length:=om
  go_wp2_with fail
  go_ret
  exact⟨_,rfl,Ext.rfl' _⟩
 ·have h64I:¬(64:Int)<l.length:=om
  go_upto_region 4 with fail
  go_loopw [5] (fun v wr=>∃i:Nat,v=.int .i64 i∧i≤l.length∧Ext w wr) (fun v _=>l.length-(intOf v).toNat)
  case atStart=>exact⟨0,rfl,om,Ext.rfl' _⟩
  case round=>
   obtain⟨i,rfl,hi,x1⟩:=hrel;by_cases hlt:i<l.length
   ·have hI:(i:Int)<l.length:=om;obtain⟨b,o,hA,g1,g2⟩:=(hl.ext x1).get hlt;have hA':=hA;subst hA';by_cases h0:0<i
    ·obtain⟨b2,o2,hA2,g4,g3⟩:=(hl.ext x1).get (show i-1<l.length by omega);obtain⟨rfl,rfl⟩:b=b2∧o=o2:=by injection hA2 with h1;injection h1 with h2 h3 h4;exact⟨h2,h3⟩
     obtain⟨k,rfl⟩:∃k,i=k+1:=⟨i-1,om⟩;simp only[Nat.add_sub_cancel] at g3;generalize l[k+1]=s at *;generalize l[k]=p at *;obtain⟨lo,hi2⟩:=s;obtain⟨plo,phi⟩:=p
     simp only at g1 g2 g3
     clear g4 hA2 hA;have hki:(0:Int)<(k:Int)+1:=om;have hwk2:IntKind.i64.wrap (k:Int)=(k:Int):=wj;have hk0:(0:Int)≤(k:Int)+1:=om;have hk1:(k:Int)+1<(l.length:Int):=om;have hk2:(k:Int)<(l.length:Int):=om;have hto:((k:Int)+1).toNat=k+1:=om;have hwk:IntKind.i64.wrap ((k:Int)+1-1)=(k:Int):=wj
     go_upto_region 6 with fail
     have k1:=kc0 g1;have k2:=kc0 g2;have k3:=kc0 g3;by_cases c1:lo<0
     ·exact J12z1
     ·by_cases c2:hi2<lo
      ·exact J12z1
      ·by_cases c3:top<hi2
       ·exact J12z1
       ·by_cases c5:lo≤IntKind.i64.wrap (phi+1)
        ·exact J12z1
        ·refine Xr.start [] kr ?_;refine Xtk 0 ?_
         iterate 6(refine Xtn ?_)
         iterate 11(first|refine Xtn ?_|refine Xsn ?_)
         iterate 2(refine Xtn ?_)
         iterate 7(first|refine Xtn ?_|refine Xsn ?_)
         iterate 2(refine Xtn ?_)
         iterate 17(first|refine Xtn ?_|refine Xsn ?_)
         refine Xtn ?_;refine Xdn fun w2 hE2 hK2=>?_;have x3:=x1.trans hK2.nil;clear k1 k2 k3 g1 g2 g3 hE2 hK2
         go_wp2_with fail
         go_roundw
         case rel=>exact⟨k+1+1,by go_num,om,x3⟩
         case measure=>simp[intOf];omega
    ·obtain rfl:i=0:=om;generalize l[0]=s at *;obtain⟨lo,hi2⟩:=s;simp only[Nat.zero_mul,Nat.add_zero] at g1 g2
     go_upto_region 6 with fail
     have k1:=kc0 g1;have k2:=kc0 g2;by_cases c1:lo<0
     ·exact J12z2
     ·by_cases c2:hi2<lo
      ·exact J12z2
      ·by_cases c3:top<hi2
       ·exact J12z2
       ·refine Xr.start [] kr ?_;refine Xtk 0 ?_
        iterate 6(refine Xtn ?_)
        iterate 11(first|refine Xtn ?_|refine Xsn ?_)
        iterate 2(refine Xtn ?_)
        iterate 7(first|refine Xtn ?_|refine Xsn ?_)
        iterate 2(refine Xtn ?_)
        iterate 17(first|refine Xtn ?_|refine Xsn ?_)
        refine Xtn ?_;refine Xdn fun w2 hE2 hK2=>?_;have x3:=x1.trans hK2.nil;clear k1 k2 g1 g2 hE2 hK2
        go_wp2_with fail
        go_roundw
        case rel=>exact⟨1,by go_num,om,x3⟩
        case measure=>simp[intOf];omega
   ·have hI:¬(i:Int)<l.length:=om
    go_wp2_with fail
    go_ret
    exact⟨_,rfl,x1⟩
end
end Go.Proofs.YtmocoldobnimfaaGreat
