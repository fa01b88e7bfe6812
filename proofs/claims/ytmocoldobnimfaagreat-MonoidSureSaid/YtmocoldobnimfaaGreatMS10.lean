/- Texts of this proof: K8. -/
import Derived.Test.YtmocoldobnimfaaGreatMS07
set_option linter.all false
set_option maxRecDepth 100000
set_option maxHeartbeats 16000000
namespace Go.Proofs.YtmocoldobnimfaaGreat
section
open Go.RowKit
attribute [local go_sem ↓] Go.wp_at_zero Go.wp_at_succ
open Classical in
noncomputable def okB (runes:Bool) (caps:Int) (n:Nat) (i:Ins):Bool:=decide (WN runes caps n i)
open Classical in
theorem JK {runes:Bool}{caps:Int}{n:Nat}{i:Ins}(h:WN runes caps n i):okB runes caps n i=true:=decide_eq_true h
open Classical in
theorem ZX {runes:Bool}{caps:Int}{n:Nat}{i:Ins}(h:¬WN runes caps n i):okB runes caps n i=false:=decide_eq_false h
def VO (o x y n:Int)(A:Option Addr)(l c:Nat):Value:=.agg #[.int .i64 o,.int .i64 x,.int .i64 y,.int .i64 n,.slice A l c]
theorem vw {P:Prop} (h:P:=by
 go_enter Tryz.func161,Tryz.ntmps161
 go_wp2_with fail
 go_ret
 exact⟨rfl,(Ext.alloc _ _).trans (Ext.alloc _ _)⟩):P:=h
theorem YJ {P:Prop} (h:P:=by
 rw[ZX];rotate_left
 ·exact(fun h=>by have h1:=h.2.1;have h2:=h.2.2.1;have h3:=h.2.2.2.1;simp only at h1 h2 h3;omega)
 exact vw):P:=h
theorem Bw {P:Prop} (h:P:=by
 have hl0:(0:Int)<zl.length:=by have:=List.length_pos_iff.2 hs;omega
 rw[ZX];rotate_left
 ·exact(fun h=>h.1.elim (fun h1=>by first|exact absurd h1 de|(simp only at h1;omega)) hs)
 exact vw):P:=h
theorem IG (gA:Option Addr)(n gc:Nat)(hn:n<=1000000)(runes:Bool)(caps:Int)(hcaps:0<=caps/\caps<=9)(zx zy zn:Int)(A:Option Addr)(c:Nat)(zl:List Sp)(w:World)(hL:SL w A c zl)(hw:I64 zx/\I64 zy/\I64 zn) :
 Calls Tryz.prog 161 #[QN gA n gc caps runes,VO 0 zx zy zn A zl.length c] w (QD (.bool (okB runes caps n ⟨0,zx,zy,zn,zl⟩)) w):=by
 unfold QN VO;have hlen:=hL.len;obtain⟨⟨hx1,hx2⟩,⟨hy1,hy2⟩,hn1,hn2⟩:=hw;by_cases hs:zl=[]
 ·subst hs;by_cases hy0:zy=0
  ·subst hy0;by_cases hx0:zx=0
   ·subst hx0;by_cases hn0:zn=0
    ·subst hn0;rw[JK];rotate_left
     ·exact⟨by simp,by simp,by simp,by simp,.inl rfl⟩
     exact vw
    ·have hbn:(zn != 0)=true:=by simp[hn0]
     exact YJ
   ·have hbx:(zx != 0)=true:=by simp[hx0]
    exact YJ
  ·have hby:(zy != 0)=true:=by simp[hy0]
   exact YJ
 ·exact Bw
theorem qH {P:Prop} (h:P:=by
 rw[ZX];rotate_left
 ·exact(fun h=>by have h1:=h.2.2.2.2;simp only at h1;omega)
 exact vw):P:=h
theorem IM (gA:Option Addr)(n gc:Nat)(hn:n<=1000000)(runes:Bool)(caps:Int)(hcaps:0<=caps/\caps<=9)(zx zy zn:Int)(A:Option Addr)(c:Nat)(zl:List Sp)(w:World)(hL:SL w A c zl)(hw:I64 zx/\I64 zy/\I64 zn) :
 Calls Tryz.prog 161 #[QN gA n gc caps runes,VO 2 zx zy zn A zl.length c] w (QD (.bool (okB runes caps n ⟨2,zx,zy,zn,zl⟩)) w):=by
 unfold QN VO;have hlen:=hL.len;obtain⟨⟨hx1,hx2⟩,⟨hy1,hy2⟩,hn1,hn2⟩:=hw;by_cases hs:zl=[]
 ·subst hs;by_cases hn0:zn=0
  ·subst hn0;by_cases h1:0<=zx
   ·by_cases h2:zx<n
    ·by_cases h3:0<=zy
     ·by_cases h4:zy<n
      ·rw[JK];rotate_left
       ·exact⟨by simp,by simp,by simp,by simp,.inr (.inr (.inl ⟨rfl,⟨h1,h2⟩,h3,h4⟩))⟩
       exact vw
      ·exact qH
     ·exact qH
    ·exact qH
   ·exact qH
  ·have hbn:(zn != 0)=true:=by simp[hn0]
   exact YJ
 ·exact Bw
theorem QJw (gA:Option Addr)(n gc:Nat)(hn:n<=1000000)(runes:Bool)(caps:Int)(hcaps:0<=caps/\caps<=9)(zx zy zn:Int)(A:Option Addr)(c:Nat)(zl:List Sp)(w:World)(hL:SL w A c zl)(hw:I64 zx/\I64 zy/\I64 zn) :
 Calls Tryz.prog 161 #[QN gA n gc caps runes,VO 3 zx zy zn A zl.length c] w (QD (.bool (okB runes caps n ⟨3,zx,zy,zn,zl⟩)) w):=by
 unfold QN VO;have hlen:=hL.len;obtain⟨⟨hx1,hx2⟩,⟨hy1,hy2⟩,hn1,hn2⟩:=hw;by_cases hs:zl=[]
 ·subst hs;by_cases hy0:zy=0
  ·subst hy0;by_cases hn0:zn=0
   ·subst hn0;by_cases h1:0<=zx
    ·by_cases h2:zx<n
     ·rw[JK];rotate_left
      ·exact⟨by simp,by simp,by simp,by simp,.inr (.inr (.inr (.inl ⟨rfl,h1,h2⟩)))⟩
      exact vw
     ·exact qH
    ·exact qH
   ·have hbn:(zn != 0)=true:=by simp[hn0]
    exact YJ
  ·have hby:(zy != 0)=true:=by simp[hy0]
   exact YJ
 ·exact Bw
theorem IP (gA:Option Addr)(n gc:Nat)(hn:n<=1000000)(runes:Bool)(caps:Int)(hcaps:0<=caps/\caps<=9)(zx zy zn:Int)(A:Option Addr)(c:Nat)(zl:List Sp)(w:World)(hL:SL w A c zl)(hw:I64 zx/\I64 zy/\I64 zn) :
 Calls Tryz.prog 161 #[QN gA n gc caps runes,VO 4 zx zy zn A zl.length c] w (QD (.bool (okB runes caps n ⟨4,zx,zy,zn,zl⟩)) w):=by
 unfold QN VO;have hlen:=hL.len;obtain⟨⟨hx1,hx2⟩,⟨hy1,hy2⟩,hn1,hn2⟩:=hw;by_cases hs:zl=[]
 ·subst hs;by_cases hy0:zy=0
  ·subst hy0;by_cases hx0:zx=0
   ·subst hx0;by_cases h1:0<=zn
    ·by_cases h2:zn<2*caps
     ·rw[JK];rotate_left
      ·exact⟨by simp,by simp,by simp,by simp,.inr (.inr (.inr (.inr (.inl ⟨rfl,h1,h2⟩))))⟩
      exact vw
     ·exact qH
    ·exact qH
   ·have hbx:(zx != 0)=true:=by simp[hx0]
    exact YJ
  ·have hby:(zy != 0)=true:=by simp[hy0]
   exact YJ
 ·exact Bw
theorem IR (gA:Option Addr)(n gc:Nat)(hn:n<=1000000)(runes:Bool)(caps:Int)(hcaps:0<=caps/\caps<=9)(zx zy zn:Int)(A:Option Addr)(c:Nat)(zl:List Sp)(w:World)(hL:SL w A c zl)(hw:I64 zx/\I64 zy/\I64 zn) :
 Calls Tryz.prog 161 #[QN gA n gc caps runes,VO 5 zx zy zn A zl.length c] w (QD (.bool (okB runes caps n ⟨5,zx,zy,zn,zl⟩)) w):=by
 unfold QN VO;have hlen:=hL.len;obtain⟨⟨hx1,hx2⟩,⟨hy1,hy2⟩,hn1,hn2⟩:=hw;by_cases hs:zl=[]
 ·subst hs;by_cases hy0:zy=0
  ·subst hy0;by_cases hx0:zx=0
   ·subst hx0;by_cases h1:0<=zn
    ·by_cases h2:zn<=5
     ·rw[JK];rotate_left
      ·exact⟨by simp,by simp,by simp,by simp,.inr (.inr (.inr (.inr (.inr ⟨rfl,h1,h2⟩))))⟩
      exact vw
     ·exact qH
    ·exact qH
   ·have hbx:(zx != 0)=true:=by simp[hx0]
    exact YJ
  ·have hby:(zy != 0)=true:=by simp[hy0]
   exact YJ
 ·exact Bw
theorem IT (gA:Option Addr)(n gc:Nat)(hn:n<=1000000)(runes:Bool)(caps:Int)(hcaps:0<=caps/\caps<=9)(zo zx zy zn:Int)(A:Option Addr)(c:Nat)(zl:List Sp)(w:World)(hL:SL w A c zl)(hw:I64 zx/\I64 zy/\I64 zn)(hzo:zo≠0/\zo≠1/\zo≠2/\zo≠3/\zo≠4/\zo≠5) :
 Calls Tryz.prog 161 #[QN gA n gc caps runes,VO zo zx zy zn A zl.length c] w (QD (.bool (okB runes caps n ⟨zo,zx,zy,zn,zl⟩)) w):=by
 unfold QN VO;have hlen:=hL.len;obtain⟨⟨hx1,hx2⟩,⟨hy1,hy2⟩,hn1,hn2⟩:=hw;have e0:(zo != 1)=true:=by simp;omega
 have e1:(zo != 2)=true:=by simp;omega
 have e2:(zo != 3)=true:=by simp;omega
 have e3:(zo != 4)=true:=by simp;omega
 have e4:(zo != 5)=true:=by simp;omega
 have f0:(zo == 0)=false:=by simp;omega
 have f1:(zo == 1)=false:=by simp;omega
 have f2:(zo == 2)=false:=by simp;omega
 have f3:(zo == 3)=false:=by simp;omega
 have f4:(zo == 4)=false:=by simp;omega
 have f5:(zo == 5)=false:=by simp;omega
 by_cases hs:zl=[]
 ·subst hs;by_cases hy0:zy=0
  ·subst hy0;by_cases hx0:zx=0
   ·subst hx0;by_cases hn0:zn=0
    ·subst hn0;exact qH
    ·have hbn:(zn != 0)=true:=by simp[hn0]
     exact YJ
   ·have hbx:(zx != 0)=true:=by simp[hx0]
    exact YJ
  ·have hby:(zy != 0)=true:=by simp[hy0]
   exact YJ
 ·exact Bw
end
