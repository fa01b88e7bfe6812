/- Texts of this proof: K8. -/
import Derived.Test.YtmocoldobnimfaaGreatU11
set_option linter.all false
set_option maxRecDepth 100000
set_option maxHeartbeats 16000000
namespace Go.Proofs.YtmocoldobnimfaaGreat
section
open Go.RowKit
attribute [local go_sem ↓] Go.wp_at_zero Go.wp_at_succ
open Classical in
noncomputable def okB (runes:Bool) (caps:Int) (n:Nat) (i:Ins):Bool:=decide (InsOk runes caps n i)
open Classical in
theorem okB_t {runes:Bool}{caps:Int}{n:Nat}{i:Ins}(h:InsOk runes caps n i):okB runes caps n i=true:=decide_eq_true h
open Classical in
theorem okB_f {runes:Bool}{caps:Int}{n:Nat}{i:Ins}(h:¬InsOk runes caps n i):okB runes caps n i=false:=decide_eq_false h
def insV (o x y n:Int)(A:Option Addr)(l c:Nat):Value:=.agg #[.int .i64 o,.int .i64 x,.int .i64 y,.int .i64 n,.slice A l c]
theorem K8z1 {P:Prop} (h:P:=by
 go_enter Tryz.func161,Tryz.ntmps161
 go_wp2_with fail
 go_ret
 exact⟨rfl,(Ext.alloc _ _).trans (Ext.alloc _ _)⟩):P:=h
theorem K8z2 {P:Prop} (h:P:=by
 rw[okB_f];rotate_left
 ·exact(fun h=>by have h1:=h.2.1;have h2:=h.2.2.1;have h3:=h.2.2.2.1;simp only at h1 h2 h3;omega)
 exact K8z1):P:=h
theorem K8z4 {P:Prop} (h:P:=by
 have hl0:(0:Int)<zl.length:=by have:=List.length_pos_iff.2 hs;omega
 rw[okB_f];rotate_left
 ·exact(fun h=>h.1.elim (fun h1=>by first|exact absurd h1 de|(simp only at h1;omega)) hs)
 exact K8z1):P:=h
theorem formed0_any (gA:Option Addr)(n gc:Nat)(hn:n≤1000000)(runes:Bool)(caps:Int)(hcaps:0≤caps∧caps≤9)(zx zy zn:Int)(A:Option Addr)(c:Nat)(zl:List Sp)(w:World)(hL:SL w A c zl)(hw:I64 zx∧I64 zy∧I64 zn) :
 Calls Tryz.prog 161 #[progV gA n gc caps runes,insV 0 zx zy zn A zl.length c] w (RetV (.bool (okB runes caps n ⟨0,zx,zy,zn,zl⟩)) w):=by
 unfold progV insV;have hlen:=hL.len;obtain⟨⟨hx1,hx2⟩,⟨hy1,hy2⟩,hn1,hn2⟩:=hw;by_cases hs:zl=[]
 ·subst hs;by_cases hy0:zy=0
  ·subst hy0;by_cases hx0:zx=0
   ·subst hx0;by_cases hn0:zn=0
    ·subst hn0;rw[okB_t];rotate_left
     ·exact⟨by simp,by simp,by simp,by simp,.inl rfl⟩
     exact K8z1
    ·have hbn:(zn != 0)=true:=by simp[hn0]
     exact K8z2
   ·have hbx:(zx != 0)=true:=by simp[hx0]
    exact K8z2
  ·have hby:(zy != 0)=true:=by simp[hy0]
   exact K8z2
 ·exact K8z4
theorem K8z3 {P:Prop} (h:P:=by
 rw[okB_f];rotate_left
 ·exact(fun h=>by have h1:=h.2.2.2.2;simp only at h1;omega)
 exact K8z1):P:=h
theorem formed2_any (gA:Option Addr)(n gc:Nat)(hn:n≤1000000)(runes:Bool)(caps:Int)(hcaps:0≤caps∧caps≤9)(zx zy zn:Int)(A:Option Addr)(c:Nat)(zl:List Sp)(w:World)(hL:SL w A c zl)(hw:I64 zx∧I64 zy∧I64 zn) :
 Calls Tryz.prog 161 #[progV gA n gc caps runes,insV 2 zx zy zn A zl.length c] w (RetV (.bool (okB runes caps n ⟨2,zx,zy,zn,zl⟩)) w):=by
 unfold progV insV;have hlen:=hL.len;obtain⟨⟨hx1,hx2⟩,⟨hy1,hy2⟩,hn1,hn2⟩:=hw;by_cases hs:zl=[]
 ·subst hs;by_cases hn0:zn=0
  ·subst hn0;by_cases h1:0≤zx
   ·by_cases h2:zx<n
    ·by_cases h3:0≤zy
     ·by_cases h4:zy<n
      ·rw[okB_t];rotate_left
       ·exact⟨by simp,by simp,by simp,by simp,.inr (.inr (.inl ⟨rfl,⟨h1,h2⟩,h3,h4⟩))⟩
       exact K8z1
      ·exact K8z3
     ·exact K8z3
    ·exact K8z3
   ·exact K8z3
  ·have hbn:(zn != 0)=true:=by simp[hn0]
   exact K8z2
 ·exact K8z4
theorem formed3_any (gA:Option Addr)(n gc:Nat)(hn:n≤1000000)(runes:Bool)(caps:Int)(hcaps:0≤caps∧caps≤9)(zx zy zn:Int)(A:Option Addr)(c:Nat)(zl:List Sp)(w:World)(hL:SL w A c zl)(hw:I64 zx∧I64 zy∧I64 zn) :
 Calls Tryz.prog 161 #[progV gA n gc caps runes,insV 3 zx zy zn A zl.length c] w (RetV (.bool (okB runes caps n ⟨3,zx,zy,zn,zl⟩)) w):=by
 unfold progV insV;have hlen:=hL.len;obtain⟨⟨hx1,hx2⟩,⟨hy1,hy2⟩,hn1,hn2⟩:=hw;by_cases hs:zl=[]
 ·subst hs;by_cases hy0:zy=0
  ·subst hy0;by_cases hn0:zn=0
   ·subst hn0;by_cases h1:0≤zx
    ·by_cases h2:zx<n
     ·rw[okB_t];rotate_left
      ·exact⟨by simp,by simp,by simp,by simp,.inr (.inr (.inr (.inl ⟨rfl,h1,h2⟩)))⟩
      exact K8z1
     ·exact K8z3
    ·exact K8z3
   ·have hbn:(zn != 0)=true:=by simp[hn0]
    exact K8z2
  ·have hby:(zy != 0)=true:=by simp[hy0]
   exact K8z2
 ·exact K8z4
theorem formed4_any (gA:Option Addr)(n gc:Nat)(hn:n≤1000000)(runes:Bool)(caps:Int)(hcaps:0≤caps∧caps≤9)(zx zy zn:Int)(A:Option Addr)(c:Nat)(zl:List Sp)(w:World)(hL:SL w A c zl)(hw:I64 zx∧I64 zy∧I64 zn) :
 Calls Tryz.prog 161 #[progV gA n gc caps runes,insV 4 zx zy zn A zl.length c] w (RetV (.bool (okB runes caps n ⟨4,zx,zy,zn,zl⟩)) w):=by
 unfold progV insV;have hlen:=hL.len;obtain⟨⟨hx1,hx2⟩,⟨hy1,hy2⟩,hn1,hn2⟩:=hw;by_cases hs:zl=[]
 ·subst hs;by_cases hy0:zy=0
  ·subst hy0;by_cases hx0:zx=0
   ·subst hx0;by_cases h1:0≤zn
    ·by_cases h2:zn<2*caps
     ·rw[okB_t];rotate_left
      ·exact⟨by simp,by simp,by simp,by simp,.inr (.inr (.inr (.inr (.inl ⟨rfl,h1,h2⟩))))⟩
      exact K8z1
     ·exact K8z3
    ·exact K8z3
   ·have hbx:(zx != 0)=true:=by simp[hx0]
    exact K8z2
  ·have hby:(zy != 0)=true:=by simp[hy0]
   exact K8z2
 ·exact K8z4
theorem formed5_any (gA:Option Addr)(n gc:Nat)(hn:n≤1000000)(runes:Bool)(caps:Int)(hcaps:0≤caps∧caps≤9)(zx zy zn:Int)(A:Option Addr)(c:Nat)(zl:List Sp)(w:World)(hL:SL w A c zl)(hw:I64 zx∧I64 zy∧I64 zn) :
 Calls Tryz.prog 161 #[progV gA n gc caps runes,insV 5 zx zy zn A zl.length c] w (RetV (.bool (okB runes caps n ⟨5,zx,zy,zn,zl⟩)) w):=by
 unfold progV insV;have hlen:=hL.len;obtain⟨⟨hx1,hx2⟩,⟨hy1,hy2⟩,hn1,hn2⟩:=hw;by_cases hs:zl=[]
 ·subst hs;by_cases hy0:zy=0
  ·subst hy0;by_cases hx0:zx=0
   ·subst hx0;by_cases h1:0≤zn
    ·by_cases h2:zn≤5
     ·rw[okB_t];rotate_left
      ·exact⟨by simp,by simp,by simp,by simp,.inr (.inr (.inr (.inr (.inr ⟨rfl,h1,h2⟩))))⟩
      exact K8z1
     ·exact K8z3
    ·exact K8z3
   ·have hbx:(zx != 0)=true:=by simp[hx0]
    exact K8z2
  ·have hby:(zy != 0)=true:=by simp[hy0]
   exact K8z2
 ·exact K8z4
theorem formedz_any (gA:Option Addr)(n gc:Nat)(hn:n≤1000000)(runes:Bool)(caps:Int)(hcaps:0≤caps∧caps≤9)(zo zx zy zn:Int)(A:Option Addr)(c:Nat)(zl:List Sp)(w:World)(hL:SL w A c zl)(hw:I64 zx∧I64 zy∧I64 zn)(hzo:zo≠0∧zo≠1∧zo≠2∧zo≠3∧zo≠4∧zo≠5) :
 Calls Tryz.prog 161 #[progV gA n gc caps runes,insV zo zx zy zn A zl.length c] w (RetV (.bool (okB runes caps n ⟨zo,zx,zy,zn,zl⟩)) w):=by
 unfold progV insV;have hlen:=hL.len;obtain⟨⟨hx1,hx2⟩,⟨hy1,hy2⟩,hn1,hn2⟩:=hw;have e0:(zo != 1)=true:=by simp;omega
 have e1:(zo != 2)=true:=by simp;omega
 have e2:(zo != 3)=true:=by simp;omega
 have e3:(zo != 4)=true:=by simp;omega
 have e4:(zo != 5)=true:=by simp;omega
 have f0:(zo == 0)=false:=by simp;omega
 have f1:(zo == 1)=false:=by simp;omega
 have f2:(zo == 2)=false:=by simp;omega
 have f3:(zo == 3)=false:=by simp;omega
 have f4:(zo == 4)=false:=by simp;omega
 have f5:(zo == 5)=false:=by simp;omega
 by_cases hs:zl=[]
 ·subst hs;by_cases hy0:zy=0
  ·subst hy0;by_cases hx0:zx=0
   ·subst hx0;by_cases hn0:zn=0
    ·subst hn0;exact K8z3
    ·have hbn:(zn != 0)=true:=by simp[hn0]
     exact K8z2
   ·have hbx:(zx != 0)=true:=by simp[hx0]
    exact K8z2
  ·have hby:(zy != 0)=true:=by simp[hy0]
   exact K8z2
 ·exact K8z4
end
end Go.Proofs.YtmocoldobnimfaaGreat
