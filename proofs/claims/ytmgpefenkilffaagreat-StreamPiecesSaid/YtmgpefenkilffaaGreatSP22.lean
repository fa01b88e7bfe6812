/- Texts of this proof: OC. -/
import Derived.Test.YtmgpefenkilffaaGreatSP18
set_option linter.all false
namespace Go.Proofs.YtmgpefenkilffaaGreat
section
open Go.RowKit
attribute [local go_sem ↓] Go.wp_at_zero Go.wp_at_succ
theorem own_c5g {w:World}{base c i g:Nat}{hs:List Hin}(h:OwnS w base 129 5 (some ⟨g,0,none⟩) hs.length c (flatN hs))(hi:i<hs.length) :
 ∀k,k<5->∃v,w.cell? ⟨g,i*5+k,none⟩=some v/\w.frozen? ⟨g,i*5+k,none⟩=false:=by
 obtain⟨g',e,_,hc⟩:=own_c5 h hi;injection e with e;injection e with e _ _
 subst e;exact hc
theorem setQ5_kpp {p:Nat->Prop}{a w:World}{g:Nat}(h:KpP p a w)(hg:p g)(q:Nat)(op x y n:Int):KpP p a (setQ5 w g q op x y n):=
 (((((h.set (x:=⟨g,q,none⟩) (.inl hg) _).set (x:=⟨g,q+1,none⟩) (.inl hg) _).set (x:=⟨g,q+2,none⟩) (.inl hg) _).set (x:=⟨g,q+3,none⟩) (.inl hg) _).set (x:=⟨g,q+4,none⟩) (.inl hg) _)
theorem rep_len {B M bd p i a b c:Nat}{mv mx mn:Int}(hB:2<=B)(h3:B*3<=M)(hM:B*bd<=M)(hp:(p:Int)=mn)(hpb:p<=bd)(hmx : -1<=mx/\mx<=bd)(hmm:mx = -1->mn+1<=bd)(hi:i=mv.toNat)
 (h:(mv=1/\mx = -1)\/(mv=mx-mn/\mx≠-1)) (h1:b+2*p<=a+B*p) (h2:c+i<=b+B*i):(mx = -1->c+3<=a+M)/\(mx≠-1->c+2<=a+M):=by
 have hd:=Nat.mul_add B p i;have hpi:p+i<=bd:=by
  rcases h with⟨e1,e2⟩|⟨e1,e2⟩
  ·have:=hmm e2;omega
  ·omega
 have hle:=Nat.mul_le_mul_left B hpi;refine⟨fun e=>?_,fun e=>?_⟩
 ·have hi1:i=1:=om;subst hi1;by_cases h0:p=0
  ·subst h0;omega
  ·omega
 ·by_cases h0:2<=2*p+i
  ·omega
  ·have hp0:p=0:=om;subst hp0;have:i=0\/i=1:=om;rcases this with rfl|rfl<;>omega
theorem rep_len2 {B M bd p i j a b c:Nat}{mv mx mn:Int}(hM:B*bd<=M)(hp:(p:Int)=mn)(hpb:p<=bd)(hmx : -1<=mx/\mx<=bd)(hmm:mx = -1->mn+1<=bd)(hi:i=mv.toNat)(hj:j<i)
 (h:(mv=1/\mx = -1)\/(mv=mx-mn/\mx≠-1)) (h1:b+2*p<=a+B*p) (h2:c+j<=b+B*j):c+B<=a+M:=by
 have hd:=Nat.mul_add B p (j+1);have hs:=mul_step B j;have hpi:p+(j+1)<=bd:=by
  rcases h with⟨e1,e2⟩|⟨e1,e2⟩
  ·have:=hmm e2;omega
  ·omega
 have hle:=Nat.mul_le_mul_left B hpi;omega
theorem rep_len3 {B M bd p i j a b c:Nat}{mv mx mn:Int}(hB:2<=B)(h3:B*3<=M)(hM:B*bd<=M)(hp:(p:Int)=mn)(hpb:p<=bd)(hmx : -1<=mx/\mx<=bd)(hmm:mx = -1->mn+1<=bd)(hi:i=mv.toNat)(hj:j<i)
 (h:(mv=1/\mx = -1)\/(mv=mx-mn/\mx≠-1)) (h1:b+2*p<=a+B*p) (h2:c+j<=b+B*j):c+1+B<=a+M:=by
 have hd:=Nat.mul_add B p (j+1);have hs:=mul_step B j;have hpi:p+(j+1)<=bd:=by
  rcases h with⟨e1,e2⟩|⟨e1,e2⟩
  ·have:=hmm e2;omega
  ·omega
 have hle:=Nat.mul_le_mul_left B hpi;by_cases h0:1<=2*p+j
 ·omega
 ·have hp0:p=0:=om;have hj0:j=0:=om;subst hp0 hj0;omega
end
end Go.Proofs.YtmgpefenkilffaaGreat
