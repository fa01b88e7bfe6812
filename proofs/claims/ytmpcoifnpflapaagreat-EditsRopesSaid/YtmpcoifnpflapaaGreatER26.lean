/- Texts of this proof: K9. -/
import Derived.Test.YtmpcoifnpflapaaGreatER15
import Derived.Test.YtmpcoifnpflapaaGreatER22
set_option linter.all false
namespace Go.Proofs.YtmpcoifnpflapaaGreat
section
open Go.RowKit
attribute [local go_sem ↓] Go.wp_at_zero Go.wp_at_succ
theorem ok1 {runes:Bool}{caps:Int}{n:Nat}{zl:List Sp}:InsOk runes caps n ⟨1,0,0,0,zl⟩<->validE zl=0/\∀s,zl.getLast? = some s->s.2<=topV runes:=by
 constructor
 ·intro h;rcases h.2.2.2.2 with h|⟨_,h,h'⟩|⟨h,_⟩|⟨h,_⟩|⟨h,_⟩|⟨h,_⟩
  ·simp at h
  ·exact⟨h,h'⟩
  ·simp at h
  ·simp at h
  ·simp at h
  ·simp at h
 ·exact fun h=>⟨.inl rfl,.inr rfl,.inr (.inr rfl),.inr (.inr rfl),.inr (.inl ⟨rfl,h⟩)⟩
end
end Go.Proofs.YtmpcoifnpflapaaGreat
