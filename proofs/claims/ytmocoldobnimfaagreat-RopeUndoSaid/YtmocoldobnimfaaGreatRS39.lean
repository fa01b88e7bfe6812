/- Texts of this proof: DP0. -/
import Derived.Test.YtmocoldobnimfaaGreatRS34
import Derived.Test.YtmocoldobnimfaaGreatRS36
import Derived.Test.YtmocoldobnimfaaGreatRS37
set_option linter.all false
namespace Go.Proofs.YtmocoldobnimfaaGreat
section
open Go.RowKit
attribute [local go_sem ↓] Go.wp_at_zero Go.wp_at_succ
structure Gd (w:World)(A:Option Addr)(c:Nat)(hs:List Hin):Prop where
 pl:PL w A c hs
 sm:SmallG (insL hs)
 len:hs.length<=1000
theorem GpAt.gd {E:List Int}{w:World}{A:Option Addr}{c:Nat}{hs:List Hin}(h:GpAt E w A c hs)(h0:(0:Int)∈E)(hE:E.length<=100):Gd w A c hs:=⟨h.pl,smallG_of h0 hE h.len h.sets,h.len⟩
theorem rim0:(0:Int)∈rimE/\rimE.length<=100:=⟨by simp[rimE],by simp[rimE]⟩
end
end Go.Proofs.YtmocoldobnimfaaGreat
