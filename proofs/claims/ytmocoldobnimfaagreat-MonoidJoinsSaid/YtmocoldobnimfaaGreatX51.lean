/- Texts of this proof: DP0. -/
import Derived.Test.YtmocoldobnimfaaGreatX46
import Derived.Test.YtmocoldobnimfaaGreatX48
import Derived.Test.YtmocoldobnimfaaGreatX50
set_option linter.all false
namespace Go.Proofs.YtmocoldobnimfaaGreat
section
open Go.RowKit
attribute [local go_sem ↓] Go.wp_at_zero Go.wp_at_succ
structure Gd (w:World)(A:Option Addr)(c:Nat)(hs:List Hin):Prop where
 pl:PL w A c hs
 sm:SmallG (insL hs)
 len:hs.length≤1000
theorem Gd.ext {w w':World}{A:Option Addr}{c:Nat}{hs:List Hin}(h:Gd w A c hs)(x:Ext w w'):Gd w' A c hs:=⟨h.pl.ext x,h.sm,h.len⟩
theorem GpAt.gd {E:List Int}{w:World}{A:Option Addr}{c:Nat}{hs:List Hin}(h:GpAt E w A c hs)(h0:(0:Int)∈E)(hE:E.length≤100):Gd w A c hs:=⟨h.pl,smallG_of h0 hE h.len h.sets,h.len⟩
theorem Gp4.gd {E:List Int}{w:World}{A:Option Addr}{c:Nat}{hs:List Hin}(h:Gp4 E w A c hs)(h0:(0:Int)∈E)(hE:E.length≤100):Gd w A c hs:=by
 refine⟨h.pl,?_,h.len⟩;have hm:∀a∈setsOf (insL hs),SetE4 E a:=fun a ha=>by
  unfold setsOf insL at ha;obtain⟨i,hi,rfl⟩:=List.mem_map.1 ha;obtain⟨j,hj,rfl⟩:=List.mem_map.1 (List.mem_filter.1 hi).1;exact h.sets j hj
 have hn:(setsOf (insL hs)).length≤1000:=by
  have hl:=h.len;unfold setsOf insL;rw[List.length_map];have:=List.length_filter_le (fun i:Ins=>decide (i.op=1)) (hs.map Hin.ins);rw[List.length_map] at this;omega
 refine⟨om,?_,fun top=>?_⟩
 ·have:=flat_len (k:=4) (fun a ha=>(hm a ha).1);omega
 ·have:=ends_few h0 top (setsOf (insL hs)) (fun s hs=>by
   obtain⟨a,ha,hs⟩:=List.mem_flatten.1 hs;exact(hm a ha).2 s hs)
  omega
theorem rim0:(0:Int)∈rimE∧rimE.length≤100:=⟨by simp[rimE],by simp[rimE]⟩
end
end Go.Proofs.YtmocoldobnimfaaGreat
