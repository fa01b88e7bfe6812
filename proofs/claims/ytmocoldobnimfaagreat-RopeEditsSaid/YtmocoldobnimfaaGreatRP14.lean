/- Texts of this proof: E8 E9 P4. -/
import Derived.Test.YtmocoldobnimfaaGreatRP08
import Derived.Test.YtmocoldobnimfaaGreatRP10
import Derived.Deep.RegionHeld3
import Derived.Deep.DrawnRows
import Derived.Deep.CutRange
import Derived.Deep.DeepCutAuto
set_option linter.all false
namespace Go.Proofs.YtmocoldobnimfaaGreat
section
open Go.RowKit
end
section
open Go.RowKit
attribute [local go_sem ↓] Go.wp_at_zero Go.wp_at_succ
theorem XL.one {w:World}{g T:Nat}{x y z:Int}(h:Blk w g T #[.int .i64 x,.int .i64 y,.int .i64 z]):XL w (some ⟨g,0,none⟩) 1 [(x,y,z)]:=
 ⟨by simp,by simp[maxLen],fun _=>⟨g,0,rfl,fun i hi=>by
  have:i=0:=by simpa using hi
  subst this;exact⟨h.cell 0,h.cell 1,h.cell 2⟩⟩⟩
end
section
open Go.RowKit
def InsOk (runes:Bool)(caps:Int)(n:Nat)(i:Ins):Prop:=
 (i.op=1∨i.set=[])∧(i.op=2∨i.y=0)∧(i.op=2∨i.op=3∨i.x=0)∧(i.op=4∨i.op=5∨i.n=0)∧
 (i.op=0∨(i.op=1∧validE i.set=0∧∀s,i.set.getLast? = some s→s.2≤topV runes)∨(i.op=2∧(0≤i.x∧i.x<n)∧0≤i.y∧i.y<n)∨(i.op=3∧0≤i.x∧i.x<n)∨
  (i.op=4∧0≤i.n∧i.n<2*caps)∨(i.op=5∧0≤i.n∧i.n≤5))
open Classical in
noncomputable def progE (runes:Bool) (caps:Int) (G:List Ins):Int:=
 if 8192<G.length then 4 else if G.length=0∨caps<0∨9<caps then 1 else if ∀i∈G,InsOk runes caps G.length i then
  (match G.getLast? with|some i=>if i.op=0∨i.op=2∨i.op=3 then 0 else 1|none=>1) else 1
open Classical in
noncomputable def chkE (runes:Bool) (caps:Int) (G:List Ins):Int:=
 if progE runes caps G≠0 then progE runes caps G else if ∃i∈G,i.op=5 then 10 else 0
theorem progE_big {runes:Bool}{caps:Int}{G:List Ins}(h:8192<G.length):progE runes caps G=4:=by unfold progE;rw[if_pos h]
theorem progE_arg {runes:Bool}{caps:Int}{G:List Ins}(h:¬8192<G.length)(h2:G.length=0∨caps<0∨9<caps):progE runes caps G=1:=by unfold progE;rw[if_neg h,if_pos h2]
theorem progE_bad {runes:Bool}{caps:Int}{G:List Ins}(h:¬8192<G.length)(h2:¬(G.length=0∨caps<0∨9<caps)){k:Nat}(hk:k<G.length)(h3:¬InsOk runes caps G.length G[k]):progE runes caps G=1:=by
 unfold progE;rw[if_neg h,if_neg h2,if_neg (fun h4=>h3 (h4 _ (List.getElem_mem hk)))]
theorem progE_end {runes:Bool}{caps:Int}{G:List Ins}(h:¬8192<G.length)(h2:¬(G.length=0∨caps<0∨9<caps))(h3:∀k (hk:k<G.length),InsOk runes caps G.length G[k])(hl:G.length-1<G.length) :
 progE runes caps G=if G[G.length-1].op=0∨G[G.length-1].op=2∨G[G.length-1].op=3 then 0 else 1:=by
 unfold progE;rw[if_neg h,if_neg h2,if_pos (fun i hi=>by obtain⟨k,hk,rfl⟩:=List.mem_iff_getElem.1 hi;exact h3 k hk),List.getLast?_eq_getElem?,List.getElem?_eq_getElem hl]
structure GOk (runes:Bool)(caps:Int)(G:List Ins):Prop where
 len:0<G.length∧G.length≤8192
 cap9:0≤caps∧caps≤9
 ins:∀k (hk:k<G.length),InsOk runes caps G.length G[k]
 last:∀hl:G.length-1<G.length,G[G.length-1].op=0∨G[G.length-1].op=2∨G[G.length-1].op=3
 plain:∀k (hk:k<G.length),G[k].op≠5
theorem chkE_zero {runes:Bool}{caps:Int}{G:List Ins}(h:chkE runes caps G=0):GOk runes caps G:=by
 unfold chkE at h
 split at h
 ·contradiction
 ·rename_i hp
  have hp:progE runes caps G=0:=Classical.not_not.1 hp
  split at h
  ·cases h
  ·rename_i hn
   unfold progE at hp
   split at hp
   ·cases hp
   ·split at hp
    ·cases hp
    ·split at hp
     ·rename_i h1 h2 h3
      refine⟨om,om,fun k hk=>h3 _ (List.getElem_mem hk),fun hl=>?_,fun k hk e=>hn ⟨_,List.getElem_mem hk,e⟩⟩;rw[List.getLast?_eq_getElem?,List.getElem?_eq_getElem hl] at hp
      simp only at hp
      split at hp
      ·assumption
      ·cases hp
     ·cases hp
namespace GOk
variable {runes:Bool} {caps:Int} {G:List Ins}
theorem op (h:GOk runes caps G){k:Nat}(hk:k<G.length):G[k].op=0∨G[k].op=1∨G[k].op=2∨G[k].op=3∨G[k].op=4:=by
 have h1:=(h.ins k hk).2.2.2.2;have h2:=h.plain k hk;omega
theorem next (h:GOk runes caps G){k:Nat}(hk:k<G.length)(ho:G[k].op=1∨G[k].op=4):k+1<G.length:=by
 rcases Nat.lt_or_ge (k+1) G.length with h1|h1
 ·exact h1
 ·have e:G.length-1=k:=om;have h2:=h.last om;have h3:G[G.length-1]'om=G[k]:=by congr 1
  rw[h3] at h2;omega
theorem jump (h:GOk runes caps G){k:Nat}(hk:k<G.length)(ho:G[k].op=2∨G[k].op=3):∃x:Nat,G[k].x=x∧x<G.length:=by
 have h1:=(h.ins k hk).2.2.2.2;exact⟨G[k].x.toNat,om,om⟩
theorem jump2 (h:GOk runes caps G){k:Nat}(hk:k<G.length)(ho:G[k].op=2):∃y:Nat,G[k].y=y∧y<G.length:=by
 have h1:=(h.ins k hk).2.2.2.2;exact⟨G[k].y.toNat,om,om⟩
end GOk
end
end Go.Proofs.YtmocoldobnimfaaGreat
