/- slices.Clone at ints; the text of the reference's generator. -/
import Derived.Test.YthhfjomjjhenkaaE4
import Derived.Test.YthhfjomjjhenkaaApp
namespace Go.Proofs.Ythhfjomjjhenkaa
open Go.RowKit

theorem infoInt : (Try.prog.info? 3).map (fun i => (i.zero, i.size, i.bytes)) = some (some (.int .i64 0), 1, 8) := by kernel_rfl

set_option maxHeartbeats 1000000 in
theorem clone_any (A : Option Addr) (c : Nat) (l : List Int) (w : World) (hl : IL w A c l) (hb : l.length ≤ 1099511627776) :
    Calls Try.prog 46 #[.slice A l.length c] w (RetIL l w) := by
  obtain ⟨i0, hi0, hz0, hz1, hz2⟩ := info_parts infoInt
  cases A with
  | none =>
    have hl0 : l = [] := by
      rcases l with _ | ⟨x, l⟩
      · rfl
      · obtain ⟨b, o, h, _⟩ := hl.at_ (by simp)
        cases h
    subst hl0
    have hn := fun wx => Lib.run_eql_slice_nil (P := Try.prog) wx 22 3 none 0 c 0 0 Try.underlying22
    go_enter Try.func46, Try.ntmps46
    go_wp2
    go_ret
    exact ⟨none, 0, rfl, IL.nil _, Ext.rfl' _, Fr.nil _⟩
  | some ad =>
    have hn := fun wx => Lib.run_eql_slice_nil (P := Try.prog) wx 22 3 (some ad) l.length c 0 0 Try.underlying22
    simp only [Option.isNone_some] at hn
    have hm := hl.len
    have hown : OwnS (w.alloc (.cells #[] 3)) w.heap.size 3 1 (some ⟨w.heap.size, 0, none⟩) 0 0 [] :=
      OwnS.of_blk (Blk.new w 3 #[]) (Nat.le_refl _) rfl (Nat.le_refl _) (Nat.zero_le _)
    have hcl := (hl.ext (Ext.alloc w (.cells #[] 3))).cells
    have h1 := ints_one l
    have h63 : 0 + l.length ≤ maxLen := by unfold maxLen; omega
    have h8 : (0 + l.length) * 8 ≤ 140737488355328 := by omega
    have H63 := Lib.hid h63
    have H8 := Lib.hid h8
    clear hb h63 h8
    go_enter Try.func46, Try.ntmps46
    go_wp2_with ((at_builtin; refine wpList_app _ rfl _ _ _ rfl w.heap.size 3 i0 (.int .i64 0) 1 8 Try.underlying22 hi0 hz0 hz1 hz2 rfl (by omega) _ 0 0 [] rfl hown _ l.length c (l.map (Value.int .i64)) rfl (by simp) hcl h1 H63.out H8.out (by simp) ?_; intro A' c' w' hown' hg hat))
    go_ret
    simp only [List.nil_append, Nat.zero_add] at hown'
    have hE : Ext w w' := (Ext.alloc w (.cells #[] 3)).grown hg (by simp)
    refine ⟨A', c', by simp, IL.of_own (base := w.heap.size) (e := 3) ?_ hl.rng, hE, OwnS.row hown'⟩
    exact hown'

def tab12 : List Int := [97, 97, 97, 98, 98, 99, 97, 98, 10, 32, 65, 200]
def sym12 (x : Int) : Int := tab12.getD (around x 12).toNat 0
/-- the reference's text made from numbers -/
def rtext (l : List Int) (m : Nat) : List Int := (l.take m).map sym12

theorem tab12_bd : ∀ p, p < 12 → 0 ≤ tab12.getD p 0 ∧ tab12.getD p 0 ≤ 200 := by decide
theorem sym12_bd (x : Int) : 0 ≤ sym12 x ∧ sym12 x ≤ 200 := by
  have h := around_bd x 12 (by omega)
  exact tab12_bd _ (by omega)
theorem rtext_bd (l : List Int) (m : Nat) : ∀ x ∈ rtext l m, 0 ≤ x ∧ x ≤ 200 := by
  intro x hx
  obtain ⟨y, _, rfl⟩ := List.mem_map.1 hx
  exact sym12_bd y
theorem rtext_len (l : List Int) (m : Nat) : (rtext l m).length ≤ m := by simp [rtext]; omega
theorem rtext_succ (l : List Int) (k : Nat) (h : k < l.length) : rtext l (k + 1) = rtext l k ++ [sym12 l[k]] := by
  unfold rtext; rw [List.take_succ_eq_append_getElem h, List.map_append]; rfl
theorem I64_of {x : Int} (h : -1000000000000 ≤ x ∧ x ≤ 1000000000000) : I64 x := by unfold I64; omega
end Go.Proofs.Ythhfjomjjhenkaa
