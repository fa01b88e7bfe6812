/- The examples of the section: 'lives' is true. -/
import Derived.Test.YthhfjomjjhenkaaE11
namespace Go.Proofs.Ythhfjomjjhenkaa
open Go.RowKit

theorem ex1 : movedE ⟨5, 0, [9]⟩ ⟨1, 2, [1, 2, 3]⟩ = ⟨6, 0, [9]⟩ := by rfl
theorem ex2 : movedE ⟨5, 0, [9]⟩ ⟨5, 0, [1, 2, 3]⟩ = ⟨8, 0, [9]⟩ := by rfl
theorem ex3 : movedE ⟨2, 4, []⟩ ⟨4, 4, []⟩ = ⟨2, 2, []⟩ := by rfl
theorem ex4 : diffE [1, 2, 2, 3] [1, 2, 3] = ⟨2, 1, []⟩ := by rfl

theorem IL.lit {w : World} {g T : Nat} (cs : List Int) (h : Blk w g T (cs.map (Value.int .i64)).toArray) (hs : ∀ x ∈ cs, 0 ≤ x ∧ x ≤ 1000000) (hl : cs.length ≤ 1000) : IL w (some ⟨g, 0, none⟩) cs.length cs :=
  IL.of_blk h (fun x hx => I64_of (by have := hs x hx; omega)) (by unfold maxLen; omega)

theorem move_ex1 (W : World) (A B : Option Addr) (c c' : Nat) (hA : IL W A c [9]) (hB : IL W B c' [1, 2, 3]) :
    Calls Try.prog 13 #[.agg #[.int .i64 5, .int .i64 0, .slice A 1 c], .agg #[.int .i64 1, .int .i64 2, .slice B 3 c']] W (RetEdE ⟨6, 0, [9]⟩ 0 W) := by
  have h := move_ok ⟨5, 0, [9]⟩ ⟨1, 2, [1, 2, 3]⟩ A B c c' W hA hB (by decide) (by decide)
  rw [ex1] at h; exact h
theorem move_ex2 (W : World) (A B : Option Addr) (c c' : Nat) (hA : IL W A c [9]) (hB : IL W B c' [1, 2, 3]) :
    Calls Try.prog 13 #[.agg #[.int .i64 5, .int .i64 0, .slice A 1 c], .agg #[.int .i64 5, .int .i64 0, .slice B 3 c']] W (RetEdE ⟨8, 0, [9]⟩ 0 W) := by
  have h := move_ok ⟨5, 0, [9]⟩ ⟨5, 0, [1, 2, 3]⟩ A B c c' W hA hB (by decide) (by decide)
  rw [ex2] at h; exact h
theorem move_ex3 (W : World) : Calls Try.prog 13 #[.agg #[.int .i64 2, .int .i64 4, .slice none 0 0], .agg #[.int .i64 4, .int .i64 4, .slice none 0 0]] W (RetEdE ⟨2, 2, []⟩ 0 W) := by
  have h := move_ok ⟨2, 4, []⟩ ⟨4, 4, []⟩ none none 0 0 W (IL.nil _) (IL.nil _) (by decide) (by decide)
  rw [ex3] at h; exact h
theorem diff_ex4 (W : World) (A B : Option Addr) (c c' : Nat) (hA : IL W A c [1, 2, 2, 3]) (hB : IL W B c' [1, 2, 3]) :
    Calls Try.prog 26 #[.slice A 4 c, .slice B 3 c'] W (RetEdF ⟨2, 1, []⟩ W) := by
  have h := diff_any A B c c' [1, 2, 2, 3] [1, 2, 3] W hA hB (by simp) (by simp)
  rw [ex4] at h; exact h
theorem same_ex (W : World) (A : Option Addr) (c : Nat) (hA : IL W A c []) :
    Calls Try.prog 15 #[.agg #[.int .i64 2, .int .i64 1, .slice A 0 c], .agg #[.int .i64 2, .int .i64 1, .slice none 0 0]] W (RetV (.bool true) W) := by
  have h := sameEdit_any 2 1 2 1 A none c 0 [] [] W hA (IL.nil _)
  rw [decide_eq_true (by simp)] at h; exact h

set_option maxHeartbeats 2000000 in
theorem lives_any (w : World) : Calls Try.prog 17 #[] w (RetV (.bool true) w) := by
  go_enter Try.func17, Try.ntmps17
  go_wp2_with fail
  obtain ⟨b1, b2, X⟩ := alloc2 w 3 #[.int .i64 9] 3 #[.int .i64 1, .int .i64 2, .int .i64 3]
  refine (move_ex1 _ _ _ _ _ (IL.lit [9] b1 (by simp) (by simp)) (IL.lit [1, 2, 3] b2 (by simp) (by simp))).mono ?_
  rintro e w1 ⟨C1, c1, rfl, i1, x1, f1⟩
  replace X := X.trans x1
  clear b1 b2 x1 f1 i1
  simp only [List.length_cons, List.length_nil, Nat.zero_add]
  go_wp2_with fail
  obtain ⟨B1, b1, b2, X1⟩ := alloc3 w1 25 #[.int .i64 6, .int .i64 0, .slice C1 1 c1] 3 #[.int .i64 9] 3 #[.int .i64 1, .int .i64 2, .int .i64 3]
  refine (move_ex2 _ _ _ _ _ (IL.lit [9] b1 (by simp) (by simp)) (IL.lit [1, 2, 3] b2 (by simp) (by simp))).mono ?_
  rintro e w2 ⟨C2, c2, rfl, i1, x1, f1⟩
  replace X := (X.trans X1).trans x1
  replace B1 := B1.ext x1
  clear b1 b2 x1 f1 i1 X1
  simp only [List.length_cons, List.length_nil, Nat.zero_add]
  go_wp2_with fail
  obtain ⟨B2, X1⟩ := alloc1 w2 25 #[.int .i64 8, .int .i64 0, .slice C2 1 c2]
  refine (move_ex3 _).mono ?_
  rintro e w3 ⟨C3, c3, rfl, i1, x1, f1⟩
  replace X := (X.trans X1).trans x1
  replace B1 := (B1.ext X1).ext x1
  replace B2 := B2.ext x1
  clear x1 f1 i1 X1
  simp only [List.length_nil]
  go_wp2_with fail
  obtain ⟨B3, b1, b2, X1⟩ := alloc3 w3 25 #[.int .i64 2, .int .i64 2, .slice C3 0 c3] 3 #[.int .i64 1, .int .i64 2, .int .i64 2, .int .i64 3] 3 #[.int .i64 1, .int .i64 2, .int .i64 3]
  refine (diff_ex4 _ _ _ _ _ (IL.lit [1, 2, 2, 3] b1 (by simp) (by simp)) (IL.lit [1, 2, 3] b2 (by simp) (by simp))).mono ?_
  rintro e w4 ⟨C4, c4, rfl, i1, x1, f1⟩
  replace X := (X.trans X1).trans x1
  replace B1 := (B1.ext X1).ext x1
  replace B2 := (B2.ext X1).ext x1
  replace B3 := B3.ext x1
  simp only [List.length_nil]
  obtain ⟨p0, p1, p2, _, _, _, pz⟩ := B1.c3
  obtain ⟨q0, q1, q2, _, _, _, qz⟩ := B2.c3
  obtain ⟨r0, r1, r2, _, _, _, rz⟩ := B3.c3
  clear B1 B2 B3 b1 b2 x1 f1 X1
  go_wp2_with fail
  refine (same_ex _ _ _ (i1.ext (Ext.alloc _ _))).mono ?_
  rintro e w5 ⟨rfl, x5⟩
  go_wp2
  go_ret
  exact ⟨rfl, (X.trans (Ext.alloc _ _)).trans x5⟩
end Go.Proofs.Ythhfjomjjhenkaa
