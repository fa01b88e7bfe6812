/- The walk of the reference's Edit: an edit made from numbers. -/
import Derived.Test.YthhfjomjjhenkaaE6
namespace Go.Proofs.Ythhfjomjjhenkaa
open Go.RowKit

structure Ed where
  at_ : Int
  del : Int
  ins : List Int

def redit (size n m : Int) : Ed :=
  { at_ := around n 1048576 % (size + 1),
    del := if around n 1048576 % 7 = 0 then size - around n 1048576 % (size + 1) else
      (if around n 1048576 / 64 % 4 < size - around n 1048576 % (size + 1) then around n 1048576 / 64 % 4 else size - around n 1048576 % (size + 1)),
    ins := rtext [around m 1048576, around m 1048576 / 12, around m 1048576 / 144] (around m 1048576 % 4).toNat }

/-- what a call leaves that returns an edit -/
def RetEdF (e : Ed) (w : World) (r : Ending) (w' : World) : Prop :=
  ∃ A c, r = .returned (.agg #[.int .i64 e.at_, .int .i64 e.del, .slice A e.ins.length c]) ∧ IL w' A c e.ins ∧ Ext w w' ∧ Fr w A

theorem redit_bd (size n m : Int) (h : 0 ≤ size) : 0 ≤ (redit size n m).at_ ∧ 0 ≤ (redit size n m).del ∧ (redit size n m).at_ + (redit size n m).del ≤ size := by
  have h1 := around_bd n 1048576 (by omega)
  have h2 : 0 ≤ around n 1048576 % (size + 1) := Int.emod_nonneg _ (by omega)
  have h3 : around n 1048576 % (size + 1) < size + 1 := Int.emod_lt_of_pos _ (by omega)
  simp only [redit]
  generalize around n 1048576 % (size + 1) = a at *
  refine ⟨h2, ?_, ?_⟩ <;> (split <;> (try split) <;> omega)

theorem redit_eq {size n m k j : Int} (hk : around n 1048576 = k) (hj : around m 1048576 = j) (q : Nat) (hq : j % 4 = (q : Int)) (dv : Int)
    (hd : dv = if k % 7 = 0 then size - k % (size + 1) else (if k / 64 % 4 < size - k % (size + 1) then k / 64 % 4 else size - k % (size + 1))) :
    (redit size n m).at_ = k % (size + 1) ∧ (redit size n m).del = dv ∧ (redit size n m).ins = rtext [j, j / 12, j / 144] q := by
  subst hk hj hd
  refine ⟨rfl, rfl, ?_⟩
  simp only [redit, hq, Int.toNat_natCast]

set_option maxHeartbeats 400000 in
theorem rEdit_any (size : Nat) (n m : Int) (w : World) (hs : size ≤ 1000000) (hn : I64 n) (hm : I64 m) :
    Calls Try.prog 11 #[.int .i64 size, .int .i64 n, .int .i64 m] w (RetEdF (redit size n m) w) := by
  have hk := around_bd n 1048576 (by omega)
  have hj := around_bd m 1048576 (by omega)
  have EK := @redit_eq size n m
  generalize hk1 : around n 1048576 = k at *
  generalize hj1 : around m 1048576 = j at *
  obtain ⟨q, hq⟩ : ∃ q : Nat, j % 4 = (q : Int) := ⟨(j % 4).toNat, by omega⟩
  replace EK := Lib.hid (EK rfl rfl q hq)
  have hq4 : q < 4 := by omega
  have HK := Lib.hid hk1
  have HJ := Lib.hid hj1
  have HQ := Lib.hid hq
  clear hk1 hj1 hq
  have h2 : 0 ≤ k % ((size : Int) + 1) := Int.emod_nonneg _ (by omega)
  have h3 : k % ((size : Int) + 1) < (size : Int) + 1 := Int.emod_lt_of_pos _ (by omega)
  have hIL : ∀ W g, Blk W g 3 #[.int .i64 j, .int .i64 (j / 12), .int .i64 (j / 144)] → IL W (some ⟨g, 0, none⟩) 3 [j, j / 12, j / 144] := fun W g h =>
    IL.of_blk (xs := [j, j / 12, j / 144]) h (by intro x hx; simp at hx; rcases hx with rfl | rfl | rfl <;> exact I64_of (by omega)) (by simp [maxLen])
  go_enter Try.func11, Try.ntmps11
  go_wp2_with fail
  refine (around_any _ _ _ hn (by omega) (by omega)).mono ?_
  rintro e w1 h1
  obtain ⟨rfl, hx1⟩ := h1.v
  rw [HK.out]
  go_wp2_with fail
  refine (around_any _ _ _ hm (by omega) (by omega)).mono ?_
  rintro e w2 h1
  obtain ⟨rfl, hx2⟩ := h1.v
  rw [HJ.out]
  have b6 := ((Blk.new w 25 #[.int .i64 0, .int .i64 0, .slice none 0 0]).ext hx1).ext hx2
  have X2 := ((Ext.alloc w (.cells #[.int .i64 0, .int .i64 0, .slice none 0 0] 25)).trans hx1).trans hx2
  clear h1 hx1 hx2
  go_wp2_with fail
  all_goals
    rw [HQ.out]
    refine (rText_any _ 3 [j, j / 12, j / 144] q _ ?_ (by omega)).mono ?_
    · exact hIL _ _ (by simpa using Blk.new (w2.alloc _) 3 #[.int .i64 j, .int .i64 (j / 12), .int .i64 (j / 144)])
    rintro e w3 ⟨A, c, rfl, hil, hx3, hfr⟩
    have X3 := ((Ext.alloc _ _).trans (Ext.alloc _ _)).trans hx3
    obtain ⟨p0, p1, p2, q0, q1, q2, hz6⟩ := (b6.ext X3).c3
    obtain ⟨r0, r1, r2, s0, s1, s2, hz10⟩ := (((Blk.new w2 _ _).alloc _).ext hx3).c3
    have hzz := b6.lt
    have hdv : ∃ dv, w3.cell? ⟨w2.heap.size, 1, none⟩ = some (.int .i64 dv) ∧ (redit size n m).del = dv := by
      refine ⟨_, r1, ?_⟩
      rw [(EK.out _ rfl).2.1]
      simp only [beq_iff_eq, beq_eq_false_iff_ne, ne_eq] at *
      split <;> (try split) <;> omega
    obtain ⟨dv, r1', hdv⟩ := hdv
    rw [r1] at r1'
    simp only [Option.some.injEq, Value.int.injEq, true_and] at r1'
    rw [r1'] at r1
    have hfin : RetEdF (redit size n m) w (.returned (.agg #[.int .i64 (k % (size + 1)), .int .i64 dv, .slice A (rtext [j, j / 12, j / 144] q).length c])) = RetEdF (redit size n m) w (.returned (.agg #[.int .i64 (redit size n m).at_, .int .i64 (redit size n m).del, .slice A (redit size n m).ins.length c])) := by
      rw [(EK.out _ rfl).1, hdv, (EK.out _ rfl).2.2]
    have hil' : IL w3 A c (redit size n m).ins := by rw [(EK.out _ rfl).2.2]; exact hil
    replace r1' := Lib.hid r1'
    replace hdv := Lib.hid hdv
    replace hfin := Lib.hid hfin
    have hEE := X2.trans X3
    go_wp2
    refine bodyPost_ret (v := .agg #[.int .i64 (k % (size + 1)), .int .i64 dv, .slice A (rtext [j, j / 12, j / 144] q).length c]) (by simp [results, Try.results11, go_sem, p0, p1, p2]) rfl ?_
    rw [hfin.out]
    have hfr2 : Fr w2 A := hfr.mono ((Ext.alloc _ _).trans (Ext.alloc _ _))
    have n1 : A.map (·.block) ≠ some w.heap.size := fun e => by have := hfr2 _ e; omega
    have n2 : A.map (·.block) ≠ some w2.heap.size := fun e => by have := hfr _ e; simp at this; omega
    refine ⟨A, c, rfl, ?_, ?_, hfr2.mono X2⟩
    · exact (((hil'.set (p := ⟨w2.heap.size, 2, none⟩) n2 _).set (p := ⟨w.heap.size, 0, none⟩) n1 _).set (p := ⟨w.heap.size, 1, none⟩) n1 _).set (p := ⟨w.heap.size, 2, none⟩) n1 _
    · exact (((hEE.setNew (by simp; omega) _).setNew (by simp) _).setNew (by simp) _).setNew (by simp) _
end Go.Proofs.Ythhfjomjjhenkaa
