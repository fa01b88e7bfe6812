/- The walk of EditsMoved. -/
import Derived.Test.YthhfjomjjhenkaaE16
import Derived.Test.YthhfjomjjhenkaaE12
import Derived.Test.YthhfjomjjhenkaaE13
namespace Go.Proofs.Ythhfjomjjhenkaa
open Go.RowKit

set_option maxHeartbeats 4000000 in
theorem EditsMoved_any (A N : Option Addr) (ca cn : Nat) (l n : List Int) (w : World) (hl : IL w A ca l) (hn : IL w N cn n) :
    Calls Try.prog 5 #[.slice A l.length ca, .slice N n.length cn] w (RetV (.bool true) w) := by
  have tl := rtext_len l 30
  have ts := rtext_sym l 30
  go_enter Try.func5, Try.ntmps5
  go_wp2_with fail
  refine (rText_any _ _ l 30 _ hl (by omega)).mono ?_
  rintro e w1 ⟨T, tc, rfl, iT, x1, _⟩
  generalize rtext l 30 = t at *
  replace hn := hn.ext x1
  go_wp2_with fail
  refine (pick_any _ _ n 0 _ _ hn (by omega) (by omega) (by omega)).mono ?_
  rintro e w2 h1
  obtain ⟨rfl, x2⟩ := h1.v
  clear h1
  replace hn := hn.ext x2; replace iT := iT.ext x2
  replace x1 := x1.trans x2
  clear x2
  go_wp2_with fail
  refine (pick_any _ _ n 1 _ _ hn (by omega) (by omega) (by omega)).mono ?_
  rintro e w3 h1
  obtain ⟨rfl, x2⟩ := h1.v
  clear h1
  replace hn := hn.ext x2; replace iT := iT.ext x2
  replace x1 := x1.trans x2
  clear x2
  go_wp2_with fail
  refine (rEdit_any t.length _ _ _ (by omega) (pick_wf _ _) (pick_wf _ _)).mono ?_
  rintro e w4 ⟨A1, c1, rfl, i1, x2, _⟩
  have he1 : EdOf t.length (redit t.length (pick n 0 1048576) (pick n 1 1048576)) := ⟨(redit_bd _ _ _ (by omega)).1, (redit_bd _ _ _ (by omega)).2.1, (redit_bd _ _ _ (by omega)).2.2, (redit_ins _ _ _).1⟩
  have hi1 := (redit_ins t.length (pick n 0 1048576) (pick n 1 1048576)).2
  generalize redit t.length (pick n 0 1048576) (pick n 1 1048576) = e1 at *
  replace hn := hn.ext x2; replace iT := iT.ext x2
  replace x1 := x1.trans x2
  clear x2
  go_wp2_with fail
  obtain ⟨b1, x2⟩ := alloc1 w4 25 #[.int .i64 e1.at_, .int .i64 e1.del, .slice A1 e1.ins.length c1]
  refine (pick_any _ _ n 2 _ _ (hn.ext x2) (by omega) (by omega) (by omega)).mono ?_
  rintro e w5 h1
  obtain ⟨rfl, x3⟩ := h1.v
  clear h1
  have hz4 := b1.lt
  replace hn := hn.ext x2; replace iT := iT.ext x2; replace i1 := i1.ext x2
  replace hn := hn.ext x3; replace iT := iT.ext x3; replace i1 := i1.ext x3; replace b1 := b1.ext x3
  replace x1 := (x1.trans x2).trans x3
  clear x2 x3
  go_wp2_with fail
  refine (pick_any _ _ n 3 _ _ hn (by omega) (by omega) (by omega)).mono ?_
  rintro e w6 h1
  obtain ⟨rfl, x2⟩ := h1.v
  clear h1
  replace hn := hn.ext x2; replace iT := iT.ext x2; replace i1 := i1.ext x2; replace b1 := b1.ext x2
  replace x1 := x1.trans x2
  clear x2
  go_wp2_with fail
  refine (rEdit_any t.length _ _ _ (by omega) (pick_wf _ _) (pick_wf _ _)).mono ?_
  rintro e w7 ⟨A2, c2, rfl, i2, x2, _⟩
  have he2 : EdOf t.length (redit t.length (pick n 2 1048576) (pick n 3 1048576)) := ⟨(redit_bd _ _ _ (by omega)).1, (redit_bd _ _ _ (by omega)).2.1, (redit_bd _ _ _ (by omega)).2.2, (redit_ins _ _ _).1⟩
  have hi2 := (redit_ins t.length (pick n 2 1048576) (pick n 3 1048576)).2
  generalize redit t.length (pick n 2 1048576) (pick n 3 1048576) = e2 at *
  replace iT := iT.ext x2; replace i1 := i1.ext x2; replace b1 := b1.ext x2
  replace x1 := x1.trans x2
  clear x2 hn
  generalize hg1 : w4.heap.size = g1 at *
  clear hg1
  have F1 := Lib.hid (formed_of he1 (by omega) (by omega))
  have F2 := Lib.hid (formed_of he2 (by omega) (by omega))
  have S1 := spliceE_len he1
  have S2 := spliceE_len he2
  have M1 := moved_of he1 he2 S2
  have M2 := moved_of he2 he1 S1
  have ER1 := Lib.hid (editErr_zero he1 (by omega))
  have ER2 := Lib.hid (editErr_zero he2 (by omega))
  have ER3 := Lib.hid (editErr_zero M1 (by have := he2.2.1; simp only [movedE]; omega))
  have ER4 := Lib.hid (editErr_zero M2 (by have := he1.2.1; simp only [movedE]; omega))
  have bd1 := he1.1
  have bd2 := he1.2.1
  have bd3 := he1.2.2.1
  have bd4 := he2.1
  have bd5 := he2.2.1
  have bd6 := he2.2.2.1
  have I1 : I64 e1.del := I64_of (by omega)
  have I2 : I64 e2.del := I64_of (by omega)
  have I3 : I64 (movedE e1 e2).del := I64_of (by have := M1.1; have := M1.2.1; have := M1.2.2.1; omega)
  have I4 : I64 (movedE e2 e1).del := I64_of (by have := M2.1; have := M2.2.1; have := M2.2.2.1; omega)
  have L1 := Lib.hid (show (spliceE t e1).length ≤ 1099511627776 ∧ (spliceE t e2).length ≤ 1099511627776 ∧ t.length ≤ 1099511627776 ∧ e1.ins.length ≤ 1099511627776 ∧ e2.ins.length ≤ 1099511627776 by omega)
  have hap : e1.at_ + e1.del < e2.at_ ∨ e2.at_ + e2.del < e1.at_ → spliceE (spliceE t e2) (movedE e1 e2) = spliceE (spliceE t e1) (movedE e2 e1) := by
    rintro (h | h)
    · exact apart_same he1 he2 h
    · exact (apart_same he2 he1 h).symm
  have HAP := Lib.hid hap
  clear hap S1 S2 M1 M2 he1 he2 hi1 hi2 ts
  obtain ⟨p0, p1, p2, _, _, _, pz⟩ := b1.c3
  go_wp2_with fail
  obtain ⟨b2, x2⟩ := alloc1 w7 25 #[.int .i64 e2.at_, .int .i64 e2.del, .slice A2 e2.ins.length c2]
  have hz7 := b2.lt
  replace iT := iT.ext x2; replace i1 := i1.ext x2; replace b1 := b1.ext x2; replace i2 := i2.ext x2
  replace x1 := x1.trans x2
  clear p0 p1 p2 pz
  refine (move_ok e1 e2 _ _ _ _ _ i1 i2 F1.out F2.out).mono ?_
  rintro e w8 ⟨A3, c3, rfl, i3, x3, _⟩
  replace iT := iT.ext x3; replace i1 := i1.ext x3; replace b1 := b1.ext x3; replace i2 := i2.ext x3; replace b2 := b2.ext x3
  replace x1 := x1.trans x3
  generalize hg2 : w7.heap.size = g2 at *
  clear x2 x3 hg2
  obtain ⟨p0, p1, p2, _, _, _, pz⟩ := b1.c3
  obtain ⟨q0, q1, q2, _, _, _, qz⟩ := b2.c3
  go_wp2_with fail
  obtain ⟨b3, x2⟩ := alloc1 w8 25 #[.int .i64 (movedE e1 e2).at_, .int .i64 (movedE e1 e2).del, .slice A3 (movedE e1 e2).ins.length c3]
  replace iT := iT.ext x2; replace i1 := i1.ext x2; replace b1 := b1.ext x2; replace i2 := i2.ext x2; replace b2 := b2.ext x2; replace i3 := i3.ext x2
  replace x1 := x1.trans x2
  clear p0 p1 p2 q0 q1 q2 x2
  refine (move_ok e2 e1 _ _ _ _ _ i2 i1 F2.out F1.out).mono ?_
  rintro e w9 ⟨A4, c4, rfl, i4, x3, _⟩
  replace iT := iT.ext x3; replace i1 := i1.ext x3; replace b1 := b1.ext x3; replace i2 := i2.ext x3; replace b2 := b2.ext x3; replace i3 := i3.ext x3; replace b3 := b3.ext x3
  replace x1 := x1.trans x3
  generalize hg3 : w8.heap.size = g3 at *
  clear x3 hg3
  obtain ⟨p0, p1, p2, _, _, _, _⟩ := b1.c3
  obtain ⟨q0, q1, q2, _, _, _, _⟩ := b2.c3
  go_wp2_with fail
  obtain ⟨b4, x2⟩ := alloc1 w9 25 #[.int .i64 (movedE e2 e1).at_, .int .i64 (movedE e2 e1).del, .slice A4 (movedE e2 e1).ins.length c4]
  replace iT := iT.ext x2; replace i1 := i1.ext x2; replace b1 := b1.ext x2; replace i2 := i2.ext x2; replace b2 := b2.ext x2; replace i3 := i3.ext x2; replace b3 := b3.ext x2; replace i4 := i4.ext x2
  replace x1 := x1.trans x2
  clear p0 p1 p2 q0 q1 q2 x2
  refine (splice_ok _ _ t e2.at_ e2.del _ _ e2.ins _ iT i2 I2 L1.out.2.2.1 L1.out.2.2.2.2 ER2.out).mono ?_
  rintro e w10 ⟨A5, c5, rfl, i5, x3, _⟩
  replace iT := iT.ext x3; replace i1 := i1.ext x3; replace b1 := b1.ext x3; replace i2 := i2.ext x3; replace b2 := b2.ext x3; replace i3 := i3.ext x3; replace b3 := b3.ext x3; replace i4 := i4.ext x3; replace b4 := b4.ext x3
  replace x1 := x1.trans x3
  generalize hg4 : w9.heap.size = g4 at *
  clear x3 hg4
  obtain ⟨p0, p1, p2, _, _, _, _⟩ := b1.c3
  go_wp2_with fail
  refine (splice_ok _ _ t e1.at_ e1.del _ _ e1.ins _ iT i1 I1 L1.out.2.2.1 L1.out.2.2.2.1 ER1.out).mono ?_
  rintro e w11 ⟨A6, c6, rfl, i6, x3, _⟩
  replace iT := iT.ext x3; replace i1 := i1.ext x3; replace b1 := b1.ext x3; replace i2 := i2.ext x3; replace b2 := b2.ext x3; replace i3 := i3.ext x3; replace b3 := b3.ext x3; replace i4 := i4.ext x3; replace b4 := b4.ext x3; replace i5 := i5.ext x3
  replace x1 := x1.trans x3
  clear x3 p0 p1 p2
  obtain ⟨p0, p1, p2, _, _, _, _⟩ := b3.c3
  go_wp2_with fail
  refine (splice_ok _ _ (spliceE t e2) (movedE e1 e2).at_ (movedE e1 e2).del _ _ (movedE e1 e2).ins _ i5 i3 I3 L1.out.2.1 L1.out.2.2.2.1 ER3.out).mono ?_
  rintro e w12 ⟨A7, c7, rfl, i7, x3, _⟩
  replace iT := iT.ext x3; replace i1 := i1.ext x3; replace b1 := b1.ext x3; replace i2 := i2.ext x3; replace b2 := b2.ext x3; replace i3 := i3.ext x3; replace b3 := b3.ext x3; replace i4 := i4.ext x3; replace b4 := b4.ext x3; replace i5 := i5.ext x3; replace i6 := i6.ext x3
  replace x1 := x1.trans x3
  clear x3 p0 p1 p2
  obtain ⟨p0, p1, p2, _, _, _, _⟩ := b4.c3
  go_wp2_with fail
  refine (splice_ok _ _ (spliceE t e1) (movedE e2 e1).at_ (movedE e2 e1).del _ _ (movedE e2 e1).ins _ i6 i4 I4 L1.out.1 L1.out.2.2.2.2 ER4.out).mono ?_
  rintro e w13 ⟨A8, c8, rfl, i8, x3, _⟩
  replace iT := iT.ext x3; replace i1 := i1.ext x3; replace b1 := b1.ext x3; replace i2 := i2.ext x3; replace b2 := b2.ext x3; replace i3 := i3.ext x3; replace b3 := b3.ext x3; replace i4 := i4.ext x3; replace b4 := b4.ext x3; replace i5 := i5.ext x3; replace i6 := i6.ext x3; replace i7 := i7.ext x3
  replace x1 := x1.trans x3
  clear x3 p0 p1 p2
  obtain ⟨p0, p1, p2, _, _, _, _⟩ := b1.c3
  obtain ⟨q0, q1, q2, _, _, _, _⟩ := b2.c3
  change IL _ _ _ (spliceE (spliceE t e2) (movedE e1 e2)) at i7
  change IL _ _ _ (spliceE (spliceE t e1) (movedE e2 e1)) at i8
  have HL7 : (spliceL (spliceE t e2) (movedE e1 e2).at_ (movedE e1 e2).del (movedE e1 e2).ins) = spliceE (spliceE t e2) (movedE e1 e2) := rfl
  have HL8 : (spliceL (spliceE t e1) (movedE e2 e1).at_ (movedE e2 e1).del (movedE e2 e1).ins) = spliceE (spliceE t e1) (movedE e2 e1) := rfl
  rw [HL7, HL8] at *
  have hap := HAP.out
  clear HAP HL7 HL8 ER1 ER2 ER3 ER4 L1
  generalize spliceE (spliceE t e2) (movedE e1 e2) = s1 at *
  generalize spliceE (spliceE t e1) (movedE e2 e1) = s2 at *
  have HAP := Lib.hid hap
  clear hap
  by_cases h1 : e1.at_ + e1.del < e2.at_
  · obtain rfl := HAP.out (.inl h1)
    go_wp2_with fail
    refine (sameInts_any _ _ _ _ _ _ _ i7 i8).mono ?_
    rintro e w14 h3
    obtain ⟨rfl, x3⟩ := h3.v
    clear h3
    rw [beq_self_eq_true]
    go_wp2_with fail
    refine (lives_any _).mono ?_
    rintro e w15 ⟨rfl, x4⟩
    go_wp2
    go_ret
    exact ⟨rfl, (x1.trans x3).trans x4⟩
  · by_cases h2 : e2.at_ + e2.del < e1.at_
    · obtain rfl := HAP.out (.inr h2)
      go_wp2_with fail
      refine (sameInts_any _ _ _ _ _ _ _ i7 i8).mono ?_
      rintro e w14 h3
      obtain ⟨rfl, x3⟩ := h3.v
      clear h3
      rw [beq_self_eq_true]
      go_wp2_with fail
      refine (lives_any _).mono ?_
      rintro e w15 ⟨rfl, x4⟩
      go_wp2
      go_ret
      exact ⟨rfl, (x1.trans x3).trans x4⟩
    · go_wp2_with fail
      refine (lives_any _).mono ?_
      rintro e w15 ⟨rfl, x4⟩
      go_wp2
      go_ret
      exact ⟨rfl, x1.trans x4⟩
end Go.Proofs.Ythhfjomjjhenkaa
