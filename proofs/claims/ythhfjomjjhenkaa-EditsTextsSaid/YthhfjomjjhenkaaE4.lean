/- The walk of edits.over. -/
import Derived.Test.YthhfjomjjhenkaaE3
namespace Go.Proofs.Ythhfjomjjhenkaa
open Go.RowKit

set_option maxHeartbeats 1000000 in
theorem over_any (a d n : Int) (A : Option Addr) (c : Nat) (l : List (Int × Int × Int)) (w : World) (hl : XL w A c l) (B : Int) (hB : B ≤ 576460752303423488) (hB0 : 0 ≤ B)
    (h0 : 0 ≤ a ∧ 0 ≤ d) (hs : a + d + l.length * B ≤ 576460752303423488) (hy : ∀ y ∈ l, 0 ≤ y.1 ∧ 0 ≤ y.2.1 ∧ 0 ≤ y.2.2 ∧ y.1 + y.2.1 ≤ 576460752303423488 ∧ y.2.2 ≤ B) :
    Calls Try.prog 44 #[.agg #[.int .i64 a, .int .i64 d, .int .i64 n], .slice A l.length c] w (RetV (.agg #[.int .i64 (overAll (a, d) l).1, .int .i64 (overAll (a, d) l).2, .int .i64 n]) w) := by
  obtain ⟨a1, a2⟩ := (⟨hl.le, by have := hl.cap; unfold maxLen at this; omega⟩ : l.length ≤ c ∧ c ≤ 9223372036854775807)
  go_enter Try.func44, Try.ntmps44
  go_wp2
  go_loopw [11] (fun i wr => ∃ k : Nat, k ≤ l.length ∧ i = .int .i64 k ∧ Ext w wr ∧ (∃ a' d' : Int, Hid (overAll (a, d) (l.take k) = (a', d')) ∧ 0 ≤ a' ∧ 0 ≤ d' ∧ a' + d' ≤ a + d + k * B ∧ Blk wr w.heap.size 81 #[.int .i64 a', .int .i64 d', .int .i64 n]) ∧
    Blk wr (w.heap.size + 1) 81 #[.int .i64 0, .int .i64 0, .int .i64 0]) (fun i _ => l.length - (intOf i).toNat)
  case atStart => exact ⟨0, Nat.zero_le _, rfl, (Ext.alloc _ _).trans (Ext.alloc _ _), ⟨a, d, rfl, h0.1, h0.2, by simp, (Blk.new _ _ _).alloc _⟩, by simpa using Blk.new (w.alloc _) _ _⟩
  case round =>
    obtain ⟨k, hk, rfl, hext, ⟨a', d', hov, ha', hd', hsum, hb0⟩, hb1⟩ := hrel
    obtain ⟨c0, c1, c2, f0, f1, f2, hz⟩ := hb0.c3
    obtain ⟨c0', c1', c2', f0', f1', f2', hz'⟩ := hb1.c3
    by_cases hlt : k < l.length
    · obtain ⟨p1, o1, rfl, g1⟩ := hl.at_ (by intro h; subst h; simp at hlt)
      obtain ⟨g1, g2, g3⟩ := g1 k hlt
      have hin := hy l[k] (List.getElem_mem hlt)
      have hbd := overOne_bd (x := (a', d')) (y := l[k]) (B := B) (S := a + d + k * B) ⟨ha', hd'⟩ hsum ⟨hin.1, hin.2.1, hin.2.2.1, hin.2.2.2.2⟩
      have hov' := overAll_succ (a, d) l k hlt
      rw [hov.out] at hov'
      replace hov' := Lib.hid hov'
      clear hov
      generalize l[k] = y at *
      obtain ⟨y1, y2, y3⟩ := y
      simp only at g1 g2 g3 hin hbd
      have hp1 := World.block_lt_of_cell? _ _ g1
      have hlt2 : (k : Int) < l.length := by omega
      replace g1 := hext.cell g1
      replace g2 := hext.cell g2
      replace g3 := hext.cell g3
      have hkB : (k : Int) * B ≤ l.length * B := Int.mul_le_mul_of_nonneg_right (by omega) hB0
      have bA : a' + d' ≤ 576460752303423488 := by omega
      have hb := beginM_bd (p := a') (a := y1) (d := y2) (n := y3) (B := B) ha' hin.1 hin.2.1 hin.2.2.1 hin.2.2.2.2
      have he := endM_bd (p := a' + d') (a := y1) (d := y2) (n := y3) (B := B) hin.1 hin.2.1 hin.2.2.1 hin.2.2.2.2 (by omega)
      have hs1 : (a + d + k * B) + B = a + d + ((k + 1 : Nat) : Int) * B := by rw [Int.natCast_add, Int.add_mul]; omega
      rw [hs1] at hbd
      clear hsum hs hs1 hkB hy
      by_cases hd0 : 0 < d'
      · have eo : overOne (a', d') (y1, y2, y3) = (beginM a' y1 y2 y3, if endM (a' + d') y1 y2 y3 - beginM a' y1 y2 y3 < 0 then 0 else endM (a' + d') y1 y2 y3 - beginM a' y1 y2 y3) := by simp [overOne, hd0]
        have hov2 := hov'.out
        rw [eo] at hov2 hbd
        clear eo hov'
        generalize hq : beginM a' y1 y2 y3 = q at *
        generalize hr : endM (a' + d') y1 y2 y3 = r at *
        replace hov2 := Lib.hid hov2
        replace hq := Lib.hid hq
        replace hr := Lib.hid hr
        go_wp2_with fail
        refine (xbegin_any _ _ _ _ _ ⟨by omega, by omega⟩ ⟨by omega, by omega⟩ ⟨by omega, by omega⟩ ⟨by omega, by omega⟩).mono ?_
        rintro e w1 ⟨rfl, hx1⟩
        rw [hq.out]
        have E1 := (Ext.alloc wr (.cells #[.int .i64 y1, .int .i64 y2, .int .i64 y3] 81)).trans hx1
        obtain ⟨d0, d1, d2, _, _, _, hz1⟩ := ((Blk.new wr 81 #[.int .i64 y1, .int .i64 y2, .int .i64 y3]).ext hx1).c3
        obtain ⟨c10, c11, c12, f10, f11, f12, hz10⟩ := (hb0.ext E1).c3
        clear c0 c1 c2 f0 f1 f2
        go_wp2_with fail
        refine (xend_any _ _ _ _ _ ⟨by omega, by omega⟩ ⟨by omega, by omega⟩ ⟨by omega, by omega⟩ ⟨by omega, by omega⟩).mono ?_
        rintro e w2 ⟨rfl, hx2⟩
        rw [hr.out]
        obtain ⟨c20, c21, c22, f20, f21, f22, hz20⟩ := ((hb0.ext E1).ext hx2).c3
        clear c10 c11 c12 f10 f11 f12
        go_wp2
        have hbe := ((hb0.ext E1).ext hx2).set 0 (.int .i64 q) |>.set 1 (.int .i64 (if r - q < 0 then 0 else r - q))
        have hb1e := (((hb1.ext E1).ext hx2).far (p := ⟨w.heap.size, 0, none⟩) (by simp) (.int .i64 q)).far (p := ⟨w.heap.size, 1, none⟩) (by simp) (.int .i64 (if r - q < 0 then 0 else r - q))
        have hee := ((hext.trans (E1.trans hx2)).setNew (p := ⟨w.heap.size, 0, none⟩) (Nat.le_refl _) (.int .i64 q)).setNew (p := ⟨w.heap.size, 1, none⟩) (Nat.le_refl _) (.int .i64 (if r - q < 0 then 0 else r - q))
        go_roundw
        case rel => exact ⟨k + 1, by omega, by go_num, hee, ⟨_, _, hov2, hbd.1, hbd.2.1, hbd.2.2, hbe⟩, hb1e⟩
        case measure => simp [intOf]; omega
      · have eo : overOne (a', d') (y1, y2, y3) = (beginM a' y1 y2 y3, 0) := by simp [overOne, hd0]
        have hov2 := hov'.out
        rw [eo] at hov2 hbd
        clear eo hov' he
        generalize hq : beginM a' y1 y2 y3 = q at *
        replace hov2 := Lib.hid hov2
        replace hq := Lib.hid hq
        go_wp2_with fail
        refine (xbegin_any _ _ _ _ _ ⟨by omega, by omega⟩ ⟨by omega, by omega⟩ ⟨by omega, by omega⟩ ⟨by omega, by omega⟩).mono ?_
        rintro e w1 ⟨rfl, hx1⟩
        rw [hq.out]
        have E1 := (Ext.alloc wr (.cells #[.int .i64 y1, .int .i64 y2, .int .i64 y3] 81)).trans hx1
        obtain ⟨c10, c11, c12, f10, f11, f12, hz10⟩ := (hb0.ext E1).c3
        clear c0 c1 c2 f0 f1 f2
        go_wp2
        have hbe := (hb0.ext E1).set 0 (.int .i64 q) |>.set 1 (.int .i64 0)
        have hb1e := ((hb1.ext E1).far (p := ⟨w.heap.size, 0, none⟩) (by simp) (.int .i64 q)).far (p := ⟨w.heap.size, 1, none⟩) (by simp) (.int .i64 0)
        have hee := ((hext.trans E1).setNew (p := ⟨w.heap.size, 0, none⟩) (Nat.le_refl _) (.int .i64 q)).setNew (p := ⟨w.heap.size, 1, none⟩) (Nat.le_refl _) (.int .i64 0)
        go_roundw
        case rel => exact ⟨k + 1, by omega, by go_num, hee, ⟨_, _, hov2, hbd.1, hbd.2.1, hbd.2.2, hbe⟩, hb1e⟩
        case measure => simp [intOf]; omega
    · go_wp2
      have hk' : k = l.length := by omega
      subst hk'
      have ho := hov.out
      rw [List.take_length] at ho
      rw [ho]
      exact bodyPost_ret (v := .agg #[.int .i64 a', .int .i64 d', .int .i64 n]) (by simp [results, Try.results44, go_sem, c0', c1', c2']) rfl ⟨rfl, ((hext.setNew (by simp) _).setNew (by simp) _).setNew (by simp) _⟩
end Go.Proofs.Ythhfjomjjhenkaa
