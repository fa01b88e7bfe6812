/- The walks of the reference's Move and of edits.Move. -/
import Derived.Test.YthhfjomjjhenkaaE7
namespace Go.Proofs.Ythhfjomjjhenkaa
open Go.RowKit

theorem max0 (x : Int) : (if 0 < x then x else 0) = (if x < 0 then 0 else x) := by split <;> split <;> omega

set_option maxHeartbeats 1000000 in
theorem rMove_any (a d a' d' : Int) (A B : Option Addr) (c m c' : Nat) (n : Nat) (w : World) (h1 : 0 ≤ a ∧ 0 ≤ d ∧ a + d ≤ 288230376151711744) (h2 : 0 ≤ a' ∧ 0 ≤ d' ∧ a' + d' ≤ 288230376151711744) (hn : n ≤ 288230376151711744) :
    Calls Try.prog 16 #[.agg #[.int .i64 a, .int .i64 d, .slice A m c], .agg #[.int .i64 a', .int .i64 d', .slice B n c']] w
      (RetV (.agg #[.int .i64 (overOne (a, d) (a', d', n)).1, .int .i64 (overOne (a, d) (a', d', n)).2, .slice A m c]) w) := by
  have hb := beginM_bd (p := a) (a := a') (d := d') (n := n) (B := n) h1.1 h2.1 h2.2.1 (by omega) (by omega)
  have he := endM_bd (p := a + d) (a := a') (d := d') (n := n) (B := n) h2.1 h2.2.1 (by omega) (by omega) (by omega)
  have e1 : (overOne (a, d) (a', d', n)).1 = beginM a a' d' n := rfl
  have e2 : (overOne (a, d) (a', d', n)).2 = if 0 < d then (if endM (a + d) a' d' n - beginM a a' d' n < 0 then 0 else endM (a + d) a' d' n - beginM a a' d' n) else 0 := rfl
  rw [e1, e2]
  clear e1 e2
  generalize hq : beginM a a' d' n = q at *
  generalize hr : endM (a + d) a' d' n = r at *
  have HQ := Lib.hid hq
  have HR := Lib.hid hr
  clear hq hr
  obtain ⟨B2, B3, B4, X⟩ := alloc3 w 25 #[.int .i64 a, .int .i64 d, .slice A m c] 25 #[.int .i64 a', .int .i64 d', .slice B n c'] 25 #[.int .i64 0, .int .i64 0, .slice none 0 0]
  by_cases hd : 0 < d
  · rw [if_pos hd]
    generalize hx : (if r - q < 0 then 0 else r - q) = x
    have HX := Lib.hid hx
    clear hx
    go_enter Try.func16, Try.ntmps16
    go_wp2_with fail
    refine (rbegin_any _ _ _ _ _ _ _ ⟨by omega, by omega⟩ ⟨by omega, by omega⟩ ⟨by omega, by omega⟩ ⟨by omega, by omega⟩).mono ?_
    rintro e w1 ⟨rfl, hx1⟩
    rw [HQ.out]
    obtain ⟨p0, p1, p2, _, _, _, hz2⟩ := (B2.ext hx1).c3
    obtain ⟨q0, q1, q2, _, _, _, hz3⟩ := (B3.ext hx1).c3
    replace B4 := B4.ext hx1
    replace B2 := B2.ext hx1
    have X1 := X.trans hx1
    clear B3 X hx1
    go_wp2_with fail
    refine (rend_any _ _ _ _ _ _ _ ⟨by omega, by omega⟩ ⟨by omega, by omega⟩ ⟨by omega, by omega⟩ ⟨by omega, by omega⟩).mono ?_
    rintro e w2 ⟨rfl, hx2⟩
    rw [HR.out]
    clear p0 p1 p2 hz2 q0 q1 q2 hz3
    obtain ⟨p0, p1, p2, _, _, _, hz2⟩ := (B2.ext hx2).c3
    obtain ⟨r0, r1, r2, s0, s1, s2, hz4⟩ := (B4.ext hx2).c3
    have X2 := X1.trans hx2
    clear hx2 X1 B2 B4
    go_wp2
    all_goals exact bodyPost_ret (v := .agg #[.int .i64 q, .int .i64 x, .slice A m c]) (by have hx := HX.out; simp [results, Try.results16, go_sem, r0, r1, r2]; split at hx <;> omega) rfl ⟨rfl, ((X2.setNew (by simp; omega) _).setNew (by simp; omega) _).setNew (by simp; omega) _⟩
  · rw [if_neg hd]
    go_enter Try.func16, Try.ntmps16
    go_wp2_with fail
    refine (rbegin_any _ _ _ _ _ _ _ ⟨by omega, by omega⟩ ⟨by omega, by omega⟩ ⟨by omega, by omega⟩ ⟨by omega, by omega⟩).mono ?_
    rintro e w1 ⟨rfl, hx1⟩
    rw [HQ.out]
    obtain ⟨p0, p1, p2, _, _, _, hz2⟩ := (B2.ext hx1).c3
    obtain ⟨r0, r1, r2, s0, s1, s2, hz4⟩ := (B4.ext hx1).c3
    have X2 := X.trans hx1
    clear B3 X hx1 B2 B4
    go_wp2
    exact bodyPost_ret (v := .agg #[.int .i64 q, .int .i64 0, .slice A m c]) (by simp [results, Try.results16, go_sem, r0, r1, r2]) rfl ⟨rfl, ((X2.setNew (by simp; omega) _).setNew (by simp; omega) _).setNew (by simp; omega) _⟩
end Go.Proofs.Ythhfjomjjhenkaa
