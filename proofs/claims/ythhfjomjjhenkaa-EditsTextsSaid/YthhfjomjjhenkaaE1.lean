/- Walks of the small functions under package edits: numbers, and tests of an edit. -/
import Derived.Test.YthhfjomjjhenkaaRows
import Derived.Test.YthhfjomjjhenkaaBase
import Derived.WalkLawsBesides
import Derived.Deep.QuietTactic
import Derived.BigQuiet
namespace Go.Proofs.Ythhfjomjjhenkaa
open Go.RowKit

def around (n m : Int) : Int := (if n < 0 then -(n+1) else n) % m

theorem around_bd (n m : Int) (h : 1 ≤ m) : 0 ≤ around n m ∧ around n m < m :=
  ⟨Int.emod_nonneg _ (by omega), Int.emod_lt_of_pos _ (by omega)⟩

set_option maxHeartbeats 400000 in
theorem around_any (n m : Int) (w : World) (hn : I64 n) (h0 : 1 ≤ m) (h1 : m ≤ 4294967296) :
    Calls Try.prog 10 #[.int .i64 n, .int .i64 m] w (RetQ (.int .i64 (around n m)) w) := by
  obtain ⟨h2, h3⟩ := hn
  by_cases h : n < 0
  · have e : around n m = -(n + 1) % m := by simp [around, h]
    have E := Lib.hid e
    clear e
    have h4 : -(n + 1) ≥ 0 := by omega
    go_enter Try.func10, Try.ntmps10
    go_wp2
    go_ret
    refine ⟨?_, 0, rfl⟩
    rw [E.out]
    show Ending.returned (Value.int IntKind.i64 _) = _
    rw [← Int.neg_tmod, Int.tmod_eq_emod_of_nonneg h4]
  · have e : around n m = n % m := by simp [around, h]
    have E := Lib.hid e
    clear e
    go_enter Try.func10, Try.ntmps10
    go_wp2
    go_ret
    exact ⟨by rw [E.out]; rfl, 0, rfl⟩

def pick (l : List Int) (i : Nat) (m : Int) : Int := if h : i < l.length then around l[i] m else 0

set_option maxHeartbeats 400000 in
theorem pick_any (A : Option Addr) (c : Nat) (l : List Int) (i : Nat) (m : Int) (w : World) (hl : IL w A c l) (h0 : 1 ≤ m) (h1 : m ≤ 4294967296) (hi : i ≤ 9223372036854775807) :
    Calls Try.prog 12 #[.slice A l.length c, .int .i64 i, .int .i64 m] w (RetQ (.int .i64 (pick l i m)) w) := by
  obtain ⟨hlen, hcap⟩ := hl.len
  by_cases h : i < l.length
  · obtain ⟨b, o, rfl, hc⟩ := hl.get h
    have hw := hl.wf h
    have e : pick l i m = around l[i] m := by simp [pick, h]
    have E := Lib.hid e
    clear e
    have hlt : (i : Int) < l.length := by omega
    go_enter Try.func12, Try.ntmps12
    go_wp2_with (go_at_call 10; refine (around_any _ _ _ hw h0 h1).mono ?_; rintro e w1 ⟨rfl, n, rfl⟩)
    go_ret
    exact ⟨by rw [E.out]; rfl, n, rfl⟩
  · have e : pick l i m = 0 := by simp [pick, h]
    have E := Lib.hid e
    clear e
    go_enter Try.func12, Try.ntmps12
    go_wp2
    go_ret
    exact ⟨by rw [E.out]; rfl, 0, rfl⟩

theorem beq_take_succ (xs ys : List Int) (k : Nat) (h1 : k < xs.length) (h2 : k < ys.length) (h : xs.take k = ys.take k) (he : xs[k] = ys[k]) : xs.take (k+1) = ys.take (k+1) := by
  rw [List.take_succ_eq_append_getElem h1, List.take_succ_eq_append_getElem h2, h, he]

set_option maxHeartbeats 400000 in
theorem sameInts_any (A B : Option Addr) (c d : Nat) (xs ys : List Int) (w : World) (ha : IL w A c xs) (hb : IL w B d ys) :
    Calls Try.prog 24 #[.slice A xs.length c, .slice B ys.length d] w (RetQ (.bool (xs == ys)) w) := by
  obtain ⟨a1, a2⟩ := ha.len
  obtain ⟨b1, b2⟩ := hb.len
  by_cases hl : xs.length = ys.length
  · have hl2 : ((xs.length : Int) != (ys.length : Int)) = false := by simp [hl]
    have hl' : xs.length ≤ ys.length := by omega
    have hl'' : ys.length ≤ xs.length := by omega
    have HL := Lib.hid hl
    clear hl
    go_enter Try.func24, Try.ntmps24
    go_wp2
    go_loopw [5] (fun i wr => ∃ k : Nat, k ≤ xs.length ∧ i = .int .i64 k ∧ Hid (xs.take k = ys.take k) ∧ ∃ n, wr = w.drewN n) (fun i _ => xs.length - (intOf i).toNat)
    case atStart => exact ⟨0, Nat.zero_le _, rfl, rfl, 0, rfl⟩
    case round =>
      obtain ⟨k, hk, rfl, ht, n, rfl⟩ := hrel
      by_cases hlt : k < xs.length
      · obtain ⟨p1, o1, rfl, g1⟩ := ha.get hlt
        obtain ⟨p2, o2, rfl, g2⟩ := hb.get (show k < ys.length by omega)
        have hlt2 : (k : Int) < xs.length := by omega
        have hlt3 : (k : Int) < ys.length := by omega
        have hlt4 : k < ys.length := by omega
        by_cases he : xs[k] = ys[k]
        · have he' : (xs[k] != ys[k]) = false := by simp [he]
          have HT := Lib.hid (beq_take_succ xs ys k hlt (by omega) ht.out he)
          clear he
          go_wp2_with (go_quiet (fail))
          go_roundw
          case rel => exact ⟨k + 1, by omega, by go_num, HT.out, _, rfl⟩
          case measure => simp [intOf]; omega
        · have he' : (xs[k] != ys[k]) = true := by simp [he]
          have hne : (xs == ys) = false := by
            rw [beq_eq_false_iff_ne]; rintro rfl; exact he rfl
          have HN := Lib.hid hne
          clear he hne
          go_wp2_with (go_quiet (fail))
          go_ret
          exact ⟨by rw [HN.out]; rfl, _, by rw [World.drewN_drewN]⟩
      · have hne : (xs == ys) = true := by
          have h1 := ht.out
          rw [List.take_of_length_le (by omega), List.take_of_length_le (by omega)] at h1
          simp [h1]
        have HN := Lib.hid hne
        clear hne
        go_wp2
        go_ret
        exact ⟨by rw [HN.out]; rfl, _, rfl⟩
  · have hl2 : ((xs.length : Int) != (ys.length : Int)) = true := by simp; omega
    have hne : (xs == ys) = false := by
      rw [beq_eq_false_iff_ne]; rintro rfl; exact hl rfl
    have HN := Lib.hid hne
    clear hne hl
    go_enter Try.func24, Try.ntmps24
    go_wp2
    go_ret
    exact ⟨by rw [HN.out]; rfl, 0, rfl⟩
end Go.Proofs.Ythhfjomjjhenkaa
