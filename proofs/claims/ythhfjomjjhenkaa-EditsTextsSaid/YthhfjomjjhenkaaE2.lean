/- Walks of the tests of edits: well-formed, the same; extents. -/
import Derived.Test.YthhfjomjjhenkaaE1
namespace Go.Proofs.Ythhfjomjjhenkaa
open Go.RowKit

def symOk (x : Int) : Bool := decide (0 ≤ x) && decide (x ≤ 1114111)
def formedN (at_ del : Int) (n : Nat) : Bool := decide (0 ≤ at_) && decide (at_ ≤ 65536) && decide (0 ≤ del) && decide (del ≤ 65536) && decide (n ≤ 65536)
def formed (at_ del : Int) (ins : List Int) : Bool := formedN at_ del ins.length && ins.all symOk

/-- the edit '.agg #[at, del, slice]' -/
def vEdit (at_ del : Int) (A : Option Addr) (n c : Nat) : Value := .agg #[.int .i64 at_, .int .i64 del, .slice A n c]

theorem formed_no {a d : Int} {l : List Int} (h : formedN a d l.length = false) : formed a d l = false := by simp [formed, h]
theorem formedN_t {a d : Int} {n : Nat} (h : formedN a d n = true) : 0 ≤ a ∧ a ≤ 65536 ∧ 0 ≤ d ∧ d ≤ 65536 ∧ n ≤ 65536 := by
  simp only [formedN, Bool.and_eq_true, decide_eq_true_eq] at h; omega
theorem formedN_f {a d : Int} {n : Nat} (h : formedN a d n = false) : a < 0 ∨ 65536 < a ∨ d < 0 ∨ 65536 < d ∨ 65536 < n := by
  simp only [formedN, Bool.and_eq_false_iff, decide_eq_false_iff_not] at h; omega
theorem all_take_succ (l : List Int) (k : Nat) (h : k < l.length) (h1 : (l.take k).all symOk = true) (h2 : symOk l[k] = true) : (l.take (k+1)).all symOk = true := by
  rw [List.take_succ_eq_append_getElem h, List.all_append, h1]; simp [h2]
theorem all_bad (l : List Int) (k : Nat) (h : k < l.length) (h2 : symOk l[k] = false) : l.all symOk = false := by
  rw [List.all_eq_false]; exact ⟨l[k], List.getElem_mem h, by simp [h2]⟩
theorem symOk_t {x : Int} (h : symOk x = true) : 0 ≤ x ∧ x ≤ 1114111 := by simpa [symOk] using h
theorem symOk_f {x : Int} (h : symOk x = false) : x < 0 ∨ 1114111 < x := by
  simp only [symOk, Bool.and_eq_false_iff, decide_eq_false_iff_not] at h; omega

theorem formed_ret {a d : Int} {l : List Int} (h : a < 0 ∨ 65536 < a ∨ d < 0 ∨ 65536 < d ∨ 65536 < (l.length : Int)) : Ending.returned (.bool false) = .returned (.bool (formed a d l)) := by
  rw [formed_no]
  simp only [formedN, Bool.and_eq_false_iff, decide_eq_false_iff_not]; omega
theorem formed_ret_bad {a d : Int} {l : List Int} (k : Nat) (h : k < l.length) (h2 : l[k] < 0 ∨ 1114111 < l[k]) : Ending.returned (.bool false) = .returned (.bool (formed a d l)) := by
  have e : symOk l[k] = false := by simp only [symOk, Bool.and_eq_false_iff, decide_eq_false_iff_not]; omega
  simp [formed, all_bad l k h e]
theorem formed_ret_ok {a d : Int} {l : List Int} (h : (((0 ≤ a ∧ a ≤ 65536) ∧ 0 ≤ d) ∧ d ≤ 65536) ∧ (l.length : Int) ≤ 65536) (h2 : l.all symOk = true) : Ending.returned (.bool true) = .returned (.bool (formed a d l)) := by
  have e : formedN a d l.length = true := by
    simp only [formedN, Bool.and_eq_true, decide_eq_true_eq]; omega
  simp [formed, e, h2]
theorem symOk_mk {x : Int} (h : 0 ≤ x) (h' : x ≤ 1114111) : symOk x = true := by simp [symOk, h, h']

set_option maxHeartbeats 1000000 in
theorem wellFormed_any (at_ del : Int) (A : Option Addr) (c : Nat) (l : List Int) (w : World) (hl : IL w A c l) :
    Calls Try.prog 43 #[.agg #[.int .i64 at_, .int .i64 del, .slice A l.length c]] w (RetV (.bool (formed at_ del l)) w) := by
  obtain ⟨a1, a2⟩ := hl.len
  go_enter Try.func43, Try.ntmps43
  go_wp2
  all_goals try (go_ret; exact ⟨formed_ret (by omega), Ext.alloc _ _⟩)
  have ho : (((0 ≤ at_ ∧ at_ ≤ 65536) ∧ 0 ≤ del) ∧ del ≤ 65536) ∧ (l.length : Int) ≤ 65536 := by assumption
  go_loop [32] (fun i => ∃ k : Nat, k ≤ l.length ∧ i = .int .i64 k ∧ Hid ((l.take k).all symOk = true)) (fun i => l.length - (intOf i).toNat)
  case atStart => exact ⟨0, Nat.zero_le _, rfl, rfl⟩
  case round =>
    obtain ⟨k, hk, rfl, ht⟩ := hrel
    by_cases hlt : k < l.length
    · obtain ⟨p1, o1, rfl, g1⟩ := hl.get hlt
      have hb := World.block_lt_of_cell? _ _ g1
      have hlt2 : (k : Int) < l.length := by omega
      go_wp2
      all_goals first
        | (go_ret; exact ⟨formed_ret_bad k hlt (by omega), Ext.alloc _ _⟩)
        | (have hs : symOk l[k] = true := symOk_mk (by omega) (by omega)
           go_round
           case rel => exact ⟨k + 1, by omega, by go_num, all_take_succ l k hlt ht.out hs⟩
           case measure => simp [intOf]; omega)
    · go_wp2
      go_ret
      have h1 := ht.out
      rw [List.take_of_length_le (by omega)] at h1
      exact ⟨formed_ret_ok ho h1, Ext.alloc _ _⟩

set_option maxHeartbeats 1000000 in
theorem rFormed_any (at_ del : Int) (A : Option Addr) (c : Nat) (l : List Int) (w : World) (hl : IL w A c l) :
    Calls Try.prog 14 #[.agg #[.int .i64 at_, .int .i64 del, .slice A l.length c]] w (RetV (.bool (formed at_ del l)) w) := by
  obtain ⟨a1, a2⟩ := hl.len
  go_enter Try.func14, Try.ntmps14
  go_wp2
  all_goals try (go_ret; exact ⟨formed_ret (by omega), Ext.alloc _ _⟩)
  have ho : (((0 ≤ at_ ∧ at_ ≤ 65536) ∧ 0 ≤ del) ∧ del ≤ 65536) ∧ (l.length : Int) ≤ 65536 := by assumption
  go_loop [3] (fun i => ∃ k : Nat, k ≤ l.length ∧ i = .int .i64 k ∧ Hid ((l.take k).all symOk = true)) (fun i => l.length - (intOf i).toNat)
  case atStart => exact ⟨0, Nat.zero_le _, rfl, rfl⟩
  case round =>
    obtain ⟨k, hk, rfl, ht⟩ := hrel
    by_cases hlt : k < l.length
    · obtain ⟨p1, o1, rfl, g1⟩ := hl.get hlt
      have hb := World.block_lt_of_cell? _ _ g1
      have hlt2 : (k : Int) < l.length := by omega
      go_wp2
      all_goals first
        | (go_ret; exact ⟨formed_ret_bad k hlt (by omega), Ext.alloc _ _⟩)
        | (have hs : symOk l[k] = true := symOk_mk (by omega) (by omega)
           go_round
           case rel => exact ⟨k + 1, by omega, by go_num, all_take_succ l k hlt ht.out hs⟩
           case measure => simp [intOf]; omega)
    · go_wp2
      go_ret
      have h1 := ht.out
      rw [List.take_of_length_le (by omega)] at h1
      exact ⟨formed_ret_ok ho h1, Ext.alloc _ _⟩

theorem edit_beq (a a' d d' : Int) (l l' : List Int) : (a == a' && (d == d' && l == l')) = decide (a = a' ∧ d = d' ∧ l = l') := by
  rw [Bool.eq_iff_iff]; simp

set_option maxHeartbeats 1000000 in
theorem sameEdit_any (a d a' d' : Int) (A B : Option Addr) (c c' : Nat) (l l' : List Int) (w : World) (hl : IL w A c l) (hl' : IL w B c' l') :
    Calls Try.prog 15 #[.agg #[.int .i64 a, .int .i64 d, .slice A l.length c], .agg #[.int .i64 a', .int .i64 d', .slice B l'.length c']] w (RetV (.bool (decide (a = a' ∧ d = d' ∧ l = l'))) w) := by
  have E2 := (Ext.alloc w (.cells #[.int .i64 a, .int .i64 d, .slice A l.length c] 25)).trans (Ext.alloc _ (.cells #[.int .i64 a', .int .i64 d', .slice B l'.length c'] 25))
  by_cases h1 : a = a'
  · by_cases h2 : d = d'
    · subst h1 h2
      have e : decide (a = a ∧ d = d ∧ l = l') = (l == l') := by rw [Bool.eq_iff_iff]; simp
      rw [e]
      clear e
      go_enter Try.func15, Try.ntmps15
      go_wp2_with fail
      refine (sameInts_any _ _ _ _ _ _ _ (hl.ext E2) (hl'.ext E2)).mono ?_
      rintro e w1 ⟨rfl, n, rfl⟩
      go_wp2
      go_ret
      exact ⟨rfl, E2.trans (Ext.drewN _ _)⟩
    · subst h1
      have e : decide (a = a ∧ d = d' ∧ l = l') = false := by simp [h2]
      rw [e]
      clear e
      have h2' : (d == d') = false := by simp [h2]
      go_enter Try.func15, Try.ntmps15
      go_wp2
      go_ret
      exact ⟨rfl, E2⟩
  · have e : decide (a = a' ∧ d = d' ∧ l = l') = false := by simp [h1]
    rw [e]
    clear e
    have h2' : (a == a') = false := by simp [h1]
    go_enter Try.func15, Try.ntmps15
    go_wp2
    go_ret
    exact ⟨rfl, E2⟩
end Go.Proofs.Ythhfjomjjhenkaa
