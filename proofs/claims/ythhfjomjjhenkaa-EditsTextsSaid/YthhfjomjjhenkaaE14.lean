/- The walk of text.check and of the reference's Check: the error of an edit of a text. -/
import Derived.Test.YthhfjomjjhenkaaE2
namespace Go.Proofs.Ythhfjomjjhenkaa
open Go.RowKit

/-- the error of an edit of a text of n symbols -/
def editErr (n : Nat) (a d : Int) (ins : List Int) : Int :=
  if 0 ≤ a ∧ 0 ≤ d ∧ a ≤ n ∧ d ≤ n - a then (if ins.all symOk = true then (if 65536 < (n : Int) - d + ins.length then 4 else 0) else 5) else 5

theorem check1_any (x : Int) (w : World) : Calls Try.prog 68 #[.int .i64 x] w (RetV (.bool (!symOk x)) w) := by
  by_cases h1 : x < 0
  · have e : symOk x = false := by simp [symOk]; omega
    rw [e]
    go_enter Try.func68, Try.ntmps68
    go_wp2
    go_ret
    exact ⟨rfl, Ext.rfl' _⟩
  · by_cases h2 : 1114111 < x
    · have e : symOk x = false := by simp [symOk]; omega
      rw [e]
      go_enter Try.func68, Try.ntmps68
      go_wp2
      go_ret
      exact ⟨rfl, Ext.rfl' _⟩
    · have e : symOk x = true := by simp [symOk]; omega
      rw [e]
      go_enter Try.func68, Try.ntmps68
      go_wp2
      go_ret
      exact ⟨rfl, Ext.rfl' _⟩

theorem indexFunc_any (A : Option Addr) (c : Nat) (l : List Int) (w : World) (hl : IL w A c l) :
    Calls Try.prog 75 #[.slice A l.length c, .func (Fn.func 68) #[] #[]] w fun e w' => ∃ k : Int, e = .returned (.int .i64 k) ∧ (decide (0 ≤ k) = !l.all symOk) ∧ Ext w w' := by
  obtain ⟨a1, a2⟩ := hl.len
  go_enter Try.func75, Try.ntmps75
  go_wp2
  go_loopw [8] (fun i wr => ∃ k : Nat, k ≤ l.length ∧ i = .int .i64 k ∧ Hid ((l.take k).all symOk = true) ∧ Ext w wr) (fun i _ => l.length - (intOf i).toNat)
  case atStart => exact ⟨0, Nat.zero_le _, rfl, rfl, Ext.rfl' _⟩
  case round =>
    obtain ⟨k, hk, rfl, ht, hext⟩ := hrel
    by_cases hlt : k < l.length
    · obtain ⟨p1, o1, rfl, g1⟩ := hl.get hlt
      replace g1 := hext.cell g1
      have hb := World.block_lt_of_cell? _ _ g1
      have hlt2 : (k : Int) < l.length := by omega
      cases hs : symOk l[k] with
      | false =>
        have H := Lib.hid hs
        have hbad := all_bad l k hlt hs
        clear hs
        go_wp2_with fail
        refine (check1_any _ _).mono ?_
        rintro e w1 ⟨rfl, hx1⟩
        rw [H.out]
        go_wp2
        go_ret
        exact ⟨_, rfl, by rw [hbad]; simp, hext.trans hx1⟩
      | true =>
        have hs2 := Lib.hid (all_take_succ l k hlt ht.out hs)
        have H := Lib.hid hs
        clear hs ht
        go_wp2_with fail
        refine (check1_any _ _).mono ?_
        rintro e w1 ⟨rfl, hx1⟩
        rw [H.out]
        go_wp2
        go_roundw
        case rel => exact ⟨k + 1, by omega, by go_num, hs2, hext.trans hx1⟩
        case measure => simp [intOf]; omega
    · go_wp2
      go_ret
      have h1 := ht.out
      rw [List.take_of_length_le (by omega)] at h1
      exact ⟨_, rfl, by rw [h1]; simp, hext⟩

theorem containsFunc_any (A : Option Addr) (c : Nat) (l : List Int) (w : World) (hl : IL w A c l) :
    Calls Try.prog 67 #[.slice A l.length c, .func (Fn.func 68) #[] #[]] w (RetV (.bool (!l.all symOk)) w) := by
  go_enter Try.func67, Try.ntmps67
  go_wp2_with fail
  refine (indexFunc_any _ _ _ _ hl).mono ?_
  rintro e w1 ⟨k, rfl, hk, hx⟩
  rw [← hk]
  go_wp2
  go_ret
  exact ⟨rfl, hx⟩

set_option maxHeartbeats 1000000 in
theorem tcheck_any (T : Option Addr) (t tc : Nat) (a d : Int) (A : Option Addr) (c : Nat) (l : List Int) (w : World) (hl : IL w A c l) (_ht : t ≤ 9223372036854775807) (hlen : t + l.length ≤ 9223372036854775807) (hd : I64 d) :
    Calls Try.prog 50 #[.slice T t tc, .agg #[.int .i64 a, .int .i64 d, .slice A l.length c]] w (RetV (.int .i64 (editErr t a d l)) w) := by
  obtain ⟨d1, d2⟩ := hd
  by_cases h1 : a < 0
  · have e : editErr t a d l = 5 := by unfold editErr; rw [if_neg (by omega)]
    rw [e]; clear e
    go_enter Try.func50, Try.ntmps50
    go_wp2
    go_ret
    exact ⟨rfl, Ext.alloc _ _⟩
  by_cases h2 : d < 0
  · have e : editErr t a d l = 5 := by unfold editErr; rw [if_neg (by omega)]
    rw [e]; clear e
    go_enter Try.func50, Try.ntmps50
    go_wp2
    go_ret
    exact ⟨rfl, Ext.alloc _ _⟩
  by_cases h3 : (t : Int) < a
  · have e : editErr t a d l = 5 := by unfold editErr; rw [if_neg (by omega)]
    rw [e]; clear e
    go_enter Try.func50, Try.ntmps50
    go_wp2
    go_ret
    exact ⟨rfl, Ext.alloc _ _⟩
  by_cases h4 : (t : Int) - a < d
  · have e : editErr t a d l = 5 := by unfold editErr; rw [if_neg (by omega)]
    rw [e]; clear e
    go_enter Try.func50, Try.ntmps50
    go_wp2
    go_ret
    exact ⟨rfl, Ext.alloc _ _⟩
  have hx := Ext.alloc w (.cells #[.int .i64 a, .int .i64 d, .slice A l.length c] 25)
  have hb := Blk.new w 25 #[.int .i64 a, .int .i64 d, .slice A l.length c]
  cases hs : l.all symOk with
  | false =>
    have e : editErr t a d l = 5 := by unfold editErr; rw [if_pos (by omega), hs]; rfl
    rw [e]; clear e
    have H := Lib.hid hs
    clear hs
    go_enter Try.func50, Try.ntmps50
    go_wp2_with fail
    refine (containsFunc_any _ _ _ _ (hl.ext hx)).mono ?_
    rintro e w1 ⟨rfl, hx1⟩
    rw [H.out]
    go_wp2
    go_ret
    exact ⟨rfl, hx.trans hx1⟩
  | true =>
    by_cases h5 : 65536 < (t : Int) - d + l.length
    · have e : editErr t a d l = 4 := by unfold editErr; rw [if_pos (by omega), if_pos hs, if_pos h5]
      rw [e]; clear e
      have H := Lib.hid hs
      clear hs
      go_enter Try.func50, Try.ntmps50
      go_wp2_with fail
      refine (containsFunc_any _ _ _ _ (hl.ext hx)).mono ?_
      rintro e w1 ⟨rfl, hx1⟩
      rw [H.out]
      obtain ⟨r0, r1, r2, _, _, _, _⟩ := (hb.ext hx1).c3
      go_wp2
      go_ret
      exact ⟨rfl, hx.trans hx1⟩
    · have e : editErr t a d l = 0 := by unfold editErr; rw [if_pos (by omega), if_pos hs, if_neg h5]
      rw [e]; clear e
      have H := Lib.hid hs
      clear hs
      go_enter Try.func50, Try.ntmps50
      go_wp2_with fail
      refine (containsFunc_any _ _ _ _ (hl.ext hx)).mono ?_
      rintro e w1 ⟨rfl, hx1⟩
      rw [H.out]
      obtain ⟨r0, r1, r2, _, _, _, _⟩ := (hb.ext hx1).c3
      go_wp2
      go_ret
      exact ⟨rfl, hx.trans hx1⟩

set_option maxHeartbeats 1000000 in
theorem rCheck_any (T : Option Addr) (t tc : Nat) (a d : Int) (A : Option Addr) (c : Nat) (l : List Int) (w : World) (hl : IL w A c l) (_ht : t ≤ 9223372036854775807) (hlen : t + l.length ≤ 9223372036854775807) (hd : I64 d) :
    Calls Try.prog 29 #[.slice T t tc, .agg #[.int .i64 a, .int .i64 d, .slice A l.length c]] w (RetV (.int .i64 (editErr t a d l)) w) := by
  obtain ⟨d1, d2⟩ := hd
  by_cases h1 : a < 0
  · have e : editErr t a d l = 5 := by unfold editErr; rw [if_neg (by omega)]
    rw [e]; clear e
    go_enter Try.func29, Try.ntmps29
    go_wp2
    go_ret
    exact ⟨rfl, Ext.alloc _ _⟩
  by_cases h2 : d < 0
  · have e : editErr t a d l = 5 := by unfold editErr; rw [if_neg (by omega)]
    rw [e]; clear e
    go_enter Try.func29, Try.ntmps29
    go_wp2
    go_ret
    exact ⟨rfl, Ext.alloc _ _⟩
  by_cases h3 : (t : Int) < a
  · have e : editErr t a d l = 5 := by unfold editErr; rw [if_neg (by omega)]
    rw [e]; clear e
    go_enter Try.func29, Try.ntmps29
    go_wp2
    go_ret
    exact ⟨rfl, Ext.alloc _ _⟩
  by_cases h4 : (t : Int) - a < d
  · have e : editErr t a d l = 5 := by unfold editErr; rw [if_neg (by omega)]
    rw [e]; clear e
    go_enter Try.func29, Try.ntmps29
    go_wp2
    go_ret
    exact ⟨rfl, Ext.alloc _ _⟩
  have hx := Ext.alloc w (.cells #[.int .i64 a, .int .i64 d, .slice A l.length c] 25)
  obtain ⟨a1, a2⟩ := hl.len
  go_enter Try.func29, Try.ntmps29
  go_wp2
  go_loopw [5] (fun i wr => ∃ k : Nat, k ≤ l.length ∧ i = .int .i64 k ∧ Hid ((l.take k).all symOk = true) ∧ wr = w.alloc (.cells #[.int .i64 a, .int .i64 d, .slice A l.length c] 25)) (fun i _ => l.length - (intOf i).toNat)
  case atStart => exact ⟨0, Nat.zero_le _, rfl, rfl, rfl⟩
  case round =>
    obtain ⟨k, hk, rfl, ht', rfl⟩ := hrel
    by_cases hlt : k < l.length
    · obtain ⟨p1, o1, rfl, g1⟩ := hl.get hlt
      have hb := World.block_lt_of_cell? _ _ g1
      have hlt2 : (k : Int) < l.length := by omega
      cases hs : symOk l[k] with
      | false =>
        have hbad := all_bad l k hlt hs
        have e : editErr t a d l = 5 := by unfold editErr; rw [if_pos (by omega), hbad]; rfl
        have hs2 := symOk_f hs
        have E := Lib.hid e; clear e hs hbad
        generalize l[k] = x at *
        by_cases hx0 : x < 0
        · go_wp2
          go_ret
          exact ⟨by rw [E.out]; rfl, hx⟩
        · have hx1 : 1114111 < x := by omega
          go_wp2
          go_ret
          exact ⟨by rw [E.out]; rfl, hx⟩
      | true =>
        have hs2 := Lib.hid (all_take_succ l k hlt ht'.out hs)
        obtain ⟨g2, g3⟩ := symOk_t hs
        clear hs ht'
        go_wp2
        go_roundw
        case rel => exact ⟨k + 1, by omega, by go_num, hs2, trivial⟩
        case measure => simp [intOf]; omega
    · have hall := ht'.out
      rw [List.take_of_length_le (by omega)] at hall
      by_cases h5 : 65536 < (t : Int) - d + l.length
      · have e : editErr t a d l = 4 := by unfold editErr; rw [if_pos (by omega), if_pos hall, if_pos h5]
        have E := Lib.hid e; clear e hall ht'
        go_wp2
        go_ret
        exact ⟨by rw [E.out]; rfl, hx⟩
      · have e : editErr t a d l = 0 := by unfold editErr; rw [if_pos (by omega), if_pos hall, if_neg h5]
        have E := Lib.hid e; clear e hall ht'
        go_wp2
        go_ret
        exact ⟨by rw [E.out]; rfl, hx⟩
end Go.Proofs.Ythhfjomjjhenkaa
