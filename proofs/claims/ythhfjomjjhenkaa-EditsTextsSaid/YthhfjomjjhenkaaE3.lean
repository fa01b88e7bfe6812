/- Walks of what moves positions: begin and end of an extent, and of the reference. -/
import Derived.Test.YthhfjomjjhenkaaE2
namespace Go.Proofs.Ythhfjomjjhenkaa
open Go.RowKit

/-- small enough that sums of three do not wrap -/
def Sm (n : Int) : Prop := -1152921504606846976 ≤ n ∧ n ≤ 1152921504606846976
def beginM (p a d n : Int) : Int := if p < a then p else if a + d ≤ p then p - d + n else a + n
def endM (p a d n : Int) : Int := if p ≤ a then p else if a + d ≤ p then p - d + n else a

theorem beginM1 {p a d n : Int} (h : p < a) : beginM p a d n = p := by simp [beginM, h]
theorem beginM2 {p a d n : Int} (h : ¬ p < a) (h2 : a + d ≤ p) : beginM p a d n = p - d + n := by simp [beginM, h, h2]
theorem beginM3 {p a d n : Int} (h : ¬ p < a) (h2 : ¬ a + d ≤ p) : beginM p a d n = a + n := by simp [beginM, h, h2]
theorem endM1 {p a d n : Int} (h : p ≤ a) : endM p a d n = p := by simp [endM, h]
theorem endM2 {p a d n : Int} (h : ¬ p ≤ a) (h2 : a + d ≤ p) : endM p a d n = p - d + n := by simp [endM, h, h2]
theorem endM3 {p a d n : Int} (h : ¬ p ≤ a) (h2 : ¬ a + d ≤ p) : endM p a d n = a := by simp [endM, h, h2]

theorem ret_i {a b : Int} (h : b = a) : Ending.returned (.int .i64 a) = .returned (.int .i64 b) := by rw [h]

set_option maxHeartbeats 400000 in
theorem xbegin_any (p a d n : Int) (w : World) (hp : Sm p) (ha : Sm a) (hd : Sm d) (hn : Sm n) :
    Calls Try.prog 65 #[.agg #[.int .i64 a, .int .i64 d, .int .i64 n], .int .i64 p] w (RetV (.int .i64 (beginM p a d n)) w) := by
  obtain ⟨p1, p2⟩ := hp
  obtain ⟨a1, a2⟩ := ha
  obtain ⟨d1, d2⟩ := hd
  obtain ⟨n1, n2⟩ := hn
  by_cases h : p < a
  · go_enter Try.func65, Try.ntmps65
    go_wp2
    go_ret
    exact ⟨ret_i (beginM1 h), Ext.alloc _ _⟩
  · by_cases h2 : a + d ≤ p
    · go_enter Try.func65, Try.ntmps65
      go_wp2
      go_ret
      exact ⟨ret_i (beginM2 (by omega) (by omega)), Ext.alloc _ _⟩
    · go_enter Try.func65, Try.ntmps65
      go_wp2
      go_ret
      exact ⟨ret_i (beginM3 (by omega) (by omega)), Ext.alloc _ _⟩

set_option maxHeartbeats 400000 in
theorem xend_any (p a d n : Int) (w : World) (hp : Sm p) (ha : Sm a) (hd : Sm d) (hn : Sm n) :
    Calls Try.prog 66 #[.agg #[.int .i64 a, .int .i64 d, .int .i64 n], .int .i64 p] w (RetV (.int .i64 (endM p a d n)) w) := by
  obtain ⟨p1, p2⟩ := hp
  obtain ⟨a1, a2⟩ := ha
  obtain ⟨d1, d2⟩ := hd
  obtain ⟨n1, n2⟩ := hn
  by_cases h : p ≤ a
  · go_enter Try.func66, Try.ntmps66
    go_wp2
    go_ret
    exact ⟨ret_i (endM1 h), Ext.alloc _ _⟩
  · by_cases h2 : a + d ≤ p
    · go_enter Try.func66, Try.ntmps66
      go_wp2
      go_ret
      exact ⟨ret_i (endM2 (by omega) (by omega)), Ext.alloc _ _⟩
    · go_enter Try.func66, Try.ntmps66
      go_wp2
      go_ret
      exact ⟨ret_i (endM3 (by omega) (by omega)), Ext.alloc _ _⟩

set_option maxHeartbeats 400000 in
theorem rbegin_any (p a d : Int) (A : Option Addr) (m c : Nat) (w : World) (hp : Sm p) (ha : Sm a) (hd : Sm d) (hn : Sm m) :
    Calls Try.prog 47 #[.int .i64 p, .agg #[.int .i64 a, .int .i64 d, .slice A m c]] w (RetV (.int .i64 (beginM p a d m)) w) := by
  obtain ⟨p1, p2⟩ := hp
  obtain ⟨a1, a2⟩ := ha
  obtain ⟨d1, d2⟩ := hd
  obtain ⟨n1, n2⟩ := hn
  by_cases h : p < a
  · go_enter Try.func47, Try.ntmps47
    go_wp2
    go_ret
    exact ⟨ret_i (beginM1 h), Ext.alloc _ _⟩
  · by_cases h2 : a + d ≤ p
    · go_enter Try.func47, Try.ntmps47
      go_wp2
      go_ret
      exact ⟨ret_i (beginM2 (by omega) (by omega)), Ext.alloc _ _⟩
    · go_enter Try.func47, Try.ntmps47
      go_wp2
      go_ret
      exact ⟨ret_i (beginM3 (by omega) (by omega)), Ext.alloc _ _⟩

set_option maxHeartbeats 400000 in
theorem rend_any (p a d : Int) (A : Option Addr) (m c : Nat) (w : World) (hp : Sm p) (ha : Sm a) (hd : Sm d) (hn : Sm m) :
    Calls Try.prog 48 #[.int .i64 p, .agg #[.int .i64 a, .int .i64 d, .slice A m c]] w (RetV (.int .i64 (endM p a d m)) w) := by
  obtain ⟨p1, p2⟩ := hp
  obtain ⟨a1, a2⟩ := ha
  obtain ⟨d1, d2⟩ := hd
  obtain ⟨n1, n2⟩ := hn
  by_cases h : p ≤ a
  · go_enter Try.func48, Try.ntmps48
    go_wp2
    go_ret
    exact ⟨ret_i (endM1 h), Ext.alloc _ _⟩
  · by_cases h2 : a + d ≤ p
    · go_enter Try.func48, Try.ntmps48
      go_wp2
      go_ret
      exact ⟨ret_i (endM2 (by omega) (by omega)), Ext.alloc _ _⟩
    · go_enter Try.func48, Try.ntmps48
      go_wp2
      go_ret
      exact ⟨ret_i (endM3 (by omega) (by omega)), Ext.alloc _ _⟩

/-- what the code and the reference make of an edit over another one -/
def moveDel (a d a' d' n' : Int) : Int := if 0 < d then max 0 (endM (a + d) a' d' n' - beginM a a' d' n') else 0

/-- a result that is a struct in a cell row -/
theorem extentOf_any (a d : Int) (A : Option Addr) (m c : Nat) (w : World) (_hm : Sm m) :
    Calls Try.prog 45 #[.agg #[.int .i64 a, .int .i64 d, .slice A m c]] w (RetV (.agg #[.int .i64 a, .int .i64 d, .int .i64 m]) w) := by
  go_enter Try.func45, Try.ntmps45
  go_wp2
  exact bodyPost_ret (v := .agg #[.int .i64 a, .int .i64 d, .int .i64 m]) (by simp [results, Try.results45, go_sem]) rfl ⟨rfl, (Ext.alloc _ _).trans (Ext.alloc _ _)⟩

/-- a slice of extents: at, del, ins of each in three cells -/
structure XL (w : World) (A : Option Addr) (c : Nat) (xs : List (Int × Int × Int)) : Prop where
  le : xs.length ≤ c
  cap : c ≤ maxLen
  at_ : xs ≠ [] → ∃ b o, A = some ⟨b, o, none⟩ ∧ ∀ i (h : i < xs.length), w.cell? ⟨b, o + i * 3, none⟩ = some (.int .i64 xs[i].1) ∧
    w.cell? ⟨b, o + i * 3 + 1, none⟩ = some (.int .i64 xs[i].2.1) ∧ w.cell? ⟨b, o + i * 3 + 2, none⟩ = some (.int .i64 xs[i].2.2)

/-- moved over one extent -/
def overOne (x : Int × Int) (y : Int × Int × Int) : Int × Int :=
  (beginM x.1 y.1 y.2.1 y.2.2, if 0 < x.2 then (if endM (x.1 + x.2) y.1 y.2.1 y.2.2 - beginM x.1 y.1 y.2.1 y.2.2 < 0 then 0 else endM (x.1 + x.2) y.1 y.2.1 y.2.2 - beginM x.1 y.1 y.2.1 y.2.2) else 0)
def overAll (x : Int × Int) (l : List (Int × Int × Int)) : Int × Int := l.foldl overOne x

theorem overAll_succ (x : Int × Int) (l : List (Int × Int × Int)) (k : Nat) (h : k < l.length) : overAll x (l.take (k+1)) = overOne (overAll x (l.take k)) l[k] := by
  unfold overAll; rw [List.take_succ_eq_append_getElem h, List.foldl_append]; rfl

theorem beginM_bd {p a d n B : Int} (hp : 0 ≤ p) (ha : 0 ≤ a) (hd : 0 ≤ d) (hn : 0 ≤ n) (hB : n ≤ B) : 0 ≤ beginM p a d n ∧ beginM p a d n ≤ p + B := by
  unfold beginM; split
  · omega
  · split <;> omega
theorem endM_bd {p a d n B : Int} (ha : 0 ≤ a) (hd : 0 ≤ d) (hn : 0 ≤ n) (hB : n ≤ B) (hp : 0 ≤ p) : endM p a d n ≤ p + B ∧ 0 ≤ endM p a d n := by
  unfold endM; split
  · omega
  · split <;> omega
/-- the bounds that one step keeps -/
theorem overOne_bd {x : Int × Int} {y : Int × Int × Int} {B S : Int} (h0 : 0 ≤ x.1 ∧ 0 ≤ x.2) (hs : x.1 + x.2 ≤ S) (hy : 0 ≤ y.1 ∧ 0 ≤ y.2.1 ∧ 0 ≤ y.2.2 ∧ y.2.2 ≤ B) :
    0 ≤ (overOne x y).1 ∧ 0 ≤ (overOne x y).2 ∧ (overOne x y).1 + (overOne x y).2 ≤ S + B := by
  obtain ⟨a, d⟩ := x
  obtain ⟨p, q, r⟩ := y
  simp only at *
  have hb := beginM_bd (p := a) (a := p) (d := q) (n := r) (B := B) h0.1 hy.1 hy.2.1 hy.2.2.1 hy.2.2.2
  have he := endM_bd (p := a + d) (a := p) (d := q) (n := r) (B := B) hy.1 hy.2.1 hy.2.2.1 hy.2.2.2 (by omega)
  refine ⟨hb.1, ?_, ?_⟩
  · simp only [overOne]; split
    · split <;> omega
    · omega
  · simp only [overOne]; split
    · split <;> omega
    · omega

end Go.Proofs.Ythhfjomjjhenkaa
