/- The walk of edits.Diff. -/
import Derived.Test.YthhfjomjjhenkaaE10
namespace Go.Proofs.Ythhfjomjjhenkaa
open Go.RowKit

/-- how many of the first symbols, at most m, are those of both -/
def lcpm : Nat → List Int → List Int → Nat
  | 0, _, _ => 0
  | m + 1, x :: xs, y :: ys => if x = y then lcpm m xs ys + 1 else 0
  | _ + 1, _, _ => 0

theorem lcpm_eq : ∀ (k m : Nat) (a b : List Int), k ≤ m → a.take k = b.take k → k ≤ a.length → k ≤ b.length → (k = m ∨ ∃ (h1 : k < a.length) (h2 : k < b.length), a[k] ≠ b[k]) → lcpm m a b = k
  | 0, m, a, b, _, _, _, _, hs => by
    rcases hs with h | ⟨h1, h2, hne⟩
    · subst h; rfl
    · cases m with
      | zero => rfl
      | succ m =>
        match a, b, h1, h2, hne with
        | x :: xs, y :: ys, _, _, hne => simp at hne; simp [lcpm, hne]
  | k + 1, m, a, b, hm, ht, ha, hb, hs => by
    match a, b, ha, hb, ht, hs with
    | x :: xs, y :: ys, ha, hb, ht, hs =>
      obtain ⟨m, rfl⟩ : ∃ m', m = m' + 1 := ⟨m - 1, by omega⟩
      simp only [List.take_succ_cons, List.cons.injEq] at ht
      simp only [List.length_cons] at ha hb
      have ih := lcpm_eq k m xs ys (by omega) ht.2 (by omega) (by omega) (by
        rcases hs with h | ⟨h1, h2, hne⟩
        · exact .inl (by omega)
        · exact .inr ⟨by simpa using h1, by simpa using h2, by simpa using hne⟩)
      simp [lcpm, ht.1, ih]

def diffAt (a b : List Int) : Nat := lcpm (min a.length b.length) a b
def diffStay (a b : List Int) : Nat := lcpm (min a.length b.length - diffAt a b) a.reverse b.reverse
def diffE (a b : List Int) : Ed := ⟨diffAt a b, (a.length : Int) - diffStay a b - diffAt a b, (b.drop (diffAt a b)).take (b.length - diffStay a b - diffAt a b)⟩

theorem take_rev_succ (a b : List Int) (j : Nat) (h1 : j < a.length) (h2 : j < b.length) (h : a.reverse.take j = b.reverse.take j) (he : a[a.length - 1 - j] = b[b.length - 1 - j]) : a.reverse.take (j+1) = b.reverse.take (j+1) := by
  rw [List.take_succ_eq_append_getElem (by simpa using h1), List.take_succ_eq_append_getElem (by simpa using h2), h, List.getElem_reverse, List.getElem_reverse, he]

set_option maxHeartbeats 2000000 in
theorem diff_any (A B : Option Addr) (c c' : Nat) (a b : List Int) (w : World) (ha : IL w A c a) (hb : IL w B c' b) (hla : a.length ≤ 1099511627776) (hlb : b.length ≤ 1099511627776) :
    Calls Try.prog 26 #[.slice A a.length c, .slice B b.length c'] w (RetEdF (diffE a b) w) := by
  obtain ⟨a1, a2⟩ := ha.len
  obtain ⟨b1, b2⟩ := hb.len
  obtain ⟨B4, X4⟩ := alloc1 w 25 #[.int .i64 0, .int .i64 0, .slice none 0 0]
  obtain ⟨s, hs⟩ : ∃ s : Nat, s = min a.length b.length := ⟨_, rfl⟩
  have hsi : (if b.length < a.length then (b.length : Int) else a.length) = s := by subst hs; split <;> omega
  have hs1 : s ≤ a.length := by omega
  have hs2 : s ≤ b.length := by omega
  have HS := Lib.hid hs
  clear hs
  go_enter Try.func26, Try.ntmps26
  go_upto_block 0 with fail
  have HSI := Lib.hid hsi
  clear hsi
  go_cut [6] from 13 to 28 (fun v6 wx => ∃ k : Nat, v6 = .int .i64 k ∧ k ≤ s ∧ Hid (lcpm s a b = k) ∧ Ext w wx ∧ Blk wx w.heap.size 25 #[.int .i64 0, .int .i64 0, .slice none 0 0])
  case first =>
    go_wp2_with fail
    go_loopw [6] (fun i wr => ∃ k : Nat, k ≤ s ∧ i = .int .i64 k ∧ Hid (a.take k = b.take k) ∧ Ext w wr ∧ Blk wr w.heap.size 25 #[.int .i64 0, .int .i64 0, .slice none 0 0]) (fun i _ => s - (intOf i).toNat)
    case atStart => exact ⟨0, Nat.zero_le _, rfl, rfl, X4, B4⟩
    case round =>
      obtain ⟨k, hk, rfl, ht, hext, hB⟩ := hrel
      clear X4 B4
      by_cases hlt : k < s
      · obtain ⟨p1, o1, rfl, g1⟩ := (ha.ext hext).get (show k < a.length by omega)
        obtain ⟨p2, o2, rfl, g2⟩ := (hb.ext hext).get (show k < b.length by omega)
        have l1 : k < a.length := by omega
        have l2 : k < b.length := by omega
        have hlt2 : (k : Int) < a.length := by omega
        have hlt3 : (k : Int) < b.length := by omega
        by_cases he : a[k] = b[k]
        · have he' : (a[k] == b[k]) = true := by simp [he]
          have HT := Lib.hid (beq_take_succ a b k l1 l2 ht.out he)
          clear he
          go_wp2_with (go_quiet (fail))
          go_roundw
          case rel => exact ⟨k + 1, by omega, by go_num, HT.out, hext.trans (Ext.drewN _ _), hB.ext (Ext.drewN _ _)⟩
          case measure => simp [intOf]; omega
        · have he' : (a[k] == b[k]) = false := by simp [he]
          have HL := Lib.hid (lcpm_eq k s a b hk ht.out (by omega) (by omega) (.inr ⟨l1, l2, he⟩))
          clear he
          go_wp2_with (go_quiet (fail))
          go_meet
          exact ⟨k, rfl, hk, HL, hext.trans (Ext.drewN _ _), hB.ext (Ext.drewN _ _)⟩
      · have HL := Lib.hid (lcpm_eq k s a b hk ht.out (by omega) (by omega) (.inl (by omega)))
        have hn : decide ((k : Int) < s) = false := by simp; omega
        go_wp2_with (go_quiet (fail))
        go_meet
        exact ⟨k, rfl, hk, HL, hext.trans (Ext.drewN _ _), hB.ext (Ext.drewN _ _)⟩
  case rest =>
    obtain ⟨k, rfl, hk, hat, hext, hB⟩ := hcut
    clear X4 B4
    go_upto_block 2 with fail
    go_cut [7] from 29 to 54 (fun v7 wx => ∃ j : Nat, v7 = .int .i64 j ∧ j ≤ s - k ∧ Hid (lcpm (s - k) a.reverse b.reverse = j) ∧ Ext w wx ∧ Blk wx w.heap.size 25 #[.int .i64 0, .int .i64 0, .slice none 0 0])
    case first =>
      go_wp2_with fail
      go_loopw [7] (fun i wr => ∃ j : Nat, j ≤ s - k ∧ i = .int .i64 j ∧ Hid (a.reverse.take j = b.reverse.take j) ∧ Ext w wr ∧ Blk wr w.heap.size 25 #[.int .i64 0, .int .i64 0, .slice none 0 0]) (fun i _ => s - k - (intOf i).toNat)
      case atStart => exact ⟨0, Nat.zero_le _, rfl, rfl, hext, hB⟩
      case round =>
        obtain ⟨j, hj, rfl, ht, hext, hB⟩ := hrel
        by_cases hlt : j < s - k
        · have l1 : j < a.length := by omega
          have l2 : j < b.length := by omega
          obtain ⟨p1, o1, rfl, g1⟩ := (ha.ext hext).get (show a.length - 1 - j < a.length by omega)
          obtain ⟨p2, o2, rfl, g2⟩ := (hb.ext hext).get (show b.length - 1 - j < b.length by omega)
          have hlt0 : (j : Int) < (s : Int) - k := by omega
          have hlt2 : (a.length : Int) - 1 - j < a.length := by omega
          have hlt3 : (b.length : Int) - 1 - j < b.length := by omega
          have hge2 : (0 : Int) ≤ (a.length : Int) - 1 - j := by omega
          have hge3 : (0 : Int) ≤ (b.length : Int) - 1 - j := by omega
          have e1 : ((a.length : Int) - 1 - j).toNat = a.length - 1 - j := by omega
          have e2 : ((b.length : Int) - 1 - j).toNat = b.length - 1 - j := by omega
          by_cases he : a[a.length - 1 - j] = b[b.length - 1 - j]
          · have he' := beq_iff_eq.2 he
            have HT := Lib.hid (take_rev_succ a b j l1 l2 ht.out he)
            clear he
            go_wp2_with (go_quiet (fail))
            go_roundw
            case rel => exact ⟨j + 1, by omega, by go_num, HT.out, hext.trans (Ext.drewN _ _), hB.ext (Ext.drewN _ _)⟩
            case measure => simp [intOf]; omega
          · have he' := beq_eq_false_iff_ne.2 he
            have HL := Lib.hid (lcpm_eq j (s - k) a.reverse b.reverse hj ht.out (by simp; omega) (by simp; omega) (.inr ⟨by simpa using l1, by simpa using l2, by rw [List.getElem_reverse, List.getElem_reverse]; exact he⟩))
            clear he
            go_wp2_with (go_quiet (fail))
            go_meet
            exact ⟨j, rfl, hj, HL, hext.trans (Ext.drewN _ _), hB.ext (Ext.drewN _ _)⟩
        · have HL := Lib.hid (lcpm_eq j (s - k) a.reverse b.reverse hj ht.out (by simp; omega) (by simp; omega) (.inl (by omega)))
          have hn : decide ((j : Int) < (s : Int) - k) = false := by simp; omega
          go_wp2_with (go_quiet (fail))
          go_meet
          exact ⟨j, rfl, hj, HL, hext.trans (Ext.drewN _ _), hB.ext (Ext.drewN _ _)⟩
    case rest =>
      obtain ⟨j, rfl, hj, hst, hext, hB⟩ := hcut
      have eAt : diffAt a b = k := by unfold diffAt; rw [← HS.out]; exact hat.out
      have eSt : diffStay a b = j := by unfold diffStay; rw [eAt, ← HS.out]; exact hst.out
      have eD : diffE a b = ⟨k, (a.length : Int) - j - k, (b.drop k).take (b.length - j - k)⟩ := by unfold diffE; rw [eAt, eSt]
      have ED := Lib.hid eD
      clear eAt eSt eD
      have hBz := hB.lt
      go_wp2_with fail
      refine (replaced_any _ _ _ _ _ _ _ _ _ (hb.ext hext) hla hlb (by omega) (by omega)).mono ?_
      rintro e w1 ⟨C, cc, rfl, hil, hx1, hfr⟩
      obtain ⟨r0, r1, r2, s0, s1, s2, hz4⟩ := (hB.ext hx1).c3
      simp only at hil ⊢
      generalize hu : (b.drop k).take (b.length - j - k) = u at *
      have HU := Lib.hid hu
      clear hu
      go_wp2
      refine bodyPost_ret (v := .agg #[.int .i64 k, .int .i64 ((a.length : Int) - j - k), .slice C u.length cc]) (by simp [results, Try.results26, go_sem, r0, r1, r2]) rfl ⟨C, cc, ?_, ?_, ?_, hfr.mono hext⟩
      · rw [ED.out]
      · rw [ED.out]
        exact ((hil.setOld hfr (p := ⟨w.heap.size, 0, none⟩) hBz _).setOld hfr (p := ⟨w.heap.size, 1, none⟩) hBz _).setOld hfr (p := ⟨w.heap.size, 2, none⟩) hBz _
      · exact (((hext.trans hx1).setNew (by simp) _).setNew (by simp) _).setNew (by simp) _
end Go.Proofs.Ythhfjomjjhenkaa
