/- The walk of the reference's Diff. -/
import Derived.Test.YthhfjomjjhenkaaE11
namespace Go.Proofs.Ythhfjomjjhenkaa
open Go.RowKit

/-- what a call leaves that returns an edit, whose symbols may lie where they lay -/
def RetEdV (e : Ed) (w : World) (r : Ending) (w' : World) : Prop :=
  ∃ A c, r = .returned (.agg #[.int .i64 e.at_, .int .i64 e.del, .slice A e.ins.length c]) ∧ IL w' A c e.ins ∧ Ext w w'

set_option maxHeartbeats 2000000 in
theorem rDiff_any (A B : Option Addr) (c c' : Nat) (a b : List Int) (w : World) (ha : IL w A c a) (hb : IL w B c' b) (hla : a.length ≤ 1099511627776) (hlb : b.length ≤ 1099511627776) :
    Calls Try.prog 27 #[.slice A a.length c, .slice B b.length c'] w (RetEdV (diffE a b) w) := by
  obtain ⟨a1, a2⟩ := ha.len
  obtain ⟨b1, b2⟩ := hb.len
  obtain ⟨B4, X4⟩ := alloc1 w 25 #[.int .i64 0, .int .i64 0, .slice none 0 0]
  obtain ⟨s, hs⟩ : ∃ s : Nat, s = min a.length b.length := ⟨_, rfl⟩
  have hs1 : s ≤ a.length := by omega
  have hs2 : s ≤ b.length := by omega
  have HS := Lib.hid hs
  clear hs
  go_enter Try.func27, Try.ntmps27
  go_upto_block 0 with fail
  go_cut [5] from 7 to 29 (fun v6 wx => ∃ k : Nat, v6 = .int .i64 k ∧ k ≤ s ∧ Hid (lcpm s a b = k) ∧ Ext w wx ∧ Blk wx w.heap.size 25 #[.int .i64 0, .int .i64 0, .slice none 0 0])
  case first =>
    go_wp2_with fail
    go_loopw [5] (fun i wr => ∃ k : Nat, k ≤ s ∧ i = .int .i64 k ∧ Hid (a.take k = b.take k) ∧ Ext w wr ∧ Blk wr w.heap.size 25 #[.int .i64 0, .int .i64 0, .slice none 0 0]) (fun i _ => s - (intOf i).toNat)
    case atStart => exact ⟨0, Nat.zero_le _, rfl, rfl, X4, B4⟩
    case round =>
      obtain ⟨k, hk, rfl, ht, hext, hB⟩ := hrel
      clear X4 B4
      by_cases hlt : k < s
      · obtain ⟨p1, o1, rfl, g1⟩ := (ha.ext hext).get (show k < a.length by omega)
        obtain ⟨p2, o2, rfl, g2⟩ := (hb.ext hext).get (show k < b.length by omega)
        have l1 : k < a.length := by omega
        have l2 : k < b.length := by omega
        have hlt2 : (k : Int) < a.length := by omega
        have hlt3 : (k : Int) < b.length := by omega
        by_cases he : a[k] = b[k]
        · have he' : (a[k] == b[k]) = true := by simp [he]
          have HT := Lib.hid (beq_take_succ a b k l1 l2 ht.out he)
          clear he
          go_wp2_with (go_quiet (fail))
          go_roundw
          case rel => exact ⟨k + 1, by omega, by go_num, HT.out, hext.trans (Ext.drewN _ _), hB.ext (Ext.drewN _ _)⟩
          case measure => simp [intOf]; omega
        · have he' : (a[k] == b[k]) = false := by simp [he]
          have HL := Lib.hid (lcpm_eq k s a b hk ht.out (by omega) (by omega) (.inr ⟨l1, l2, he⟩))
          clear he
          go_wp2_with (go_quiet (fail))
          go_meet
          exact ⟨k, rfl, hk, HL, hext.trans (Ext.drewN _ _), hB.ext (Ext.drewN _ _)⟩
      · have HL := Lib.hid (lcpm_eq k s a b hk ht.out (by omega) (by omega) (.inl (by omega)))
        by_cases hka : k < a.length
        · have hka2 : (k : Int) < a.length := by omega
          have hkb : ¬ k < b.length := by have := HS.out; omega
          have hn : decide ((k : Int) < b.length) = false := by simp; omega
          go_wp2_with (go_quiet (fail))
          go_meet
          exact ⟨k, rfl, hk, HL, hext.trans (Ext.drewN _ _), hB.ext (Ext.drewN _ _)⟩
        · have hn : decide ((k : Int) < a.length) = false := by simp; omega
          go_wp2_with (go_quiet (fail))
          go_meet
          exact ⟨k, rfl, hk, HL, hext.trans (Ext.drewN _ _), hB.ext (Ext.drewN _ _)⟩
  case rest =>
    obtain ⟨k, rfl, hk, hat, hext, hB⟩ := hcut
    clear X4 B4
    go_upto_block 2 with fail
    go_cut [6] from 30 to 64 (fun v7 wx => ∃ j : Nat, v7 = .int .i64 j ∧ j ≤ s - k ∧ Hid (lcpm (s - k) a.reverse b.reverse = j) ∧ Ext w wx ∧ Blk wx w.heap.size 25 #[.int .i64 0, .int .i64 0, .slice none 0 0])
    case first =>
      go_wp2_with fail
      go_loopw [6] (fun i wr => ∃ j : Nat, j ≤ s - k ∧ i = .int .i64 j ∧ Hid (a.reverse.take j = b.reverse.take j) ∧ Ext w wr ∧ Blk wr w.heap.size 25 #[.int .i64 0, .int .i64 0, .slice none 0 0]) (fun i _ => s - k - (intOf i).toNat)
      case atStart => exact ⟨0, Nat.zero_le _, rfl, rfl, hext, hB⟩
      case round =>
        obtain ⟨j, hj, rfl, ht, hext, hB⟩ := hrel
        by_cases hlt : j < s - k
        · have l1 : j < a.length := by omega
          have l2 : j < b.length := by omega
          obtain ⟨p1, o1, rfl, g1⟩ := (ha.ext hext).get (show a.length - 1 - j < a.length by omega)
          obtain ⟨p2, o2, rfl, g2⟩ := (hb.ext hext).get (show b.length - 1 - j < b.length by omega)
          have hlt0 : (j : Int) < (a.length : Int) - k := by omega
          have hlt1 : (j : Int) < (b.length : Int) - k := by omega
          have hlt2 : (a.length : Int) - j - 1 < a.length := by omega
          have hlt3 : (b.length : Int) - j - 1 < b.length := by omega
          have hge2 : (0 : Int) ≤ (a.length : Int) - j - 1 := by omega
          have hge3 : (0 : Int) ≤ (b.length : Int) - j - 1 := by omega
          have e1 : ((a.length : Int) - j - 1).toNat = a.length - 1 - j := by omega
          have e2 : ((b.length : Int) - j - 1).toNat = b.length - 1 - j := by omega
          by_cases he : a[a.length - 1 - j] = b[b.length - 1 - j]
          · have he' := beq_iff_eq.2 he
            have HT := Lib.hid (take_rev_succ a b j l1 l2 ht.out he)
            clear he
            go_wp2_with (go_quiet (fail))
            go_roundw
            case rel => exact ⟨j + 1, by omega, by go_num, HT.out, hext.trans (Ext.drewN _ _), hB.ext (Ext.drewN _ _)⟩
            case measure => simp [intOf]; omega
          · have he' := beq_eq_false_iff_ne.2 he
            have HL := Lib.hid (lcpm_eq j (s - k) a.reverse b.reverse hj ht.out (by simp; omega) (by simp; omega) (.inr ⟨by simpa using l1, by simpa using l2, by rw [List.getElem_reverse, List.getElem_reverse]; exact he⟩))
            clear he
            go_wp2_with (go_quiet (fail))
            go_meet
            exact ⟨j, rfl, hj, HL, hext.trans (Ext.drewN _ _), hB.ext (Ext.drewN _ _)⟩
        · have HL := Lib.hid (lcpm_eq j (s - k) a.reverse b.reverse hj ht.out (by simp; omega) (by simp; omega) (.inl (by omega)))
          by_cases hja : j < a.length - k
          · have hja2 : (j : Int) < (a.length : Int) - k := by omega
            have hn : decide ((j : Int) < (b.length : Int) - k) = false := by have := HS.out; simp; omega
            go_wp2_with (go_quiet (fail))
            go_meet
            exact ⟨j, rfl, hj, HL, hext.trans (Ext.drewN _ _), hB.ext (Ext.drewN _ _)⟩
          · have hn : decide ((j : Int) < (a.length : Int) - k) = false := by simp; omega
            go_wp2_with (go_quiet (fail))
            go_meet
            exact ⟨j, rfl, hj, HL, hext.trans (Ext.drewN _ _), hB.ext (Ext.drewN _ _)⟩
    case rest =>
      obtain ⟨j, rfl, hj, hst, hext, hB⟩ := hcut
      have eAt : diffAt a b = k := by unfold diffAt; rw [← HS.out]; exact hat.out
      have eSt : diffStay a b = j := by unfold diffStay; rw [eAt, ← HS.out]; exact hst.out
      have eD : diffE a b = ⟨k, (a.length : Int) - j - k, (b.drop k).take (b.length - j - k)⟩ := by unfold diffE; rw [eAt, eSt]
      have ED := Lib.hid eD
      clear eAt eSt eD
      have hBz := hB.lt
      have l1 : (k : Int) ≤ (b.length : Int) - j := by omega
      have l2 : (b.length : Int) - j ≤ b.length := by omega
      have l3 : ((b.length : Int) - j).toNat = b.length - j := by omega
      have hul : ((b.drop k).take (b.length - j - k)).length = b.length - j - k := by simp; omega
      have hin := fun h => IL.cut_in hb (k := k) (j := b.length - j) h (by omega)
      have hend := fun h => IL.cut_end (j := b.length - j) (k := k) hb h
      generalize hu : (b.drop k).take (b.length - j - k) = u at *
      have HUL := Lib.hid hul.symm
      have HIN := Lib.hid hin
      have HEND := Lib.hid hend
      obtain ⟨r0, r1, r2, s0, s1, s2, hz4⟩ := hB.c3
      clear hul hin hend hu
      go_wp2
      all_goals
        have hE := ((hext.setNew (p := ⟨w.heap.size, 0, none⟩) (Nat.le_refl _) (.int .i64 k)).setNew (p := ⟨w.heap.size, 1, none⟩) (Nat.le_refl _) (.int .i64 ((a.length : Int) - k - j)))
        have hsw : (a.length : Int) - k - j = (a.length : Int) - j - k := by omega
        rw [HUL.out]
      · have hE2 := hE.setNew (p := ⟨w.heap.size, 2, none⟩) (Nat.le_refl _) (.slice B u.length 0)
        exact bodyPost_ret (v := .agg #[.int .i64 k, .int .i64 ((a.length : Int) - k - j), .slice B u.length 0]) (by simp [results, Try.results27, go_sem, r0, r1, r2]) rfl
          ⟨B, 0, by rw [ED.out, hsw], by rw [ED.out]; exact (HEND.out (by assumption)).ext hE2, hE2⟩
      · have hE2 := hE.setNew (p := ⟨w.heap.size, 2, none⟩) (Nat.le_refl _) (.slice (Option.map (fun x => x.add k) B) u.length (c' - k))
        exact bodyPost_ret (v := .agg #[.int .i64 k, .int .i64 ((a.length : Int) - k - j), .slice (Option.map (fun x => x.add k) B) u.length (c' - k)]) (by simp [results, Try.results27, go_sem, r0, r1, r2]) rfl
          ⟨_, _, by rw [ED.out, hsw], by rw [ED.out]; exact (HIN.out (by omega)).ext hE2, hE2⟩
end Go.Proofs.Ythhfjomjjhenkaa
