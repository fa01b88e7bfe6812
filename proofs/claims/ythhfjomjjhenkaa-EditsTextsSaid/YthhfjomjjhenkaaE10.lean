/- The walks of edits.replaced and edits.Diff. -/
import Derived.Test.YthhfjomjjhenkaaE9
namespace Go.Proofs.Ythhfjomjjhenkaa
open Go.RowKit

set_option maxHeartbeats 1000000 in
theorem replaced_any (A B : Option Addr) (c c' n at_ stay : Nat) (t : List Int) (w : World) (hl : IL w B c' t) (hn : n ≤ 1099511627776) (ht : t.length ≤ 1099511627776) (h1 : at_ + stay ≤ t.length) (h2 : at_ + stay ≤ n) :
    Calls Try.prog 52 #[.slice A n c, .slice B t.length c', .int .i64 at_, .int .i64 stay] w (RetEdF ⟨at_, (n : Int) - stay - at_, (t.drop at_).take (t.length - stay - at_)⟩ w) := by
  obtain ⟨a1, a2⟩ := hl.len
  obtain ⟨B8, X8⟩ := alloc1 w 25 #[.int .i64 0, .int .i64 0, .slice none 0 0]
  have hul : ((t.drop at_).take (t.length - stay - at_)).length = t.length - stay - at_ := by simp; omega
  have hb : ((t.drop at_).take (t.length - stay - at_)).length ≤ 1099511627776 := by rw [hul]; omega
  have hin := fun h => IL.cut_in (hl.ext X8) (k := at_) (j := t.length - stay) h (by omega)
  have hend := fun h => IL.cut_end (j := t.length - stay) (k := at_) (hl.ext X8) h
  generalize hu : (t.drop at_).take (t.length - stay - at_) = u at *
  have HUL := Lib.hid hul.symm
  have HB := Lib.hid hb
  have HIN := Lib.hid hin
  have HEND := Lib.hid hend
  clear hul hb hin hend hu
  go_enter Try.func52, Try.ntmps52
  go_wp2_with fail
  all_goals
    rw [HUL.out]
    refine (clone_any _ _ u _ (by first | exact HIN.out (by omega) | (rename_i hc _; exact HEND.out hc) | exact HEND.out (by assumption)) HB.out).mono ?_
    rintro e w1 ⟨C, cc, rfl, hil, hx1, hfr⟩
    obtain ⟨r0, r1, r2, s0, s1, s2, hz4⟩ := (B8.ext hx1).c3
    go_wp2
    refine bodyPost_ret (v := .agg #[.int .i64 at_, .int .i64 ((n : Int) - stay - at_), .slice C u.length cc]) (by simp [results, Try.results52, go_sem, r0, r1, r2]) rfl ⟨C, cc, rfl, ?_, ?_, hfr.mono X8⟩
    · exact ((hil.setOld hfr (p := ⟨w.heap.size, 0, none⟩) B8.lt _).setOld hfr (p := ⟨w.heap.size, 1, none⟩) B8.lt _).setOld hfr (p := ⟨w.heap.size, 2, none⟩) B8.lt _
    · exact (((X8.trans hx1).setNew (by simp) _).setNew (by simp) _).setNew (by simp) _
end Go.Proofs.Ythhfjomjjhenkaa
