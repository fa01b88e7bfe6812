/- The examples of the section: 'lives' is true. -/
import Derived.Test.YtlbdjnbcoldjhaaH7
import Derived.Test.YtlbdjnbcoldjhaaG12
import Derived.Test.YtlbdjnbcoldjhaaG25
namespace Go.Proofs.Ytlbdjnbcoldjhaa
open Go.RowKit

theorem lvN (W : World) (A : Option Addr) (c : Nat) (h : SL W A c [(5, 9), (1, 3), (4, 4)]) :
    Calls Try.prog 22 #[.slice A 3 c] W (fun e w' => ∃ (S : Option Addr) (cS : Nat), e = .returned (.tuple #[.slice S 1 cS, .int .i64 0]) ∧ SL w' S cS [(1, 9)] ∧ Ext W w') := by
  refine (sNormal_any A c [(5, 9), (1, 3), (4, 4)] W h (by simp)).mono ?_
  rintro e w' (⟨h1, _, _⟩ | ⟨_, ⟨h64, _, _⟩ | ⟨_, S, cS, rfl, hS, x, _⟩⟩)
  · exact absurd lv_all h1
  · rw [lv_nrm] at h64; simp at h64
  · rw [lv_nrm] at hS ⊢
    exact ⟨S, cS, rfl, hS, x⟩
theorem lvS (W : World) (A : Option Addr) (c : Nat) (hs : List Hs) (hl : hs.map (·.l) = [[(1, 5)], [(3, 9)]]) (h : LLS W A c hs) :
    Calls Try.prog 13 #[.slice A 2 c, .int .i64 9] W (fun e w' => ∃ (O : Option Addr) (cO : Nat) (os : List Hs), e = .returned (.tuple #[.slice O 4 cO, .int .i64 0]) ∧ LLS w' O cO os ∧ os.map (·.l) = [[(0, 0)], [(1, 2)], [(3, 5)], [(6, 9)]] ∧ Ext W w') := by
  have hlen : hs.length = 2 := by
    have := congrArg List.length hl
    simpa using this
  have H := sSplit_any A c hs 9 W h (by unfold I64; omega) (by omega) (by rw [hl]; simp)
  rw [hlen] at H
  refine H.mono ?_
  rintro e w' ⟨O, cO, os, rfl, hO, hc, x⟩
  rw [hl, lv_splitE] at hc ⊢
  rw [if_pos rfl, lv_classes] at hc
  have h4 : os.length = 4 := by
    have := congrArg List.length hc
    simpa using this
  exact ⟨O, cO, os, by rw [h4], hO, hc, x⟩
theorem lvF (W : World) (A : Option Addr) (c : Nat) (h : SL W A c [(65, 66)]) :
    Calls Try.prog 43 #[.slice A 1 c] W (fun e w' => ∃ (S : Option Addr) (cS : Nat), e = .returned (.tuple #[.slice S 2 cS, .int .i64 0]) ∧ SL w' S cS [(65, 66), (97, 98)] ∧ Ext W w') := by
  refine (sFold_any A c [(65, 66)] W h (lv_ok1 65 66 (by omega) (by omega) (by omega)) (by simp)).mono ?_
  rintro e w' (⟨h64, _, _⟩ | ⟨_, S, cS, rfl, hS, x, _⟩)
  · rw [lv_fold] at h64; simp at h64
  · rw [lv_fold] at hS ⊢
    exact ⟨S, cS, rfl, hS, x⟩
theorem lvE (W : World) (A B : Option Addr) (c d : Nat) (a : List Sp) (ha : SL W A c a) (hb : SL W B d a) (n : Nat) (hn : a.length = n) :
    Calls Try.prog 15 #[.slice A n c, .slice B n d] W (RetV (.bool true) W) := by
  have H := gEqual_any A B c d a a W ha hb
  rw [hn, decide_eq_true rfl] at H
  exact H

set_option maxRecDepth 100000 in
set_option maxHeartbeats 4000000 in
theorem slives_any (w : World) : Calls Try.prog 16 #[] w (RetV (.bool true) w) := by
  go_enter Try.func16, Try.ntmps16
  go_wp2_with fail
  have b1 := Blk.new w 48 (flatS [(5, 9), (1, 3), (4, 4)]).toArray
  have x1 := Ext.alloc w (.cells (flatS [(5, 9), (1, 3), (4, 4)]).toArray 48)
  refine (lvN _ _ _ (SL.lit [(5, 9), (1, 3), (4, 4)] b1 (fun s hs => good_small (lv_all s hs)) (by simp))).mono ?_
  rintro e w1 ⟨S, cS, rfl, hS, y1⟩
  have X := x1.trans y1
  clear b1 x1 y1
  go_wp2_with fail
  obtain ⟨b1, b2, b3, x3⟩ := alloc3 w1 48 (flatS [(1, 5)]).toArray 48 (flatS [(3, 9)]).toArray 24 #[.slice (some ⟨w1.heap.size, 0, none⟩) 1 1, .slice (some ⟨w1.heap.size + 1, 0, none⟩) 1 1]
  have s1 := SL.lit [(1, 5)] b1 (fun s hs => good_small (lv_g1 1 5 (by omega) (by omega) (by omega) s hs)) (by simp)
  have s2 := SL.lit [(3, 9)] b2 (fun s hs => good_small (lv_g1 3 9 (by omega) (by omega) (by omega) s hs)) (by simp)
  have HLL : LLS (((w1.alloc (.cells (flatS [(1, 5)]).toArray 48)).alloc (.cells (flatS [(3, 9)]).toArray 48)).alloc (.cells #[.slice (some ⟨w1.heap.size, 0, none⟩) 1 1, .slice (some ⟨w1.heap.size + 1, 0, none⟩) 1 1] 24)) (some ⟨w1.heap.size + 1 + 1, 0, none⟩) 2 [⟨some ⟨w1.heap.size, 0, none⟩, 1, [(1, 5)]⟩, ⟨some ⟨w1.heap.size + 1, 0, none⟩, 1, [(3, 9)]⟩] := by
    refine ⟨by simp, by unfold maxLen; omega, fun h hh => ?_, fun _ => ⟨_, 0, rfl, fun j hj => ?_⟩⟩
    · rcases List.mem_cons.1 hh with rfl | hh
      · exact s1
      · obtain rfl := List.mem_singleton.1 hh
        exact s2
    · have : j = 0 ∨ j = 1 := by simp at hj; omega
      rcases this with rfl | rfl
      · rw [b3.cell]; rfl
      · rw [b3.cell]; rfl
  refine (lvS _ _ _ _ rfl HLL).mono ?_
  rintro e w2 ⟨O, cO, os, rfl, hO, hc, y2⟩
  have h4 : os.length = 4 := by
    have := congrArg List.length hc
    simpa using this
  have hz : os[2].l = [(3, 5)] := by
    have : (os.map (·.l))[2]'(by simp; omega) = [(3, 5)] := by simp only [hc]; rfl
    simpa using this
  have hZ := hO.sl _ (List.getElem_mem (show 2 < os.length by omega))
  obtain ⟨ob, oo, rfl, g0⟩ := hO.get (show 2 < os.length by omega)
  rw [hz] at hZ g0
  generalize os[2].A = zA at *
  generalize os[2].c = zc at *
  have hS2 := (hS.ext x3).ext y2
  replace X := (X.trans x3).trans y2
  clear b1 b2 b3 s1 s2 HLL x3 y2 hS hO hc hz h4
  go_wp2_with fail
  have b4 := Blk.new w2 48 (flatS [(65, 66)]).toArray
  have x4 := Ext.alloc w2 (.cells (flatS [(65, 66)]).toArray 48)
  refine (lvF _ _ _ (SL.lit [(65, 66)] b4 (fun s hs => good_small (lv_g1 65 66 (by omega) (by omega) (by omega) s hs)) (by simp))).mono ?_
  rintro e w3 ⟨F, cF, rfl, hF, y3⟩
  have x43 := x4.trans y3
  replace X := X.trans x43
  replace g0 := x43.cell g0
  have hS3 := hS2.ext x43
  have hZ3 := hZ.ext x43
  clear b4 x4 y3 x43 hS2 hZ
  go_wp2_with fail
  have b5 := Blk.new w3 48 (flatS [(1, 9)]).toArray
  have x5 := Ext.alloc w3 (.cells (flatS [(1, 9)]).toArray 48)
  refine (lvE _ _ _ _ _ _ (hS3.ext x5) (SL.lit [(1, 9)] b5 (fun s hs => good_small (lv_g1 1 9 (by omega) (by omega) (by omega) s hs)) (by simp)) 1 rfl).mono ?_
  rintro e w4 ⟨rfl, y4⟩
  have x54 := x5.trans y4
  replace X := X.trans x54
  replace g0 := x54.cell g0
  have hF4 := hF.ext x54
  have hZ4 := hZ3.ext x54
  clear b5 x5 y4 x54 hF hZ3
  go_wp2_with fail
  have b6 := Blk.new w4 48 (flatS [(3, 5)]).toArray
  have x6 := Ext.alloc w4 (.cells (flatS [(3, 5)]).toArray 48)
  refine (lvE _ _ _ _ _ _ (hZ4.ext x6) (SL.lit [(3, 5)] b6 (fun s hs => good_small (lv_g1 3 5 (by omega) (by omega) (by omega) s hs)) (by simp)) 1 rfl).mono ?_
  rintro e w5 ⟨rfl, y5⟩
  have x65 := x6.trans y5
  replace X := X.trans x65
  have hF5 := hF4.ext x65
  clear b6 x6 y5 x65 hF4 hZ4 g0
  go_wp2_with fail
  have b7 := Blk.new w5 48 (flatS [(65, 66), (97, 98)]).toArray
  have x7 := Ext.alloc w5 (.cells (flatS [(65, 66), (97, 98)]).toArray 48)
  refine (lvE _ _ _ _ _ _ (hF5.ext x7) (SL.lit [(65, 66), (97, 98)] b7 (fun s hs => by
    simp only [List.mem_cons, List.not_mem_nil, or_false] at hs
    rcases hs with rfl | rfl <;> (unfold Small; simp)) (by simp)) 2 rfl).mono ?_
  rintro e w6 ⟨rfl, y6⟩
  replace X := (X.trans x7).trans y6
  clear b7 x7 y6 hF5
  go_wp2_with fail
  go_ret
  exact ⟨rfl, X⟩
end Go.Proofs.Ytlbdjnbcoldjhaa
