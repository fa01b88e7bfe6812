/- Walks of package sets: Fold. -/
import Derived.Test.YtlbdjnbcoldjhaaG17
namespace Go.Proofs.Ytlbdjnbcoldjhaa
open Go.RowKit

theorem OwnP.sl {w : World} {base c : Nat} {A : Option Addr} {l : List Sp} (h : OwnP w base A c l) (hg : ∀ s ∈ l, goodS s) : SL w A c l :=
  SL.of_own h (fun s hs => by have := hg s hs; unfold goodS at this; exact ⟨by unfold I64; omega, by unfold I64; omega⟩)

set_option maxRecDepth 100000 in
set_option maxHeartbeats 8000000 in
theorem sFold_any (A : Option Addr) (c : Nat) (a : List Sp) (w : World) (hl : SL w A c a) (hok : OkL a) (h64 : a.length ≤ 64) : Calls Try.prog 43 #[.slice A a.length c] w (RetS (foldL a) w) := by
  have b1 := Blk.new w 24 #[.slice A a.length c]
  have x1 := Ext.alloc w (.cells #[.slice A a.length c] 24)
  have hv : validE a = 0 := by rw [validE_ok hok, if_neg (by omega)]
  have hgz := (okL_canon hok).2
  have hL1 := letters_ok hok (first := 65) (last := 90) (d := 32) (by unfold goodS; simp) (by omega)
  have hL2 := letters_ok hok (first := 97) (last := 122) (d := -32) (by unfold goodS; simp) (by omega)
  have hll1 : (letters a 65 90 32).length ≤ 130 := by
    have := combo_len kAnd [a, [(65, 90)]]
    unfold letters
    rw [List.length_map]
    simp at this; omega
  have hll2 : (letters a 97 122 (-32)).length ≤ 130 := by
    have := combo_len kAnd [a, [(97, 122)]]
    unfold letters
    rw [List.length_map]
    simp at this; omega
  have HVA := fun (W' : World) (h : SL W' A c a) => Lib.hid (hv ▸ sValid_any A c a W' h)
  have hF1 := fun (W' : World) (x : Ext (w.alloc (.cells #[.slice A a.length c] 24)) W') => Lib.hid (fold1_any w.heap.size A c a 65 90 32 W' (x.cell (by rw [b1.cell]; rfl)) ((hl.ext x1).ext x) hok (by omega) (by unfold goodS; simp) (by omega))
  have hF2 := fun (W' : World) (x : Ext (w.alloc (.cells #[.slice A a.length c] 24)) W') => Lib.hid (fold1_any w.heap.size A c a 97 122 (-32) W' (x.cell (by rw [b1.cell]; rfl)) ((hl.ext x1).ext x) hok (by omega) (by unfold goodS; simp) (by omega))
  change ∀ W', Ext _ W' → Hid (Calls _ _ _ W' (fun e w' => ∃ (O : Option Addr) (cO : Nat), e = .returned (.slice O (letters a 65 90 32).length cO) ∧ OwnP w' W'.heap.size O cO (letters a 65 90 32) ∧ Ext W' w')) at hF1
  change ∀ W', Ext _ W' → Hid (Calls _ _ _ W' (fun e w' => ∃ (O : Option Addr) (cO : Nat), e = .returned (.slice O (letters a 97 122 (-32)).length cO) ∧ OwnP w' W'.heap.size O cO (letters a 97 122 (-32)) ∧ Ext W' w')) at hF2
  have HFG : Hid (foldL a = combo kOne [a, letters a 65 90 32, letters a 97 122 (-32)]) := rfl
  have HGF := Lib.hid (combo_good (k := kOne) (ls := [a, letters a 65 90 32, letters a 97 122 (-32)]) (fun b hb s hs => by
    simp only [List.mem_cons, List.not_mem_nil, or_false] at hb
    rcases hb with rfl | rfl | rfl
    · exact hgz s hs
    · exact (okL_canon hL1).2 s hs
    · exact (okL_canon hL2).2 s hs) rfl)
  have HFL := Lib.hid (combo_len kOne [a, letters a 65 90 32, letters a 97 122 (-32)])
  generalize letters a 65 90 32 = l1 at *
  generalize letters a 97 122 (-32) = l2 at *
  rw [← HFG.out] at HGF HFL
  generalize foldL a = out at *
  have hol : out.length ≤ 1000 := by
    have := HFL.out
    simp at this; omega
  clear HFL hv
  go_enter Try.func43, Try.ntmps43
  go_upto_region 1 with fail
  obtain ⟨gA, hgA⟩ : ∃ gA, gA = w.heap.size := ⟨_, rfl⟩
  rw [← hgA] at b1 hF1 hF2 ⊢
  clear hgA
  have hl1 := hl.ext x1
  generalize w.alloc (.cells #[.slice A a.length c] 24) = wa at *
  have q0 : wa.cell? ⟨gA, 0, none⟩ = some (.slice A a.length c) := by rw [b1.cell]; rfl
  go_wp2_with fail
  refine (HVA _ hl1).out.mono ?_
  rintro e w2 ⟨rfl, x2⟩
  clear HVA
  have q1 := x2.cell q0
  have k1 := fun (w' : World) (h : Kp [] w2 w') => h.cell q1 (by simp)
  go_upto_region 6 with fail
  refine Xr.start [] (by kernel_rfl) ?_
  (refine Xr.take 0 (some 13) (v := ?_) rfl rfl (by decide +kernel) (by rfl) ?_ ?_; rotate_left; (focus (intro w' hk; go_simp; (try with_reducible rfl); done)); (try simp only [Act.put, List.setIfInBounds_toArray, List.set_cons_zero, List.set_cons_succ]))
  (refine Xr.take 1 (some 14) (v := ?_) rfl rfl (by decide +kernel) (by rfl) ?_ ?_; rotate_left; (focus (intro w' hk; go_simp; (try with_reducible rfl); done)); (try simp only [Act.put, List.setIfInBounds_toArray, List.set_cons_zero, List.set_cons_succ]))
  (refine Xr.take 2 (some 15) (v := ?_) rfl rfl (by decide +kernel) (by rfl) ?_ ?_; rotate_left; (focus (intro w' hk; go_simp; (try with_reducible rfl); done)); (try simp only [Act.put, List.setIfInBounds_toArray, List.set_cons_zero, List.set_cons_succ]))
  (refine Xr.take 4 (some 17) (v := ?_) rfl rfl (by decide +kernel) (by rfl) ?_ ?_; rotate_left; (focus (intro w' hk; go_simp; (try with_reducible rfl); done)); (try simp only [Act.put, List.setIfInBounds_toArray, List.set_cons_zero, List.set_cons_succ]))
  refine Xr.call 3 rfl (by decide +kernel) (by rfl) (fun w3 hE3 hK3 K hKK => ?_)
  go_simp
  refine (hF1 _ (x2.trans hK3.nil)).out.mono ?_
  rintro e w4 ⟨O1, c1, rfl, hO1, x4⟩
  refine hKK _ _ x4 ?_
  clear hKK
  (try simp only [Act.put, List.setIfInBounds_toArray, List.set_cons_zero, List.set_cons_succ])
  refine Xr.call 5 rfl (by decide +kernel) (by rfl) (fun w5 hE5 hK5 K hKK => ?_)
  go_simp
  refine (hF2 _ (x2.trans hK5.nil)).out.mono ?_
  rintro e w6 ⟨O2, c2, rfl, hO2, x6⟩
  refine hKK _ _ x6 ?_
  clear hKK
  (try simp only [Act.put, List.setIfInBounds_toArray, List.set_cons_zero, List.set_cons_succ])
  refine Xr.call 6 rfl (by decide +kernel) (by rfl) (fun w7 hE7 hK7 K hKK => ?_)
  go_simp
  have bL := Blk.new w7 24 #[.slice A a.length c, .slice O1 l1.length c1, .slice O2 l2.length c2]
  have eL := Ext.alloc w7 (.cells #[.slice A a.length c, .slice O1 l1.length c1, .slice O2 l2.length c2] 24)
  refine hKK _ _ eL ?_
  clear hKK
  (try simp only [Act.put, List.setIfInBounds_toArray, List.set_cons_zero, List.set_cons_succ])
  refine Xr.call 7 rfl (by decide +kernel) (by rfl) (fun w8 hE8 hK8 K hKK => ?_)
  go_simp
  have bL8 := bL.ext hE8
  have sA := (hl1.ext x2).ext hK8.nil
  have s1 := (((((OwnP.sl hO1 (okL_canon hL1).2).ext hE5).ext x6).ext hE7).ext eL).ext hE8
  have s2 := (((OwnP.sl hO2 (okL_canon hL2).2).ext hE7).ext eL).ext hE8
  have HLL : LLS w8 (some ⟨w7.heap.size, 0, none⟩) 3 [⟨A, c, a⟩, ⟨O1, c1, l1⟩, ⟨O2, c2, l2⟩] := by
    refine ⟨by simp, by unfold maxLen; omega, fun h hh => ?_, fun _ => ⟨_, 0, rfl, fun j hj => ?_⟩⟩
    · simp only [List.mem_cons, List.not_mem_nil, or_false] at hh
      rcases hh with rfl | rfl | rfl
      · exact sA
      · exact s1
      · exact s2
    · have hj2 : j < 3 := by simpa using hj
      match j, hj2 with
      | 0, _ => rw [bL8.cell]; rfl
      | 1, _ => rw [bL8.cell]; rfl
      | 2, _ => rw [bL8.cell]; rfl
  have eg : ∀ args w, (callFunc 65 args).run Try.prog w = .ok (.enter 65 args) w := enters_of Try.func65 (by kernel_rfl) rfl
  have HCB := combine_any 65 kOne _ 3 [⟨A, c, a⟩, ⟨O1, c1, l1⟩, ⟨O2, c2, l2⟩] w8 HLL (fun h hh => by
    simp only [List.mem_cons, List.not_mem_nil, or_false] at hh
    rcases hh with rfl | rfl | rfl
    · exact hok
    · exact hL1
    · exact hL2) (by simp; omega) (by simp) eg (fun W B cB bs h hb => one_any W B cB bs h (by simpa using hb))
  have HLS : ([⟨A, c, a⟩, ⟨O1, c1, l1⟩, ⟨O2, c2, l2⟩] : List Hs).map (·.l) = [a, l1, l2] := rfl
  rw [HLS, ← HFG.out] at HCB
  refine HCB.mono ?_
  rintro e w9 ⟨O, cO, rfl, hO, x9⟩
  refine hKK _ _ x9 ?_
  clear hKK HCB HLL bL bL8
  (try simp only [Act.put, List.setIfInBounds_toArray, List.set_cons_zero, List.set_cons_succ])
  refine Xr.call 8 rfl (by decide +kernel) (by rfl) (fun w10 hE10 hK10 K hKK => ?_)
  go_simp
  have HLI := limited_any O cO out.length w10 (by omega)
  by_cases ho64 : 64 < out.length
  · rw [if_pos ho64] at HLI
    refine HLI.mono ?_
    rintro e w11 ⟨rfl, rfl⟩
    refine hKK _ _ (Ext.rfl' _) ?_
    clear hKK
    (try simp only [Act.put, List.setIfInBounds_toArray, List.set_cons_zero, List.set_cons_succ])
    (refine Xr.take 9 (some 22) (v := ?_) rfl rfl (by decide +kernel) (by rfl) ?_ ?_; rotate_left; (focus (intro w' hk; go_simp; (try with_reducible rfl); done)); (try simp only [Act.put, List.setIfInBounds_toArray, List.set_cons_zero, List.set_cons_succ]))
    (refine Xr.take 10 (some 23) (v := ?_) rfl rfl (by decide +kernel) (by rfl) ?_ ?_; rotate_left; (focus (intro w' hk; go_simp; (try with_reducible rfl); done)); (try simp only [Act.put, List.setIfInBounds_toArray, List.set_cons_zero, List.set_cons_succ]))
    (refine Xr.take 11 (some 2) (v := ?_) rfl rfl (by decide +kernel) (by rfl) ?_ ?_; rotate_left; (focus (intro w' hk; go_simp; (try with_reducible rfl); done)); (try simp only [Act.put, List.setIfInBounds_toArray, List.set_cons_zero, List.set_cons_succ]))
    (refine Xr.take 12 (some 3) (v := ?_) rfl rfl (by decide +kernel) (by rfl) ?_ ?_; rotate_left; (focus (intro w' hk; go_simp; (try with_reducible rfl); done)); (try simp only [Act.put, List.setIfInBounds_toArray, List.set_cons_zero, List.set_cons_succ]))
    refine Xr.done (by decide +kernel) (fun w12 hE12 hK12 => ?_)
    have X := (x1.trans x2).trans hK12.nil
    clear hF1 hF2 k1 q1 q0 s1 s2 sA hE10 hK10 hE12 hK12 x9 hE8 hK8 hE7 hK7 x6 hE5 hK5 x4 hE3 hK3 eL hO hO1 hO2 HLI
    go_wp2_with fail
    exact bodyPost_ret (v := .tuple #[.slice none 0 0, .int .i64 4]) (by simp [results, Try.results43, go_sem]) rfl (.inl ⟨ho64, rfl, X⟩)
  · rw [if_neg ho64] at HLI
    refine HLI.mono ?_
    rintro e w11 ⟨rfl, rfl⟩
    refine hKK _ _ (Ext.rfl' _) ?_
    clear hKK
    (try simp only [Act.put, List.setIfInBounds_toArray, List.set_cons_zero, List.set_cons_succ])
    (refine Xr.take 9 (some 22) (v := ?_) rfl rfl (by decide +kernel) (by rfl) ?_ ?_; rotate_left; (focus (intro w' hk; go_simp; (try with_reducible rfl); done)); (try simp only [Act.put, List.setIfInBounds_toArray, List.set_cons_zero, List.set_cons_succ]))
    (refine Xr.take 10 (some 23) (v := ?_) rfl rfl (by decide +kernel) (by rfl) ?_ ?_; rotate_left; (focus (intro w' hk; go_simp; (try with_reducible rfl); done)); (try simp only [Act.put, List.setIfInBounds_toArray, List.set_cons_zero, List.set_cons_succ]))
    (refine Xr.take 11 (some 2) (v := ?_) rfl rfl (by decide +kernel) (by rfl) ?_ ?_; rotate_left; (focus (intro w' hk; go_simp; (try with_reducible rfl); done)); (try simp only [Act.put, List.setIfInBounds_toArray, List.set_cons_zero, List.set_cons_succ]))
    (refine Xr.take 12 (some 3) (v := ?_) rfl rfl (by decide +kernel) (by rfl) ?_ ?_; rotate_left; (focus (intro w' hk; go_simp; (try with_reducible rfl); done)); (try simp only [Act.put, List.setIfInBounds_toArray, List.set_cons_zero, List.set_cons_succ]))
    refine Xr.done (by decide +kernel) (fun w12 hE12 hK12 => ?_)
    have X := (x1.trans x2).trans hK12.nil
    have HOF := Lib.hid (OwnP.sl ((hO.ext hE10).ext hE12) HGF.out)
    have HFR := Lib.hid (show Fr w O from fun b hb => by
      have h1 := OwnP.row hO hb
      have h2 := ((x1.trans x2).trans hK8.nil).size
      omega)
    clear hF1 hF2 k1 q1 q0 s1 s2 sA hE10 hK10 hE12 hK12 x9 hE8 hK8 hE7 hK7 x6 hE5 hK5 x4 hE3 hK3 eL hO hO1 hO2 HLI
    go_wp2_with fail
    exact bodyPost_ret (v := .tuple #[.slice O out.length cO, .int .i64 0]) (by simp [results, Try.results43, go_sem]) rfl (.inr ⟨by omega, O, cO, rfl, HOF.out, X, HFR.out⟩)
end Go.Proofs.Ytlbdjnbcoldjhaa
