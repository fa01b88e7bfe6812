/- The walk of EditsMove: for all edits of a text, and any ones, both models move alike. -/
import Derived.Test.YthhfjomjjhenkaaE12
namespace Go.Proofs.Ythhfjomjjhenkaa
open Go.RowKit
attribute [local go_sem ↓] Go.wp_at_zero Go.wp_at_succ

theorem pick_bd (l : List Int) (i : Nat) (m : Int) (h : 1 ≤ m) : 0 ≤ pick l i m ∧ pick l i m < m := by
  unfold pick; split
  · exact around_bd _ _ h
  · omega
theorem pick_wf (l : List Int) (i : Nat) : I64 (pick l i 1048576) := by
  have := pick_bd l i 1048576 (by omega); exact I64_of (by omega)

/-- edits in a block: three cells each -/
def EL (w : World) (b : Nat) (es : List Ed) : Prop :=
  ∀ i (h : i < es.length), ∃ A c, w.cell? ⟨b, i * 3, none⟩ = some (.int .i64 es[i].at_) ∧ w.cell? ⟨b, i * 3 + 1, none⟩ = some (.int .i64 es[i].del) ∧
    w.cell? ⟨b, i * 3 + 2, none⟩ = some (.slice A es[i].ins.length c) ∧ IL w A c es[i].ins
theorem EL.ext {w w' : World} {b : Nat} {es : List Ed} (h : EL w b es) (k : Ext w w') : EL w' b es := fun i hi => by
  obtain ⟨A, c, h1, h2, h3, h4⟩ := h i hi
  exact ⟨A, c, k.cell h1, k.cell h2, k.cell h3, h4.ext k⟩
theorem EL.two {w : World} {b T : Nat} {x y : Ed} {A B : Option Addr} {c d : Nat}
    (h : Blk w b T #[.int .i64 x.at_, .int .i64 x.del, .slice A x.ins.length c, .int .i64 y.at_, .int .i64 y.del, .slice B y.ins.length d])
    (hx : IL w A c x.ins) (hy : IL w B d y.ins) : EL w b [x, y] := by
  intro i hi
  match i, hi with
  | 0, _ => exact ⟨A, c, h.cell 0, h.cell 1, h.cell 2, hx⟩
  | 1, _ => exact ⟨B, d, h.cell 3, h.cell 4, h.cell 5, hy⟩
theorem EL.four {w : World} {b T : Nat} {x y z v : Ed} {A B C D : Option Addr} {c d e f : Nat}
    (h : Blk w b T #[.int .i64 x.at_, .int .i64 x.del, .slice A x.ins.length c, .int .i64 y.at_, .int .i64 y.del, .slice B y.ins.length d,
      .int .i64 z.at_, .int .i64 z.del, .slice C z.ins.length e, .int .i64 v.at_, .int .i64 v.del, .slice D v.ins.length f])
    (hx : IL w A c x.ins) (hy : IL w B d y.ins) (hz : IL w C e z.ins) (hv : IL w D f v.ins) : EL w b [x, y, z, v] := by
  intro i hi
  match i, hi with
  | 0, _ => exact ⟨A, c, h.cell 0, h.cell 1, h.cell 2, hx⟩
  | 1, _ => exact ⟨B, d, h.cell 3, h.cell 4, h.cell 5, hy⟩
  | 2, _ => exact ⟨C, e, h.cell 6, h.cell 7, h.cell 8, hz⟩
  | 3, _ => exact ⟨D, f, h.cell 9, h.cell 10, h.cell 11, hv⟩

/-- a fresh slice past three stores into a block that was not made in its call -/
theorem IL.past3 {w0 w1 w2 : World} {A : Option Addr} {c : Nat} {xs : List Int} {g : Nat} {I : List (Nat × Nat)} (h : IL w1 A c xs) (hf : Fr w0 A) (k : Ext w1 w2) (hg : ¬ InI ((w0.heap.size, w1.heap.size) :: I) g) (x y z : Value) :
    IL (((w2.setCell ⟨g, 0, none⟩ x).setCell ⟨g, 1, none⟩ y).setCell ⟨g, 2, none⟩ z) A c xs := by
  refine ⟨h.le, h.cap, h.rng, fun hn => ?_⟩
  obtain ⟨b, o, rfl, hc⟩ := h.at_ hn
  have hb : w0.heap.size ≤ b := hf b rfl
  have hb2 : b < w1.heap.size := World.block_lt_of_cell? _ _ (hc 0 (by cases xs with | nil => exact absurd rfl hn | cons => simp))
  have hne : b ≠ g := by rintro rfl; exact hg ⟨_, List.mem_cons_self .., hb, hb2⟩
  refine ⟨b, o, rfl, fun i hi => ?_⟩
  rw [World.cell?_setCell_other _ _ _ _ (fun he => by have h1 := congrArg Addr.block he; first | exact hne h1 | exact hne h1.symm), World.cell?_setCell_other _ _ _ _ (fun he => by have h1 := congrArg Addr.block he; first | exact hne h1 | exact hne h1.symm), World.cell?_setCell_other _ _ _ _ (fun he => by have h1 := congrArg Addr.block he; first | exact hne h1 | exact hne h1.symm)]
  exact k.cell (hc i hi)

set_option maxHeartbeats 4000000 in
theorem EditsMove_any (size : Int) (A : Option Addr) (c : Nat) (l : List Int) (at_ del sym : Int) (w : World) (hs : I64 size) (hl : IL w A c l) (_ha : I64 at_) (_hd : I64 del) (hy : I64 sym) :
    Calls Try.prog 3 #[.int .i64 size, .slice A l.length c, .int .i64 at_, .int .i64 del, .int .i64 sym] w (RetV (.bool true) w) := by
  obtain ⟨k, hk⟩ : ∃ k : Nat, around size 30 = k := ⟨(around size 30).toNat, by have := around_bd size 30 (by omega); omega⟩
  have hk2 := around_bd size 30 (by omega)
  rw [hk] at hk2
  have HK := Lib.hid hk
  clear hk
  go_enter Try.func3, Try.ntmps3
  go_wp2_with fail
  refine (around_any _ _ _ hs (by omega) (by omega)).mono ?_
  rintro e w1 h1
  obtain ⟨rfl, x1⟩ := h1.v
  rw [HK.out]
  clear h1
  go_wp2_with fail
  refine (pick_any _ _ l 0 _ _ (hl.ext x1) (by omega) (by omega) (by omega)).mono ?_
  rintro e w2 h1
  obtain ⟨rfl, x2⟩ := h1.v
  clear h1
  go_wp2_with fail
  refine (pick_any _ _ l 1 _ _ ((hl.ext x1).ext x2) (by omega) (by omega) (by omega)).mono ?_
  rintro e w3 h1
  obtain ⟨rfl, x3⟩ := h1.v
  clear h1
  go_wp2_with fail
  refine (rEdit_any k _ _ _ (by omega) (pick_wf _ _) (pick_wf _ _)).mono ?_
  rintro e w4 ⟨A1, c1, rfl, i1, x4, _⟩
  generalize redit k (pick l 0 1048576) (pick l 1 1048576) = e1 at *
  replace x1 := ((x1.trans x2).trans x3).trans x4
  clear x2 x3 x4
  go_wp2_with fail
  refine (pick_any _ _ l 2 _ _ (hl.ext x1) (by omega) (by omega) (by omega)).mono ?_
  rintro e w5 h1
  obtain ⟨rfl, x2⟩ := h1.v
  clear h1
  go_wp2_with fail
  refine (pick_any _ _ l 3 _ _ ((hl.ext x1).ext x2) (by omega) (by omega) (by omega)).mono ?_
  rintro e w6 h1
  obtain ⟨rfl, x3⟩ := h1.v
  clear h1
  go_wp2_with fail
  refine (rEdit_any k _ _ _ (by omega) (pick_wf _ _) (pick_wf _ _)).mono ?_
  rintro e w7 ⟨A2, c2, rfl, i2, x4, _⟩
  generalize redit k (pick l 2 1048576) (pick l 3 1048576) = e2 at *
  replace i1 := ((i1.ext x2).ext x3).ext x4
  replace x1 := ((x1.trans x2).trans x3).trans x4
  clear x2 x3 x4
  go_wp2_with fail
  obtain ⟨b1, b2, x2⟩ := alloc2 w7 3 #[.int .i64 sym] 25 #[.int .i64 e1.at_, .int .i64 e1.del, .slice A1 e1.ins.length c1, .int .i64 e2.at_, .int .i64 e2.del, .slice A2 e2.ins.length c2,
    .int .i64 at_, .int .i64 del, .slice (some ⟨w7.heap.size, 0, none⟩) 1 1, .int .i64 65536, .int .i64 65536, .slice none 0 0]
  have hEL : EL _ (w7.heap.size + 1) [e1, e2, ⟨at_, del, [sym]⟩, ⟨65536, 65536, []⟩] :=
    EL.four b2 (i1.ext x2) (i2.ext x2) (IL.of_blk (xs := [sym]) b1 (by simpa using hy) (by simp [maxLen])) (IL.nil _)
  replace x1 := x1.trans x2
  clear b1 b2 x2 i1 i2
  generalize hes : [e1, e2, ⟨at_, del, [sym]⟩, ⟨65536, 65536, []⟩] = es at hEL
  have hel : es.length = 4 := by rw [← hes]; rfl
  clear hes
  go_loopw [13] (fun i wr => ∃ m : Nat, m ≤ 4 ∧ i = .int .i64 m ∧ Ext w wr ∧ EL wr (w7.heap.size + 1) es) (fun i _ => 4 - (intOf i).toNat)
  case atStart => exact ⟨0, by omega, rfl, x1, hEL⟩
  case round =>
    clear hEL x1
    obtain ⟨m, hm, rfl, x1, hEL⟩ := hrel
    by_cases hm4 : m < 4
    · have hmi : (m : Int) < 4 := by omega
      go_wp2_with fail
      go_loopw [14] (fun i wr => ∃ n : Nat, n ≤ 4 ∧ i = .int .i64 n ∧ Ext w wr ∧ EL wr (w7.heap.size + 1) es) (fun i _ => 4 - (intOf i).toNat)
      case atStart => exact ⟨0, by omega, rfl, x1, hEL⟩
      case round =>
        clear hEL x1
        obtain ⟨n, hn, rfl, x1, hEL⟩ := hrel
        by_cases hn4 : n < 4
        · have hni : (n : Int) < 4 := by omega
          obtain ⟨A3, c3, p0, p1, p2, i3⟩ := hEL m (by omega)
          obtain ⟨A4, c4, q0, q1, q2, i4⟩ := hEL n (by omega)
          generalize es[m] = e3 at *
          generalize es[n] = e4 at *
          have kp0 := fun (w' : World) (h : Kp [] wr w') => h.cell p0 (by simp)
          have kp1 := fun (w' : World) (h : Kp [] wr w') => h.cell p1 (by simp)
          have kp2 := fun (w' : World) (h : Kp [] wr w') => h.cell p2 (by simp)
          have kq0 := fun (w' : World) (h : Kp [] wr w') => h.cell q0 (by simp)
          have kq1 := fun (w' : World) (h : Kp [] wr w') => h.cell q1 (by simp)
          have kq2 := fun (w' : World) (h : Kp [] wr w') => h.cell q2 (by simp)
          have HM : ∃ (r : Ed) (err : Int), (∀ W, Ext wr W → Calls Try.prog 13 #[.agg #[.int .i64 e3.at_, .int .i64 e3.del, .slice A3 e3.ins.length c3], .agg #[.int .i64 e4.at_, .int .i64 e4.del, .slice A4 e4.ins.length c4]] W (RetEdE r err W)) ∧
              ((formed e3.at_ e3.del e3.ins = true ∧ formed e4.at_ e4.del e4.ins = true ∧ r = movedE e3 e4 ∧ err = 0) ∨ ((formed e3.at_ e3.del e3.ins && formed e4.at_ e4.del e4.ins) = false ∧ r = ⟨0, 0, []⟩ ∧ err = 5)) := by
            by_cases hF : (formed e3.at_ e3.del e3.ins && formed e4.at_ e4.del e4.ins) = true
            · have hF2 := hF
              rw [Bool.and_eq_true] at hF2
              exact ⟨_, _, fun W hW => move_ok e3 e4 A3 A4 c3 c4 W (i3.ext hW) (i4.ext hW) hF2.1 hF2.2, .inl ⟨hF2.1, hF2.2, rfl, rfl⟩⟩
            · rw [Bool.not_eq_true] at hF
              exact ⟨_, _, fun W hW => move_no e3 e4 A3 A4 c3 c4 W (i3.ext hW) (i4.ext hW) hF, .inr ⟨hF, rfl, rfl⟩⟩
          obtain ⟨r, err, hmv, hcase⟩ := HM
          have HC := Lib.hid hcase
          clear hcase
          go_wp2_with fail
          refine Xr.start [] (by kernel_rfl) ?_
          repeat (first | (refine Xr.take 0 (some 49) (v := ?_) rfl rfl (by decide +kernel) (by rfl) ?_ ?_; rotate_left; (focus (intro w' hk; go_simp; (try with_reducible rfl); done)); (try simp only [Act.put, List.setIfInBounds_toArray, List.set_cons_zero, List.set_cons_succ])) | (refine Xr.take 1 (some 50) (v := ?_) rfl rfl (by decide +kernel) (by rfl) ?_ ?_; rotate_left; (focus (intro w' hk; go_simp; (try with_reducible rfl); done)); (try simp only [Act.put, List.setIfInBounds_toArray, List.set_cons_zero, List.set_cons_succ])) | (refine Xr.take 2 (some 51) (v := ?_) rfl rfl (by decide +kernel) (by rfl) ?_ ?_; rotate_left; (focus (intro w' hk; go_simp; (try with_reducible rfl); done)); (try simp only [Act.put, List.setIfInBounds_toArray, List.set_cons_zero, List.set_cons_succ])) | (refine Xr.take 3 (some 52) (v := ?_) rfl rfl (by decide +kernel) (by rfl) ?_ ?_; rotate_left; (focus (intro w' hk; go_simp; (try with_reducible rfl); done)); (try simp only [Act.put, List.setIfInBounds_toArray, List.set_cons_zero, List.set_cons_succ])) | (refine Xr.take 4 (some 53) (v := ?_) rfl rfl (by decide +kernel) (by rfl) ?_ ?_; rotate_left; (focus (intro w' hk; go_simp; (try with_reducible rfl); done)); (try simp only [Act.put, List.setIfInBounds_toArray, List.set_cons_zero, List.set_cons_succ])) | (refine Xr.take 5 (some 54) (v := ?_) rfl rfl (by decide +kernel) (by rfl) ?_ ?_; rotate_left; (focus (intro w' hk; go_simp; (try with_reducible rfl); done)); (try simp only [Act.put, List.setIfInBounds_toArray, List.set_cons_zero, List.set_cons_succ])) | (refine Xr.take 6 (some 55) (v := ?_) rfl rfl (by decide +kernel) (by rfl) ?_ ?_; rotate_left; (focus (intro w' hk; go_simp; (try with_reducible rfl); done)); (try simp only [Act.put, List.setIfInBounds_toArray, List.set_cons_zero, List.set_cons_succ])) | (refine Xr.take 7 (some 56) (v := ?_) rfl rfl (by decide +kernel) (by rfl) ?_ ?_; rotate_left; (focus (intro w' hk; go_simp; (try with_reducible rfl); done)); (try simp only [Act.put, List.setIfInBounds_toArray, List.set_cons_zero, List.set_cons_succ])) | (refine Xr.take 9 (some 48) (v := ?_) rfl rfl (by decide +kernel) (by rfl) ?_ ?_; rotate_left; (focus (intro w' hk; go_simp; (try with_reducible rfl); done)); (try simp only [Act.put, List.setIfInBounds_toArray, List.set_cons_zero, List.set_cons_succ])) | (refine Xr.take 10 (some 58) (v := ?_) rfl rfl (by decide +kernel) (by rfl) ?_ ?_; rotate_left; (focus (intro w' hk; go_simp; (try with_reducible rfl); done)); (try simp only [Act.put, List.setIfInBounds_toArray, List.set_cons_zero, List.set_cons_succ])) | (refine Xr.take 11 (some 59) (v := ?_) rfl rfl (by decide +kernel) (by rfl) ?_ ?_; rotate_left; (focus (intro w' hk; go_simp; (try with_reducible rfl); done)); (try simp only [Act.put, List.setIfInBounds_toArray, List.set_cons_zero, List.set_cons_succ])) | (refine Xr.take 14 (some 16) (v := ?_) rfl rfl (by decide +kernel) (by rfl) ?_ ?_; rotate_left; (focus (intro w' hk; go_simp; (try with_reducible rfl); done)); (try simp only [Act.put, List.setIfInBounds_toArray, List.set_cons_zero, List.set_cons_succ])))
          refine Xr.lazy 12 15 13 (fun g => .pointer (some ⟨g, 0, none⟩)) 25 #[.int .i64 0, .int .i64 0, .slice none 0 0] rfl (by simp) (by decide +kernel) (by simp) (fun w' => by go_simp) ?_
          refine Xr.call 8 rfl (by decide +kernel) (by rfl) (fun w8 hE8 hK8 K hKK => ?_)
          go_simp
          refine (hmv _ hE8).mono ?_
          rintro e w9 ⟨C, cc, rfl, hil, hx9, hfr⟩
          refine hKK _ _ hx9 ?_
          clear hKK
          (try simp only [Act.put, List.setIfInBounds_toArray, List.set_cons_zero, List.set_cons_succ])
          repeat (first | (refine Xr.take 0 (some 49) (v := ?_) rfl rfl (by decide +kernel) (by rfl) ?_ ?_; rotate_left; (focus (intro w' hk; go_simp; (try with_reducible rfl); done)); (try simp only [Act.put, List.setIfInBounds_toArray, List.set_cons_zero, List.set_cons_succ])) | (refine Xr.take 1 (some 50) (v := ?_) rfl rfl (by decide +kernel) (by rfl) ?_ ?_; rotate_left; (focus (intro w' hk; go_simp; (try with_reducible rfl); done)); (try simp only [Act.put, List.setIfInBounds_toArray, List.set_cons_zero, List.set_cons_succ])) | (refine Xr.take 2 (some 51) (v := ?_) rfl rfl (by decide +kernel) (by rfl) ?_ ?_; rotate_left; (focus (intro w' hk; go_simp; (try with_reducible rfl); done)); (try simp only [Act.put, List.setIfInBounds_toArray, List.set_cons_zero, List.set_cons_succ])) | (refine Xr.take 3 (some 52) (v := ?_) rfl rfl (by decide +kernel) (by rfl) ?_ ?_; rotate_left; (focus (intro w' hk; go_simp; (try with_reducible rfl); done)); (try simp only [Act.put, List.setIfInBounds_toArray, List.set_cons_zero, List.set_cons_succ])) | (refine Xr.take 4 (some 53) (v := ?_) rfl rfl (by decide +kernel) (by rfl) ?_ ?_; rotate_left; (focus (intro w' hk; go_simp; (try with_reducible rfl); done)); (try simp only [Act.put, List.setIfInBounds_toArray, List.set_cons_zero, List.set_cons_succ])) | (refine Xr.take 5 (some 54) (v := ?_) rfl rfl (by decide +kernel) (by rfl) ?_ ?_; rotate_left; (focus (intro w' hk; go_simp; (try with_reducible rfl); done)); (try simp only [Act.put, List.setIfInBounds_toArray, List.set_cons_zero, List.set_cons_succ])) | (refine Xr.take 6 (some 55) (v := ?_) rfl rfl (by decide +kernel) (by rfl) ?_ ?_; rotate_left; (focus (intro w' hk; go_simp; (try with_reducible rfl); done)); (try simp only [Act.put, List.setIfInBounds_toArray, List.set_cons_zero, List.set_cons_succ])) | (refine Xr.take 7 (some 56) (v := ?_) rfl rfl (by decide +kernel) (by rfl) ?_ ?_; rotate_left; (focus (intro w' hk; go_simp; (try with_reducible rfl); done)); (try simp only [Act.put, List.setIfInBounds_toArray, List.set_cons_zero, List.set_cons_succ])) | (refine Xr.take 9 (some 48) (v := ?_) rfl rfl (by decide +kernel) (by rfl) ?_ ?_; rotate_left; (focus (intro w' hk; go_simp; (try with_reducible rfl); done)); (try simp only [Act.put, List.setIfInBounds_toArray, List.set_cons_zero, List.set_cons_succ])) | (refine Xr.take 10 (some 58) (v := ?_) rfl rfl (by decide +kernel) (by rfl) ?_ ?_; rotate_left; (focus (intro w' hk; go_simp; (try with_reducible rfl); done)); (try simp only [Act.put, List.setIfInBounds_toArray, List.set_cons_zero, List.set_cons_succ])) | (refine Xr.take 11 (some 59) (v := ?_) rfl rfl (by decide +kernel) (by rfl) ?_ ?_; rotate_left; (focus (intro w' hk; go_simp; (try with_reducible rfl); done)); (try simp only [Act.put, List.setIfInBounds_toArray, List.set_cons_zero, List.set_cons_succ])) | (refine Xr.take 14 (some 16) (v := ?_) rfl rfl (by decide +kernel) (by rfl) ?_ ?_; rotate_left; (focus (intro w' hk; go_simp; (try with_reducible rfl); done)); (try simp only [Act.put, List.setIfInBounds_toArray, List.set_cons_zero, List.set_cons_succ])))
          refine Xr.stepZ rfl (by decide +kernel) (fun _ => by rfl) (fun w10 g hE10 hK10 hg hB hno K hKK => ?_)
          (try simp only [Act.put, List.setIfInBounds_toArray, List.set_cons_zero, List.set_cons_succ])
          have m0 := (Blk.c3 hB).1; have m1 := (Blk.c3 hB).2.1; have m2 := (Blk.c3 hB).2.2.1; have m0f := (Blk.c3 hB).2.2.2.1; have m1f := (Blk.c3 hB).2.2.2.2.1; have m2f := (Blk.c3 hB).2.2.2.2.2.1; have mz := (Blk.c3 hB).2.2.2.2.2.2
          go_simp
          refine hKK _ _ (WI_set (WI_set (WI_set (WI_refl _ _ _) _ _) _ _) _ _) (((hK10.setN hg _ _).setN hg _ _).setN hg _ _) ?_
          clear hKK
          (try simp only [Act.put, List.setIfInBounds_toArray, List.set_cons_zero, List.set_cons_succ])
          repeat (first | (refine Xr.take 0 (some 49) (v := ?_) rfl rfl (by decide +kernel) (by rfl) ?_ ?_; rotate_left; (focus (intro w' hk; go_simp; (try with_reducible rfl); done)); (try simp only [Act.put, List.setIfInBounds_toArray, List.set_cons_zero, List.set_cons_succ])) | (refine Xr.take 1 (some 50) (v := ?_) rfl rfl (by decide +kernel) (by rfl) ?_ ?_; rotate_left; (focus (intro w' hk; go_simp; (try with_reducible rfl); done)); (try simp only [Act.put, List.setIfInBounds_toArray, List.set_cons_zero, List.set_cons_succ])) | (refine Xr.take 2 (some 51) (v := ?_) rfl rfl (by decide +kernel) (by rfl) ?_ ?_; rotate_left; (focus (intro w' hk; go_simp; (try with_reducible rfl); done)); (try simp only [Act.put, List.setIfInBounds_toArray, List.set_cons_zero, List.set_cons_succ])) | (refine Xr.take 3 (some 52) (v := ?_) rfl rfl (by decide +kernel) (by rfl) ?_ ?_; rotate_left; (focus (intro w' hk; go_simp; (try with_reducible rfl); done)); (try simp only [Act.put, List.setIfInBounds_toArray, List.set_cons_zero, List.set_cons_succ])) | (refine Xr.take 4 (some 53) (v := ?_) rfl rfl (by decide +kernel) (by rfl) ?_ ?_; rotate_left; (focus (intro w' hk; go_simp; (try with_reducible rfl); done)); (try simp only [Act.put, List.setIfInBounds_toArray, List.set_cons_zero, List.set_cons_succ])) | (refine Xr.take 5 (some 54) (v := ?_) rfl rfl (by decide +kernel) (by rfl) ?_ ?_; rotate_left; (focus (intro w' hk; go_simp; (try with_reducible rfl); done)); (try simp only [Act.put, List.setIfInBounds_toArray, List.set_cons_zero, List.set_cons_succ])) | (refine Xr.take 6 (some 55) (v := ?_) rfl rfl (by decide +kernel) (by rfl) ?_ ?_; rotate_left; (focus (intro w' hk; go_simp; (try with_reducible rfl); done)); (try simp only [Act.put, List.setIfInBounds_toArray, List.set_cons_zero, List.set_cons_succ])) | (refine Xr.take 7 (some 56) (v := ?_) rfl rfl (by decide +kernel) (by rfl) ?_ ?_; rotate_left; (focus (intro w' hk; go_simp; (try with_reducible rfl); done)); (try simp only [Act.put, List.setIfInBounds_toArray, List.set_cons_zero, List.set_cons_succ])) | (refine Xr.take 9 (some 48) (v := ?_) rfl rfl (by decide +kernel) (by rfl) ?_ ?_; rotate_left; (focus (intro w' hk; go_simp; (try with_reducible rfl); done)); (try simp only [Act.put, List.setIfInBounds_toArray, List.set_cons_zero, List.set_cons_succ])) | (refine Xr.take 10 (some 58) (v := ?_) rfl rfl (by decide +kernel) (by rfl) ?_ ?_; rotate_left; (focus (intro w' hk; go_simp; (try with_reducible rfl); done)); (try simp only [Act.put, List.setIfInBounds_toArray, List.set_cons_zero, List.set_cons_succ])) | (refine Xr.take 11 (some 59) (v := ?_) rfl rfl (by decide +kernel) (by rfl) ?_ ?_; rotate_left; (focus (intro w' hk; go_simp; (try with_reducible rfl); done)); (try simp only [Act.put, List.setIfInBounds_toArray, List.set_cons_zero, List.set_cons_succ])) | (refine Xr.take 14 (some 16) (v := ?_) rfl rfl (by decide +kernel) (by rfl) ?_ ?_; rotate_left; (focus (intro w' hk; go_simp; (try with_reducible rfl); done)); (try simp only [Act.put, List.setIfInBounds_toArray, List.set_cons_zero, List.set_cons_succ])))
          refine Xr.done (by decide +kernel) (fun w11 hE11 hK11 => ?_)
          have hgb := (((hB.set 0 (.int .i64 r.at_)).set 1 (.int .i64 r.del)).set 2 (.slice C r.ins.length cc)).ext hE11
          have hil2 := (hil.past3 hfr hE10 hno (.int .i64 r.at_) (.int .i64 r.del) (.slice C r.ins.length cc)).ext hE11
          simp only [List.setIfInBounds_toArray, List.set_cons_zero, List.set_cons_succ] at hgb
          clear m0 m1 m2 m0f m1f m2f mz hB kp0 kp1 kp2 kq0 kq1 kq2 hil hE10 hE11
          have X9 := hK11.nil
          replace p0 := X9.cell p0
          replace p1 := X9.cell p1
          replace p2 := X9.cell p2
          replace i3 := i3.ext X9
          replace q0 := X9.cell q0
          replace q1 := X9.cell q1
          replace q2 := X9.cell q2
          replace i4 := i4.ext X9
          replace hEL := hEL.ext X9
          replace x1 := x1.trans X9
          clear X9 hK11
          go_wp2_with fail
          refine (rFormed_any _ _ _ _ _ _ i3).mono ?_
          rintro e w12 ⟨rfl, X9⟩
          replace q0 := X9.cell q0
          replace q1 := X9.cell q1
          replace q2 := X9.cell q2
          replace i4 := i4.ext X9
          replace i3 := i3.ext X9
          replace hEL := hEL.ext X9
          replace x1 := x1.trans X9
          replace hgb := hgb.ext X9
          replace hil2 := hil2.ext X9
          replace p0 := X9.cell p0
          replace p1 := X9.cell p1
          replace p2 := X9.cell p2
          clear X9
          go_wp2_with fail
          refine (rFormed_any _ _ _ _ _ _ i4).mono ?_
          rintro e w13 ⟨rfl, X9⟩
          replace q0 := X9.cell q0
          replace q1 := X9.cell q1
          replace q2 := X9.cell q2
          replace i4 := i4.ext X9
          replace i3 := i3.ext X9
          replace hEL := hEL.ext X9
          replace x1 := x1.trans X9
          replace hgb := hgb.ext X9
          replace hil2 := hil2.ext X9
          replace p0 := X9.cell p0
          replace p1 := X9.cell p1
          replace p2 := X9.cell p2
          clear X9
          rcases HC.out with ⟨f1, f2, rfl, rfl⟩ | ⟨f12, rfl, rfl⟩
          · clear HC
            have b1 := formed_t f1
            have b2 := formed_t f2
            rw [f1, f2]
            clear f1 f2
            have r0 := (Blk.c3 hgb).1; have r1 := (Blk.c3 hgb).2.1; have r2 := (Blk.c3 hgb).2.2.1; have r0f := (Blk.c3 hgb).2.2.2.1; have r1f := (Blk.c3 hgb).2.2.2.2.1; have r2f := (Blk.c3 hgb).2.2.2.2.2.1; have rz := (Blk.c3 hgb).2.2.2.2.2.2
            have kp0 := fun (w' : World) (h : Kp [] w13 w') => h.cell p0 (by simp)
            have kp1 := fun (w' : World) (h : Kp [] w13 w') => h.cell p1 (by simp)
            have kp2 := fun (w' : World) (h : Kp [] w13 w') => h.cell p2 (by simp)
            have kq0 := fun (w' : World) (h : Kp [] w13 w') => h.cell q0 (by simp)
            have kq1 := fun (w' : World) (h : Kp [] w13 w') => h.cell q1 (by simp)
            have kq2 := fun (w' : World) (h : Kp [] w13 w') => h.cell q2 (by simp)
            have kr0 := fun (w' : World) (h : Kp [] w13 w') => h.cell r0 (by simp)
            have kr1 := fun (w' : World) (h : Kp [] w13 w') => h.cell r1 (by simp)
            have kr2 := fun (w' : World) (h : Kp [] w13 w') => h.cell r2 (by simp)
            go_wp2_with fail
            refine Xr.start [] (by kernel_rfl) ?_
            repeat (first | (refine Xr.take 0 (some 84) (v := ?_) rfl rfl (by decide +kernel) (by rfl) ?_ ?_; rotate_left; (focus (intro w' hk; go_simp; (try with_reducible rfl); done)); (try simp only [Act.put, List.setIfInBounds_toArray, List.set_cons_zero, List.set_cons_succ])) | (refine Xr.take 1 (some 85) (v := ?_) rfl rfl (by decide +kernel) (by rfl) ?_ ?_; rotate_left; (focus (intro w' hk; go_simp; (try with_reducible rfl); done)); (try simp only [Act.put, List.setIfInBounds_toArray, List.set_cons_zero, List.set_cons_succ])) | (refine Xr.take 2 (some 86) (v := ?_) rfl rfl (by decide +kernel) (by rfl) ?_ ?_; rotate_left; (focus (intro w' hk; go_simp; (try with_reducible rfl); done)); (try simp only [Act.put, List.setIfInBounds_toArray, List.set_cons_zero, List.set_cons_succ])) | (refine Xr.take 3 (some 87) (v := ?_) rfl rfl (by decide +kernel) (by rfl) ?_ ?_; rotate_left; (focus (intro w' hk; go_simp; (try with_reducible rfl); done)); (try simp only [Act.put, List.setIfInBounds_toArray, List.set_cons_zero, List.set_cons_succ])) | (refine Xr.skip 3 (some 87) rfl rfl (by decide +kernel) (by rfl) ?_; (try simp only [Act.put, List.setIfInBounds_toArray, List.set_cons_zero, List.set_cons_succ])) | (refine Xr.take 4 (some 88) (v := ?_) rfl rfl (by decide +kernel) (by rfl) ?_ ?_; rotate_left; (focus (intro w' hk; go_simp; (try with_reducible rfl); done)); (try simp only [Act.put, List.setIfInBounds_toArray, List.set_cons_zero, List.set_cons_succ])) | (refine Xr.skip 4 (some 88) rfl rfl (by decide +kernel) (by rfl) ?_; (try simp only [Act.put, List.setIfInBounds_toArray, List.set_cons_zero, List.set_cons_succ])) | (refine Xr.take 5 (some 89) (v := ?_) rfl rfl (by decide +kernel) (by rfl) ?_ ?_; rotate_left; (focus (intro w' hk; go_simp; (try with_reducible rfl); done)); (try simp only [Act.put, List.setIfInBounds_toArray, List.set_cons_zero, List.set_cons_succ])) | (refine Xr.skip 5 (some 89) rfl rfl (by decide +kernel) (by rfl) ?_; (try simp only [Act.put, List.setIfInBounds_toArray, List.set_cons_zero, List.set_cons_succ])) | (refine Xr.take 6 (some 90) (v := ?_) rfl rfl (by decide +kernel) (by rfl) ?_ ?_; rotate_left; (focus (intro w' hk; go_simp; (try with_reducible rfl); done)); (try simp only [Act.put, List.setIfInBounds_toArray, List.set_cons_zero, List.set_cons_succ])) | (refine Xr.skip 6 (some 90) rfl rfl (by decide +kernel) (by rfl) ?_; (try simp only [Act.put, List.setIfInBounds_toArray, List.set_cons_zero, List.set_cons_succ])) | (refine Xr.take 7 (some 91) (v := ?_) rfl rfl (by decide +kernel) (by rfl) ?_ ?_; rotate_left; (focus (intro w' hk; go_simp; (try with_reducible rfl); done)); (try simp only [Act.put, List.setIfInBounds_toArray, List.set_cons_zero, List.set_cons_succ])) | (refine Xr.skip 7 (some 91) rfl rfl (by decide +kernel) (by rfl) ?_; (try simp only [Act.put, List.setIfInBounds_toArray, List.set_cons_zero, List.set_cons_succ])) | (refine Xr.take 8 (some 92) (v := ?_) rfl rfl (by decide +kernel) (by rfl) ?_ ?_; rotate_left; (focus (intro w' hk; go_simp; (try with_reducible rfl); done)); (try simp only [Act.put, List.setIfInBounds_toArray, List.set_cons_zero, List.set_cons_succ])) | (refine Xr.skip 8 (some 92) rfl rfl (by decide +kernel) (by rfl) ?_; (try simp only [Act.put, List.setIfInBounds_toArray, List.set_cons_zero, List.set_cons_succ])) | (refine Xr.take 9 (some 93) (v := ?_) rfl rfl (by decide +kernel) (by rfl) ?_ ?_; rotate_left; (focus (intro w' hk; go_simp; (try with_reducible rfl); done)); (try simp only [Act.put, List.setIfInBounds_toArray, List.set_cons_zero, List.set_cons_succ])) | (refine Xr.skip 9 (some 93) rfl rfl (by decide +kernel) (by rfl) ?_; (try simp only [Act.put, List.setIfInBounds_toArray, List.set_cons_zero, List.set_cons_succ])) | (refine Xr.take 10 (some 94) (v := ?_) rfl rfl (by decide +kernel) (by rfl) ?_ ?_; rotate_left; (focus (intro w' hk; go_simp; (try with_reducible rfl); done)); (try simp only [Act.put, List.setIfInBounds_toArray, List.set_cons_zero, List.set_cons_succ])) | (refine Xr.skip 10 (some 94) rfl rfl (by decide +kernel) (by rfl) ?_; (try simp only [Act.put, List.setIfInBounds_toArray, List.set_cons_zero, List.set_cons_succ])) | (refine Xr.take 11 (some 95) (v := ?_) rfl rfl (by decide +kernel) (by rfl) ?_ ?_; rotate_left; (focus (intro w' hk; go_simp; (try with_reducible rfl); done)); (try simp only [Act.put, List.setIfInBounds_toArray, List.set_cons_zero, List.set_cons_succ])) | (refine Xr.skip 11 (some 95) rfl rfl (by decide +kernel) (by rfl) ?_; (try simp only [Act.put, List.setIfInBounds_toArray, List.set_cons_zero, List.set_cons_succ])) | (refine Xr.skip 12 (some 96) rfl rfl (by decide +kernel) (by rfl) ?_; (try simp only [Act.put, List.setIfInBounds_toArray, List.set_cons_zero, List.set_cons_succ])) | (refine Xr.skip 13 (some 97) rfl rfl (by decide +kernel) (by rfl) ?_; (try simp only [Act.put, List.setIfInBounds_toArray, List.set_cons_zero, List.set_cons_succ])) | (refine Xr.take 14 (some 98) (v := ?_) rfl rfl (by decide +kernel) (by rfl) ?_ ?_; rotate_left; (focus (intro w' hk; go_simp; (try with_reducible rfl); done)); (try simp only [Act.put, List.setIfInBounds_toArray, List.set_cons_zero, List.set_cons_succ])) | (refine Xr.skip 14 (some 98) rfl rfl (by decide +kernel) (by rfl) ?_; (try simp only [Act.put, List.setIfInBounds_toArray, List.set_cons_zero, List.set_cons_succ])) | (refine Xr.take 15 (some 99) (v := ?_) rfl rfl (by decide +kernel) (by rfl) ?_ ?_; rotate_left; (focus (intro w' hk; go_simp; (try with_reducible rfl); done)); (try simp only [Act.put, List.setIfInBounds_toArray, List.set_cons_zero, List.set_cons_succ])))
            refine Xr.call 12 rfl (by decide +kernel) (by rfl) (fun w14 hE14 hK14 K hKK => ?_)
            go_simp
            refine (rMove_any _ _ _ _ _ _ _ _ _ _ _ ⟨by omega, by omega, by omega⟩ ⟨by omega, by omega, by omega⟩ (by omega)).mono ?_
            rintro e w15 ⟨rfl, hx15⟩
            refine hKK _ _ hx15 ?_
            clear hKK
            (try simp only [Act.put, List.setIfInBounds_toArray, List.set_cons_zero, List.set_cons_succ])
            repeat (first | (refine Xr.take 0 (some 84) (v := ?_) rfl rfl (by decide +kernel) (by rfl) ?_ ?_; rotate_left; (focus (intro w' hk; go_simp; (try with_reducible rfl); done)); (try simp only [Act.put, List.setIfInBounds_toArray, List.set_cons_zero, List.set_cons_succ])) | (refine Xr.take 1 (some 85) (v := ?_) rfl rfl (by decide +kernel) (by rfl) ?_ ?_; rotate_left; (focus (intro w' hk; go_simp; (try with_reducible rfl); done)); (try simp only [Act.put, List.setIfInBounds_toArray, List.set_cons_zero, List.set_cons_succ])) | (refine Xr.take 2 (some 86) (v := ?_) rfl rfl (by decide +kernel) (by rfl) ?_ ?_; rotate_left; (focus (intro w' hk; go_simp; (try with_reducible rfl); done)); (try simp only [Act.put, List.setIfInBounds_toArray, List.set_cons_zero, List.set_cons_succ])) | (refine Xr.take 3 (some 87) (v := ?_) rfl rfl (by decide +kernel) (by rfl) ?_ ?_; rotate_left; (focus (intro w' hk; go_simp; (try with_reducible rfl); done)); (try simp only [Act.put, List.setIfInBounds_toArray, List.set_cons_zero, List.set_cons_succ])) | (refine Xr.skip 3 (some 87) rfl rfl (by decide +kernel) (by rfl) ?_; (try simp only [Act.put, List.setIfInBounds_toArray, List.set_cons_zero, List.set_cons_succ])) | (refine Xr.take 4 (some 88) (v := ?_) rfl rfl (by decide +kernel) (by rfl) ?_ ?_; rotate_left; (focus (intro w' hk; go_simp; (try with_reducible rfl); done)); (try simp only [Act.put, List.setIfInBounds_toArray, List.set_cons_zero, List.set_cons_succ])) | (refine Xr.skip 4 (some 88) rfl rfl (by decide +kernel) (by rfl) ?_; (try simp only [Act.put, List.setIfInBounds_toArray, List.set_cons_zero, List.set_cons_succ])) | (refine Xr.take 5 (some 89) (v := ?_) rfl rfl (by decide +kernel) (by rfl) ?_ ?_; rotate_left; (focus (intro w' hk; go_simp; (try with_reducible rfl); done)); (try simp only [Act.put, List.setIfInBounds_toArray, List.set_cons_zero, List.set_cons_succ])) | (refine Xr.skip 5 (some 89) rfl rfl (by decide +kernel) (by rfl) ?_; (try simp only [Act.put, List.setIfInBounds_toArray, List.set_cons_zero, List.set_cons_succ])) | (refine Xr.take 6 (some 90) (v := ?_) rfl rfl (by decide +kernel) (by rfl) ?_ ?_; rotate_left; (focus (intro w' hk; go_simp; (try with_reducible rfl); done)); (try simp only [Act.put, List.setIfInBounds_toArray, List.set_cons_zero, List.set_cons_succ])) | (refine Xr.skip 6 (some 90) rfl rfl (by decide +kernel) (by rfl) ?_; (try simp only [Act.put, List.setIfInBounds_toArray, List.set_cons_zero, List.set_cons_succ])) | (refine Xr.take 7 (some 91) (v := ?_) rfl rfl (by decide +kernel) (by rfl) ?_ ?_; rotate_left; (focus (intro w' hk; go_simp; (try with_reducible rfl); done)); (try simp only [Act.put, List.setIfInBounds_toArray, List.set_cons_zero, List.set_cons_succ])) | (refine Xr.skip 7 (some 91) rfl rfl (by decide +kernel) (by rfl) ?_; (try simp only [Act.put, List.setIfInBounds_toArray, List.set_cons_zero, List.set_cons_succ])) | (refine Xr.take 8 (some 92) (v := ?_) rfl rfl (by decide +kernel) (by rfl) ?_ ?_; rotate_left; (focus (intro w' hk; go_simp; (try with_reducible rfl); done)); (try simp only [Act.put, List.setIfInBounds_toArray, List.set_cons_zero, List.set_cons_succ])) | (refine Xr.skip 8 (some 92) rfl rfl (by decide +kernel) (by rfl) ?_; (try simp only [Act.put, List.setIfInBounds_toArray, List.set_cons_zero, List.set_cons_succ])) | (refine Xr.take 9 (some 93) (v := ?_) rfl rfl (by decide +kernel) (by rfl) ?_ ?_; rotate_left; (focus (intro w' hk; go_simp; (try with_reducible rfl); done)); (try simp only [Act.put, List.setIfInBounds_toArray, List.set_cons_zero, List.set_cons_succ])) | (refine Xr.skip 9 (some 93) rfl rfl (by decide +kernel) (by rfl) ?_; (try simp only [Act.put, List.setIfInBounds_toArray, List.set_cons_zero, List.set_cons_succ])) | (refine Xr.take 10 (some 94) (v := ?_) rfl rfl (by decide +kernel) (by rfl) ?_ ?_; rotate_left; (focus (intro w' hk; go_simp; (try with_reducible rfl); done)); (try simp only [Act.put, List.setIfInBounds_toArray, List.set_cons_zero, List.set_cons_succ])) | (refine Xr.skip 10 (some 94) rfl rfl (by decide +kernel) (by rfl) ?_; (try simp only [Act.put, List.setIfInBounds_toArray, List.set_cons_zero, List.set_cons_succ])) | (refine Xr.take 11 (some 95) (v := ?_) rfl rfl (by decide +kernel) (by rfl) ?_ ?_; rotate_left; (focus (intro w' hk; go_simp; (try with_reducible rfl); done)); (try simp only [Act.put, List.setIfInBounds_toArray, List.set_cons_zero, List.set_cons_succ])) | (refine Xr.skip 11 (some 95) rfl rfl (by decide +kernel) (by rfl) ?_; (try simp only [Act.put, List.setIfInBounds_toArray, List.set_cons_zero, List.set_cons_succ])) | (refine Xr.skip 12 (some 96) rfl rfl (by decide +kernel) (by rfl) ?_; (try simp only [Act.put, List.setIfInBounds_toArray, List.set_cons_zero, List.set_cons_succ])) | (refine Xr.skip 13 (some 97) rfl rfl (by decide +kernel) (by rfl) ?_; (try simp only [Act.put, List.setIfInBounds_toArray, List.set_cons_zero, List.set_cons_succ])) | (refine Xr.take 14 (some 98) (v := ?_) rfl rfl (by decide +kernel) (by rfl) ?_ ?_; rotate_left; (focus (intro w' hk; go_simp; (try with_reducible rfl); done)); (try simp only [Act.put, List.setIfInBounds_toArray, List.set_cons_zero, List.set_cons_succ])) | (refine Xr.skip 14 (some 98) rfl rfl (by decide +kernel) (by rfl) ?_; (try simp only [Act.put, List.setIfInBounds_toArray, List.set_cons_zero, List.set_cons_succ])) | (refine Xr.take 15 (some 99) (v := ?_) rfl rfl (by decide +kernel) (by rfl) ?_ ?_; rotate_left; (focus (intro w' hk; go_simp; (try with_reducible rfl); done)); (try simp only [Act.put, List.setIfInBounds_toArray, List.set_cons_zero, List.set_cons_succ])))
            refine Xr.call 13 rfl (by decide +kernel) (by rfl) (fun w16 hE16 hK16 K hKK => ?_)
            go_simp
            refine (sameEdit_any _ _ _ _ _ _ _ _ _ _ _ (hil2.ext hK16.nil) (i3.ext hK16.nil)).mono ?_
            rw [decide_eq_true (show _ by exact ⟨rfl, rfl, rfl⟩)]
            rintro e w17 ⟨rfl, hx17⟩
            refine hKK _ _ hx17 ?_
            clear hKK
            (try simp only [Act.put, List.setIfInBounds_toArray, List.set_cons_zero, List.set_cons_succ])
            repeat (first | (refine Xr.take 0 (some 84) (v := ?_) rfl rfl (by decide +kernel) (by rfl) ?_ ?_; rotate_left; (focus (intro w' hk; go_simp; (try with_reducible rfl); done)); (try simp only [Act.put, List.setIfInBounds_toArray, List.set_cons_zero, List.set_cons_succ])) | (refine Xr.take 1 (some 85) (v := ?_) rfl rfl (by decide +kernel) (by rfl) ?_ ?_; rotate_left; (focus (intro w' hk; go_simp; (try with_reducible rfl); done)); (try simp only [Act.put, List.setIfInBounds_toArray, List.set_cons_zero, List.set_cons_succ])) | (refine Xr.take 2 (some 86) (v := ?_) rfl rfl (by decide +kernel) (by rfl) ?_ ?_; rotate_left; (focus (intro w' hk; go_simp; (try with_reducible rfl); done)); (try simp only [Act.put, List.setIfInBounds_toArray, List.set_cons_zero, List.set_cons_succ])) | (refine Xr.take 3 (some 87) (v := ?_) rfl rfl (by decide +kernel) (by rfl) ?_ ?_; rotate_left; (focus (intro w' hk; go_simp; (try with_reducible rfl); done)); (try simp only [Act.put, List.setIfInBounds_toArray, List.set_cons_zero, List.set_cons_succ])) | (refine Xr.skip 3 (some 87) rfl rfl (by decide +kernel) (by rfl) ?_; (try simp only [Act.put, List.setIfInBounds_toArray, List.set_cons_zero, List.set_cons_succ])) | (refine Xr.take 4 (some 88) (v := ?_) rfl rfl (by decide +kernel) (by rfl) ?_ ?_; rotate_left; (focus (intro w' hk; go_simp; (try with_reducible rfl); done)); (try simp only [Act.put, List.setIfInBounds_toArray, List.set_cons_zero, List.set_cons_succ])) | (refine Xr.skip 4 (some 88) rfl rfl (by decide +kernel) (by rfl) ?_; (try simp only [Act.put, List.setIfInBounds_toArray, List.set_cons_zero, List.set_cons_succ])) | (refine Xr.take 5 (some 89) (v := ?_) rfl rfl (by decide +kernel) (by rfl) ?_ ?_; rotate_left; (focus (intro w' hk; go_simp; (try with_reducible rfl); done)); (try simp only [Act.put, List.setIfInBounds_toArray, List.set_cons_zero, List.set_cons_succ])) | (refine Xr.skip 5 (some 89) rfl rfl (by decide +kernel) (by rfl) ?_; (try simp only [Act.put, List.setIfInBounds_toArray, List.set_cons_zero, List.set_cons_succ])) | (refine Xr.take 6 (some 90) (v := ?_) rfl rfl (by decide +kernel) (by rfl) ?_ ?_; rotate_left; (focus (intro w' hk; go_simp; (try with_reducible rfl); done)); (try simp only [Act.put, List.setIfInBounds_toArray, List.set_cons_zero, List.set_cons_succ])) | (refine Xr.skip 6 (some 90) rfl rfl (by decide +kernel) (by rfl) ?_; (try simp only [Act.put, List.setIfInBounds_toArray, List.set_cons_zero, List.set_cons_succ])) | (refine Xr.take 7 (some 91) (v := ?_) rfl rfl (by decide +kernel) (by rfl) ?_ ?_; rotate_left; (focus (intro w' hk; go_simp; (try with_reducible rfl); done)); (try simp only [Act.put, List.setIfInBounds_toArray, List.set_cons_zero, List.set_cons_succ])) | (refine Xr.skip 7 (some 91) rfl rfl (by decide +kernel) (by rfl) ?_; (try simp only [Act.put, List.setIfInBounds_toArray, List.set_cons_zero, List.set_cons_succ])) | (refine Xr.take 8 (some 92) (v := ?_) rfl rfl (by decide +kernel) (by rfl) ?_ ?_; rotate_left; (focus (intro w' hk; go_simp; (try with_reducible rfl); done)); (try simp only [Act.put, List.setIfInBounds_toArray, List.set_cons_zero, List.set_cons_succ])) | (refine Xr.skip 8 (some 92) rfl rfl (by decide +kernel) (by rfl) ?_; (try simp only [Act.put, List.setIfInBounds_toArray, List.set_cons_zero, List.set_cons_succ])) | (refine Xr.take 9 (some 93) (v := ?_) rfl rfl (by decide +kernel) (by rfl) ?_ ?_; rotate_left; (focus (intro w' hk; go_simp; (try with_reducible rfl); done)); (try simp only [Act.put, List.setIfInBounds_toArray, List.set_cons_zero, List.set_cons_succ])) | (refine Xr.skip 9 (some 93) rfl rfl (by decide +kernel) (by rfl) ?_; (try simp only [Act.put, List.setIfInBounds_toArray, List.set_cons_zero, List.set_cons_succ])) | (refine Xr.take 10 (some 94) (v := ?_) rfl rfl (by decide +kernel) (by rfl) ?_ ?_; rotate_left; (focus (intro w' hk; go_simp; (try with_reducible rfl); done)); (try simp only [Act.put, List.setIfInBounds_toArray, List.set_cons_zero, List.set_cons_succ])) | (refine Xr.skip 10 (some 94) rfl rfl (by decide +kernel) (by rfl) ?_; (try simp only [Act.put, List.setIfInBounds_toArray, List.set_cons_zero, List.set_cons_succ])) | (refine Xr.take 11 (some 95) (v := ?_) rfl rfl (by decide +kernel) (by rfl) ?_ ?_; rotate_left; (focus (intro w' hk; go_simp; (try with_reducible rfl); done)); (try simp only [Act.put, List.setIfInBounds_toArray, List.set_cons_zero, List.set_cons_succ])) | (refine Xr.skip 11 (some 95) rfl rfl (by decide +kernel) (by rfl) ?_; (try simp only [Act.put, List.setIfInBounds_toArray, List.set_cons_zero, List.set_cons_succ])) | (refine Xr.skip 12 (some 96) rfl rfl (by decide +kernel) (by rfl) ?_; (try simp only [Act.put, List.setIfInBounds_toArray, List.set_cons_zero, List.set_cons_succ])) | (refine Xr.skip 13 (some 97) rfl rfl (by decide +kernel) (by rfl) ?_; (try simp only [Act.put, List.setIfInBounds_toArray, List.set_cons_zero, List.set_cons_succ])) | (refine Xr.take 14 (some 98) (v := ?_) rfl rfl (by decide +kernel) (by rfl) ?_ ?_; rotate_left; (focus (intro w' hk; go_simp; (try with_reducible rfl); done)); (try simp only [Act.put, List.setIfInBounds_toArray, List.set_cons_zero, List.set_cons_succ])) | (refine Xr.skip 14 (some 98) rfl rfl (by decide +kernel) (by rfl) ?_; (try simp only [Act.put, List.setIfInBounds_toArray, List.set_cons_zero, List.set_cons_succ])) | (refine Xr.take 15 (some 99) (v := ?_) rfl rfl (by decide +kernel) (by rfl) ?_ ?_; rotate_left; (focus (intro w' hk; go_simp; (try with_reducible rfl); done)); (try simp only [Act.put, List.setIfInBounds_toArray, List.set_cons_zero, List.set_cons_succ])))
            refine Xr.done (by decide +kernel) (fun w18 hE18 hK18 => ?_)
            clear kp0 kp1 kp2 kq0 kq1 kq2 kr0 kr1 kr2 r0 r1 r2 r0f r1f r2f rz
            go_wp2
            go_roundw
            case rel => exact ⟨n + 1, by omega, by go_num, x1.trans hK18.nil, hEL.ext hK18.nil⟩
            case measure => simp [intOf]; omega
          · clear HC
            have r0 := (Blk.c3 hgb).1; have r1 := (Blk.c3 hgb).2.1; have r2 := (Blk.c3 hgb).2.2.1; have r0f := (Blk.c3 hgb).2.2.2.1; have r1f := (Blk.c3 hgb).2.2.2.2.1; have r2f := (Blk.c3 hgb).2.2.2.2.2.1; have rz := (Blk.c3 hgb).2.2.2.2.2.2
            cases hb : formed e3.at_ e3.del e3.ins with
            | false =>
              clear f12 hb
              go_wp2_with fail
              refine (sameEdit_any _ _ _ _ _ _ _ _ _ _ _ hil2 (IL.nil _)).mono ?_
              rw [decide_eq_true (show _ by exact ⟨rfl, rfl, rfl⟩)]
              rintro e w14 ⟨rfl, hx⟩
              go_wp2
              go_roundw
              case rel => exact ⟨n + 1, by omega, by go_num, x1.trans hx, hEL.ext hx⟩
              case measure => simp [intOf]; omega
            | true =>
              rw [hb, Bool.true_and] at f12
              rw [f12]
              clear f12 hb
              go_wp2_with fail
              refine (sameEdit_any _ _ _ _ _ _ _ _ _ _ _ hil2 (IL.nil _)).mono ?_
              rw [decide_eq_true (show _ by exact ⟨rfl, rfl, rfl⟩)]
              rintro e w14 ⟨rfl, hx⟩
              go_wp2
              go_roundw
              case rel => exact ⟨n + 1, by omega, by go_num, x1.trans hx, hEL.ext hx⟩
              case measure => simp [intOf]; omega
        · have hn5 : n = 4 := by omega
          subst hn5
          go_wp2_with fail
          go_roundw
          case rel => exact ⟨m + 1, by omega, by go_num, x1, hEL⟩
          case measure => simp [intOf]; omega
    · have hm5 : m = 4 := by omega
      subst hm5
      go_wp2_with fail
      refine (lives_any _).mono ?_
      rintro e w8 ⟨rfl, x2⟩
      go_wp2
      go_ret
      exact ⟨rfl, x1.trans x2⟩
end Go.Proofs.Ythhfjomjjhenkaa
