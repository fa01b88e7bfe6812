/- The walk of edits.Move. -/
import Derived.Test.YthhfjomjjhenkaaE8
import Derived.Deep.RegionHeld3
import Derived.Deep.DrawnRows
import Derived.Deep.CutRange
import Derived.Deep.DeepCutAuto
import Derived.Test.YthhfjomjjhenkaaFw
namespace Go.Proofs.Ythhfjomjjhenkaa
open Go.RowKit
attribute [local go_sem ↓] Go.wp_at_zero Go.wp_at_succ

/-- what a call leaves that returns an edit and an error -/
def RetEdE (e : Ed) (err : Int) (w : World) (r : Ending) (w' : World) : Prop :=
  ∃ A c, r = .returned (.tuple #[.agg #[.int .i64 e.at_, .int .i64 e.del, .slice A e.ins.length c], .int .i64 err]) ∧ IL w' A c e.ins ∧ Ext w w' ∧ Fr w A

theorem formed_t {a d : Int} {l : List Int} (h : formed a d l = true) : 0 ≤ a ∧ a ≤ 65536 ∧ 0 ≤ d ∧ d ≤ 65536 ∧ l.length ≤ 65536 ∧ ∀ x ∈ l, 0 ≤ x ∧ x ≤ 1114111 := by
  simp only [formed, Bool.and_eq_true] at h
  have h1 := formedN_t h.1
  have h2 := h.2
  rw [List.all_eq_true] at h2
  exact ⟨h1.1, h1.2.1, h1.2.2.1, h1.2.2.2.1, h1.2.2.2.2, fun x hx => symOk_t (h2 x hx)⟩

def movedE (e o : Ed) : Ed := ⟨(overOne (e.at_, e.del) (o.at_, o.del, o.ins.length)).1, (overOne (e.at_, e.del) (o.at_, o.del, o.ins.length)).2, e.ins⟩

theorem XL.one {w : World} {g T : Nat} {x y z : Int} (h : Blk w g T #[.int .i64 x, .int .i64 y, .int .i64 z]) : XL w (some ⟨g, 0, none⟩) 1 [(x, y, z)] :=
  ⟨by simp, by simp [maxLen], fun _ => ⟨g, 0, rfl, fun i hi => by
    have : i = 0 := by simpa using hi
    subst this
    exact ⟨h.cell 0, h.cell 1, h.cell 2⟩⟩⟩

set_option maxHeartbeats 1000000 in
theorem move_ok (e o : Ed) (A B : Option Addr) (c c' : Nat) (w : World) (hl : IL w A c e.ins) (hl' : IL w B c' o.ins) (h1 : formed e.at_ e.del e.ins = true) (h2 : formed o.at_ o.del o.ins = true) :
    Calls Try.prog 13 #[.agg #[.int .i64 e.at_, .int .i64 e.del, .slice A e.ins.length c], .agg #[.int .i64 o.at_, .int .i64 o.del, .slice B o.ins.length c']] w (RetEdE (movedE e o) 0 w) := by
  obtain ⟨a, d, l⟩ := e
  obtain ⟨a', d', l'⟩ := o
  simp only at *
  obtain ⟨B2, B3, B4, X⟩ := alloc3 w 25 #[.int .i64 a, .int .i64 d, .slice A l.length c] 25 #[.int .i64 a', .int .i64 d', .slice B l'.length c'] 25 #[.int .i64 0, .int .i64 0, .slice none 0 0]
  have f1 := formed_t h1
  have f2 := formed_t h2
  have H1 := Lib.hid h1
  have H2 := Lib.hid h2
  clear h1 h2
  go_enter Try.func13, Try.ntmps13
  go_wp2_with fail
  refine (wellFormed_any _ _ _ _ _ _ (hl.ext X)).mono ?_
  rintro e w1 ⟨rfl, hx1⟩
  rw [H1.out]
  obtain ⟨q0, q1, q2, _, _, _, hz3⟩ := (B3.ext hx1).c3
  go_wp2_with fail
  refine (wellFormed_any _ _ _ _ _ _ (hl'.ext (X.trans hx1))).mono ?_
  rintro e w2 ⟨rfl, hx2⟩
  rw [H2.out]
  replace X := (X.trans hx1).trans hx2
  replace B2 := (B2.ext hx1).ext hx2
  replace B3 := (B3.ext hx1).ext hx2
  replace B4 := (B4.ext hx1).ext hx2
  clear q0 q1 q2 hx1 hx2 hz3
  obtain ⟨p0, p1, p2, _, _, _, hz2⟩ := B2.c3
  obtain ⟨q0, q1, q2, _, _, _, hz3⟩ := B3.c3
  have hz4 := B4.lt
  have kp0 := fun (w' : World) (h : Kp [] w2 w') => h.cell p0 (by simp)
  have kp1 := fun (w' : World) (h : Kp [] w2 w') => h.cell p1 (by simp)
  have kp2 := fun (w' : World) (h : Kp [] w2 w') => h.cell p2 (by simp)
  have kq0 := fun (w' : World) (h : Kp [] w2 w') => h.cell q0 (by simp)
  have kq1 := fun (w' : World) (h : Kp [] w2 w') => h.cell q1 (by simp)
  have kq2 := fun (w' : World) (h : Kp [] w2 w') => h.cell q2 (by simp)
  go_wp2_with fail
  refine Xr.start [] (by kernel_rfl) ?_
  repeat (first | (refine Xr.take 0 (some 16) (v := ?_) rfl rfl (by decide +kernel) (by rfl) ?_ ?_; rotate_left; (focus (intro w' hk; go_simp; (try with_reducible rfl); done)); (try simp only [Act.put, List.setIfInBounds_toArray, List.set_cons_zero, List.set_cons_succ])) | (refine Xr.take 2 (some 18) (v := ?_) rfl rfl (by decide +kernel) (by rfl) ?_ ?_; rotate_left; (focus (intro w' hk; go_simp; (try with_reducible rfl); done)); (try simp only [Act.put, List.setIfInBounds_toArray, List.set_cons_zero, List.set_cons_succ])))
  refine Xr.lazy 6 6 7 (fun g => .pointer (some ⟨g, 0, none⟩)) 81 #[.int .i64 0, .int .i64 0, .int .i64 0] rfl (by simp) (by decide +kernel) (by simp) (fun w' => by go_simp) ?_
  refine Xr.call 1 rfl (by decide +kernel) (by rfl) (fun w3 hE3 hK3 K hKK => ?_)
  go_simp
  refine (extentOf_any _ _ _ _ _ _ ⟨by omega, by omega⟩).mono ?_
  rintro e w4 ⟨rfl, hx⟩
  refine hKK _ _ hx ?_
  clear hKK
  (try simp only [Act.put, List.setIfInBounds_toArray, List.set_cons_zero, List.set_cons_succ])
  refine Xr.call 3 rfl (by decide +kernel) (by rfl) (fun w5 hE5 hK5 K hKK => ?_)
  go_simp
  refine (extentOf_any _ _ _ _ _ _ ⟨by omega, by omega⟩).mono ?_
  rintro e w6 ⟨rfl, hx6⟩
  refine hKK _ _ hx6 ?_
  clear hKK
  (try simp only [Act.put, List.setIfInBounds_toArray, List.set_cons_zero, List.set_cons_succ])
  have s1 := hE3.size
  have s2 := hx.size
  have s3 := hE5.size
  have s4 := hx6.size
  refine Xr.lazy 4 20 5 (fun g => .slice (some ⟨g, 0, none⟩) 1 1) 81 #[.int .i64 a', .int .i64 d', .int .i64 l'.length] rfl (by simp) (by decide +kernel) (by simp; omega) (fun w' => by go_simp) ?_
  refine Xr.stepZ rfl (by decide +kernel) (fun _ => by rfl) (fun w7 g5 hE7 hK7 hg5 hB5 _ K hKK => ?_)
  (try simp only [Act.put, List.setIfInBounds_toArray, List.set_cons_zero, List.set_cons_succ])
  go_simp
  refine (over_any _ _ _ _ _ [(a', d', (l'.length : Int))] _ (XL.one hB5) 65536 (by omega) (by omega) ⟨by omega, by omega⟩ (by simp; omega) (by simp; omega)).mono ?_
  rintro e w8 ⟨rfl, hx8⟩
  refine hKK _ _ (WI_ext hx8) (hK7.ext hx8) ?_
  clear hKK
  (try simp only [Act.put, List.setIfInBounds_toArray, List.set_cons_zero, List.set_cons_succ])
  refine Xr.stepZ rfl (by decide +kernel) (fun _ => by rfl) (fun w9 g hE9 hK9 hg hB _ K hKK => ?_)
  (try simp only [Act.put, List.setIfInBounds_toArray, List.set_cons_zero, List.set_cons_succ])
  have m0 := (Blk.c3 hB).1; have m1 := (Blk.c3 hB).2.1; have m2 := (Blk.c3 hB).2.2.1; have m0f := (Blk.c3 hB).2.2.2.1; have m1f := (Blk.c3 hB).2.2.2.2.1; have m2f := (Blk.c3 hB).2.2.2.2.2.1; have mz := (Blk.c3 hB).2.2.2.2.2.2
  go_simp
  refine hKK _ _ (WI_set (WI_set (WI_set (WI_refl _ _ _) _ _) _ _) _ _) (((hK9.setN hg _ _).setN hg _ _).setN hg _ _) ?_
  clear hKK
  (try simp only [Act.put, List.setIfInBounds_toArray, List.set_cons_zero, List.set_cons_succ])
  refine Xr.done (by decide +kernel) (fun w10 hE10 hK10 => ?_)
  have hgb := (((hB.set 0 (.int .i64 (overAll (a, d) [(a', d', (l'.length : Int))]).1)).set 1 (.int .i64 (overAll (a, d) [(a', d', (l'.length : Int))]).2)).set 2 (.int .i64 l.length)).ext hE10
  replace X := X.trans hK10.nil
  replace B2 := B2.ext hK10.nil
  replace B4 := B4.ext hK10.nil
  clear kp0 kp1 kp2 kq0 kq1 kq2 m0 m1 m2 m0f m1f m2f mz hB B3 p0 p1 p2 q0 q1 q2
  simp only [List.setIfInBounds_toArray, List.set_cons_zero, List.set_cons_succ] at hgb
  have hov : overAll (a, d) [(a', d', (l'.length : Int))] = overOne (a, d) (a', d', l'.length) := rfl
  rw [hov] at hgb
  rw [hov]
  have hgne : g ≠ w.heap.size + 1 + 1 := by omega
  generalize hoo : overOne (a, d) (a', d', (l'.length : Int)) = oo at *
  obtain ⟨o1, o2⟩ := oo
  have HOO := Lib.hid hoo
  clear hoo hov
  have kg0 := fun (w' : World) (h : Kp [w.heap.size + 1 + 1] w10 w') => h.cell (hgb.cell 0) (by simpa using hgne)
  have kg1 := fun (w' : World) (h : Kp [w.heap.size + 1 + 1] w10 w') => h.cell (hgb.cell 1) (by simpa using hgne)
  have kp2 := fun (w' : World) (h : Kp [w.heap.size + 1 + 1] w10 w') => h.cell (B2.cell 2) (by simp; omega)
  go_wp2_with fail
  refine Xr.start [w.heap.size + 1 + 1] (by kernel_rfl) ?_
  repeat (first | (refine Xr.take 0 (some 22) (v := ?_) rfl rfl (by decide +kernel) (by rfl) ?_ ?_; rotate_left; (focus (intro w' hk; go_simp; (try with_reducible rfl); done)); (try simp only [Act.put, List.setIfInBounds_toArray, List.set_cons_zero, List.set_cons_succ])) | (refine Xr.take 1 (some 23) (v := ?_) rfl rfl (by decide +kernel) (by rfl) ?_ ?_; rotate_left; (focus (intro w' hk; go_simp; (try with_reducible rfl); done)); (try simp only [Act.put, List.setIfInBounds_toArray, List.set_cons_zero, List.set_cons_succ])) | (refine Xr.take 2 (some 24) (v := ?_) rfl rfl (by decide +kernel) (by rfl) ?_ ?_; rotate_left; (focus (intro w' hk; go_simp; (try with_reducible rfl); done)); (try simp only [Act.put, List.setIfInBounds_toArray, List.set_cons_zero, List.set_cons_succ])) | (refine Xr.take 3 (some 25) (v := ?_) rfl rfl (by decide +kernel) (by rfl) ?_ ?_; rotate_left; (focus (intro w' hk; go_simp; (try with_reducible rfl); done)); (try simp only [Act.put, List.setIfInBounds_toArray, List.set_cons_zero, List.set_cons_succ])) | (refine Xr.take 4 (some 26) (v := ?_) rfl rfl (by decide +kernel) (by rfl) ?_ ?_; rotate_left; (focus (intro w' hk; go_simp; (try with_reducible rfl); done)); (try simp only [Act.put, List.setIfInBounds_toArray, List.set_cons_zero, List.set_cons_succ])) | (refine Xr.take 5 (some 27) (v := ?_) rfl rfl (by decide +kernel) (by rfl) ?_ ?_; rotate_left; (focus (intro w' hk; go_simp; (try with_reducible rfl); done)); (try simp only [Act.put, List.setIfInBounds_toArray, List.set_cons_zero, List.set_cons_succ])) | (refine Xr.take 7 (some 29) (v := ?_) rfl rfl (by decide +kernel) (by rfl) ?_ ?_; rotate_left; (focus (intro w' hk; go_simp; (try with_reducible rfl); done)); (try simp only [Act.put, List.setIfInBounds_toArray, List.set_cons_zero, List.set_cons_succ])) | (refine Xr.take 9 (some 5) (v := ?_) rfl rfl (by decide +kernel) (by rfl) ?_ ?_; rotate_left; (focus (intro w' hk; go_simp; (try with_reducible rfl); done)); (try simp only [Act.put, List.setIfInBounds_toArray, List.set_cons_zero, List.set_cons_succ])))
  refine Xr.call 6 rfl (by decide +kernel) (by rfl) (fun w11 hE11 hK11 K hKK => ?_)
  go_simp
  refine (clone_any _ _ _ _ (hl.ext (X.trans hE11)) (by omega)).mono ?_
  rintro e w12 ⟨C, cc, rfl, hil, hx12, hfr⟩
  refine hKK _ _ hx12 ?_
  clear hKK
  (try simp only [Act.put, List.setIfInBounds_toArray, List.set_cons_zero, List.set_cons_succ])
  repeat (first | (refine Xr.take 0 (some 22) (v := ?_) rfl rfl (by decide +kernel) (by rfl) ?_ ?_; rotate_left; (focus (intro w' hk; go_simp; (try with_reducible rfl); done)); (try simp only [Act.put, List.setIfInBounds_toArray, List.set_cons_zero, List.set_cons_succ])) | (refine Xr.take 1 (some 23) (v := ?_) rfl rfl (by decide +kernel) (by rfl) ?_ ?_; rotate_left; (focus (intro w' hk; go_simp; (try with_reducible rfl); done)); (try simp only [Act.put, List.setIfInBounds_toArray, List.set_cons_zero, List.set_cons_succ])) | (refine Xr.take 2 (some 24) (v := ?_) rfl rfl (by decide +kernel) (by rfl) ?_ ?_; rotate_left; (focus (intro w' hk; go_simp; (try with_reducible rfl); done)); (try simp only [Act.put, List.setIfInBounds_toArray, List.set_cons_zero, List.set_cons_succ])) | (refine Xr.take 3 (some 25) (v := ?_) rfl rfl (by decide +kernel) (by rfl) ?_ ?_; rotate_left; (focus (intro w' hk; go_simp; (try with_reducible rfl); done)); (try simp only [Act.put, List.setIfInBounds_toArray, List.set_cons_zero, List.set_cons_succ])) | (refine Xr.take 4 (some 26) (v := ?_) rfl rfl (by decide +kernel) (by rfl) ?_ ?_; rotate_left; (focus (intro w' hk; go_simp; (try with_reducible rfl); done)); (try simp only [Act.put, List.setIfInBounds_toArray, List.set_cons_zero, List.set_cons_succ])) | (refine Xr.take 5 (some 27) (v := ?_) rfl rfl (by decide +kernel) (by rfl) ?_ ?_; rotate_left; (focus (intro w' hk; go_simp; (try with_reducible rfl); done)); (try simp only [Act.put, List.setIfInBounds_toArray, List.set_cons_zero, List.set_cons_succ])) | (refine Xr.take 7 (some 29) (v := ?_) rfl rfl (by decide +kernel) (by rfl) ?_ ?_; rotate_left; (focus (intro w' hk; go_simp; (try with_reducible rfl); done)); (try simp only [Act.put, List.setIfInBounds_toArray, List.set_cons_zero, List.set_cons_succ])) | (refine Xr.take 9 (some 5) (v := ?_) rfl rfl (by decide +kernel) (by rfl) ?_ ?_; rotate_left; (focus (intro w' hk; go_simp; (try with_reducible rfl); done)); (try simp only [Act.put, List.setIfInBounds_toArray, List.set_cons_zero, List.set_cons_succ])))
  refine Xr.step 8 rfl (by decide +kernel) (by rfl) (fun w13 hE13 hK13 K hKK => ?_)
  have B4' := (((B4.ext hE11).ext hx12).ext hE13)
  have m0 := (Blk.c3 B4').1; have m1 := (Blk.c3 B4').2.1; have m2 := (Blk.c3 B4').2.2.1; have m0f := (Blk.c3 B4').2.2.2.1; have m1f := (Blk.c3 B4').2.2.2.2.1; have m2f := (Blk.c3 B4').2.2.2.2.2.1; have mz := (Blk.c3 B4').2.2.2.2.2.2
  go_simp
  refine hKK _ _ (WI_setL (WI_setL (WI_setL (WI_refl _ _ _) (by simp) _ _) (by simp) _ _) (by simp) _ _) (((hK13.setL (by simp) _ _).setL (by simp) _ _).setL (by simp) _ _) ?_
  clear hKK
  (try simp only [Act.put, List.setIfInBounds_toArray, List.set_cons_zero, List.set_cons_succ])
  repeat (first | (refine Xr.take 0 (some 22) (v := ?_) rfl rfl (by decide +kernel) (by rfl) ?_ ?_; rotate_left; (focus (intro w' hk; go_simp; (try with_reducible rfl); done)); (try simp only [Act.put, List.setIfInBounds_toArray, List.set_cons_zero, List.set_cons_succ])) | (refine Xr.take 1 (some 23) (v := ?_) rfl rfl (by decide +kernel) (by rfl) ?_ ?_; rotate_left; (focus (intro w' hk; go_simp; (try with_reducible rfl); done)); (try simp only [Act.put, List.setIfInBounds_toArray, List.set_cons_zero, List.set_cons_succ])) | (refine Xr.take 2 (some 24) (v := ?_) rfl rfl (by decide +kernel) (by rfl) ?_ ?_; rotate_left; (focus (intro w' hk; go_simp; (try with_reducible rfl); done)); (try simp only [Act.put, List.setIfInBounds_toArray, List.set_cons_zero, List.set_cons_succ])) | (refine Xr.take 3 (some 25) (v := ?_) rfl rfl (by decide +kernel) (by rfl) ?_ ?_; rotate_left; (focus (intro w' hk; go_simp; (try with_reducible rfl); done)); (try simp only [Act.put, List.setIfInBounds_toArray, List.set_cons_zero, List.set_cons_succ])) | (refine Xr.take 4 (some 26) (v := ?_) rfl rfl (by decide +kernel) (by rfl) ?_ ?_; rotate_left; (focus (intro w' hk; go_simp; (try with_reducible rfl); done)); (try simp only [Act.put, List.setIfInBounds_toArray, List.set_cons_zero, List.set_cons_succ])) | (refine Xr.take 5 (some 27) (v := ?_) rfl rfl (by decide +kernel) (by rfl) ?_ ?_; rotate_left; (focus (intro w' hk; go_simp; (try with_reducible rfl); done)); (try simp only [Act.put, List.setIfInBounds_toArray, List.set_cons_zero, List.set_cons_succ])) | (refine Xr.take 7 (some 29) (v := ?_) rfl rfl (by decide +kernel) (by rfl) ?_ ?_; rotate_left; (focus (intro w' hk; go_simp; (try with_reducible rfl); done)); (try simp only [Act.put, List.setIfInBounds_toArray, List.set_cons_zero, List.set_cons_succ])) | (refine Xr.take 9 (some 5) (v := ?_) rfl rfl (by decide +kernel) (by rfl) ?_ ?_; rotate_left; (focus (intro w' hk; go_simp; (try with_reducible rfl); done)); (try simp only [Act.put, List.setIfInBounds_toArray, List.set_cons_zero, List.set_cons_succ])))
  refine Xr.done (by decide +kernel) (fun w14 hE14 hK14 => ?_)
  have hB4 := (((B4'.set 0 (.int .i64 o1)).set 1 (.int .i64 o2)).set 2 (.slice C l.length cc)).ext hE14
  simp only [List.setIfInBounds_toArray, List.set_cons_zero, List.set_cons_succ] at hB4
  have hz11 := (B4.ext hE11).lt
  have hil2 := ((((hil.ext hE13).setOld hfr (p := ⟨w.heap.size + 1 + 1, 0, none⟩) hz11 (.int .i64 o1)).setOld hfr (p := ⟨w.heap.size + 1 + 1, 1, none⟩) hz11 (.int .i64 o2)).setOld hfr (p := ⟨w.heap.size + 1 + 1, 2, none⟩) hz11 (.slice C l.length cc)).ext hE14
  have hEnd := (hK14.to_ext X (by simp; omega))
  have hfr2 := hfr.mono (X.trans hE11)
  obtain ⟨r0, r1, r2, _, _, _, _⟩ := hB4.c3
  clear hil hfr kg0 kg1 kp2
  go_wp2
  refine bodyPost_ret (v := .tuple #[.agg #[.int .i64 o1, .int .i64 o2, .slice C l.length cc], .int .i64 0]) (by simp [results, Try.results13, go_sem, r0, r1, r2]) rfl ⟨C, cc, ?_, ?_, hEnd, hfr2⟩
  · simp [movedE, HOO.out]
  · exact hil2

set_option maxHeartbeats 1000000 in
theorem move_no (e o : Ed) (A B : Option Addr) (c c' : Nat) (w : World) (hl : IL w A c e.ins) (hl' : IL w B c' o.ins) (h1 : (formed e.at_ e.del e.ins && formed o.at_ o.del o.ins) = false) :
    Calls Try.prog 13 #[.agg #[.int .i64 e.at_, .int .i64 e.del, .slice A e.ins.length c], .agg #[.int .i64 o.at_, .int .i64 o.del, .slice B o.ins.length c']] w (RetEdE ⟨0, 0, []⟩ 5 w) := by
  obtain ⟨a, d, l⟩ := e
  obtain ⟨a', d', l'⟩ := o
  simp only at *
  obtain ⟨B2, B3, B4, X⟩ := alloc3 w 25 #[.int .i64 a, .int .i64 d, .slice A l.length c] 25 #[.int .i64 a', .int .i64 d', .slice B l'.length c'] 25 #[.int .i64 0, .int .i64 0, .slice none 0 0]
  have fin : ∀ w2, Ext w w2 → Blk w2 (w.heap.size + 1 + 1) 25 #[.int .i64 0, .int .i64 0, .slice none 0 0] →
      RetEdE ⟨0, 0, []⟩ 5 w (.returned (.tuple #[.agg #[.int .i64 0, .int .i64 0, .slice none 0 0], .int .i64 5])) (((w2.setCell ⟨w.heap.size + 1 + 1, 0, none⟩ (.int .i64 0)).setCell ⟨w.heap.size + 1 + 1, 1, none⟩ (.int .i64 0)).setCell ⟨w.heap.size + 1 + 1, 2, none⟩ (.slice none 0 0)) :=
    fun w2 hx _ => ⟨none, 0, rfl, IL.nil _, ((hx.setNew (by simp; omega) _).setNew (by simp; omega) _).setNew (by simp; omega) _, Fr.nil _⟩
  cases hf : formed a d l with
  | false =>
    have H1 := Lib.hid hf
    clear hf h1
    go_enter Try.func13, Try.ntmps13
    go_wp2_with fail
    refine (wellFormed_any _ _ _ _ _ _ (hl.ext X)).mono ?_
    rintro e w1 ⟨rfl, hx1⟩
    rw [H1.out]
    obtain ⟨r0, r1, r2, s0, s1, s2, hz4⟩ := (B4.ext hx1).c3
    go_wp2
    exact bodyPost_ret (v := .tuple #[.agg #[.int .i64 0, .int .i64 0, .slice none 0 0], .int .i64 5]) (by simp [results, Try.results13, go_sem, r0, r1, r2]) rfl (fin w1 (X.trans hx1) (B4.ext hx1))
  | true =>
    rw [hf, Bool.true_and] at h1
    have H1 := Lib.hid hf
    have H2 := Lib.hid h1
    clear hf h1
    go_enter Try.func13, Try.ntmps13
    go_wp2_with fail
    refine (wellFormed_any _ _ _ _ _ _ (hl.ext X)).mono ?_
    rintro e w1 ⟨rfl, hx1⟩
    rw [H1.out]
    obtain ⟨q0, q1, q2, _, _, _, hz3⟩ := (B3.ext hx1).c3
    go_wp2_with fail
    refine (wellFormed_any _ _ _ _ _ _ (hl'.ext (X.trans hx1))).mono ?_
    rintro e w2 ⟨rfl, hx2⟩
    rw [H2.out]
    obtain ⟨r0, r1, r2, s0, s1, s2, hz4⟩ := ((B4.ext hx1).ext hx2).c3
    clear q0 q1 q2 hz3
    go_wp2
    exact bodyPost_ret (v := .tuple #[.agg #[.int .i64 0, .int .i64 0, .slice none 0 0], .int .i64 5]) (by simp [results, Try.results13, go_sem, r0, r1, r2]) rfl (fin w2 ((X.trans hx1).trans hx2) ((B4.ext hx1).ext hx2))
end Go.Proofs.Ythhfjomjjhenkaa
