/- The walk of EditsJoin. -/
import Derived.Test.YthhfjomjjhenkaaE24
namespace Go.Proofs.Ythhfjomjjhenkaa
open Go.RowKit
attribute [local go_sem ↓] Go.wp_at_zero Go.wp_at_succ

set_option maxRecDepth 100000 in
set_option maxHeartbeats 8000000 in
theorem EditsJoin_any (A N : Option Addr) (ca cn : Nat) (l n : List Int) (at_ del : Int) (w : World) (hl : IL w A ca l) (hn : IL w N cn n) (hat : I64 at_) (hdel : I64 del) :
    Calls Try.prog 7 #[.slice A l.length ca, .slice N n.length cn, .int .i64 at_, .int .i64 del] w (RetV (.bool true) w) := by
  have tl := rtext_len l 30
  have ts := rtext_sym l 30
  go_enter Try.func7, Try.ntmps7
  go_wp2_with fail
  refine (rText_any _ _ l 30 _ hl (by omega)).mono ?_
  rintro e w1 ⟨T, tc, rfl, iT, x1, _⟩
  generalize rtext l 30 = t at *
  replace hn := hn.ext x1
  go_wp2_with fail
  refine (pick_any _ _ n 0 _ _ hn (by omega) (by omega) (by omega)).mono ?_
  rintro e w2 h1
  obtain ⟨rfl, x2⟩ := h1.v
  clear h1
  replace hn := hn.ext x2; replace iT := iT.ext x2
  replace x1 := x1.trans x2
  clear x2
  go_wp2_with fail
  refine (pick_any _ _ n 1 _ _ hn (by omega) (by omega) (by omega)).mono ?_
  rintro e w3 h1
  obtain ⟨rfl, x2⟩ := h1.v
  clear h1
  replace hn := hn.ext x2; replace iT := iT.ext x2
  replace x1 := x1.trans x2
  clear x2
  go_wp2_with fail
  refine (rEdit_any t.length _ _ _ (by omega) (pick_wf _ _) (pick_wf _ _)).mono ?_
  rintro e w4 ⟨A1, c1, rfl, i1, x2, _⟩
  have he1 : EdOf t.length (redit t.length (pick n 0 1048576) (pick n 1 1048576)) := ⟨(redit_bd _ _ _ (by omega)).1, (redit_bd _ _ _ (by omega)).2.1, (redit_bd _ _ _ (by omega)).2.2, (redit_ins _ _ _).1⟩
  have hi1 := (redit_ins t.length (pick n 0 1048576) (pick n 1 1048576)).2
  generalize redit t.length (pick n 0 1048576) (pick n 1 1048576) = e1 at *
  replace hn := hn.ext x2; replace iT := iT.ext x2
  replace x1 := x1.trans x2
  clear x2
  have g1 := he1.1
  have g2 := he1.2.1
  have g3 := he1.2.2.1
  have S1 := spliceE_len he1
  have ER1 := Lib.hid (editErr_zero he1 (by omega))
  have I1 : I64 e1.del := I64_of (by omega)
  go_wp2_with fail
  obtain ⟨b1, x2⟩ := alloc1 w4 25 #[.int .i64 e1.at_, .int .i64 e1.del, .slice A1 e1.ins.length c1]
  have hz4 := b1.lt
  replace hn := hn.ext x2; replace iT := iT.ext x2; replace i1 := i1.ext x2
  replace x1 := x1.trans x2
  clear x2
  refine (splice_ok _ _ t e1.at_ e1.del _ _ e1.ins _ iT i1 I1 (by omega) (by omega) ER1.out).mono ?_
  rintro e w5 ⟨A2, c2, rfl, i2, x3, _⟩
  replace hn := hn.ext x3; replace iT := iT.ext x3; replace i1 := i1.ext x3; replace b1 := b1.ext x3
  replace x1 := x1.trans x3
  clear x3
  generalize hg1 : w4.heap.size = ga at *
  clear hg1
  change IL _ _ _ (spliceE t e1) at i2
  have HL : spliceL t e1.at_ e1.del e1.ins = spliceE t e1 := rfl
  rw [HL] at *
  clear HL
  generalize hs : spliceE t e1 = s at *
  have HS := Lib.hid hs.symm
  have hsb : s.length ≤ 1000 := by omega
  clear hs S1
  go_wp2_with fail
  refine (pick_any _ _ n 2 _ _ hn (by omega) (by omega) (by omega)).mono ?_
  rintro e w6 h1
  obtain ⟨rfl, x2⟩ := h1.v
  clear h1
  replace hn := hn.ext x2; replace iT := iT.ext x2; replace i1 := i1.ext x2; replace b1 := b1.ext x2; replace i2 := i2.ext x2
  replace x1 := x1.trans x2
  clear x2
  go_wp2_with fail
  refine (pick_any _ _ n 3 _ _ hn (by omega) (by omega) (by omega)).mono ?_
  rintro e w7 h1
  obtain ⟨rfl, x2⟩ := h1.v
  clear h1
  replace iT := iT.ext x2; replace i1 := i1.ext x2; replace b1 := b1.ext x2; replace i2 := i2.ext x2
  replace x1 := x1.trans x2
  clear x2 hn
  go_wp2_with fail
  refine (rEdit_any s.length _ _ _ (by omega) (pick_wf _ _) (pick_wf _ _)).mono ?_
  rintro e w8 ⟨A3, c3, rfl, i3, x2, _⟩
  have k1 := (redit_bd s.length (pick n 2 1048576) (pick n 3 1048576) (by omega)).1
  have k2 := (redit_bd s.length (pick n 2 1048576) (pick n 3 1048576) (by omega)).2.1
  have k3 := (redit_bd s.length (pick n 2 1048576) (pick n 3 1048576) (by omega)).2.2
  have hi3 := (redit_ins s.length (pick n 2 1048576) (pick n 3 1048576)).2
  generalize redit s.length (pick n 2 1048576) (pick n 3 1048576) = e2 at *
  replace iT := iT.ext x2; replace i1 := i1.ext x2; replace b1 := b1.ext x2; replace i2 := i2.ext x2
  replace x1 := x1.trans x2
  clear x2
  have hall : ∀ o ∈ [e2, ⟨at_, del, [7]⟩], I64 o.del ∧ o.ins.length ≤ 3 := by
    intro o ho
    simp only [List.mem_cons, List.not_mem_nil, or_false] at ho
    rcases ho with rfl | rfl
    · exact ⟨I64_of (by omega), hi3⟩
    · exact ⟨hdel, by simp⟩
  go_wp2_with fail
  obtain ⟨b2, b3, x2⟩ := alloc2 w8 3 #[.int .i64 7] 25 #[.int .i64 e2.at_, .int .i64 e2.del, .slice A3 e2.ins.length c3, .int .i64 at_, .int .i64 del, .slice (some ⟨w8.heap.size, 0, none⟩) 1 1]
  have hEL : EL _ (w8.heap.size + 1) [e2, ⟨at_, del, [7]⟩] :=
    EL.two b3 (i3.ext x2) (IL.of_blk (xs := [7]) b2 (by simp [I64]) (by simp [maxLen]))
  replace iT := iT.ext x2; replace i1 := i1.ext x2; replace b1 := b1.ext x2; replace i2 := i2.ext x2
  replace x1 := x1.trans x2
  clear b2 b3 x2 i3 k1 k2 k3 hi3
  generalize hes : [e2, ⟨at_, del, [7]⟩] = es at hEL hall
  have hel : es.length = 2 := by rw [← hes]; rfl
  clear hes
  have HB := Lib.hid (show t.length ≤ 1000 ∧ e1.ins.length ≤ 1000 ∧ s.length ≤ 1000 by omega)
  clear g1 g2 g3 hi1 tl
  generalize (w8.alloc (.cells #[.int .i64 7] 3)).alloc (.cells #[.int .i64 e2.at_, .int .i64 e2.del, .slice A3 e2.ins.length c3, .int .i64 at_, .int .i64 del, .slice (some ⟨w8.heap.size, 0, none⟩) 1 1] 25) = W at *
  generalize w8.heap.size + 1 = go at *
  go_loopw [14] (fun i wr => ∃ m : Nat, m ≤ 2 ∧ i = .int .i64 m ∧ Ext W wr) (fun i _ => 2 - (intOf i).toNat)
  case atStart => exact ⟨0, by omega, rfl, Ext.rfl' _⟩
  case round =>
    obtain ⟨m, hm, rfl, hext⟩ := hrel
    by_cases hm4 : m < 2
    · have hmi : (m : Int) < 2 := by omega
      obtain ⟨A4, c4, q0, q1, q2, i4⟩ := hEL m (by omega)
      have hby := hall es[m] (List.getElem_mem _)
      generalize es[m] = o at *
      obtain ⟨hod, hoi⟩ := hby
      replace iT := iT.ext hext; replace i1 := i1.ext hext; replace i2 := i2.ext hext; replace i4 := i4.ext hext
      replace b1 := b1.ext hext
      replace q0 := hext.cell q0
      replace q1 := hext.cell q1
      replace q2 := hext.cell q2
      have p0 := (Blk.c3 b1).1; have p1 := (Blk.c3 b1).2.1; have p2 := (Blk.c3 b1).2.2.1; have p0f := (Blk.c3 b1).2.2.2.1; have p1f := (Blk.c3 b1).2.2.2.2.1; have p2f := (Blk.c3 b1).2.2.2.2.2.1; have pz := (Blk.c3 b1).2.2.2.2.2.2
      obtain ⟨x, err, u, hJF, hJ, hSp⟩ := joins_any T A2 tc c2 t s e1 o A1 A4 c1 c4 wr iT i2 i1 i4 ts HS.out he1 HB.out.1 HB.out.2.1 (by omega) hod
      obtain ⟨y, err2, hwant, hJB⟩ := joins_back T tc t e1 o A1 A4 c1 c4 wr iT i1 i4 he1 HB.out.1 HB.out.2.1 (by omega) hod
      have kp0 := fun (w' : World) (h : Kp [] wr w') => h.cell p0 (by simp)
      have kp1 := fun (w' : World) (h : Kp [] wr w') => h.cell p1 (by simp)
      have kp2 := fun (w' : World) (h : Kp [] wr w') => h.cell p2 (by simp)
      have kq0 := fun (w' : World) (h : Kp [] wr w') => h.cell q0 (by simp)
      have kq1 := fun (w' : World) (h : Kp [] wr w') => h.cell q1 (by simp)
      have kq2 := fun (w' : World) (h : Kp [] wr w') => h.cell q2 (by simp)
      have HCK := fun (W' : World) (h : IL W' A4 c4 o.ins) => Lib.hid (rCheck_any T t.length tc o.at_ o.del A4 c4 o.ins W' h (by have := HB.out.1; omega) (by have := HB.out.1; omega) hod)
      generalize editErr t.length o.at_ o.del o.ins = want at *
      have HW := Lib.hid hwant
      have HXD := Lib.hid hJF.xd
      have HXL := Lib.hid hJF.xl
      clear hwant
      go_wp2_with fail
      refine Xr.start [] (by kernel_rfl) ?_
      repeat (first | (refine Xr.take 0 (some 58) (v := ?_) rfl rfl (by decide +kernel) (by rfl) ?_ ?_; rotate_left; (focus (intro w' hk; go_simp; (try with_reducible rfl); done)); (try simp only [Act.put, List.setIfInBounds_toArray, List.set_cons_zero, List.set_cons_succ])) | (refine Xr.take 1 (some 59) (v := ?_) rfl rfl (by decide +kernel) (by rfl) ?_ ?_; rotate_left; (focus (intro w' hk; go_simp; (try with_reducible rfl); done)); (try simp only [Act.put, List.setIfInBounds_toArray, List.set_cons_zero, List.set_cons_succ])) | (refine Xr.take 2 (some 60) (v := ?_) rfl rfl (by decide +kernel) (by rfl) ?_ ?_; rotate_left; (focus (intro w' hk; go_simp; (try with_reducible rfl); done)); (try simp only [Act.put, List.setIfInBounds_toArray, List.set_cons_zero, List.set_cons_succ])) | (refine Xr.take 3 (some 61) (v := ?_) rfl rfl (by decide +kernel) (by rfl) ?_ ?_; rotate_left; (focus (intro w' hk; go_simp; (try with_reducible rfl); done)); (try simp only [Act.put, List.setIfInBounds_toArray, List.set_cons_zero, List.set_cons_succ])) | (refine Xr.take 4 (some 62) (v := ?_) rfl rfl (by decide +kernel) (by rfl) ?_ ?_; rotate_left; (focus (intro w' hk; go_simp; (try with_reducible rfl); done)); (try simp only [Act.put, List.setIfInBounds_toArray, List.set_cons_zero, List.set_cons_succ])) | (refine Xr.take 5 (some 63) (v := ?_) rfl rfl (by decide +kernel) (by rfl) ?_ ?_; rotate_left; (focus (intro w' hk; go_simp; (try with_reducible rfl); done)); (try simp only [Act.put, List.setIfInBounds_toArray, List.set_cons_zero, List.set_cons_succ])) | (refine Xr.take 7 (some 57) (v := ?_) rfl rfl (by decide +kernel) (by rfl) ?_ ?_; rotate_left; (focus (intro w' hk; go_simp; (try with_reducible rfl); done)); (try simp only [Act.put, List.setIfInBounds_toArray, List.set_cons_zero, List.set_cons_succ])) | (refine Xr.take 8 (some 65) (v := ?_) rfl rfl (by decide +kernel) (by rfl) ?_ ?_; rotate_left; (focus (intro w' hk; go_simp; (try with_reducible rfl); done)); (try simp only [Act.put, List.setIfInBounds_toArray, List.set_cons_zero, List.set_cons_succ])) | (refine Xr.take 9 (some 66) (v := ?_) rfl rfl (by decide +kernel) (by rfl) ?_ ?_; rotate_left; (focus (intro w' hk; go_simp; (try with_reducible rfl); done)); (try simp only [Act.put, List.setIfInBounds_toArray, List.set_cons_zero, List.set_cons_succ])) | (refine Xr.take 12 (some 16) (v := ?_) rfl rfl (by decide +kernel) (by rfl) ?_ ?_; rotate_left; (focus (intro w' hk; go_simp; (try with_reducible rfl); done)); (try simp only [Act.put, List.setIfInBounds_toArray, List.set_cons_zero, List.set_cons_succ])))
      refine Xr.lazy 10 15 11 (fun g => .pointer (some ⟨g, 0, none⟩)) 25 #[.int .i64 0, .int .i64 0, .slice none 0 0] rfl (by simp) (by decide +kernel) (by simp) (fun w' => by go_simp) ?_
      refine Xr.call 6 rfl (by decide +kernel) (by rfl) (fun w9 hE9 hK9 K hKK => ?_)
      go_simp
      refine (hJ _ hE9).mono ?_
      rintro e w10 ⟨C, cc, rfl, hil, hx10, hfr⟩
      refine hKK _ _ hx10 ?_
      clear hKK
      (try simp only [Act.put, List.setIfInBounds_toArray, List.set_cons_zero, List.set_cons_succ])
      repeat (first | (refine Xr.take 0 (some 58) (v := ?_) rfl rfl (by decide +kernel) (by rfl) ?_ ?_; rotate_left; (focus (intro w' hk; go_simp; (try with_reducible rfl); done)); (try simp only [Act.put, List.setIfInBounds_toArray, List.set_cons_zero, List.set_cons_succ])) | (refine Xr.take 1 (some 59) (v := ?_) rfl rfl (by decide +kernel) (by rfl) ?_ ?_; rotate_left; (focus (intro w' hk; go_simp; (try with_reducible rfl); done)); (try simp only [Act.put, List.setIfInBounds_toArray, List.set_cons_zero, List.set_cons_succ])) | (refine Xr.take 2 (some 60) (v := ?_) rfl rfl (by decide +kernel) (by rfl) ?_ ?_; rotate_left; (focus (intro w' hk; go_simp; (try with_reducible rfl); done)); (try simp only [Act.put, List.setIfInBounds_toArray, List.set_cons_zero, List.set_cons_succ])) | (refine Xr.take 3 (some 61) (v := ?_) rfl rfl (by decide +kernel) (by rfl) ?_ ?_; rotate_left; (focus (intro w' hk; go_simp; (try with_reducible rfl); done)); (try simp only [Act.put, List.setIfInBounds_toArray, List.set_cons_zero, List.set_cons_succ])) | (refine Xr.take 4 (some 62) (v := ?_) rfl rfl (by decide +kernel) (by rfl) ?_ ?_; rotate_left; (focus (intro w' hk; go_simp; (try with_reducible rfl); done)); (try simp only [Act.put, List.setIfInBounds_toArray, List.set_cons_zero, List.set_cons_succ])) | (refine Xr.take 5 (some 63) (v := ?_) rfl rfl (by decide +kernel) (by rfl) ?_ ?_; rotate_left; (focus (intro w' hk; go_simp; (try with_reducible rfl); done)); (try simp only [Act.put, List.setIfInBounds_toArray, List.set_cons_zero, List.set_cons_succ])) | (refine Xr.take 7 (some 57) (v := ?_) rfl rfl (by decide +kernel) (by rfl) ?_ ?_; rotate_left; (focus (intro w' hk; go_simp; (try with_reducible rfl); done)); (try simp only [Act.put, List.setIfInBounds_toArray, List.set_cons_zero, List.set_cons_succ])) | (refine Xr.take 8 (some 65) (v := ?_) rfl rfl (by decide +kernel) (by rfl) ?_ ?_; rotate_left; (focus (intro w' hk; go_simp; (try with_reducible rfl); done)); (try simp only [Act.put, List.setIfInBounds_toArray, List.set_cons_zero, List.set_cons_succ])) | (refine Xr.take 9 (some 66) (v := ?_) rfl rfl (by decide +kernel) (by rfl) ?_ ?_; rotate_left; (focus (intro w' hk; go_simp; (try with_reducible rfl); done)); (try simp only [Act.put, List.setIfInBounds_toArray, List.set_cons_zero, List.set_cons_succ])) | (refine Xr.take 12 (some 16) (v := ?_) rfl rfl (by decide +kernel) (by rfl) ?_ ?_; rotate_left; (focus (intro w' hk; go_simp; (try with_reducible rfl); done)); (try simp only [Act.put, List.setIfInBounds_toArray, List.set_cons_zero, List.set_cons_succ])))
      refine Xr.stepZ rfl (by decide +kernel) (fun _ => by rfl) (fun w11 gx hE11 hK11 hgx hB hno K hKK => ?_)
      (try simp only [Act.put, List.setIfInBounds_toArray, List.set_cons_zero, List.set_cons_succ])
      have m0 := (Blk.c3 hB).1; have m1 := (Blk.c3 hB).2.1; have m2 := (Blk.c3 hB).2.2.1; have m0f := (Blk.c3 hB).2.2.2.1; have m1f := (Blk.c3 hB).2.2.2.2.1; have m2f := (Blk.c3 hB).2.2.2.2.2.1; have mz := (Blk.c3 hB).2.2.2.2.2.2
      go_simp
      refine hKK _ _ (WI_set (WI_set (WI_set (WI_refl _ _ _) _ _) _ _) _ _) (((hK11.setN hgx _ _).setN hgx _ _).setN hgx _ _) ?_
      clear hKK
      (try simp only [Act.put, List.setIfInBounds_toArray, List.set_cons_zero, List.set_cons_succ])
      repeat (first | (refine Xr.take 0 (some 58) (v := ?_) rfl rfl (by decide +kernel) (by rfl) ?_ ?_; rotate_left; (focus (intro w' hk; go_simp; (try with_reducible rfl); done)); (try simp only [Act.put, List.setIfInBounds_toArray, List.set_cons_zero, List.set_cons_succ])) | (refine Xr.take 1 (some 59) (v := ?_) rfl rfl (by decide +kernel) (by rfl) ?_ ?_; rotate_left; (focus (intro w' hk; go_simp; (try with_reducible rfl); done)); (try simp only [Act.put, List.setIfInBounds_toArray, List.set_cons_zero, List.set_cons_succ])) | (refine Xr.take 2 (some 60) (v := ?_) rfl rfl (by decide +kernel) (by rfl) ?_ ?_; rotate_left; (focus (intro w' hk; go_simp; (try with_reducible rfl); done)); (try simp only [Act.put, List.setIfInBounds_toArray, List.set_cons_zero, List.set_cons_succ])) | (refine Xr.take 3 (some 61) (v := ?_) rfl rfl (by decide +kernel) (by rfl) ?_ ?_; rotate_left; (focus (intro w' hk; go_simp; (try with_reducible rfl); done)); (try simp only [Act.put, List.setIfInBounds_toArray, List.set_cons_zero, List.set_cons_succ])) | (refine Xr.take 4 (some 62) (v := ?_) rfl rfl (by decide +kernel) (by rfl) ?_ ?_; rotate_left; (focus (intro w' hk; go_simp; (try with_reducible rfl); done)); (try simp only [Act.put, List.setIfInBounds_toArray, List.set_cons_zero, List.set_cons_succ])) | (refine Xr.take 5 (some 63) (v := ?_) rfl rfl (by decide +kernel) (by rfl) ?_ ?_; rotate_left; (focus (intro w' hk; go_simp; (try with_reducible rfl); done)); (try simp only [Act.put, List.setIfInBounds_toArray, List.set_cons_zero, List.set_cons_succ])) | (refine Xr.take 7 (some 57) (v := ?_) rfl rfl (by decide +kernel) (by rfl) ?_ ?_; rotate_left; (focus (intro w' hk; go_simp; (try with_reducible rfl); done)); (try simp only [Act.put, List.setIfInBounds_toArray, List.set_cons_zero, List.set_cons_succ])) | (refine Xr.take 8 (some 65) (v := ?_) rfl rfl (by decide +kernel) (by rfl) ?_ ?_; rotate_left; (focus (intro w' hk; go_simp; (try with_reducible rfl); done)); (try simp only [Act.put, List.setIfInBounds_toArray, List.set_cons_zero, List.set_cons_succ])) | (refine Xr.take 9 (some 66) (v := ?_) rfl rfl (by decide +kernel) (by rfl) ?_ ?_; rotate_left; (focus (intro w' hk; go_simp; (try with_reducible rfl); done)); (try simp only [Act.put, List.setIfInBounds_toArray, List.set_cons_zero, List.set_cons_succ])) | (refine Xr.take 12 (some 16) (v := ?_) rfl rfl (by decide +kernel) (by rfl) ?_ ?_; rotate_left; (focus (intro w' hk; go_simp; (try with_reducible rfl); done)); (try simp only [Act.put, List.setIfInBounds_toArray, List.set_cons_zero, List.set_cons_succ])))
      refine Xr.done (by decide +kernel) (fun w12 hE12 hK12 => ?_)
      have hgb := (((hB.set 0 (.int .i64 x.at_)).set 1 (.int .i64 x.del)).set 2 (.slice C x.ins.length cc)).ext hE12
      have hil2 := (hil.past3 hfr hE11 hno (.int .i64 x.at_) (.int .i64 x.del) (.slice C x.ins.length cc)).ext hE12
      simp only [List.setIfInBounds_toArray, List.set_cons_zero, List.set_cons_succ] at hgb
      clear m0 m1 m2 m0f m1f m2f mz hB kp0 kp1 kp2 kq0 kq1 kq2 hil hE11 hE12 p0 p1 p2 p0f p1f p2f pz
      have X := hK12.nil
      clear hK12
      replace q0 := X.cell q0
      replace q1 := X.cell q1
      replace q2 := X.cell q2
      replace iT := iT.ext X; replace i1 := i1.ext X; replace b1 := b1.ext X; replace i2 := i2.ext X; replace i4 := i4.ext X
      replace hext := hext.trans X
      have hJB2 := fun (W : World) (h : Ext w12 W) => hJB W (X.trans h)
      have hSp2 := fun (W : World) (h : Ext w12 W) => hSp W (X.trans h)
      clear X hJB hSp hJ
      go_wp2_with fail
      refine (hSp2 _ (Ext.rfl' _)).mono ?_
      rintro e w13 ⟨U, uc, rfl, iU, X, _⟩
      replace q0 := X.cell q0
      replace q1 := X.cell q1
      replace q2 := X.cell q2
      replace iT := iT.ext X; replace i1 := i1.ext X; replace b1 := b1.ext X; replace i2 := i2.ext X; replace i4 := i4.ext X; replace hgb := hgb.ext X; replace hil2 := hil2.ext X
      replace hext := hext.trans X
      have hJB := fun (W : World) (h : Ext w13 W) => hJB2 W (X.trans h)
      clear X hJB2 hSp2
      have p0 := (Blk.c3 b1).1; have p1 := (Blk.c3 b1).2.1; have p2 := (Blk.c3 b1).2.2.1; have p0f := (Blk.c3 b1).2.2.2.1; have p1f := (Blk.c3 b1).2.2.2.2.1; have p2f := (Blk.c3 b1).2.2.2.2.2.1; have pz := (Blk.c3 b1).2.2.2.2.2.2
      have kp0 := fun (w' : World) (h : Kp [] w13 w') => h.cell p0 (by simp)
      have kp1 := fun (w' : World) (h : Kp [] w13 w') => h.cell p1 (by simp)
      have kp2 := fun (w' : World) (h : Kp [] w13 w') => h.cell p2 (by simp)
      have kq0 := fun (w' : World) (h : Kp [] w13 w') => h.cell q0 (by simp)
      have kq1 := fun (w' : World) (h : Kp [] w13 w') => h.cell q1 (by simp)
      have kq2 := fun (w' : World) (h : Kp [] w13 w') => h.cell q2 (by simp)
      go_wp2_with fail
      refine Xr.start [] (by kernel_rfl) ?_
      repeat (first | (refine Xr.take 0 (some 77) (v := ?_) rfl rfl (by decide +kernel) (by rfl) ?_ ?_; rotate_left; (focus (intro w' hk; go_simp; (try with_reducible rfl); done)); (try simp only [Act.put, List.setIfInBounds_toArray, List.set_cons_zero, List.set_cons_succ])) | (refine Xr.take 1 (some 78) (v := ?_) rfl rfl (by decide +kernel) (by rfl) ?_ ?_; rotate_left; (focus (intro w' hk; go_simp; (try with_reducible rfl); done)); (try simp only [Act.put, List.setIfInBounds_toArray, List.set_cons_zero, List.set_cons_succ])) | (refine Xr.take 2 (some 79) (v := ?_) rfl rfl (by decide +kernel) (by rfl) ?_ ?_; rotate_left; (focus (intro w' hk; go_simp; (try with_reducible rfl); done)); (try simp only [Act.put, List.setIfInBounds_toArray, List.set_cons_zero, List.set_cons_succ])) | (refine Xr.take 3 (some 80) (v := ?_) rfl rfl (by decide +kernel) (by rfl) ?_ ?_; rotate_left; (focus (intro w' hk; go_simp; (try with_reducible rfl); done)); (try simp only [Act.put, List.setIfInBounds_toArray, List.set_cons_zero, List.set_cons_succ])) | (refine Xr.take 4 (some 81) (v := ?_) rfl rfl (by decide +kernel) (by rfl) ?_ ?_; rotate_left; (focus (intro w' hk; go_simp; (try with_reducible rfl); done)); (try simp only [Act.put, List.setIfInBounds_toArray, List.set_cons_zero, List.set_cons_succ])) | (refine Xr.take 5 (some 82) (v := ?_) rfl rfl (by decide +kernel) (by rfl) ?_ ?_; rotate_left; (focus (intro w' hk; go_simp; (try with_reducible rfl); done)); (try simp only [Act.put, List.setIfInBounds_toArray, List.set_cons_zero, List.set_cons_succ])) | (refine Xr.take 7 (some 76) (v := ?_) rfl rfl (by decide +kernel) (by rfl) ?_ ?_; rotate_left; (focus (intro w' hk; go_simp; (try with_reducible rfl); done)); (try simp only [Act.put, List.setIfInBounds_toArray, List.set_cons_zero, List.set_cons_succ])) | (refine Xr.take 8 (some 84) (v := ?_) rfl rfl (by decide +kernel) (by rfl) ?_ ?_; rotate_left; (focus (intro w' hk; go_simp; (try with_reducible rfl); done)); (try simp only [Act.put, List.setIfInBounds_toArray, List.set_cons_zero, List.set_cons_succ])) | (refine Xr.take 9 (some 85) (v := ?_) rfl rfl (by decide +kernel) (by rfl) ?_ ?_; rotate_left; (focus (intro w' hk; go_simp; (try with_reducible rfl); done)); (try simp only [Act.put, List.setIfInBounds_toArray, List.set_cons_zero, List.set_cons_succ])) | (refine Xr.take 12 (some 20) (v := ?_) rfl rfl (by decide +kernel) (by rfl) ?_ ?_; rotate_left; (focus (intro w' hk; go_simp; (try with_reducible rfl); done)); (try simp only [Act.put, List.setIfInBounds_toArray, List.set_cons_zero, List.set_cons_succ])))
      refine Xr.lazy 10 19 11 (fun g => .pointer (some ⟨g, 0, none⟩)) 25 #[.int .i64 0, .int .i64 0, .slice none 0 0] rfl (by simp) (by decide +kernel) (by simp) (fun w' => by go_simp) ?_
      refine Xr.call 6 rfl (by decide +kernel) (by rfl) (fun w14 hE14 hK14 K hKK => ?_)
      go_simp
      refine (hJB _ hE14).mono ?_
      rintro e w15 ⟨D, dc, rfl, hild, hx15, hfrd⟩
      refine hKK _ _ hx15 ?_
      clear hKK
      (try simp only [Act.put, List.setIfInBounds_toArray, List.set_cons_zero, List.set_cons_succ])
      repeat (first | (refine Xr.take 0 (some 77) (v := ?_) rfl rfl (by decide +kernel) (by rfl) ?_ ?_; rotate_left; (focus (intro w' hk; go_simp; (try with_reducible rfl); done)); (try simp only [Act.put, List.setIfInBounds_toArray, List.set_cons_zero, List.set_cons_succ])) | (refine Xr.take 1 (some 78) (v := ?_) rfl rfl (by decide +kernel) (by rfl) ?_ ?_; rotate_left; (focus (intro w' hk; go_simp; (try with_reducible rfl); done)); (try simp only [Act.put, List.setIfInBounds_toArray, List.set_cons_zero, List.set_cons_succ])) | (refine Xr.take 2 (some 79) (v := ?_) rfl rfl (by decide +kernel) (by rfl) ?_ ?_; rotate_left; (focus (intro w' hk; go_simp; (try with_reducible rfl); done)); (try simp only [Act.put, List.setIfInBounds_toArray, List.set_cons_zero, List.set_cons_succ])) | (refine Xr.take 3 (some 80) (v := ?_) rfl rfl (by decide +kernel) (by rfl) ?_ ?_; rotate_left; (focus (intro w' hk; go_simp; (try with_reducible rfl); done)); (try simp only [Act.put, List.setIfInBounds_toArray, List.set_cons_zero, List.set_cons_succ])) | (refine Xr.take 4 (some 81) (v := ?_) rfl rfl (by decide +kernel) (by rfl) ?_ ?_; rotate_left; (focus (intro w' hk; go_simp; (try with_reducible rfl); done)); (try simp only [Act.put, List.setIfInBounds_toArray, List.set_cons_zero, List.set_cons_succ])) | (refine Xr.take 5 (some 82) (v := ?_) rfl rfl (by decide +kernel) (by rfl) ?_ ?_; rotate_left; (focus (intro w' hk; go_simp; (try with_reducible rfl); done)); (try simp only [Act.put, List.setIfInBounds_toArray, List.set_cons_zero, List.set_cons_succ])) | (refine Xr.take 7 (some 76) (v := ?_) rfl rfl (by decide +kernel) (by rfl) ?_ ?_; rotate_left; (focus (intro w' hk; go_simp; (try with_reducible rfl); done)); (try simp only [Act.put, List.setIfInBounds_toArray, List.set_cons_zero, List.set_cons_succ])) | (refine Xr.take 8 (some 84) (v := ?_) rfl rfl (by decide +kernel) (by rfl) ?_ ?_; rotate_left; (focus (intro w' hk; go_simp; (try with_reducible rfl); done)); (try simp only [Act.put, List.setIfInBounds_toArray, List.set_cons_zero, List.set_cons_succ])) | (refine Xr.take 9 (some 85) (v := ?_) rfl rfl (by decide +kernel) (by rfl) ?_ ?_; rotate_left; (focus (intro w' hk; go_simp; (try with_reducible rfl); done)); (try simp only [Act.put, List.setIfInBounds_toArray, List.set_cons_zero, List.set_cons_succ])) | (refine Xr.take 12 (some 20) (v := ?_) rfl rfl (by decide +kernel) (by rfl) ?_ ?_; rotate_left; (focus (intro w' hk; go_simp; (try with_reducible rfl); done)); (try simp only [Act.put, List.setIfInBounds_toArray, List.set_cons_zero, List.set_cons_succ])))
      refine Xr.stepZ rfl (by decide +kernel) (fun _ => by rfl) (fun w16 gy hE16 hK16 hgy hB hno2 K hKK => ?_)
      (try simp only [Act.put, List.setIfInBounds_toArray, List.set_cons_zero, List.set_cons_succ])
      have m0 := (Blk.c3 hB).1; have m1 := (Blk.c3 hB).2.1; have m2 := (Blk.c3 hB).2.2.1; have m0f := (Blk.c3 hB).2.2.2.1; have m1f := (Blk.c3 hB).2.2.2.2.1; have m2f := (Blk.c3 hB).2.2.2.2.2.1; have mz := (Blk.c3 hB).2.2.2.2.2.2
      go_simp
      refine hKK _ _ (WI_set (WI_set (WI_set (WI_refl _ _ _) _ _) _ _) _ _) (((hK16.setN hgy _ _).setN hgy _ _).setN hgy _ _) ?_
      clear hKK
      (try simp only [Act.put, List.setIfInBounds_toArray, List.set_cons_zero, List.set_cons_succ])
      repeat (first | (refine Xr.take 0 (some 77) (v := ?_) rfl rfl (by decide +kernel) (by rfl) ?_ ?_; rotate_left; (focus (intro w' hk; go_simp; (try with_reducible rfl); done)); (try simp only [Act.put, List.setIfInBounds_toArray, List.set_cons_zero, List.set_cons_succ])) | (refine Xr.take 1 (some 78) (v := ?_) rfl rfl (by decide +kernel) (by rfl) ?_ ?_; rotate_left; (focus (intro w' hk; go_simp; (try with_reducible rfl); done)); (try simp only [Act.put, List.setIfInBounds_toArray, List.set_cons_zero, List.set_cons_succ])) | (refine Xr.take 2 (some 79) (v := ?_) rfl rfl (by decide +kernel) (by rfl) ?_ ?_; rotate_left; (focus (intro w' hk; go_simp; (try with_reducible rfl); done)); (try simp only [Act.put, List.setIfInBounds_toArray, List.set_cons_zero, List.set_cons_succ])) | (refine Xr.take 3 (some 80) (v := ?_) rfl rfl (by decide +kernel) (by rfl) ?_ ?_; rotate_left; (focus (intro w' hk; go_simp; (try with_reducible rfl); done)); (try simp only [Act.put, List.setIfInBounds_toArray, List.set_cons_zero, List.set_cons_succ])) | (refine Xr.take 4 (some 81) (v := ?_) rfl rfl (by decide +kernel) (by rfl) ?_ ?_; rotate_left; (focus (intro w' hk; go_simp; (try with_reducible rfl); done)); (try simp only [Act.put, List.setIfInBounds_toArray, List.set_cons_zero, List.set_cons_succ])) | (refine Xr.take 5 (some 82) (v := ?_) rfl rfl (by decide +kernel) (by rfl) ?_ ?_; rotate_left; (focus (intro w' hk; go_simp; (try with_reducible rfl); done)); (try simp only [Act.put, List.setIfInBounds_toArray, List.set_cons_zero, List.set_cons_succ])) | (refine Xr.take 7 (some 76) (v := ?_) rfl rfl (by decide +kernel) (by rfl) ?_ ?_; rotate_left; (focus (intro w' hk; go_simp; (try with_reducible rfl); done)); (try simp only [Act.put, List.setIfInBounds_toArray, List.set_cons_zero, List.set_cons_succ])) | (refine Xr.take 8 (some 84) (v := ?_) rfl rfl (by decide +kernel) (by rfl) ?_ ?_; rotate_left; (focus (intro w' hk; go_simp; (try with_reducible rfl); done)); (try simp only [Act.put, List.setIfInBounds_toArray, List.set_cons_zero, List.set_cons_succ])) | (refine Xr.take 9 (some 85) (v := ?_) rfl rfl (by decide +kernel) (by rfl) ?_ ?_; rotate_left; (focus (intro w' hk; go_simp; (try with_reducible rfl); done)); (try simp only [Act.put, List.setIfInBounds_toArray, List.set_cons_zero, List.set_cons_succ])) | (refine Xr.take 12 (some 20) (v := ?_) rfl rfl (by decide +kernel) (by rfl) ?_ ?_; rotate_left; (focus (intro w' hk; go_simp; (try with_reducible rfl); done)); (try simp only [Act.put, List.setIfInBounds_toArray, List.set_cons_zero, List.set_cons_succ])))
      refine Xr.done (by decide +kernel) (fun w17 hE17 hK17 => ?_)
      clear m0 m1 m2 m0f m1f m2f mz hB kp0 kp1 kp2 kq0 kq1 kq2 hild hE16 hE17 p0 p1 p2 p0f p1f p2f pz
      have X := hK17.nil
      clear hK17 hJB
      replace q0 := X.cell q0
      replace q1 := X.cell q1
      replace q2 := X.cell q2
      replace iT := iT.ext X; replace i1 := i1.ext X; replace b1 := b1.ext X; replace i2 := i2.ext X; replace i4 := i4.ext X; replace hgb := hgb.ext X; replace hil2 := hil2.ext X; replace iU := iU.ext X
      replace hext := hext.trans X
      clear X
      go_wp2_with fail
      refine (HCK _ i4).out.mono ?_
      rintro e w18 ⟨rfl, X⟩
      replace q0 := X.cell q0
      replace q1 := X.cell q1
      replace q2 := X.cell q2
      replace iT := iT.ext X; replace i1 := i1.ext X; replace b1 := b1.ext X; replace i2 := i2.ext X; replace i4 := i4.ext X; replace hgb := hgb.ext X; replace hil2 := hil2.ext X; replace iU := iU.ext X
      replace hext := hext.trans X
      clear X HCK
      have HE := Lib.hid hJF
      clear hJF
      by_cases hw : want = 0
      rotate_left
      have hw0 := HW.out.resolve_left hw
      have hw1 : (want != 0) = true := by simpa using hw
      have hw2 : (want == 0) = false := by simpa using hw
      all_goals
        clear HW
        by_cases he0 : err = 0
        · have hx := (HE.out.yes he0).1
          have hu := (HE.out.yes he0).2.1
          have heo := (HE.out.yes he0).2.2.1
          have hz := (HE.out.yes he0).2.2.2.1
          have HRJ : ∀ W, IL W T tc t → IL W A1 c1 e1.ins → IL W A4 c4 o.ins → Hid (Calls Try.prog 30 #[.slice T t.length tc, .agg #[.int .i64 e1.at_, .int .i64 e1.del, .slice A1 e1.ins.length c1], .agg #[.int .i64 o.at_, .int .i64 o.del, .slice A4 o.ins.length c4]] W (RetEdV x W)) :=
            fun W h1 h2 h3 => Lib.hid (by rw [hx]; exact rJoin_any T tc t e1 o A1 A4 c1 c4 W h1 h2 h3 (by have := HB.out.1; omega) (by have := HB.out.2.1; omega) (by omega) he1 (by rw [← HS.out]; exact heo))
          have HSX : ∀ W, IL W T tc t → IL W C cc x.ins → Hid (Calls Try.prog 23 #[.slice T t.length tc, .agg #[.int .i64 x.at_, .int .i64 x.del, .slice C x.ins.length cc]] W (RetSp u 0 W)) :=
            fun W h1 h2 => Lib.hid (by rw [hu]; exact splice_ok T tc t x.at_ x.del C cc x.ins W h1 h2 HXD.out (by have := HB.out.1; omega) (by have := HXL.out; omega) hz)
          clear hx hu heo hz HE
          have r0 := (Blk.c3 hgb).1; have r1 := (Blk.c3 hgb).2.1; have r2 := (Blk.c3 hgb).2.2.1; have r0f := (Blk.c3 hgb).2.2.2.1; have r1f := (Blk.c3 hgb).2.2.2.2.1; have r2f := (Blk.c3 hgb).2.2.2.2.2.1; have rz := (Blk.c3 hgb).2.2.2.2.2.2
          go_wp2_with fail
          refine (HSX _ iT hil2).out.mono ?_
          rintro e w19 ⟨V, vc, rfl, iV, X, _⟩
          clear r0 r1 r2 r0f r1f r2f rz
          replace q0 := X.cell q0
          replace q1 := X.cell q1
          replace q2 := X.cell q2
          replace iT := iT.ext X; replace i1 := i1.ext X; replace b1 := b1.ext X; replace i2 := i2.ext X; replace i4 := i4.ext X; replace hgb := hgb.ext X; replace hil2 := hil2.ext X; replace iU := iU.ext X
          replace hext := hext.trans X
          clear X HSX
          have r0 := (Blk.c3 hgb).1; have r1 := (Blk.c3 hgb).2.1; have r2 := (Blk.c3 hgb).2.2.1; have r0f := (Blk.c3 hgb).2.2.2.1; have r1f := (Blk.c3 hgb).2.2.2.2.1; have r2f := (Blk.c3 hgb).2.2.2.2.2.1; have rz := (Blk.c3 hgb).2.2.2.2.2.2
          have p0 := (Blk.c3 b1).1; have p1 := (Blk.c3 b1).2.1; have p2 := (Blk.c3 b1).2.2.1; have p0f := (Blk.c3 b1).2.2.2.1; have p1f := (Blk.c3 b1).2.2.2.2.1; have p2f := (Blk.c3 b1).2.2.2.2.2.1; have pz := (Blk.c3 b1).2.2.2.2.2.2
          have kp0 := fun (w' : World) (h : Kp [] w19 w') => h.cell p0 (by simp)
          have kp1 := fun (w' : World) (h : Kp [] w19 w') => h.cell p1 (by simp)
          have kp2 := fun (w' : World) (h : Kp [] w19 w') => h.cell p2 (by simp)
          have kq0 := fun (w' : World) (h : Kp [] w19 w') => h.cell q0 (by simp)
          have kq1 := fun (w' : World) (h : Kp [] w19 w') => h.cell q1 (by simp)
          have kq2 := fun (w' : World) (h : Kp [] w19 w') => h.cell q2 (by simp)
          have kr0 := fun (w' : World) (h : Kp [] w19 w') => h.cell r0 (by simp)
          have kr1 := fun (w' : World) (h : Kp [] w19 w') => h.cell r1 (by simp)
          have kr2 := fun (w' : World) (h : Kp [] w19 w') => h.cell r2 (by simp)
          go_wp2_with fail
          refine Xr.start [] (by kernel_rfl) ?_
          repeat (first | (refine Xr.take 0 (some 116) (v := ?_) rfl rfl (by decide +kernel) (by rfl) ?_ ?_; rotate_left; (focus (intro w' hk; go_simp; (try with_reducible rfl); done)); (try simp only [Act.put, List.setIfInBounds_toArray, List.set_cons_zero, List.set_cons_succ])) | (refine Xr.take 1 (some 117) (v := ?_) rfl rfl (by decide +kernel) (by rfl) ?_ ?_; rotate_left; (focus (intro w' hk; go_simp; (try with_reducible rfl); done)); (try simp only [Act.put, List.setIfInBounds_toArray, List.set_cons_zero, List.set_cons_succ])) | (refine Xr.take 2 (some 118) (v := ?_) rfl rfl (by decide +kernel) (by rfl) ?_ ?_; rotate_left; (focus (intro w' hk; go_simp; (try with_reducible rfl); done)); (try simp only [Act.put, List.setIfInBounds_toArray, List.set_cons_zero, List.set_cons_succ])) | (refine Xr.take 3 (some 119) (v := ?_) rfl rfl (by decide +kernel) (by rfl) ?_ ?_; rotate_left; (focus (intro w' hk; go_simp; (try with_reducible rfl); done)); (try simp only [Act.put, List.setIfInBounds_toArray, List.set_cons_zero, List.set_cons_succ])) | (refine Xr.take 4 (some 120) (v := ?_) rfl rfl (by decide +kernel) (by rfl) ?_ ?_; rotate_left; (focus (intro w' hk; go_simp; (try with_reducible rfl); done)); (try simp only [Act.put, List.setIfInBounds_toArray, List.set_cons_zero, List.set_cons_succ])) | (refine Xr.take 5 (some 121) (v := ?_) rfl rfl (by decide +kernel) (by rfl) ?_ ?_; rotate_left; (focus (intro w' hk; go_simp; (try with_reducible rfl); done)); (try simp only [Act.put, List.setIfInBounds_toArray, List.set_cons_zero, List.set_cons_succ])) | (refine Xr.take 6 (some 122) (v := ?_) rfl rfl (by decide +kernel) (by rfl) ?_ ?_; rotate_left; (focus (intro w' hk; go_simp; (try with_reducible rfl); done)); (try simp only [Act.put, List.setIfInBounds_toArray, List.set_cons_zero, List.set_cons_succ])) | (refine Xr.take 9 (some 125) (v := ?_) rfl rfl (by decide +kernel) (by rfl) ?_ ?_; rotate_left; (focus (intro w' hk; go_simp; (try with_reducible rfl); done)); (try simp only [Act.put, List.setIfInBounds_toArray, List.set_cons_zero, List.set_cons_succ])) | (refine Xr.take 10 (some 126) (v := ?_) rfl rfl (by decide +kernel) (by rfl) ?_ ?_; rotate_left; (focus (intro w' hk; go_simp; (try with_reducible rfl); done)); (try simp only [Act.put, List.setIfInBounds_toArray, List.set_cons_zero, List.set_cons_succ])) | (refine Xr.take 11 (some 127) (v := ?_) rfl rfl (by decide +kernel) (by rfl) ?_ ?_; rotate_left; (focus (intro w' hk; go_simp; (try with_reducible rfl); done)); (try simp only [Act.put, List.setIfInBounds_toArray, List.set_cons_zero, List.set_cons_succ])) | (refine Xr.skip 11 (some 127) rfl rfl (by decide +kernel) (by rfl) ?_; (try simp only [Act.put, List.setIfInBounds_toArray, List.set_cons_zero, List.set_cons_succ])) | (refine Xr.take 12 (some 128) (v := ?_) rfl rfl (by decide +kernel) (by rfl) ?_ ?_; rotate_left; (focus (intro w' hk; go_simp; (try with_reducible rfl); done)); (try simp only [Act.put, List.setIfInBounds_toArray, List.set_cons_zero, List.set_cons_succ])) | (refine Xr.skip 12 (some 128) rfl rfl (by decide +kernel) (by rfl) ?_; (try simp only [Act.put, List.setIfInBounds_toArray, List.set_cons_zero, List.set_cons_succ])) | (refine Xr.take 13 (some 129) (v := ?_) rfl rfl (by decide +kernel) (by rfl) ?_ ?_; rotate_left; (focus (intro w' hk; go_simp; (try with_reducible rfl); done)); (try simp only [Act.put, List.setIfInBounds_toArray, List.set_cons_zero, List.set_cons_succ])) | (refine Xr.take 14 (some 130) (v := ?_) rfl rfl (by decide +kernel) (by rfl) ?_ ?_; rotate_left; (focus (intro w' hk; go_simp; (try with_reducible rfl); done)); (try simp only [Act.put, List.setIfInBounds_toArray, List.set_cons_zero, List.set_cons_succ])) | (refine Xr.take 15 (some 131) (v := ?_) rfl rfl (by decide +kernel) (by rfl) ?_ ?_; rotate_left; (focus (intro w' hk; go_simp; (try with_reducible rfl); done)); (try simp only [Act.put, List.setIfInBounds_toArray, List.set_cons_zero, List.set_cons_succ])) | (refine Xr.skip 15 (some 131) rfl rfl (by decide +kernel) (by rfl) ?_; (try simp only [Act.put, List.setIfInBounds_toArray, List.set_cons_zero, List.set_cons_succ])) | (refine Xr.take 16 (some 132) (v := ?_) rfl rfl (by decide +kernel) (by rfl) ?_ ?_; rotate_left; (focus (intro w' hk; go_simp; (try with_reducible rfl); done)); (try simp only [Act.put, List.setIfInBounds_toArray, List.set_cons_zero, List.set_cons_succ])) | (refine Xr.skip 16 (some 132) rfl rfl (by decide +kernel) (by rfl) ?_; (try simp only [Act.put, List.setIfInBounds_toArray, List.set_cons_zero, List.set_cons_succ])) | (refine Xr.skip 17 (some 133) rfl rfl (by decide +kernel) (by rfl) ?_; (try simp only [Act.put, List.setIfInBounds_toArray, List.set_cons_zero, List.set_cons_succ])) | (refine Xr.take 18 (some 134) (v := ?_) rfl rfl (by decide +kernel) (by rfl) ?_ ?_; rotate_left; (focus (intro w' hk; go_simp; (try with_reducible rfl); done)); (try simp only [Act.put, List.setIfInBounds_toArray, List.set_cons_zero, List.set_cons_succ])) | (refine Xr.skip 18 (some 134) rfl rfl (by decide +kernel) (by rfl) ?_; (try simp only [Act.put, List.setIfInBounds_toArray, List.set_cons_zero, List.set_cons_succ])) | (refine Xr.take 19 (some 135) (v := ?_) rfl rfl (by decide +kernel) (by rfl) ?_ ?_; rotate_left; (focus (intro w' hk; go_simp; (try with_reducible rfl); done)); (try simp only [Act.put, List.setIfInBounds_toArray, List.set_cons_zero, List.set_cons_succ])))
          refine Xr.call 7 rfl (by decide +kernel) (by rfl) (fun w20 hE20 hK20 K hKK => ?_)
          go_simp
          refine (HRJ _ (iT.ext hE20) (i1.ext hE20) (i4.ext hE20)).out.mono ?_
          rintro e w21 ⟨D3, dd3, rfl, iD, hx21⟩
          refine hKK _ _ hx21 ?_
          clear hKK
          (try simp only [Act.put, List.setIfInBounds_toArray, List.set_cons_zero, List.set_cons_succ])
          repeat (first | (refine Xr.take 0 (some 116) (v := ?_) rfl rfl (by decide +kernel) (by rfl) ?_ ?_; rotate_left; (focus (intro w' hk; go_simp; (try with_reducible rfl); done)); (try simp only [Act.put, List.setIfInBounds_toArray, List.set_cons_zero, List.set_cons_succ])) | (refine Xr.take 1 (some 117) (v := ?_) rfl rfl (by decide +kernel) (by rfl) ?_ ?_; rotate_left; (focus (intro w' hk; go_simp; (try with_reducible rfl); done)); (try simp only [Act.put, List.setIfInBounds_toArray, List.set_cons_zero, List.set_cons_succ])) | (refine Xr.take 2 (some 118) (v := ?_) rfl rfl (by decide +kernel) (by rfl) ?_ ?_; rotate_left; (focus (intro w' hk; go_simp; (try with_reducible rfl); done)); (try simp only [Act.put, List.setIfInBounds_toArray, List.set_cons_zero, List.set_cons_succ])) | (refine Xr.take 3 (some 119) (v := ?_) rfl rfl (by decide +kernel) (by rfl) ?_ ?_; rotate_left; (focus (intro w' hk; go_simp; (try with_reducible rfl); done)); (try simp only [Act.put, List.setIfInBounds_toArray, List.set_cons_zero, List.set_cons_succ])) | (refine Xr.take 4 (some 120) (v := ?_) rfl rfl (by decide +kernel) (by rfl) ?_ ?_; rotate_left; (focus (intro w' hk; go_simp; (try with_reducible rfl); done)); (try simp only [Act.put, List.setIfInBounds_toArray, List.set_cons_zero, List.set_cons_succ])) | (refine Xr.take 5 (some 121) (v := ?_) rfl rfl (by decide +kernel) (by rfl) ?_ ?_; rotate_left; (focus (intro w' hk; go_simp; (try with_reducible rfl); done)); (try simp only [Act.put, List.setIfInBounds_toArray, List.set_cons_zero, List.set_cons_succ])) | (refine Xr.take 6 (some 122) (v := ?_) rfl rfl (by decide +kernel) (by rfl) ?_ ?_; rotate_left; (focus (intro w' hk; go_simp; (try with_reducible rfl); done)); (try simp only [Act.put, List.setIfInBounds_toArray, List.set_cons_zero, List.set_cons_succ])) | (refine Xr.take 9 (some 125) (v := ?_) rfl rfl (by decide +kernel) (by rfl) ?_ ?_; rotate_left; (focus (intro w' hk; go_simp; (try with_reducible rfl); done)); (try simp only [Act.put, List.setIfInBounds_toArray, List.set_cons_zero, List.set_cons_succ])) | (refine Xr.take 10 (some 126) (v := ?_) rfl rfl (by decide +kernel) (by rfl) ?_ ?_; rotate_left; (focus (intro w' hk; go_simp; (try with_reducible rfl); done)); (try simp only [Act.put, List.setIfInBounds_toArray, List.set_cons_zero, List.set_cons_succ])) | (refine Xr.take 11 (some 127) (v := ?_) rfl rfl (by decide +kernel) (by rfl) ?_ ?_; rotate_left; (focus (intro w' hk; go_simp; (try with_reducible rfl); done)); (try simp only [Act.put, List.setIfInBounds_toArray, List.set_cons_zero, List.set_cons_succ])) | (refine Xr.skip 11 (some 127) rfl rfl (by decide +kernel) (by rfl) ?_; (try simp only [Act.put, List.setIfInBounds_toArray, List.set_cons_zero, List.set_cons_succ])) | (refine Xr.take 12 (some 128) (v := ?_) rfl rfl (by decide +kernel) (by rfl) ?_ ?_; rotate_left; (focus (intro w' hk; go_simp; (try with_reducible rfl); done)); (try simp only [Act.put, List.setIfInBounds_toArray, List.set_cons_zero, List.set_cons_succ])) | (refine Xr.skip 12 (some 128) rfl rfl (by decide +kernel) (by rfl) ?_; (try simp only [Act.put, List.setIfInBounds_toArray, List.set_cons_zero, List.set_cons_succ])) | (refine Xr.take 13 (some 129) (v := ?_) rfl rfl (by decide +kernel) (by rfl) ?_ ?_; rotate_left; (focus (intro w' hk; go_simp; (try with_reducible rfl); done)); (try simp only [Act.put, List.setIfInBounds_toArray, List.set_cons_zero, List.set_cons_succ])) | (refine Xr.take 14 (some 130) (v := ?_) rfl rfl (by decide +kernel) (by rfl) ?_ ?_; rotate_left; (focus (intro w' hk; go_simp; (try with_reducible rfl); done)); (try simp only [Act.put, List.setIfInBounds_toArray, List.set_cons_zero, List.set_cons_succ])) | (refine Xr.take 15 (some 131) (v := ?_) rfl rfl (by decide +kernel) (by rfl) ?_ ?_; rotate_left; (focus (intro w' hk; go_simp; (try with_reducible rfl); done)); (try simp only [Act.put, List.setIfInBounds_toArray, List.set_cons_zero, List.set_cons_succ])) | (refine Xr.skip 15 (some 131) rfl rfl (by decide +kernel) (by rfl) ?_; (try simp only [Act.put, List.setIfInBounds_toArray, List.set_cons_zero, List.set_cons_succ])) | (refine Xr.take 16 (some 132) (v := ?_) rfl rfl (by decide +kernel) (by rfl) ?_ ?_; rotate_left; (focus (intro w' hk; go_simp; (try with_reducible rfl); done)); (try simp only [Act.put, List.setIfInBounds_toArray, List.set_cons_zero, List.set_cons_succ])) | (refine Xr.skip 16 (some 132) rfl rfl (by decide +kernel) (by rfl) ?_; (try simp only [Act.put, List.setIfInBounds_toArray, List.set_cons_zero, List.set_cons_succ])) | (refine Xr.skip 17 (some 133) rfl rfl (by decide +kernel) (by rfl) ?_; (try simp only [Act.put, List.setIfInBounds_toArray, List.set_cons_zero, List.set_cons_succ])) | (refine Xr.take 18 (some 134) (v := ?_) rfl rfl (by decide +kernel) (by rfl) ?_ ?_; rotate_left; (focus (intro w' hk; go_simp; (try with_reducible rfl); done)); (try simp only [Act.put, List.setIfInBounds_toArray, List.set_cons_zero, List.set_cons_succ])) | (refine Xr.skip 18 (some 134) rfl rfl (by decide +kernel) (by rfl) ?_; (try simp only [Act.put, List.setIfInBounds_toArray, List.set_cons_zero, List.set_cons_succ])) | (refine Xr.take 19 (some 135) (v := ?_) rfl rfl (by decide +kernel) (by rfl) ?_ ?_; rotate_left; (focus (intro w' hk; go_simp; (try with_reducible rfl); done)); (try simp only [Act.put, List.setIfInBounds_toArray, List.set_cons_zero, List.set_cons_succ])))
          refine Xr.call 8 rfl (by decide +kernel) (by rfl) (fun w22 hE22 hK22 K hKK => ?_)
          go_simp
          refine (sameEdit_any _ _ _ _ _ _ _ _ _ _ _ (hil2.ext hK22.nil) (iD.ext hE22)).mono ?_
          rw [decide_eq_true (show _ by exact ⟨rfl, rfl, rfl⟩)]
          rintro e w23 ⟨rfl, hx23⟩
          refine hKK _ _ hx23 ?_
          clear hKK
          (try simp only [Act.put, List.setIfInBounds_toArray, List.set_cons_zero, List.set_cons_succ])
          repeat (first | (refine Xr.take 0 (some 116) (v := ?_) rfl rfl (by decide +kernel) (by rfl) ?_ ?_; rotate_left; (focus (intro w' hk; go_simp; (try with_reducible rfl); done)); (try simp only [Act.put, List.setIfInBounds_toArray, List.set_cons_zero, List.set_cons_succ])) | (refine Xr.take 1 (some 117) (v := ?_) rfl rfl (by decide +kernel) (by rfl) ?_ ?_; rotate_left; (focus (intro w' hk; go_simp; (try with_reducible rfl); done)); (try simp only [Act.put, List.setIfInBounds_toArray, List.set_cons_zero, List.set_cons_succ])) | (refine Xr.take 2 (some 118) (v := ?_) rfl rfl (by decide +kernel) (by rfl) ?_ ?_; rotate_left; (focus (intro w' hk; go_simp; (try with_reducible rfl); done)); (try simp only [Act.put, List.setIfInBounds_toArray, List.set_cons_zero, List.set_cons_succ])) | (refine Xr.take 3 (some 119) (v := ?_) rfl rfl (by decide +kernel) (by rfl) ?_ ?_; rotate_left; (focus (intro w' hk; go_simp; (try with_reducible rfl); done)); (try simp only [Act.put, List.setIfInBounds_toArray, List.set_cons_zero, List.set_cons_succ])) | (refine Xr.take 4 (some 120) (v := ?_) rfl rfl (by decide +kernel) (by rfl) ?_ ?_; rotate_left; (focus (intro w' hk; go_simp; (try with_reducible rfl); done)); (try simp only [Act.put, List.setIfInBounds_toArray, List.set_cons_zero, List.set_cons_succ])) | (refine Xr.take 5 (some 121) (v := ?_) rfl rfl (by decide +kernel) (by rfl) ?_ ?_; rotate_left; (focus (intro w' hk; go_simp; (try with_reducible rfl); done)); (try simp only [Act.put, List.setIfInBounds_toArray, List.set_cons_zero, List.set_cons_succ])) | (refine Xr.take 6 (some 122) (v := ?_) rfl rfl (by decide +kernel) (by rfl) ?_ ?_; rotate_left; (focus (intro w' hk; go_simp; (try with_reducible rfl); done)); (try simp only [Act.put, List.setIfInBounds_toArray, List.set_cons_zero, List.set_cons_succ])) | (refine Xr.take 9 (some 125) (v := ?_) rfl rfl (by decide +kernel) (by rfl) ?_ ?_; rotate_left; (focus (intro w' hk; go_simp; (try with_reducible rfl); done)); (try simp only [Act.put, List.setIfInBounds_toArray, List.set_cons_zero, List.set_cons_succ])) | (refine Xr.take 10 (some 126) (v := ?_) rfl rfl (by decide +kernel) (by rfl) ?_ ?_; rotate_left; (focus (intro w' hk; go_simp; (try with_reducible rfl); done)); (try simp only [Act.put, List.setIfInBounds_toArray, List.set_cons_zero, List.set_cons_succ])) | (refine Xr.take 11 (some 127) (v := ?_) rfl rfl (by decide +kernel) (by rfl) ?_ ?_; rotate_left; (focus (intro w' hk; go_simp; (try with_reducible rfl); done)); (try simp only [Act.put, List.setIfInBounds_toArray, List.set_cons_zero, List.set_cons_succ])) | (refine Xr.skip 11 (some 127) rfl rfl (by decide +kernel) (by rfl) ?_; (try simp only [Act.put, List.setIfInBounds_toArray, List.set_cons_zero, List.set_cons_succ])) | (refine Xr.take 12 (some 128) (v := ?_) rfl rfl (by decide +kernel) (by rfl) ?_ ?_; rotate_left; (focus (intro w' hk; go_simp; (try with_reducible rfl); done)); (try simp only [Act.put, List.setIfInBounds_toArray, List.set_cons_zero, List.set_cons_succ])) | (refine Xr.skip 12 (some 128) rfl rfl (by decide +kernel) (by rfl) ?_; (try simp only [Act.put, List.setIfInBounds_toArray, List.set_cons_zero, List.set_cons_succ])) | (refine Xr.take 13 (some 129) (v := ?_) rfl rfl (by decide +kernel) (by rfl) ?_ ?_; rotate_left; (focus (intro w' hk; go_simp; (try with_reducible rfl); done)); (try simp only [Act.put, List.setIfInBounds_toArray, List.set_cons_zero, List.set_cons_succ])) | (refine Xr.take 14 (some 130) (v := ?_) rfl rfl (by decide +kernel) (by rfl) ?_ ?_; rotate_left; (focus (intro w' hk; go_simp; (try with_reducible rfl); done)); (try simp only [Act.put, List.setIfInBounds_toArray, List.set_cons_zero, List.set_cons_succ])) | (refine Xr.take 15 (some 131) (v := ?_) rfl rfl (by decide +kernel) (by rfl) ?_ ?_; rotate_left; (focus (intro w' hk; go_simp; (try with_reducible rfl); done)); (try simp only [Act.put, List.setIfInBounds_toArray, List.set_cons_zero, List.set_cons_succ])) | (refine Xr.skip 15 (some 131) rfl rfl (by decide +kernel) (by rfl) ?_; (try simp only [Act.put, List.setIfInBounds_toArray, List.set_cons_zero, List.set_cons_succ])) | (refine Xr.take 16 (some 132) (v := ?_) rfl rfl (by decide +kernel) (by rfl) ?_ ?_; rotate_left; (focus (intro w' hk; go_simp; (try with_reducible rfl); done)); (try simp only [Act.put, List.setIfInBounds_toArray, List.set_cons_zero, List.set_cons_succ])) | (refine Xr.skip 16 (some 132) rfl rfl (by decide +kernel) (by rfl) ?_; (try simp only [Act.put, List.setIfInBounds_toArray, List.set_cons_zero, List.set_cons_succ])) | (refine Xr.skip 17 (some 133) rfl rfl (by decide +kernel) (by rfl) ?_; (try simp only [Act.put, List.setIfInBounds_toArray, List.set_cons_zero, List.set_cons_succ])) | (refine Xr.take 18 (some 134) (v := ?_) rfl rfl (by decide +kernel) (by rfl) ?_ ?_; rotate_left; (focus (intro w' hk; go_simp; (try with_reducible rfl); done)); (try simp only [Act.put, List.setIfInBounds_toArray, List.set_cons_zero, List.set_cons_succ])) | (refine Xr.skip 18 (some 134) rfl rfl (by decide +kernel) (by rfl) ?_; (try simp only [Act.put, List.setIfInBounds_toArray, List.set_cons_zero, List.set_cons_succ])) | (refine Xr.take 19 (some 135) (v := ?_) rfl rfl (by decide +kernel) (by rfl) ?_ ?_; rotate_left; (focus (intro w' hk; go_simp; (try with_reducible rfl); done)); (try simp only [Act.put, List.setIfInBounds_toArray, List.set_cons_zero, List.set_cons_succ])))
          refine Xr.call 17 rfl (by decide +kernel) (by rfl) (fun w24 hE24 hK24 K hKK => ?_)
          go_simp
          refine (sameInts_any _ _ _ _ _ _ _ (iU.ext hK24.nil) (iV.ext hK24.nil)).mono ?_
          rw [beq_self_eq_true]
          rintro e w25 h25
          obtain ⟨rfl, hx25⟩ := h25.v
          clear h25
          refine hKK _ _ hx25 ?_
          clear hKK
          (try simp only [Act.put, List.setIfInBounds_toArray, List.set_cons_zero, List.set_cons_succ])
          repeat (first | (refine Xr.take 0 (some 116) (v := ?_) rfl rfl (by decide +kernel) (by rfl) ?_ ?_; rotate_left; (focus (intro w' hk; go_simp; (try with_reducible rfl); done)); (try simp only [Act.put, List.setIfInBounds_toArray, List.set_cons_zero, List.set_cons_succ])) | (refine Xr.take 1 (some 117) (v := ?_) rfl rfl (by decide +kernel) (by rfl) ?_ ?_; rotate_left; (focus (intro w' hk; go_simp; (try with_reducible rfl); done)); (try simp only [Act.put, List.setIfInBounds_toArray, List.set_cons_zero, List.set_cons_succ])) | (refine Xr.take 2 (some 118) (v := ?_) rfl rfl (by decide +kernel) (by rfl) ?_ ?_; rotate_left; (focus (intro w' hk; go_simp; (try with_reducible rfl); done)); (try simp only [Act.put, List.setIfInBounds_toArray, List.set_cons_zero, List.set_cons_succ])) | (refine Xr.take 3 (some 119) (v := ?_) rfl rfl (by decide +kernel) (by rfl) ?_ ?_; rotate_left; (focus (intro w' hk; go_simp; (try with_reducible rfl); done)); (try simp only [Act.put, List.setIfInBounds_toArray, List.set_cons_zero, List.set_cons_succ])) | (refine Xr.take 4 (some 120) (v := ?_) rfl rfl (by decide +kernel) (by rfl) ?_ ?_; rotate_left; (focus (intro w' hk; go_simp; (try with_reducible rfl); done)); (try simp only [Act.put, List.setIfInBounds_toArray, List.set_cons_zero, List.set_cons_succ])) | (refine Xr.take 5 (some 121) (v := ?_) rfl rfl (by decide +kernel) (by rfl) ?_ ?_; rotate_left; (focus (intro w' hk; go_simp; (try with_reducible rfl); done)); (try simp only [Act.put, List.setIfInBounds_toArray, List.set_cons_zero, List.set_cons_succ])) | (refine Xr.take 6 (some 122) (v := ?_) rfl rfl (by decide +kernel) (by rfl) ?_ ?_; rotate_left; (focus (intro w' hk; go_simp; (try with_reducible rfl); done)); (try simp only [Act.put, List.setIfInBounds_toArray, List.set_cons_zero, List.set_cons_succ])) | (refine Xr.take 9 (some 125) (v := ?_) rfl rfl (by decide +kernel) (by rfl) ?_ ?_; rotate_left; (focus (intro w' hk; go_simp; (try with_reducible rfl); done)); (try simp only [Act.put, List.setIfInBounds_toArray, List.set_cons_zero, List.set_cons_succ])) | (refine Xr.take 10 (some 126) (v := ?_) rfl rfl (by decide +kernel) (by rfl) ?_ ?_; rotate_left; (focus (intro w' hk; go_simp; (try with_reducible rfl); done)); (try simp only [Act.put, List.setIfInBounds_toArray, List.set_cons_zero, List.set_cons_succ])) | (refine Xr.take 11 (some 127) (v := ?_) rfl rfl (by decide +kernel) (by rfl) ?_ ?_; rotate_left; (focus (intro w' hk; go_simp; (try with_reducible rfl); done)); (try simp only [Act.put, List.setIfInBounds_toArray, List.set_cons_zero, List.set_cons_succ])) | (refine Xr.skip 11 (some 127) rfl rfl (by decide +kernel) (by rfl) ?_; (try simp only [Act.put, List.setIfInBounds_toArray, List.set_cons_zero, List.set_cons_succ])) | (refine Xr.take 12 (some 128) (v := ?_) rfl rfl (by decide +kernel) (by rfl) ?_ ?_; rotate_left; (focus (intro w' hk; go_simp; (try with_reducible rfl); done)); (try simp only [Act.put, List.setIfInBounds_toArray, List.set_cons_zero, List.set_cons_succ])) | (refine Xr.skip 12 (some 128) rfl rfl (by decide +kernel) (by rfl) ?_; (try simp only [Act.put, List.setIfInBounds_toArray, List.set_cons_zero, List.set_cons_succ])) | (refine Xr.take 13 (some 129) (v := ?_) rfl rfl (by decide +kernel) (by rfl) ?_ ?_; rotate_left; (focus (intro w' hk; go_simp; (try with_reducible rfl); done)); (try simp only [Act.put, List.setIfInBounds_toArray, List.set_cons_zero, List.set_cons_succ])) | (refine Xr.take 14 (some 130) (v := ?_) rfl rfl (by decide +kernel) (by rfl) ?_ ?_; rotate_left; (focus (intro w' hk; go_simp; (try with_reducible rfl); done)); (try simp only [Act.put, List.setIfInBounds_toArray, List.set_cons_zero, List.set_cons_succ])) | (refine Xr.take 15 (some 131) (v := ?_) rfl rfl (by decide +kernel) (by rfl) ?_ ?_; rotate_left; (focus (intro w' hk; go_simp; (try with_reducible rfl); done)); (try simp only [Act.put, List.setIfInBounds_toArray, List.set_cons_zero, List.set_cons_succ])) | (refine Xr.skip 15 (some 131) rfl rfl (by decide +kernel) (by rfl) ?_; (try simp only [Act.put, List.setIfInBounds_toArray, List.set_cons_zero, List.set_cons_succ])) | (refine Xr.take 16 (some 132) (v := ?_) rfl rfl (by decide +kernel) (by rfl) ?_ ?_; rotate_left; (focus (intro w' hk; go_simp; (try with_reducible rfl); done)); (try simp only [Act.put, List.setIfInBounds_toArray, List.set_cons_zero, List.set_cons_succ])) | (refine Xr.skip 16 (some 132) rfl rfl (by decide +kernel) (by rfl) ?_; (try simp only [Act.put, List.setIfInBounds_toArray, List.set_cons_zero, List.set_cons_succ])) | (refine Xr.skip 17 (some 133) rfl rfl (by decide +kernel) (by rfl) ?_; (try simp only [Act.put, List.setIfInBounds_toArray, List.set_cons_zero, List.set_cons_succ])) | (refine Xr.take 18 (some 134) (v := ?_) rfl rfl (by decide +kernel) (by rfl) ?_ ?_; rotate_left; (focus (intro w' hk; go_simp; (try with_reducible rfl); done)); (try simp only [Act.put, List.setIfInBounds_toArray, List.set_cons_zero, List.set_cons_succ])) | (refine Xr.skip 18 (some 134) rfl rfl (by decide +kernel) (by rfl) ?_; (try simp only [Act.put, List.setIfInBounds_toArray, List.set_cons_zero, List.set_cons_succ])) | (refine Xr.take 19 (some 135) (v := ?_) rfl rfl (by decide +kernel) (by rfl) ?_ ?_; rotate_left; (focus (intro w' hk; go_simp; (try with_reducible rfl); done)); (try simp only [Act.put, List.setIfInBounds_toArray, List.set_cons_zero, List.set_cons_succ])))
          refine Xr.done (by decide +kernel) (fun w26 hE26 hK26 => ?_)
          have X := hK26.nil
          replace hext := hext.trans X
          clear kp0 kp1 kp2 kq0 kq1 kq2 kr0 kr1 kr2 r0 r1 r2 r0f r1f r2f rz
          go_wp2_with fail
          go_roundw
          case rel => exact ⟨m + 1, by omega, by go_num, hext⟩
          case measure => simp [intOf]; omega
        · have hx := HE.out.no he0
          rw [hx] at hgb hil2
          clear hx
          have hb1 : (err != 0) = true := by simpa using he0
          have hb2 : (err == 0) = false := by simpa using he0
          clear HE
          have r0 := (Blk.c3 hgb).1; have r1 := (Blk.c3 hgb).2.1; have r2 := (Blk.c3 hgb).2.2.1; have r0f := (Blk.c3 hgb).2.2.2.1; have r1f := (Blk.c3 hgb).2.2.2.2.1; have r2f := (Blk.c3 hgb).2.2.2.2.2.1; have rz := (Blk.c3 hgb).2.2.2.2.2.2
          go_wp2_with fail
          refine (sameEdit_any _ _ _ _ _ _ _ _ _ _ _ hil2 (IL.nil _)).mono ?_
          rw [decide_eq_true (show _ by exact ⟨rfl, rfl, rfl⟩)]
          rintro e w19 ⟨rfl, X⟩
          go_wp2_with fail
          go_roundw
          case rel => exact ⟨m + 1, by omega, by go_num, hext.trans X⟩
          case measure => simp [intOf]; omega
    · have hm5 : m = 2 := by omega
      subst hm5
      go_wp2_with fail
      refine (lives_any _).mono ?_
      rintro e w8 ⟨rfl, x2⟩
      go_wp2
      go_ret
      exact ⟨rfl, (x1.trans hext).trans x2⟩
end Go.Proofs.Ythhfjomjjhenkaa
