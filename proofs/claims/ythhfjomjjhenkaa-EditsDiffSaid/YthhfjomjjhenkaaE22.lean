/- The walk of EditsDiff. -/
import Derived.Test.YthhfjomjjhenkaaE20
import Derived.Test.YthhfjomjjhenkaaE12
import Derived.Test.YthhfjomjjhenkaaE13
namespace Go.Proofs.Ythhfjomjjhenkaa
open Go.RowKit
attribute [local go_sem ↓] Go.wp_at_zero Go.wp_at_succ

set_option maxRecDepth 100000 in
set_option maxHeartbeats 40000000 in
theorem EditsDiff_any (A M N : Option Addr) (ca cm cn : Nat) (l m n : List Int) (w : World) (hl : IL w A ca l) (hm : IL w M cm m) (hn : IL w N cn n) :
    Calls Try.prog 6 #[.slice A l.length ca, .slice M m.length cm, .slice N n.length cn] w (RetV (.bool true) w) := by
  have tl := rtext_len l 14
  have ts := rtext_sym l 14
  go_enter Try.func6, Try.ntmps6
  go_wp2_with fail
  refine (rText_any _ _ l 14 _ hl (by omega)).mono ?_
  rintro e w1 ⟨T, tc, rfl, iT, x1, _⟩
  generalize rtext l 14 = t at *
  replace hn := hn.ext x1; replace hm := hm.ext x1
  go_wp2_with fail
  refine (pick_any _ _ n 0 _ _ hn (by omega) (by omega) (by omega)).mono ?_
  rintro e w2 h1
  obtain ⟨rfl, x2⟩ := h1.v
  clear h1
  replace hn := hn.ext x2; replace hm := hm.ext x2; replace iT := iT.ext x2
  replace x1 := x1.trans x2
  clear x2
  go_wp2_with fail
  refine (pick_any _ _ n 1 _ _ hn (by omega) (by omega) (by omega)).mono ?_
  rintro e w3 h1
  obtain ⟨rfl, x2⟩ := h1.v
  clear h1
  replace hn := hn.ext x2; replace hm := hm.ext x2; replace iT := iT.ext x2
  replace x1 := x1.trans x2
  clear x2
  go_wp2_with fail
  refine (rEdit_any t.length _ _ _ (by omega) (pick_wf _ _) (pick_wf _ _)).mono ?_
  rintro e w4 ⟨A1, c1, rfl, i1, x2, _⟩
  have he1 : EdOf t.length (redit t.length (pick n 0 1048576) (pick n 1 1048576)) := ⟨(redit_bd _ _ _ (by omega)).1, (redit_bd _ _ _ (by omega)).2.1, (redit_bd _ _ _ (by omega)).2.2, (redit_ins _ _ _).1⟩
  have hi1 := (redit_ins t.length (pick n 0 1048576) (pick n 1 1048576)).2
  generalize redit t.length (pick n 0 1048576) (pick n 1 1048576) = e1 at *
  replace hn := hn.ext x2; replace hm := hm.ext x2; replace iT := iT.ext x2
  replace x1 := x1.trans x2
  clear x2
  go_wp2_with fail
  obtain ⟨b1, x2⟩ := alloc1 w4 25 #[.int .i64 e1.at_, .int .i64 e1.del, .slice A1 e1.ins.length c1]
  refine (rSplice_any _ _ t e1.at_ e1.del _ _ e1.ins _ (iT.ext x2) (i1.ext x2) (by omega) (by omega) he1.1 he1.2.1 he1.2.2.1).mono ?_
  rintro e w5 ⟨A2, c2, rfl, i2, x3, _⟩
  replace hm := hm.ext x2; replace iT := iT.ext x2
  replace hm := hm.ext x3; replace iT := iT.ext x3
  replace x1 := (x1.trans x2).trans x3
  clear x2 x3 b1
  go_wp2_with fail
  refine (rText_any _ _ m 9 _ hm (by omega)).mono ?_
  rintro e w6 ⟨A3, c3, rfl, i3, x3, _⟩
  have tl2 := rtext_len m 9
  have ts2 := rtext_sym m 9
  generalize rtext m 9 = t2 at *
  have S1 := spliceE_len he1
  have hsy : (spliceL t e1.at_ e1.del e1.ins).all symOk = true := spliceL_sym ts he1.2.2.2
  have hb2 := he1.2.1
  change ((spliceL t e1.at_ e1.del e1.ins).length : Int) = _ at S1
  generalize spliceL t e1.at_ e1.del e1.ins = s1 at *
  replace iT := iT.ext x3; replace i2 := i2.ext x3
  replace x1 := x1.trans x3
  clear x3
  have hall : ∀ y ∈ [s1, t2, t], y.all symOk = true ∧ y.length ≤ 100 := by
    intro y hy
    simp only [List.mem_cons, List.not_mem_nil, or_false] at hy
    rcases hy with rfl | rfl | rfl
    · exact ⟨hsy, by omega⟩
    · exact ⟨ts2, by omega⟩
    · exact ⟨ts, by omega⟩
  go_wp2_with fail
  obtain ⟨bb, x2⟩ := alloc1 w6 22 #[.slice A2 s1.length c2, .slice A3 t2.length c3, .slice T t.length tc]
  have hLL : LL _ (some ⟨w6.heap.size, 0, none⟩) 3 [s1, t2, t] := LL.three bb (i2.ext x2) (i3.ext x2) (iT.ext x2)
  replace iT := iT.ext x2
  replace x1 := x1.trans x2
  generalize w6.alloc (.cells #[.slice A2 s1.length c2, .slice A3 t2.length c3, .slice T t.length tc] 22) = W at *
  generalize hxl : [s1, t2, t] = xss at *
  have hx3 : xss.length = 3 := by rw [← hxl]; rfl
  clear hxl bb x2 i2 i3 hsy S1 hb2 he1 hi1 ts2 tl2 hm
  go_loopw [10] (fun i wr => ∃ k : Nat, k ≤ 3 ∧ i = .int .i64 k ∧ Ext W wr) (fun i _ => 3 - (intOf i).toNat)
  case atStart => exact ⟨0, by omega, rfl, Ext.rfl' _⟩
  case round =>
    obtain ⟨k, hk, rfl, hext⟩ := hrel
    by_cases hk3 : k < 3
    · have hki : (k : Int) < 3 := by omega
      obtain ⟨pb, po, B, d, hpe, g1, iB⟩ := hLL.get (show k < xss.length by omega)
      have hby := hall xss[k] (List.getElem_mem _)
      obtain ⟨rfl, rfl⟩ : w6.heap.size = pb ∧ 0 = po := by injection hpe with h1; injection h1 with h2 h3 h4; exact ⟨h2, h3⟩
      rw [Nat.zero_add] at g1
      replace g1 := hext.cell g1
      replace iB := iB.ext hext
      generalize xss[k] = b at *
      obtain ⟨hbs, hbl⟩ := hby
      have iT2 := iT.ext hext
      have hDS := diff_splice t b
      have hDO := diff_of t b hbs
      have hDL := diff_ins_len t b
      have hDM := Lib.hid (diff_min t b)
      have hd1 := hDO.1
      have hd2 := hDO.2.1
      have hd3 := hDO.2.2.1
      have hER := Lib.hid (editErr_zero hDO (by omega))
      have hI : I64 (diffE t b).del := I64_of (by omega)
      have hil3 : (diffE t b).ins.length ≤ 100 := by omega
      have hDD := Lib.hid hDL
      clear hDL hDO
      go_wp2_with fail
      refine (diff_any _ _ _ _ t b _ iT2 iB (by omega) (by omega)).mono ?_
      rintro e w7 ⟨C, cc, rfl, iC, x3, _⟩
      change spliceL t (diffE t b).at_ (diffE t b).del (diffE t b).ins = b at hDS
      have HDS := Lib.hid hDS
      have HRD := fun (W' : World) (h1 : IL W' T tc t) (h2 : IL W' B d b) => Lib.hid (rDiff_any T B tc d t b W' h1 h2 (by omega) (by omega))
      have HTL := Lib.hid tl
      have HBL := Lib.hid hbl
      clear hDS tl hbl
      generalize diffE t b = x at *
      replace iT2 := iT2.ext x3; replace iB := iB.ext x3
      replace hext := hext.trans x3
      clear x3
      go_wp2_with fail
      obtain ⟨b4, x3⟩ := alloc1 w7 25 #[.int .i64 x.at_, .int .i64 x.del, .slice C x.ins.length cc]
      refine (splice_ok _ _ t x.at_ x.del _ _ x.ins _ (iT2.ext x3) (iC.ext x3) hI (by have := HTL.out; omega) (by omega) hER.out).mono ?_
      rw [HDS.out]
      rintro e w8 ⟨C2, cc2, rfl, iS, x4, _⟩
      replace iT2 := iT2.ext x3; replace iB := iB.ext x3; replace iC := iC.ext x3
      replace iT2 := iT2.ext x4; replace iB := iB.ext x4; replace iC := iC.ext x4; replace b4 := b4.ext x4
      replace hext := (hext.trans x3).trans x4
      clear x3 x4
      have r0 := (Blk.c3 b4).1; have r1 := (Blk.c3 b4).2.1; have r2 := (Blk.c3 b4).2.2.1; have r0f := (Blk.c3 b4).2.2.2.1; have r1f := (Blk.c3 b4).2.2.2.2.1; have r2f := (Blk.c3 b4).2.2.2.2.2.1; have rz := (Blk.c3 b4).2.2.2.2.2.2
      have kr0 := fun (w' : World) (h : Kp [] w8 w') => h.cell r0 (by simp)
      have kr1 := fun (w' : World) (h : Kp [] w8 w') => h.cell r1 (by simp)
      have kr2 := fun (w' : World) (h : Kp [] w8 w') => h.cell r2 (by simp)
      go_wp2_with fail
      refine Xr.start [] (by kernel_rfl) ?_
      repeat (first | (refine Xr.take 0 (some 52) (v := ?_) rfl rfl (by decide +kernel) (by rfl) ?_ ?_; rotate_left; (focus (intro w' hk; go_simp; (try with_reducible rfl); done)); (try simp only [Act.put, List.setIfInBounds_toArray, List.set_cons_zero, List.set_cons_succ])) | (refine Xr.take 1 (some 53) (v := ?_) rfl rfl (by decide +kernel) (by rfl) ?_ ?_; rotate_left; (focus (intro w' hk; go_simp; (try with_reducible rfl); done)); (try simp only [Act.put, List.setIfInBounds_toArray, List.set_cons_zero, List.set_cons_succ])) | (refine Xr.take 2 (some 54) (v := ?_) rfl rfl (by decide +kernel) (by rfl) ?_ ?_; rotate_left; (focus (intro w' hk; go_simp; (try with_reducible rfl); done)); (try simp only [Act.put, List.setIfInBounds_toArray, List.set_cons_zero, List.set_cons_succ])) | (refine Xr.take 5 (some 57) (v := ?_) rfl rfl (by decide +kernel) (by rfl) ?_ ?_; rotate_left; (focus (intro w' hk; go_simp; (try with_reducible rfl); done)); (try simp only [Act.put, List.setIfInBounds_toArray, List.set_cons_zero, List.set_cons_succ])) | (refine Xr.take 6 (some 58) (v := ?_) rfl rfl (by decide +kernel) (by rfl) ?_ ?_; rotate_left; (focus (intro w' hk; go_simp; (try with_reducible rfl); done)); (try simp only [Act.put, List.setIfInBounds_toArray, List.set_cons_zero, List.set_cons_succ])) | (refine Xr.take 7 (some 59) (v := ?_) rfl rfl (by decide +kernel) (by rfl) ?_ ?_; rotate_left; (focus (intro w' hk; go_simp; (try with_reducible rfl); done)); (try simp only [Act.put, List.setIfInBounds_toArray, List.set_cons_zero, List.set_cons_succ])) | (refine Xr.skip 7 (some 59) rfl rfl (by decide +kernel) (by rfl) ?_; (try simp only [Act.put, List.setIfInBounds_toArray, List.set_cons_zero, List.set_cons_succ])) | (refine Xr.take 8 (some 60) (v := ?_) rfl rfl (by decide +kernel) (by rfl) ?_ ?_; rotate_left; (focus (intro w' hk; go_simp; (try with_reducible rfl); done)); (try simp only [Act.put, List.setIfInBounds_toArray, List.set_cons_zero, List.set_cons_succ])) | (refine Xr.skip 8 (some 60) rfl rfl (by decide +kernel) (by rfl) ?_; (try simp only [Act.put, List.setIfInBounds_toArray, List.set_cons_zero, List.set_cons_succ])) | (refine Xr.take 9 (some 61) (v := ?_) rfl rfl (by decide +kernel) (by rfl) ?_ ?_; rotate_left; (focus (intro w' hk; go_simp; (try with_reducible rfl); done)); (try simp only [Act.put, List.setIfInBounds_toArray, List.set_cons_zero, List.set_cons_succ])) | (refine Xr.take 10 (some 62) (v := ?_) rfl rfl (by decide +kernel) (by rfl) ?_ ?_; rotate_left; (focus (intro w' hk; go_simp; (try with_reducible rfl); done)); (try simp only [Act.put, List.setIfInBounds_toArray, List.set_cons_zero, List.set_cons_succ])) | (refine Xr.take 11 (some 63) (v := ?_) rfl rfl (by decide +kernel) (by rfl) ?_ ?_; rotate_left; (focus (intro w' hk; go_simp; (try with_reducible rfl); done)); (try simp only [Act.put, List.setIfInBounds_toArray, List.set_cons_zero, List.set_cons_succ])) | (refine Xr.skip 11 (some 63) rfl rfl (by decide +kernel) (by rfl) ?_; (try simp only [Act.put, List.setIfInBounds_toArray, List.set_cons_zero, List.set_cons_succ])) | (refine Xr.take 12 (some 64) (v := ?_) rfl rfl (by decide +kernel) (by rfl) ?_ ?_; rotate_left; (focus (intro w' hk; go_simp; (try with_reducible rfl); done)); (try simp only [Act.put, List.setIfInBounds_toArray, List.set_cons_zero, List.set_cons_succ])) | (refine Xr.skip 12 (some 64) rfl rfl (by decide +kernel) (by rfl) ?_; (try simp only [Act.put, List.setIfInBounds_toArray, List.set_cons_zero, List.set_cons_succ])) | (refine Xr.skip 13 (some 65) rfl rfl (by decide +kernel) (by rfl) ?_; (try simp only [Act.put, List.setIfInBounds_toArray, List.set_cons_zero, List.set_cons_succ])) | (refine Xr.take 14 (some 66) (v := ?_) rfl rfl (by decide +kernel) (by rfl) ?_ ?_; rotate_left; (focus (intro w' hk; go_simp; (try with_reducible rfl); done)); (try simp only [Act.put, List.setIfInBounds_toArray, List.set_cons_zero, List.set_cons_succ])) | (refine Xr.skip 14 (some 66) rfl rfl (by decide +kernel) (by rfl) ?_; (try simp only [Act.put, List.setIfInBounds_toArray, List.set_cons_zero, List.set_cons_succ])) | (refine Xr.take 15 (some 67) (v := ?_) rfl rfl (by decide +kernel) (by rfl) ?_ ?_; rotate_left; (focus (intro w' hk; go_simp; (try with_reducible rfl); done)); (try simp only [Act.put, List.setIfInBounds_toArray, List.set_cons_zero, List.set_cons_succ])))
      refine Xr.call 3 rfl (by decide +kernel) (by rfl) (fun w9 hE9 hK9 K hKK => ?_)
      go_simp
      refine (HRD _ (iT2.ext hE9) (iB.ext hE9)).out.mono ?_
      rintro e w10 ⟨C3, cc3, rfl, iD, hx10⟩
      refine hKK _ _ hx10 ?_
      clear hKK
      (try simp only [Act.put, List.setIfInBounds_toArray, List.set_cons_zero, List.set_cons_succ])
      repeat (first | (refine Xr.take 0 (some 52) (v := ?_) rfl rfl (by decide +kernel) (by rfl) ?_ ?_; rotate_left; (focus (intro w' hk; go_simp; (try with_reducible rfl); done)); (try simp only [Act.put, List.setIfInBounds_toArray, List.set_cons_zero, List.set_cons_succ])) | (refine Xr.take 1 (some 53) (v := ?_) rfl rfl (by decide +kernel) (by rfl) ?_ ?_; rotate_left; (focus (intro w' hk; go_simp; (try with_reducible rfl); done)); (try simp only [Act.put, List.setIfInBounds_toArray, List.set_cons_zero, List.set_cons_succ])) | (refine Xr.take 2 (some 54) (v := ?_) rfl rfl (by decide +kernel) (by rfl) ?_ ?_; rotate_left; (focus (intro w' hk; go_simp; (try with_reducible rfl); done)); (try simp only [Act.put, List.setIfInBounds_toArray, List.set_cons_zero, List.set_cons_succ])) | (refine Xr.take 5 (some 57) (v := ?_) rfl rfl (by decide +kernel) (by rfl) ?_ ?_; rotate_left; (focus (intro w' hk; go_simp; (try with_reducible rfl); done)); (try simp only [Act.put, List.setIfInBounds_toArray, List.set_cons_zero, List.set_cons_succ])) | (refine Xr.take 6 (some 58) (v := ?_) rfl rfl (by decide +kernel) (by rfl) ?_ ?_; rotate_left; (focus (intro w' hk; go_simp; (try with_reducible rfl); done)); (try simp only [Act.put, List.setIfInBounds_toArray, List.set_cons_zero, List.set_cons_succ])) | (refine Xr.take 7 (some 59) (v := ?_) rfl rfl (by decide +kernel) (by rfl) ?_ ?_; rotate_left; (focus (intro w' hk; go_simp; (try with_reducible rfl); done)); (try simp only [Act.put, List.setIfInBounds_toArray, List.set_cons_zero, List.set_cons_succ])) | (refine Xr.skip 7 (some 59) rfl rfl (by decide +kernel) (by rfl) ?_; (try simp only [Act.put, List.setIfInBounds_toArray, List.set_cons_zero, List.set_cons_succ])) | (refine Xr.take 8 (some 60) (v := ?_) rfl rfl (by decide +kernel) (by rfl) ?_ ?_; rotate_left; (focus (intro w' hk; go_simp; (try with_reducible rfl); done)); (try simp only [Act.put, List.setIfInBounds_toArray, List.set_cons_zero, List.set_cons_succ])) | (refine Xr.skip 8 (some 60) rfl rfl (by decide +kernel) (by rfl) ?_; (try simp only [Act.put, List.setIfInBounds_toArray, List.set_cons_zero, List.set_cons_succ])) | (refine Xr.take 9 (some 61) (v := ?_) rfl rfl (by decide +kernel) (by rfl) ?_ ?_; rotate_left; (focus (intro w' hk; go_simp; (try with_reducible rfl); done)); (try simp only [Act.put, List.setIfInBounds_toArray, List.set_cons_zero, List.set_cons_succ])) | (refine Xr.take 10 (some 62) (v := ?_) rfl rfl (by decide +kernel) (by rfl) ?_ ?_; rotate_left; (focus (intro w' hk; go_simp; (try with_reducible rfl); done)); (try simp only [Act.put, List.setIfInBounds_toArray, List.set_cons_zero, List.set_cons_succ])) | (refine Xr.take 11 (some 63) (v := ?_) rfl rfl (by decide +kernel) (by rfl) ?_ ?_; rotate_left; (focus (intro w' hk; go_simp; (try with_reducible rfl); done)); (try simp only [Act.put, List.setIfInBounds_toArray, List.set_cons_zero, List.set_cons_succ])) | (refine Xr.skip 11 (some 63) rfl rfl (by decide +kernel) (by rfl) ?_; (try simp only [Act.put, List.setIfInBounds_toArray, List.set_cons_zero, List.set_cons_succ])) | (refine Xr.take 12 (some 64) (v := ?_) rfl rfl (by decide +kernel) (by rfl) ?_ ?_; rotate_left; (focus (intro w' hk; go_simp; (try with_reducible rfl); done)); (try simp only [Act.put, List.setIfInBounds_toArray, List.set_cons_zero, List.set_cons_succ])) | (refine Xr.skip 12 (some 64) rfl rfl (by decide +kernel) (by rfl) ?_; (try simp only [Act.put, List.setIfInBounds_toArray, List.set_cons_zero, List.set_cons_succ])) | (refine Xr.skip 13 (some 65) rfl rfl (by decide +kernel) (by rfl) ?_; (try simp only [Act.put, List.setIfInBounds_toArray, List.set_cons_zero, List.set_cons_succ])) | (refine Xr.take 14 (some 66) (v := ?_) rfl rfl (by decide +kernel) (by rfl) ?_ ?_; rotate_left; (focus (intro w' hk; go_simp; (try with_reducible rfl); done)); (try simp only [Act.put, List.setIfInBounds_toArray, List.set_cons_zero, List.set_cons_succ])) | (refine Xr.skip 14 (some 66) rfl rfl (by decide +kernel) (by rfl) ?_; (try simp only [Act.put, List.setIfInBounds_toArray, List.set_cons_zero, List.set_cons_succ])) | (refine Xr.take 15 (some 67) (v := ?_) rfl rfl (by decide +kernel) (by rfl) ?_ ?_; rotate_left; (focus (intro w' hk; go_simp; (try with_reducible rfl); done)); (try simp only [Act.put, List.setIfInBounds_toArray, List.set_cons_zero, List.set_cons_succ])))
      refine Xr.call 4 rfl (by decide +kernel) (by rfl) (fun w11 hE11 hK11 K hKK => ?_)
      go_simp
      refine (sameEdit_any _ _ _ _ _ _ _ _ _ _ _ (iC.ext hK11.nil) (iD.ext hE11)).mono ?_
      rw [decide_eq_true (show _ by exact ⟨rfl, rfl, rfl⟩)]
      rintro e w12 ⟨rfl, hx12⟩
      refine hKK _ _ hx12 ?_
      clear hKK
      (try simp only [Act.put, List.setIfInBounds_toArray, List.set_cons_zero, List.set_cons_succ])
      repeat (first | (refine Xr.take 0 (some 52) (v := ?_) rfl rfl (by decide +kernel) (by rfl) ?_ ?_; rotate_left; (focus (intro w' hk; go_simp; (try with_reducible rfl); done)); (try simp only [Act.put, List.setIfInBounds_toArray, List.set_cons_zero, List.set_cons_succ])) | (refine Xr.take 1 (some 53) (v := ?_) rfl rfl (by decide +kernel) (by rfl) ?_ ?_; rotate_left; (focus (intro w' hk; go_simp; (try with_reducible rfl); done)); (try simp only [Act.put, List.setIfInBounds_toArray, List.set_cons_zero, List.set_cons_succ])) | (refine Xr.take 2 (some 54) (v := ?_) rfl rfl (by decide +kernel) (by rfl) ?_ ?_; rotate_left; (focus (intro w' hk; go_simp; (try with_reducible rfl); done)); (try simp only [Act.put, List.setIfInBounds_toArray, List.set_cons_zero, List.set_cons_succ])) | (refine Xr.take 5 (some 57) (v := ?_) rfl rfl (by decide +kernel) (by rfl) ?_ ?_; rotate_left; (focus (intro w' hk; go_simp; (try with_reducible rfl); done)); (try simp only [Act.put, List.setIfInBounds_toArray, List.set_cons_zero, List.set_cons_succ])) | (refine Xr.take 6 (some 58) (v := ?_) rfl rfl (by decide +kernel) (by rfl) ?_ ?_; rotate_left; (focus (intro w' hk; go_simp; (try with_reducible rfl); done)); (try simp only [Act.put, List.setIfInBounds_toArray, List.set_cons_zero, List.set_cons_succ])) | (refine Xr.take 7 (some 59) (v := ?_) rfl rfl (by decide +kernel) (by rfl) ?_ ?_; rotate_left; (focus (intro w' hk; go_simp; (try with_reducible rfl); done)); (try simp only [Act.put, List.setIfInBounds_toArray, List.set_cons_zero, List.set_cons_succ])) | (refine Xr.skip 7 (some 59) rfl rfl (by decide +kernel) (by rfl) ?_; (try simp only [Act.put, List.setIfInBounds_toArray, List.set_cons_zero, List.set_cons_succ])) | (refine Xr.take 8 (some 60) (v := ?_) rfl rfl (by decide +kernel) (by rfl) ?_ ?_; rotate_left; (focus (intro w' hk; go_simp; (try with_reducible rfl); done)); (try simp only [Act.put, List.setIfInBounds_toArray, List.set_cons_zero, List.set_cons_succ])) | (refine Xr.skip 8 (some 60) rfl rfl (by decide +kernel) (by rfl) ?_; (try simp only [Act.put, List.setIfInBounds_toArray, List.set_cons_zero, List.set_cons_succ])) | (refine Xr.take 9 (some 61) (v := ?_) rfl rfl (by decide +kernel) (by rfl) ?_ ?_; rotate_left; (focus (intro w' hk; go_simp; (try with_reducible rfl); done)); (try simp only [Act.put, List.setIfInBounds_toArray, List.set_cons_zero, List.set_cons_succ])) | (refine Xr.take 10 (some 62) (v := ?_) rfl rfl (by decide +kernel) (by rfl) ?_ ?_; rotate_left; (focus (intro w' hk; go_simp; (try with_reducible rfl); done)); (try simp only [Act.put, List.setIfInBounds_toArray, List.set_cons_zero, List.set_cons_succ])) | (refine Xr.take 11 (some 63) (v := ?_) rfl rfl (by decide +kernel) (by rfl) ?_ ?_; rotate_left; (focus (intro w' hk; go_simp; (try with_reducible rfl); done)); (try simp only [Act.put, List.setIfInBounds_toArray, List.set_cons_zero, List.set_cons_succ])) | (refine Xr.skip 11 (some 63) rfl rfl (by decide +kernel) (by rfl) ?_; (try simp only [Act.put, List.setIfInBounds_toArray, List.set_cons_zero, List.set_cons_succ])) | (refine Xr.take 12 (some 64) (v := ?_) rfl rfl (by decide +kernel) (by rfl) ?_ ?_; rotate_left; (focus (intro w' hk; go_simp; (try with_reducible rfl); done)); (try simp only [Act.put, List.setIfInBounds_toArray, List.set_cons_zero, List.set_cons_succ])) | (refine Xr.skip 12 (some 64) rfl rfl (by decide +kernel) (by rfl) ?_; (try simp only [Act.put, List.setIfInBounds_toArray, List.set_cons_zero, List.set_cons_succ])) | (refine Xr.skip 13 (some 65) rfl rfl (by decide +kernel) (by rfl) ?_; (try simp only [Act.put, List.setIfInBounds_toArray, List.set_cons_zero, List.set_cons_succ])) | (refine Xr.take 14 (some 66) (v := ?_) rfl rfl (by decide +kernel) (by rfl) ?_ ?_; rotate_left; (focus (intro w' hk; go_simp; (try with_reducible rfl); done)); (try simp only [Act.put, List.setIfInBounds_toArray, List.set_cons_zero, List.set_cons_succ])) | (refine Xr.skip 14 (some 66) rfl rfl (by decide +kernel) (by rfl) ?_; (try simp only [Act.put, List.setIfInBounds_toArray, List.set_cons_zero, List.set_cons_succ])) | (refine Xr.take 15 (some 67) (v := ?_) rfl rfl (by decide +kernel) (by rfl) ?_ ?_; rotate_left; (focus (intro w' hk; go_simp; (try with_reducible rfl); done)); (try simp only [Act.put, List.setIfInBounds_toArray, List.set_cons_zero, List.set_cons_succ])))
      refine Xr.call 13 rfl (by decide +kernel) (by rfl) (fun w13 hE13 hK13 K hKK => ?_)
      go_simp
      refine (sameInts_any _ _ _ _ _ _ _ (iS.ext hK13.nil) (iB.ext hK13.nil)).mono ?_
      rw [beq_self_eq_true]
      rintro e w14 h14
      obtain ⟨rfl, hx14⟩ := h14.v
      clear h14
      refine hKK _ _ hx14 ?_
      clear hKK
      (try simp only [Act.put, List.setIfInBounds_toArray, List.set_cons_zero, List.set_cons_succ])
      repeat (first | (refine Xr.take 0 (some 52) (v := ?_) rfl rfl (by decide +kernel) (by rfl) ?_ ?_; rotate_left; (focus (intro w' hk; go_simp; (try with_reducible rfl); done)); (try simp only [Act.put, List.setIfInBounds_toArray, List.set_cons_zero, List.set_cons_succ])) | (refine Xr.take 1 (some 53) (v := ?_) rfl rfl (by decide +kernel) (by rfl) ?_ ?_; rotate_left; (focus (intro w' hk; go_simp; (try with_reducible rfl); done)); (try simp only [Act.put, List.setIfInBounds_toArray, List.set_cons_zero, List.set_cons_succ])) | (refine Xr.take 2 (some 54) (v := ?_) rfl rfl (by decide +kernel) (by rfl) ?_ ?_; rotate_left; (focus (intro w' hk; go_simp; (try with_reducible rfl); done)); (try simp only [Act.put, List.setIfInBounds_toArray, List.set_cons_zero, List.set_cons_succ])) | (refine Xr.take 5 (some 57) (v := ?_) rfl rfl (by decide +kernel) (by rfl) ?_ ?_; rotate_left; (focus (intro w' hk; go_simp; (try with_reducible rfl); done)); (try simp only [Act.put, List.setIfInBounds_toArray, List.set_cons_zero, List.set_cons_succ])) | (refine Xr.take 6 (some 58) (v := ?_) rfl rfl (by decide +kernel) (by rfl) ?_ ?_; rotate_left; (focus (intro w' hk; go_simp; (try with_reducible rfl); done)); (try simp only [Act.put, List.setIfInBounds_toArray, List.set_cons_zero, List.set_cons_succ])) | (refine Xr.take 7 (some 59) (v := ?_) rfl rfl (by decide +kernel) (by rfl) ?_ ?_; rotate_left; (focus (intro w' hk; go_simp; (try with_reducible rfl); done)); (try simp only [Act.put, List.setIfInBounds_toArray, List.set_cons_zero, List.set_cons_succ])) | (refine Xr.skip 7 (some 59) rfl rfl (by decide +kernel) (by rfl) ?_; (try simp only [Act.put, List.setIfInBounds_toArray, List.set_cons_zero, List.set_cons_succ])) | (refine Xr.take 8 (some 60) (v := ?_) rfl rfl (by decide +kernel) (by rfl) ?_ ?_; rotate_left; (focus (intro w' hk; go_simp; (try with_reducible rfl); done)); (try simp only [Act.put, List.setIfInBounds_toArray, List.set_cons_zero, List.set_cons_succ])) | (refine Xr.skip 8 (some 60) rfl rfl (by decide +kernel) (by rfl) ?_; (try simp only [Act.put, List.setIfInBounds_toArray, List.set_cons_zero, List.set_cons_succ])) | (refine Xr.take 9 (some 61) (v := ?_) rfl rfl (by decide +kernel) (by rfl) ?_ ?_; rotate_left; (focus (intro w' hk; go_simp; (try with_reducible rfl); done)); (try simp only [Act.put, List.setIfInBounds_toArray, List.set_cons_zero, List.set_cons_succ])) | (refine Xr.take 10 (some 62) (v := ?_) rfl rfl (by decide +kernel) (by rfl) ?_ ?_; rotate_left; (focus (intro w' hk; go_simp; (try with_reducible rfl); done)); (try simp only [Act.put, List.setIfInBounds_toArray, List.set_cons_zero, List.set_cons_succ])) | (refine Xr.take 11 (some 63) (v := ?_) rfl rfl (by decide +kernel) (by rfl) ?_ ?_; rotate_left; (focus (intro w' hk; go_simp; (try with_reducible rfl); done)); (try simp only [Act.put, List.setIfInBounds_toArray, List.set_cons_zero, List.set_cons_succ])) | (refine Xr.skip 11 (some 63) rfl rfl (by decide +kernel) (by rfl) ?_; (try simp only [Act.put, List.setIfInBounds_toArray, List.set_cons_zero, List.set_cons_succ])) | (refine Xr.take 12 (some 64) (v := ?_) rfl rfl (by decide +kernel) (by rfl) ?_ ?_; rotate_left; (focus (intro w' hk; go_simp; (try with_reducible rfl); done)); (try simp only [Act.put, List.setIfInBounds_toArray, List.set_cons_zero, List.set_cons_succ])) | (refine Xr.skip 12 (some 64) rfl rfl (by decide +kernel) (by rfl) ?_; (try simp only [Act.put, List.setIfInBounds_toArray, List.set_cons_zero, List.set_cons_succ])) | (refine Xr.skip 13 (some 65) rfl rfl (by decide +kernel) (by rfl) ?_; (try simp only [Act.put, List.setIfInBounds_toArray, List.set_cons_zero, List.set_cons_succ])) | (refine Xr.take 14 (some 66) (v := ?_) rfl rfl (by decide +kernel) (by rfl) ?_ ?_; rotate_left; (focus (intro w' hk; go_simp; (try with_reducible rfl); done)); (try simp only [Act.put, List.setIfInBounds_toArray, List.set_cons_zero, List.set_cons_succ])) | (refine Xr.skip 14 (some 66) rfl rfl (by decide +kernel) (by rfl) ?_; (try simp only [Act.put, List.setIfInBounds_toArray, List.set_cons_zero, List.set_cons_succ])) | (refine Xr.take 15 (some 67) (v := ?_) rfl rfl (by decide +kernel) (by rfl) ?_ ?_; rotate_left; (focus (intro w' hk; go_simp; (try with_reducible rfl); done)); (try simp only [Act.put, List.setIfInBounds_toArray, List.set_cons_zero, List.set_cons_succ])))
      refine Xr.done (by decide +kernel) (fun w15 hE15 hK15 => ?_)
      have X15 := hK15.nil
      replace iT2 := iT2.ext X15; replace iB := iB.ext X15; replace b4 := b4.ext X15
      replace hext := hext.trans X15
      clear kr0 kr1 kr2 r0 r1 r2 r0f r1f r2f rz X15 hK15 iC iS iD
      go_wp2_with fail
      have htl : t.length ≤ 14 := HTL.out
      have hbl : b.length ≤ 100 := HBL.out
      go_loopw [15] (fun i wr => ∃ p : Nat, p ≤ t.length + 1 ∧ i = .int .i64 p ∧ Ext w15 wr) (fun i _ => t.length + 1 - (intOf i).toNat)
      case atStart => exact ⟨0, by omega, rfl, Ext.rfl' _⟩
      case round =>
        obtain ⟨p, hp, rfl, hext2⟩ := hrel
        by_cases hpt : p ≤ t.length
        · have hpi : (p : Int) ≤ t.length := by omega
          go_wp2_with fail
          go_loopw [16] (fun i wr => ∃ q : Nat, q ≤ t.length - p + 1 ∧ i = .int .i64 q ∧ Ext w15 wr) (fun i _ => t.length - p + 1 - (intOf i).toNat)
          case atStart => exact ⟨0, by omega, rfl, hext2⟩
          case round =>
            clear hext2
            obtain ⟨q, hq, rfl, hext2⟩ := hrel
            by_cases hqt : q ≤ t.length - p
            · have hqi : (q : Int) ≤ (t.length : Int) - p := by omega
              have b5 := b4.ext hext2
              have r0 := (Blk.c3 b5).1; have r1 := (Blk.c3 b5).2.1; have r2 := (Blk.c3 b5).2.2.1; have r0f := (Blk.c3 b5).2.2.2.1; have r1f := (Blk.c3 b5).2.2.2.2.1; have r2f := (Blk.c3 b5).2.2.2.2.2.1; have rz := (Blk.c3 b5).2.2.2.2.2.2
              by_cases c1 : (b.length : Int) - t.length + q < 0
              · go_wp2_with fail
                go_roundw
                case rel => exact ⟨q + 1, by omega, by go_num, hext2⟩
                case measure => simp [intOf]; omega
              · obtain ⟨mn, hmn⟩ : ∃ mn : Nat, (b.length : Int) - t.length + q = mn := ⟨((b.length : Int) - t.length + q).toNat, by omega⟩
                by_cases c2 : (b.length : Int) < (p : Int) + mn
                · go_wp2_with fail
                  go_roundw
                  case rel => exact ⟨q + 1, by omega, by go_num, hext2⟩
                  case measure => simp [intOf]; omega
                · by_cases c3 : x.del + x.ins.length ≤ (q : Int) + mn
                  · go_wp2_with fail
                    go_roundw
                    case rel => exact ⟨q + 1, by omega, by go_num, hext2⟩
                    case measure => simp [intOf]; omega
                  · have hne : (spliceL t p q ((b.drop p).take mn) == b) = false := by
                      rw [beq_eq_false_iff_ne]
                      intro h
                      have := hDM.out p q mn (by omega) (by omega) (by omega) h
                      omega
                    have hul : ((b.drop p).take mn).length = mn := by simp; omega
                    have hin := fun h => IL.cut_in (iB.ext hext2) (k := p) (j := p + mn) h (by omega)
                    have hend := fun h => IL.cut_end (j := p + mn) (k := p) (iB.ext hext2) h
                    rw [Nat.add_sub_cancel_left] at hin hend
                    have hin2 := hin (by omega)
                    generalize (b.drop p).take mn = u at *
                    obtain rfl : u.length = mn := hul
                    have hbd := iB.len
                    have hpd : (p : Int) + u.length ≤ d := by omega
                    have hpl : (p : Int) + q ≤ t.length := by omega
                    have iB6 := iB.ext hext2
                    have iT6 := iT2.ext hext2
                    have hI1 : I64 q := I64_of (by omega)
                    have HNE := Lib.hid hne
                    have HB := Lib.hid (show t.length ≤ 1000000000 ∧ u.length ≤ 1000000000 ∧ (0 : Int) ≤ p ∧ (0 : Int) ≤ q ∧ (p : Int) + q ≤ t.length by omega)
                    clear hin hne
                    by_cases hdp : d = p
                    · subst hdp
                      have iU := hend rfl
                      obtain rfl : u = [] := List.eq_nil_of_length_eq_zero (by omega)
                      clear hend hin2
                      obtain ⟨b6, x6⟩ := alloc1 wr 25 #[.int .i64 d, .int .i64 q, .slice B 0 0]
                      go_wp2_with fail
                      refine (rSplice_any _ _ t d q _ _ [] _ (iT6.ext x6) (iU.ext x6) HB.out.1 HB.out.2.1 HB.out.2.2.1 HB.out.2.2.2.1 HB.out.2.2.2.2).mono ?_
                      rintro e w20 ⟨A9, c9, rfl, i9, x9, _⟩
                      have X9 := (hext2.trans x6).trans x9
                      go_wp2_with fail
                      refine (sameInts_any _ _ _ _ _ _ _ i9 (iB6.ext (x6.trans x9))).mono ?_
                      rw [HNE.out]
                      rintro e w21 h21
                      obtain ⟨rfl, x21⟩ := h21.v
                      clear h21
                      go_wp2_with fail
                      go_roundw
                      case rel => exact ⟨q + 1, by omega, by go_num, X9.trans x21⟩
                      case measure => simp [intOf]; omega
                    · clear hend
                      obtain ⟨b6, x6⟩ := alloc1 wr 25 #[.int .i64 p, .int .i64 q, .slice (B.map (fun x => x.add p)) u.length (d - p)]
                      go_wp2_with fail
                      refine (rSplice_any _ _ t p q _ _ u _ (iT6.ext x6) (hin2.ext x6) HB.out.1 HB.out.2.1 HB.out.2.2.1 HB.out.2.2.2.1 HB.out.2.2.2.2).mono ?_
                      rintro e w20 ⟨A9, c9, rfl, i9, x9, _⟩
                      have X9 := (hext2.trans x6).trans x9
                      go_wp2_with fail
                      refine (sameInts_any _ _ _ _ _ _ _ i9 (iB6.ext (x6.trans x9))).mono ?_
                      rw [HNE.out]
                      rintro e w21 h21
                      obtain ⟨rfl, x21⟩ := h21.v
                      clear h21
                      go_wp2_with fail
                      go_roundw
                      case rel => exact ⟨q + 1, by omega, by go_num, X9.trans x21⟩
                      case measure => simp [intOf]; omega
            · have hqn : ¬ (q : Int) ≤ (t.length : Int) - p := by omega
              go_wp2_with fail
              go_roundw
              case rel => exact ⟨p + 1, by omega, by go_num, hext2⟩
              case measure => simp [intOf]; omega
        · have hpn : ¬ (p : Int) ≤ t.length := by omega
          go_wp2_with fail
          go_roundw
          case rel => exact ⟨k + 1, by omega, by go_num, hext.trans hext2⟩
          case measure => simp [intOf]; omega
    · have hk4 : k = 3 := by omega
      subst hk4
      go_wp2_with fail
      refine (lives_any _).mono ?_
      rintro e w8 ⟨rfl, x2⟩
      go_wp2
      go_ret
      exact ⟨rfl, (x1.trans hext).trans x2⟩
end Go.Proofs.Ythhfjomjjhenkaa
