/- own, Few, SameBytes, Bent: the walks. -/
import Derived.Test.YthhfjomjjhenkaaW9
import Derived.Test.YthhfjomjjhenkaaE13
namespace Go.Proofs.Ythhfjomjjhenkaa
open Go.RowKit
attribute [local go_sem ↓] Go.wp_at_zero Go.wp_at_succ

set_option maxHeartbeats 400000 in
theorem sameBytes_any (A B : Option Addr) (c d : Nat) (xs ys : List Int) (w : World) (ha : BL w A c xs) (hb : BL w B d ys) :
    Calls Try.prog 38 #[.slice A xs.length c, .slice B ys.length d] w (RetQ (.bool (xs == ys)) w) := by
  obtain ⟨a1, a2⟩ := ha.len
  obtain ⟨b1, b2⟩ := hb.len
  by_cases hl : xs.length = ys.length
  · have hl2 : ((xs.length : Int) != (ys.length : Int)) = false := by simp [hl]
    have hl' : xs.length ≤ ys.length := by omega
    have hl'' : ys.length ≤ xs.length := by omega
    have HL := Lib.hid hl
    clear hl
    go_enter Try.func38, Try.ntmps38
    go_wp2
    go_loopw [5] (fun i wr => ∃ k : Nat, k ≤ xs.length ∧ i = .int .i64 k ∧ Hid (xs.take k = ys.take k) ∧ ∃ n, wr = w.drewN n) (fun i _ => xs.length - (intOf i).toNat)
    case atStart => exact ⟨0, Nat.zero_le _, rfl, rfl, 0, rfl⟩
    case round =>
      obtain ⟨k, hk, rfl, ht, n, rfl⟩ := hrel
      by_cases hlt : k < xs.length
      · obtain ⟨p1, o1, rfl, g1⟩ := ha.get hlt
        obtain ⟨p2, o2, rfl, g2⟩ := hb.get (show k < ys.length by omega)
        have hlt2 : (k : Int) < xs.length := by omega
        have hlt3 : (k : Int) < ys.length := by omega
        have hlt4 : k < ys.length := by omega
        by_cases he : xs[k] = ys[k]
        · have he' : (xs[k] != ys[k]) = false := by simp [he]
          have HT := Lib.hid (beq_take_succ xs ys k hlt (by omega) ht.out he)
          clear he
          go_wp2_with (go_quiet (fail))
          go_roundw
          case rel => exact ⟨k + 1, by omega, by go_num, HT.out, _, rfl⟩
          case measure => simp [intOf]; omega
        · have he' : (xs[k] != ys[k]) = true := by simp [he]
          have hne : (xs == ys) = false := by
            rw [beq_eq_false_iff_ne]; rintro rfl; exact he rfl
          have HN := Lib.hid hne
          clear he hne
          go_wp2_with (go_quiet (fail))
          go_ret
          exact ⟨by rw [HN.out]; rfl, _, by rw [World.drewN_drewN]⟩
      · have hne : (xs == ys) = true := by
          have h1 := ht.out
          rw [List.take_of_length_le (by omega), List.take_of_length_le (by omega)] at h1
          simp [h1]
        have HN := Lib.hid hne
        clear hne
        go_wp2
        go_ret
        exact ⟨by rw [HN.out]; rfl, _, rfl⟩
  · have hl2 : ((xs.length : Int) != (ys.length : Int)) = true := by simp; omega
    have hne : (xs == ys) = false := by
      rw [beq_eq_false_iff_ne]; rintro rfl; exact hl rfl
    have HN := Lib.hid hne
    clear hne hl
    go_enter Try.func38, Try.ntmps38
    go_wp2
    go_ret
    exact ⟨by rw [HN.out]; rfl, 0, rfl⟩

theorem BL.take {w : World} {A : Option Addr} {c : Nat} {bs : List Int} (h : BL w A c bs) (k : Nat) : BL w A c (bs.take k) := by
  refine ⟨Nat.le_trans (by rw [List.length_take]; omega) h.le, h.cap, fun x hx => h.rng x (List.mem_of_mem_take hx), fun hn => ?_⟩
  obtain ⟨b, o, rfl, hc⟩ := h.at_ (by rintro rfl; simp at hn)
  refine ⟨b, o, rfl, fun i hi => ?_⟩
  rw [List.getElem_take]
  exact hc i (by rw [List.length_take] at hi; omega)

set_option maxHeartbeats 2000000 in
theorem own_any (x : It) (B : Option Addr) (cB : Nat) (w : World) : Calls Try.prog 32 #[itV x B cB] w (RetV (itV x B cB) w) := by
  obtain ⟨xc, xn, xb, ⟨xa, xd, xs⟩⟩ := x
  have b1 := Blk.new w 63 #[.int .i64 xc, .int .i64 xn, .int .i64 xb, .int .i64 xa, .int .i64 xd, .slice B xs.length cB]
  have e1 := Ext.alloc w (.cells #[.int .i64 xc, .int .i64 xn, .int .i64 xb, .int .i64 xa, .int .i64 xd, .slice B xs.length cB] 63)
  unfold itV
  simp only
  go_enter Try.func32, Try.ntmps32
  go_upto_region 1 with fail
  have b2 := Blk.new (w.alloc (.cells #[.int .i64 xc, .int .i64 xn, .int .i64 xb, .int .i64 xa, .int .i64 xd, .slice B xs.length cB] 63)) 39 #[.int .i64 0, .int .i64 0, .int .i64 0, .int .i64 0, .int .i64 0, .slice none 0 0]
  have e2 := Ext.alloc (w.alloc (.cells #[.int .i64 xc, .int .i64 xn, .int .i64 xb, .int .i64 xa, .int .i64 xd, .slice B xs.length cB] 63)) (.cells #[.int .i64 0, .int .i64 0, .int .i64 0, .int .i64 0, .int .i64 0, .slice none 0 0] 39)
  have hz : (w.alloc (.cells #[.int .i64 xc, .int .i64 xn, .int .i64 xb, .int .i64 xa, .int .i64 xd, .slice B xs.length cB] 63)).heap.size = w.heap.size + 1 := by simp
  rw [hz] at b2
  replace b1 := b1.ext e2
  replace e1 := e1.trans e2
  generalize (w.alloc (.cells #[.int .i64 xc, .int .i64 xn, .int .i64 xb, .int .i64 xa, .int .i64 xd, .slice B xs.length cB] 63)).alloc (.cells #[.int .i64 0, .int .i64 0, .int .i64 0, .int .i64 0, .int .i64 0, .slice none 0 0] 39) = W at *
  clear e2 hz
  have p0 := b1.cell 0
  have p1 := b1.cell 1
  have p2 := b1.cell 2
  have p3 := b1.cell 3
  have p4 := b1.cell 4
  have p5 := b1.cell 5
  have m0 := b2.cell 0
  have m1 := b2.cell 1
  have m2 := b2.cell 2
  have m3 := b2.cell 3
  have m4 := b2.cell 4
  have m5 := b2.cell 5
  have m0f := b2.frz 0
  have m1f := b2.frz 1
  have m2f := b2.frz 2
  have m3f := b2.frz 3
  have m4f := b2.frz 4
  have m5f := b2.frz 5
  have mz := b2.lt
  simp only [List.getElem?_toArray, List.getElem?_cons_succ, List.getElem?_cons_zero] at p0 p1 p2 p3 p4 p5 m0 m1 m2 m3 m4 m5
  go_wp2_with fail
  have z := (((((b2.set 0 (.int .i64 xc)).set 1 (.int .i64 xn)).set 2 (.int .i64 xb)).set 3 (.int .i64 xa)).set 4 (.int .i64 xd)).set 5 (.slice B xs.length cB)
  simp only [List.setIfInBounds_toArray, List.set_cons_zero, List.set_cons_succ] at z
  have r0 := z.cell 0
  have r1 := z.cell 1
  have r2 := z.cell 2
  have r3 := z.cell 3
  have r4 := z.cell 4
  have r5 := z.cell 5
  simp only [List.getElem?_toArray, List.getElem?_cons_succ, List.getElem?_cons_zero] at r0 r1 r2 r3 r4 r5
  have hz : w.heap.size ≤ w.heap.size + 1 := Nat.le_succ _
  have X := (((((e1.setNew (p := ⟨w.heap.size + 1, 0, none⟩) hz (.int .i64 xc)).setNew (p := ⟨w.heap.size + 1, 1, none⟩) hz (.int .i64 xn)).setNew (p := ⟨w.heap.size + 1, 2, none⟩) hz (.int .i64 xb)).setNew (p := ⟨w.heap.size + 1, 3, none⟩) hz (.int .i64 xa)).setNew (p := ⟨w.heap.size + 1, 4, none⟩) hz (.int .i64 xd)).setNew (p := ⟨w.heap.size + 1, 5, none⟩) hz (.slice B xs.length cB)
  exact bodyPost_ret (v := .agg #[.int .i64 xc, .int .i64 xn, .int .i64 xb, .int .i64 xa, .int .i64 xd, .slice B xs.length cB]) (by simp [results, Try.results32, go_sem, r0, r1, r2, r3, r4, r5]) rfl ⟨rfl, X⟩

set_option maxRecDepth 100000 in
set_option maxHeartbeats 2000000 in
theorem few_any (bs : List Int) (B : Option Addr) (cB m : Nat) (w : World) (hB : BL w B cB bs) (hm : m ≤ 1099511627776) : Calls Try.prog 42 #[.slice B bs.length cB, .int .i64 m] w (RetOB (bs.take m) w) := by
  obtain ⟨iB, jB0, jB1, jB2, jB3⟩ := info_parts infoB
  have hlen := hB.len
  have hT := hB.take m
  have hrng := hB.rng
  by_cases hlt : m < bs.length
  · have htl : (bs.take m).length = m := by rw [List.length_take]; omega
    have hI : (m : Int) < bs.length := by omega
    have hle : (m : Int) ≤ cB := by omega
    generalize bs.take m = ys at *
    have HTL := Lib.hid htl
    have hcl := hT.cells
    have HB8 := Lib.hid (show 0 + m ≤ maxLen ∧ (0 + m) * 1 ≤ 140737488355328 by unfold maxLen; omega)
    clear htl hT
    go_enter Try.func42, Try.ntmps42
    go_wp2_with ((at_builtin; refine wpList_app _ rfl _ _ _ rfl w.heap.size 5 iB _ 1 1 Try.underlying64 jB0 jB1 jB2 jB3 rfl (by omega) none 0 0 [] rfl (OwnS.nil _ _ _ _) B m cB (ys.map (Value.int .u8)) rfl (by rw [List.length_map, HTL.out, Nat.mul_one]) hcl (bytes_one _) HB8.out.1 HB8.out.2 (Nat.le_refl _) ?_; intro A' c' w' ho' hg' hat'))
    go_ret
    rw [Nat.zero_add, ← HTL.out, List.nil_append] at ho'
    exact ⟨A', c', by rw [HTL.out]; rfl, ho', (Ext.rfl' w).grown hg' (by simp)⟩
  · have htl : (bs.take m).length = bs.length := by rw [List.length_take]; omega
    have hI : ¬ (m : Int) < bs.length := by omega
    have hle : (bs.length : Int) ≤ cB := by omega
    generalize bs.take m = ys at *
    have HTL := Lib.hid htl
    have hcl := hT.cells
    have HB8 := Lib.hid (show 0 + bs.length ≤ maxLen ∧ (0 + bs.length) * 1 ≤ 140737488355328 by unfold maxLen; omega)
    clear htl hT
    go_enter Try.func42, Try.ntmps42
    go_wp2_with ((at_builtin; refine wpList_app _ rfl _ _ _ rfl w.heap.size 5 iB _ 1 1 Try.underlying64 jB0 jB1 jB2 jB3 rfl (by omega) none 0 0 [] rfl (OwnS.nil _ _ _ _) B bs.length cB (ys.map (Value.int .u8)) rfl (by rw [List.length_map, HTL.out, Nat.mul_one]) hcl (bytes_one _) HB8.out.1 HB8.out.2 (Nat.le_refl _) ?_; intro A' c' w' ho' hg' hat'))
    go_ret
    rw [Nat.zero_add, ← HTL.out, List.nil_append] at ho'
    exact ⟨A', c', by rw [HTL.out]; rfl, ho', (Ext.rfl' w).grown hg' (by simp)⟩

theorem infoNn : (Try.prog.info? 3).map (fun i => (i.zero, i.size, i.bytes)) = some (some (.int .i64 0), 1, 8) := by kernel_rfl

/-- what Bent returns: some item -/
def RetBent (x : It) (w : World) (e : Ending) (w' : World) : Prop := ∃ (x' : It) (B : Option Addr) (c : Nat), e = .returned (itV x' B c) ∧ It64 x' ∧ IL w' B c x'.e.ins ∧ x'.e.ins.length ≤ x.e.ins.length + 1 ∧ Ext w w'

set_option maxRecDepth 100000 in
set_option maxHeartbeats 8000000 in
theorem bent_any (x : It) (B : Option Addr) (cB : Nat) (how by_ : Int) (w : World) (hx : It64 x) (hL : IL w B cB x.e.ins) (hl : x.e.ins.length ≤ 1099511627776) (hh : I64 how) (hby : I64 by_) :
    Calls Try.prog 33 #[itV x B cB, .int .i64 how, .int .i64 by_] w (RetBent x w) := by
  obtain ⟨iN, jN0, jN1, jN2, jN3⟩ := info_parts infoNn
  obtain ⟨xc, xn, xb, ⟨xa, xd, xs⟩⟩ := x
  obtain ⟨r0, r1, r2, r3, r4⟩ := hx
  simp only at r0 r1 r2 r3 r4 hL hl
  have HNE := Lib.hid (show xs ≠ [] → ∀ b, B.map (·.block) = some b → ¬ b = w.heap.size + 1 from fun hx b hb e => by have := hL.blt hx hb; omega)
  have ha := around_bd how 6 (by omega)
  have HH := fun W' => Lib.hid (around_any how 6 W' hh (by omega) (by omega))
  obtain ⟨r, hr⟩ : ∃ r : Nat, around how 6 = (r : Int) := ⟨(around how 6).toNat, by omega⟩
  rw [hr] at HH ha
  have hr6 : r < 6 := by omega
  have hb := around_bd by_ 4 (by omega)
  have HB4 := fun W' => Lib.hid (around_any by_ 4 W' hby (by omega) (by omega))
  obtain ⟨i, hi⟩ : ∃ i : Nat, around by_ 4 = (i : Int) := ⟨(around by_ 4).toNat, by omega⟩
  rw [hi] at HB4 hb
  have hi4 : i < 4 := by omega
  have hiI : (i : Int) < 4 := by omega
  have hi0 : (0 : Int) ≤ i := by omega
  clear hr ha hi hb
  have b1 := Blk.new w 63 #[.int .i64 xc, .int .i64 xn, .int .i64 xb, .int .i64 xa, .int .i64 xd, .slice B xs.length cB]
  have e1 := Ext.alloc w (.cells #[.int .i64 xc, .int .i64 xn, .int .i64 xb, .int .i64 xa, .int .i64 xd, .slice B xs.length cB] 63)
  unfold itV
  simp only
  go_enter Try.func33, Try.ntmps33
  go_upto_region 1 with fail
  have b2 := Blk.new (w.alloc (.cells #[.int .i64 xc, .int .i64 xn, .int .i64 xb, .int .i64 xa, .int .i64 xd, .slice B xs.length cB] 63)) 63 #[.int .i64 0, .int .i64 0, .int .i64 0, .int .i64 0, .int .i64 0, .slice none 0 0]
  have e2 := Ext.alloc (w.alloc (.cells #[.int .i64 xc, .int .i64 xn, .int .i64 xb, .int .i64 xa, .int .i64 xd, .slice B xs.length cB] 63)) (.cells #[.int .i64 0, .int .i64 0, .int .i64 0, .int .i64 0, .int .i64 0, .slice none 0 0] 63)
  have hz : (w.alloc (.cells #[.int .i64 xc, .int .i64 xn, .int .i64 xb, .int .i64 xa, .int .i64 xd, .slice B xs.length cB] 63)).heap.size = w.heap.size + 1 := by simp
  rw [hz] at b2
  replace b1 := b1.ext e2
  replace e1 := e1.trans e2
  generalize (w.alloc (.cells #[.int .i64 xc, .int .i64 xn, .int .i64 xb, .int .i64 xa, .int .i64 xd, .slice B xs.length cB] 63)).alloc (.cells #[.int .i64 0, .int .i64 0, .int .i64 0, .int .i64 0, .int .i64 0, .slice none 0 0] 63) = W at *
  clear e2 hz
  go_wp2_with fail
  refine (HH _).out.mono ?_
  rintro e w1 hq
  obtain ⟨rfl, x1⟩ := hq.v
  clear hq HH
  replace b1 := b1.ext x1
  replace b2 := b2.ext x1
  replace e1 := e1.trans x1
  clear x1
  have : r = 0 ∨ r = 1 ∨ r = 2 ∨ r = 3 ∨ r = 4 ∨ r = 5 := by omega
  clear hr6
  rcases this with rfl | rfl | rfl | rfl | rfl | rfl
  · have b3 := Blk.new w1 3 #[.int .i64 by_, .int .i64 (-1), .int .i64 1023, .int .i64 1024]
    have e3 := Ext.alloc w1 (.cells #[.int .i64 by_, .int .i64 (-1), .int .i64 1023, .int .i64 1024] 3)
    go_wp2_with fail
    obtain ⟨g3, hg3⟩ : ∃ g3, g3 = w1.heap.size := ⟨_, rfl⟩
    rw [← hg3] at b3 ⊢
    have hg31 : w.heap.size + 1 < g3 := by rw [hg3]; exact b2.lt
    replace b1 := b1.ext e3
    replace b2 := b2.ext e3
    replace e1 := e1.trans e3
    generalize w1.alloc (.cells #[.int .i64 by_, .int .i64 (-1), .int .i64 1023, .int .i64 1024] 3) = w2 at *
    clear e3 hg3
    refine (HB4 _).out.mono ?_
    rintro e w3 hq
    obtain ⟨rfl, x3⟩ := hq.v
    clear hq
    replace b1 := b1.ext x3
    replace b2 := b2.ext x3
    replace b3 := b3.ext x3
    replace e1 := e1.trans x3
    obtain ⟨v, hv, hv64⟩ : ∃ v, w3.cell? ⟨g3, i, none⟩ = some (.int .i64 v) ∧ I64 v := by
      rw [b3.cell]
      match i, hi4 with
      | 0, _ => exact ⟨_, rfl, hby⟩
      | 1, _ => exact ⟨_, rfl, by unfold I64; omega⟩
      | 2, _ => exact ⟨_, rfl, by unfold I64; omega⟩
      | 3, _ => exact ⟨_, rfl, by unfold I64; omega⟩
    clear b3 x3
    have p0 := b1.cell 0
    have p0f := b1.frz 0
    have pz := b1.lt
    simp only [List.getElem?_toArray, List.getElem?_cons_succ, List.getElem?_cons_zero] at p0
    go_upto_region 13 with fail
    replace b1 := b1.set 0 (.int .i64 v)
    simp only [List.setIfInBounds_toArray, List.set_cons_zero, List.set_cons_succ] at b1
    replace b2 := b2.far (p := ⟨w.heap.size, 0, none⟩) (by simp) (.int .i64 v)
    replace e1 := e1.setNew (p := ⟨w.heap.size, 0, none⟩) (Nat.le_refl _) (.int .i64 v)
    generalize w3.setCell ⟨w.heap.size, 0, none⟩ (.int .i64 v) = w4 at *
    clear p0 p0f pz hv
    have p0 := b1.cell 0
    have p1 := b1.cell 1
    have p2 := b1.cell 2
    have p3 := b1.cell 3
    have p4 := b1.cell 4
    have p5 := b1.cell 5
    have m0 := b2.cell 0
    have m1 := b2.cell 1
    have m2 := b2.cell 2
    have m3 := b2.cell 3
    have m4 := b2.cell 4
    have m5 := b2.cell 5
    have m0f := b2.frz 0
    have m1f := b2.frz 1
    have m2f := b2.frz 2
    have m3f := b2.frz 3
    have m4f := b2.frz 4
    have m5f := b2.frz 5
    have mz := b2.lt
    simp only [List.getElem?_toArray, List.getElem?_cons_succ, List.getElem?_cons_zero] at p0 p1 p2 p3 p4 p5 m0 m1 m2 m3 m4 m5
    go_wp2_with fail
    have z := ((((((b2.set 0 (.int .i64 v)).set 1 (.int .i64 xn)).set 2 (.int .i64 xb)).set 3 (.int .i64 xa)).set 4 (.int .i64 xd)).set 5 (.slice B xs.length cB))
    simp only [List.setIfInBounds_toArray, List.set_cons_zero, List.set_cons_succ] at z
    have q0 := z.cell 0
    have q1 := z.cell 1
    have q2 := z.cell 2
    have q3 := z.cell 3
    have q4 := z.cell 4
    have q5 := z.cell 5
    simp only [List.getElem?_toArray, List.getElem?_cons_succ, List.getElem?_cons_zero] at q0 q1 q2 q3 q4 q5
    have X := ((((((e1.setNew (p := ⟨w.heap.size + 1, 0, none⟩) (Nat.le_succ _) (.int .i64 v)).setNew (p := ⟨w.heap.size + 1, 1, none⟩) (Nat.le_succ _) (.int .i64 xn)).setNew (p := ⟨w.heap.size + 1, 2, none⟩) (Nat.le_succ _) (.int .i64 xb)).setNew (p := ⟨w.heap.size + 1, 3, none⟩) (Nat.le_succ _) (.int .i64 xa)).setNew (p := ⟨w.heap.size + 1, 4, none⟩) (Nat.le_succ _) (.int .i64 xd)).setNew (p := ⟨w.heap.size + 1, 5, none⟩) (Nat.le_succ _) (.slice B xs.length cB))
    have hI := ((hL.ext e1)).kp (KpP.set (p := (· = w.heap.size + 1)) (x := ⟨w.heap.size + 1, 5, none⟩) (KpP.set (p := (· = w.heap.size + 1)) (x := ⟨w.heap.size + 1, 4, none⟩) (KpP.set (p := (· = w.heap.size + 1)) (x := ⟨w.heap.size + 1, 3, none⟩) (KpP.set (p := (· = w.heap.size + 1)) (x := ⟨w.heap.size + 1, 2, none⟩) (KpP.set (p := (· = w.heap.size + 1)) (x := ⟨w.heap.size + 1, 1, none⟩) (KpP.set (p := (· = w.heap.size + 1)) (x := ⟨w.heap.size + 1, 0, none⟩) (KpP.refl _ w4) (.inl rfl) (.int .i64 v)) (.inl rfl) (.int .i64 xn)) (.inl rfl) (.int .i64 xb)) (.inl rfl) (.int .i64 xa)) (.inl rfl) (.int .i64 xd)) (.inl rfl) (.slice B xs.length cB)) (fun hx b hb e => HNE.out hx b hb e)
    exact bodyPost_ret (v := .agg #[.int .i64 v, .int .i64 xn, .int .i64 xb, .int .i64 xa, .int .i64 xd, .slice B xs.length cB]) (by simp [results, Try.results33, go_sem, q0, q1, q2, q3, q4, q5]) rfl ⟨⟨v, xn, xb, ⟨xa, xd, xs⟩⟩, B, cB, rfl, ⟨hv64, r1, r2, r3, r4⟩, hI, Nat.le_succ _, X⟩
  · have b3 := Blk.new w1 3 #[.int .i64 by_, .int .i64 (-1), .int .i64 4095, .int .i64 4096]
    have e3 := Ext.alloc w1 (.cells #[.int .i64 by_, .int .i64 (-1), .int .i64 4095, .int .i64 4096] 3)
    go_wp2_with fail
    obtain ⟨g3, hg3⟩ : ∃ g3, g3 = w1.heap.size := ⟨_, rfl⟩
    rw [← hg3] at b3 ⊢
    have hg31 : w.heap.size + 1 < g3 := by rw [hg3]; exact b2.lt
    replace b1 := b1.ext e3
    replace b2 := b2.ext e3
    replace e1 := e1.trans e3
    generalize w1.alloc (.cells #[.int .i64 by_, .int .i64 (-1), .int .i64 4095, .int .i64 4096] 3) = w2 at *
    clear e3 hg3
    refine (HB4 _).out.mono ?_
    rintro e w3 hq
    obtain ⟨rfl, x3⟩ := hq.v
    clear hq
    replace b1 := b1.ext x3
    replace b2 := b2.ext x3
    replace b3 := b3.ext x3
    replace e1 := e1.trans x3
    obtain ⟨v, hv, hv64⟩ : ∃ v, w3.cell? ⟨g3, i, none⟩ = some (.int .i64 v) ∧ I64 v := by
      rw [b3.cell]
      match i, hi4 with
      | 0, _ => exact ⟨_, rfl, hby⟩
      | 1, _ => exact ⟨_, rfl, by unfold I64; omega⟩
      | 2, _ => exact ⟨_, rfl, by unfold I64; omega⟩
      | 3, _ => exact ⟨_, rfl, by unfold I64; omega⟩
    clear b3 x3
    have p1 := b1.cell 1
    have p1f := b1.frz 1
    have pz := b1.lt
    simp only [List.getElem?_toArray, List.getElem?_cons_succ, List.getElem?_cons_zero] at p1
    go_upto_region 13 with fail
    replace b1 := b1.set 1 (.int .i64 v)
    simp only [List.setIfInBounds_toArray, List.set_cons_zero, List.set_cons_succ] at b1
    replace b2 := b2.far (p := ⟨w.heap.size, 1, none⟩) (by simp) (.int .i64 v)
    replace e1 := e1.setNew (p := ⟨w.heap.size, 1, none⟩) (Nat.le_refl _) (.int .i64 v)
    generalize w3.setCell ⟨w.heap.size, 1, none⟩ (.int .i64 v) = w4 at *
    clear p1 p1f pz hv
    have p0 := b1.cell 0
    have p1 := b1.cell 1
    have p2 := b1.cell 2
    have p3 := b1.cell 3
    have p4 := b1.cell 4
    have p5 := b1.cell 5
    have m0 := b2.cell 0
    have m1 := b2.cell 1
    have m2 := b2.cell 2
    have m3 := b2.cell 3
    have m4 := b2.cell 4
    have m5 := b2.cell 5
    have m0f := b2.frz 0
    have m1f := b2.frz 1
    have m2f := b2.frz 2
    have m3f := b2.frz 3
    have m4f := b2.frz 4
    have m5f := b2.frz 5
    have mz := b2.lt
    simp only [List.getElem?_toArray, List.getElem?_cons_succ, List.getElem?_cons_zero] at p0 p1 p2 p3 p4 p5 m0 m1 m2 m3 m4 m5
    go_wp2_with fail
    have z := ((((((b2.set 0 (.int .i64 xc)).set 1 (.int .i64 v)).set 2 (.int .i64 xb)).set 3 (.int .i64 xa)).set 4 (.int .i64 xd)).set 5 (.slice B xs.length cB))
    simp only [List.setIfInBounds_toArray, List.set_cons_zero, List.set_cons_succ] at z
    have q0 := z.cell 0
    have q1 := z.cell 1
    have q2 := z.cell 2
    have q3 := z.cell 3
    have q4 := z.cell 4
    have q5 := z.cell 5
    simp only [List.getElem?_toArray, List.getElem?_cons_succ, List.getElem?_cons_zero] at q0 q1 q2 q3 q4 q5
    have X := ((((((e1.setNew (p := ⟨w.heap.size + 1, 0, none⟩) (Nat.le_succ _) (.int .i64 xc)).setNew (p := ⟨w.heap.size + 1, 1, none⟩) (Nat.le_succ _) (.int .i64 v)).setNew (p := ⟨w.heap.size + 1, 2, none⟩) (Nat.le_succ _) (.int .i64 xb)).setNew (p := ⟨w.heap.size + 1, 3, none⟩) (Nat.le_succ _) (.int .i64 xa)).setNew (p := ⟨w.heap.size + 1, 4, none⟩) (Nat.le_succ _) (.int .i64 xd)).setNew (p := ⟨w.heap.size + 1, 5, none⟩) (Nat.le_succ _) (.slice B xs.length cB))
    have hI := ((hL.ext e1)).kp (KpP.set (p := (· = w.heap.size + 1)) (x := ⟨w.heap.size + 1, 5, none⟩) (KpP.set (p := (· = w.heap.size + 1)) (x := ⟨w.heap.size + 1, 4, none⟩) (KpP.set (p := (· = w.heap.size + 1)) (x := ⟨w.heap.size + 1, 3, none⟩) (KpP.set (p := (· = w.heap.size + 1)) (x := ⟨w.heap.size + 1, 2, none⟩) (KpP.set (p := (· = w.heap.size + 1)) (x := ⟨w.heap.size + 1, 1, none⟩) (KpP.set (p := (· = w.heap.size + 1)) (x := ⟨w.heap.size + 1, 0, none⟩) (KpP.refl _ w4) (.inl rfl) (.int .i64 xc)) (.inl rfl) (.int .i64 v)) (.inl rfl) (.int .i64 xb)) (.inl rfl) (.int .i64 xa)) (.inl rfl) (.int .i64 xd)) (.inl rfl) (.slice B xs.length cB)) (fun hx b hb e => HNE.out hx b hb e)
    exact bodyPost_ret (v := .agg #[.int .i64 xc, .int .i64 v, .int .i64 xb, .int .i64 xa, .int .i64 xd, .slice B xs.length cB]) (by simp [results, Try.results33, go_sem, q0, q1, q2, q3, q4, q5]) rfl ⟨⟨xc, v, xb, ⟨xa, xd, xs⟩⟩, B, cB, rfl, ⟨r0, hv64, r2, r3, r4⟩, hI, Nat.le_succ _, X⟩
  · have b3 := Blk.new w1 3 #[.int .i64 by_, .int .i64 (-1), .int .i64 4095, .int .i64 4096]
    have e3 := Ext.alloc w1 (.cells #[.int .i64 by_, .int .i64 (-1), .int .i64 4095, .int .i64 4096] 3)
    go_wp2_with fail
    obtain ⟨g3, hg3⟩ : ∃ g3, g3 = w1.heap.size := ⟨_, rfl⟩
    rw [← hg3] at b3 ⊢
    have hg31 : w.heap.size + 1 < g3 := by rw [hg3]; exact b2.lt
    replace b1 := b1.ext e3
    replace b2 := b2.ext e3
    replace e1 := e1.trans e3
    generalize w1.alloc (.cells #[.int .i64 by_, .int .i64 (-1), .int .i64 4095, .int .i64 4096] 3) = w2 at *
    clear e3 hg3
    refine (HB4 _).out.mono ?_
    rintro e w3 hq
    obtain ⟨rfl, x3⟩ := hq.v
    clear hq
    replace b1 := b1.ext x3
    replace b2 := b2.ext x3
    replace b3 := b3.ext x3
    replace e1 := e1.trans x3
    obtain ⟨v, hv, hv64⟩ : ∃ v, w3.cell? ⟨g3, i, none⟩ = some (.int .i64 v) ∧ I64 v := by
      rw [b3.cell]
      match i, hi4 with
      | 0, _ => exact ⟨_, rfl, hby⟩
      | 1, _ => exact ⟨_, rfl, by unfold I64; omega⟩
      | 2, _ => exact ⟨_, rfl, by unfold I64; omega⟩
      | 3, _ => exact ⟨_, rfl, by unfold I64; omega⟩
    clear b3 x3
    have p2 := b1.cell 2
    have p2f := b1.frz 2
    have pz := b1.lt
    simp only [List.getElem?_toArray, List.getElem?_cons_succ, List.getElem?_cons_zero] at p2
    go_upto_region 13 with fail
    replace b1 := b1.set 2 (.int .i64 v)
    simp only [List.setIfInBounds_toArray, List.set_cons_zero, List.set_cons_succ] at b1
    replace b2 := b2.far (p := ⟨w.heap.size, 2, none⟩) (by simp) (.int .i64 v)
    replace e1 := e1.setNew (p := ⟨w.heap.size, 2, none⟩) (Nat.le_refl _) (.int .i64 v)
    generalize w3.setCell ⟨w.heap.size, 2, none⟩ (.int .i64 v) = w4 at *
    clear p2 p2f pz hv
    have p0 := b1.cell 0
    have p1 := b1.cell 1
    have p2 := b1.cell 2
    have p3 := b1.cell 3
    have p4 := b1.cell 4
    have p5 := b1.cell 5
    have m0 := b2.cell 0
    have m1 := b2.cell 1
    have m2 := b2.cell 2
    have m3 := b2.cell 3
    have m4 := b2.cell 4
    have m5 := b2.cell 5
    have m0f := b2.frz 0
    have m1f := b2.frz 1
    have m2f := b2.frz 2
    have m3f := b2.frz 3
    have m4f := b2.frz 4
    have m5f := b2.frz 5
    have mz := b2.lt
    simp only [List.getElem?_toArray, List.getElem?_cons_succ, List.getElem?_cons_zero] at p0 p1 p2 p3 p4 p5 m0 m1 m2 m3 m4 m5
    go_wp2_with fail
    have z := ((((((b2.set 0 (.int .i64 xc)).set 1 (.int .i64 xn)).set 2 (.int .i64 v)).set 3 (.int .i64 xa)).set 4 (.int .i64 xd)).set 5 (.slice B xs.length cB))
    simp only [List.setIfInBounds_toArray, List.set_cons_zero, List.set_cons_succ] at z
    have q0 := z.cell 0
    have q1 := z.cell 1
    have q2 := z.cell 2
    have q3 := z.cell 3
    have q4 := z.cell 4
    have q5 := z.cell 5
    simp only [List.getElem?_toArray, List.getElem?_cons_succ, List.getElem?_cons_zero] at q0 q1 q2 q3 q4 q5
    have X := ((((((e1.setNew (p := ⟨w.heap.size + 1, 0, none⟩) (Nat.le_succ _) (.int .i64 xc)).setNew (p := ⟨w.heap.size + 1, 1, none⟩) (Nat.le_succ _) (.int .i64 xn)).setNew (p := ⟨w.heap.size + 1, 2, none⟩) (Nat.le_succ _) (.int .i64 v)).setNew (p := ⟨w.heap.size + 1, 3, none⟩) (Nat.le_succ _) (.int .i64 xa)).setNew (p := ⟨w.heap.size + 1, 4, none⟩) (Nat.le_succ _) (.int .i64 xd)).setNew (p := ⟨w.heap.size + 1, 5, none⟩) (Nat.le_succ _) (.slice B xs.length cB))
    have hI := ((hL.ext e1)).kp (KpP.set (p := (· = w.heap.size + 1)) (x := ⟨w.heap.size + 1, 5, none⟩) (KpP.set (p := (· = w.heap.size + 1)) (x := ⟨w.heap.size + 1, 4, none⟩) (KpP.set (p := (· = w.heap.size + 1)) (x := ⟨w.heap.size + 1, 3, none⟩) (KpP.set (p := (· = w.heap.size + 1)) (x := ⟨w.heap.size + 1, 2, none⟩) (KpP.set (p := (· = w.heap.size + 1)) (x := ⟨w.heap.size + 1, 1, none⟩) (KpP.set (p := (· = w.heap.size + 1)) (x := ⟨w.heap.size + 1, 0, none⟩) (KpP.refl _ w4) (.inl rfl) (.int .i64 xc)) (.inl rfl) (.int .i64 xn)) (.inl rfl) (.int .i64 v)) (.inl rfl) (.int .i64 xa)) (.inl rfl) (.int .i64 xd)) (.inl rfl) (.slice B xs.length cB)) (fun hx b hb e => HNE.out hx b hb e)
    exact bodyPost_ret (v := .agg #[.int .i64 xc, .int .i64 xn, .int .i64 v, .int .i64 xa, .int .i64 xd, .slice B xs.length cB]) (by simp [results, Try.results33, go_sem, q0, q1, q2, q3, q4, q5]) rfl ⟨⟨xc, xn, v, ⟨xa, xd, xs⟩⟩, B, cB, rfl, ⟨r0, r1, hv64, r3, r4⟩, hI, Nat.le_succ _, X⟩
  · have b3 := Blk.new w1 3 #[.int .i64 by_, .int .i64 (-1), .int .i64 65536, .int .i64 65537]
    have e3 := Ext.alloc w1 (.cells #[.int .i64 by_, .int .i64 (-1), .int .i64 65536, .int .i64 65537] 3)
    go_wp2_with fail
    obtain ⟨g3, hg3⟩ : ∃ g3, g3 = w1.heap.size := ⟨_, rfl⟩
    rw [← hg3] at b3 ⊢
    have hg31 : w.heap.size + 1 < g3 := by rw [hg3]; exact b2.lt
    replace b1 := b1.ext e3
    replace b2 := b2.ext e3
    replace e1 := e1.trans e3
    generalize w1.alloc (.cells #[.int .i64 by_, .int .i64 (-1), .int .i64 65536, .int .i64 65537] 3) = w2 at *
    clear e3 hg3
    refine (HB4 _).out.mono ?_
    rintro e w3 hq
    obtain ⟨rfl, x3⟩ := hq.v
    clear hq
    replace b1 := b1.ext x3
    replace b2 := b2.ext x3
    replace b3 := b3.ext x3
    replace e1 := e1.trans x3
    obtain ⟨v, hv, hv64⟩ : ∃ v, w3.cell? ⟨g3, i, none⟩ = some (.int .i64 v) ∧ I64 v := by
      rw [b3.cell]
      match i, hi4 with
      | 0, _ => exact ⟨_, rfl, hby⟩
      | 1, _ => exact ⟨_, rfl, by unfold I64; omega⟩
      | 2, _ => exact ⟨_, rfl, by unfold I64; omega⟩
      | 3, _ => exact ⟨_, rfl, by unfold I64; omega⟩
    clear b3 x3
    have p3 := b1.cell 3
    have p3f := b1.frz 3
    have pz := b1.lt
    simp only [List.getElem?_toArray, List.getElem?_cons_succ, List.getElem?_cons_zero] at p3
    go_upto_region 13 with fail
    replace b1 := b1.set 3 (.int .i64 v)
    simp only [List.setIfInBounds_toArray, List.set_cons_zero, List.set_cons_succ] at b1
    replace b2 := b2.far (p := ⟨w.heap.size, 3, none⟩) (by simp) (.int .i64 v)
    replace e1 := e1.setNew (p := ⟨w.heap.size, 3, none⟩) (Nat.le_refl _) (.int .i64 v)
    generalize w3.setCell ⟨w.heap.size, 3, none⟩ (.int .i64 v) = w4 at *
    clear p3 p3f pz hv
    have p0 := b1.cell 0
    have p1 := b1.cell 1
    have p2 := b1.cell 2
    have p3 := b1.cell 3
    have p4 := b1.cell 4
    have p5 := b1.cell 5
    have m0 := b2.cell 0
    have m1 := b2.cell 1
    have m2 := b2.cell 2
    have m3 := b2.cell 3
    have m4 := b2.cell 4
    have m5 := b2.cell 5
    have m0f := b2.frz 0
    have m1f := b2.frz 1
    have m2f := b2.frz 2
    have m3f := b2.frz 3
    have m4f := b2.frz 4
    have m5f := b2.frz 5
    have mz := b2.lt
    simp only [List.getElem?_toArray, List.getElem?_cons_succ, List.getElem?_cons_zero] at p0 p1 p2 p3 p4 p5 m0 m1 m2 m3 m4 m5
    go_wp2_with fail
    have z := ((((((b2.set 0 (.int .i64 xc)).set 1 (.int .i64 xn)).set 2 (.int .i64 xb)).set 3 (.int .i64 v)).set 4 (.int .i64 xd)).set 5 (.slice B xs.length cB))
    simp only [List.setIfInBounds_toArray, List.set_cons_zero, List.set_cons_succ] at z
    have q0 := z.cell 0
    have q1 := z.cell 1
    have q2 := z.cell 2
    have q3 := z.cell 3
    have q4 := z.cell 4
    have q5 := z.cell 5
    simp only [List.getElem?_toArray, List.getElem?_cons_succ, List.getElem?_cons_zero] at q0 q1 q2 q3 q4 q5
    have X := ((((((e1.setNew (p := ⟨w.heap.size + 1, 0, none⟩) (Nat.le_succ _) (.int .i64 xc)).setNew (p := ⟨w.heap.size + 1, 1, none⟩) (Nat.le_succ _) (.int .i64 xn)).setNew (p := ⟨w.heap.size + 1, 2, none⟩) (Nat.le_succ _) (.int .i64 xb)).setNew (p := ⟨w.heap.size + 1, 3, none⟩) (Nat.le_succ _) (.int .i64 v)).setNew (p := ⟨w.heap.size + 1, 4, none⟩) (Nat.le_succ _) (.int .i64 xd)).setNew (p := ⟨w.heap.size + 1, 5, none⟩) (Nat.le_succ _) (.slice B xs.length cB))
    have hI := ((hL.ext e1)).kp (KpP.set (p := (· = w.heap.size + 1)) (x := ⟨w.heap.size + 1, 5, none⟩) (KpP.set (p := (· = w.heap.size + 1)) (x := ⟨w.heap.size + 1, 4, none⟩) (KpP.set (p := (· = w.heap.size + 1)) (x := ⟨w.heap.size + 1, 3, none⟩) (KpP.set (p := (· = w.heap.size + 1)) (x := ⟨w.heap.size + 1, 2, none⟩) (KpP.set (p := (· = w.heap.size + 1)) (x := ⟨w.heap.size + 1, 1, none⟩) (KpP.set (p := (· = w.heap.size + 1)) (x := ⟨w.heap.size + 1, 0, none⟩) (KpP.refl _ w4) (.inl rfl) (.int .i64 xc)) (.inl rfl) (.int .i64 xn)) (.inl rfl) (.int .i64 xb)) (.inl rfl) (.int .i64 v)) (.inl rfl) (.int .i64 xd)) (.inl rfl) (.slice B xs.length cB)) (fun hx b hb e => HNE.out hx b hb e)
    exact bodyPost_ret (v := .agg #[.int .i64 xc, .int .i64 xn, .int .i64 xb, .int .i64 v, .int .i64 xd, .slice B xs.length cB]) (by simp [results, Try.results33, go_sem, q0, q1, q2, q3, q4, q5]) rfl ⟨⟨xc, xn, xb, ⟨v, xd, xs⟩⟩, B, cB, rfl, ⟨r0, r1, r2, hv64, r4⟩, hI, Nat.le_succ _, X⟩
  · have b3 := Blk.new w1 3 #[.int .i64 by_, .int .i64 (-1), .int .i64 65536, .int .i64 65537]
    have e3 := Ext.alloc w1 (.cells #[.int .i64 by_, .int .i64 (-1), .int .i64 65536, .int .i64 65537] 3)
    go_wp2_with fail
    obtain ⟨g3, hg3⟩ : ∃ g3, g3 = w1.heap.size := ⟨_, rfl⟩
    rw [← hg3] at b3 ⊢
    have hg31 : w.heap.size + 1 < g3 := by rw [hg3]; exact b2.lt
    replace b1 := b1.ext e3
    replace b2 := b2.ext e3
    replace e1 := e1.trans e3
    generalize w1.alloc (.cells #[.int .i64 by_, .int .i64 (-1), .int .i64 65536, .int .i64 65537] 3) = w2 at *
    clear e3 hg3
    refine (HB4 _).out.mono ?_
    rintro e w3 hq
    obtain ⟨rfl, x3⟩ := hq.v
    clear hq
    replace b1 := b1.ext x3
    replace b2 := b2.ext x3
    replace b3 := b3.ext x3
    replace e1 := e1.trans x3
    obtain ⟨v, hv, hv64⟩ : ∃ v, w3.cell? ⟨g3, i, none⟩ = some (.int .i64 v) ∧ I64 v := by
      rw [b3.cell]
      match i, hi4 with
      | 0, _ => exact ⟨_, rfl, hby⟩
      | 1, _ => exact ⟨_, rfl, by unfold I64; omega⟩
      | 2, _ => exact ⟨_, rfl, by unfold I64; omega⟩
      | 3, _ => exact ⟨_, rfl, by unfold I64; omega⟩
    clear b3 x3
    have p4 := b1.cell 4
    have p4f := b1.frz 4
    have pz := b1.lt
    simp only [List.getElem?_toArray, List.getElem?_cons_succ, List.getElem?_cons_zero] at p4
    go_upto_region 13 with fail
    replace b1 := b1.set 4 (.int .i64 v)
    simp only [List.setIfInBounds_toArray, List.set_cons_zero, List.set_cons_succ] at b1
    replace b2 := b2.far (p := ⟨w.heap.size, 4, none⟩) (by simp) (.int .i64 v)
    replace e1 := e1.setNew (p := ⟨w.heap.size, 4, none⟩) (Nat.le_refl _) (.int .i64 v)
    generalize w3.setCell ⟨w.heap.size, 4, none⟩ (.int .i64 v) = w4 at *
    clear p4 p4f pz hv
    have p0 := b1.cell 0
    have p1 := b1.cell 1
    have p2 := b1.cell 2
    have p3 := b1.cell 3
    have p4 := b1.cell 4
    have p5 := b1.cell 5
    have m0 := b2.cell 0
    have m1 := b2.cell 1
    have m2 := b2.cell 2
    have m3 := b2.cell 3
    have m4 := b2.cell 4
    have m5 := b2.cell 5
    have m0f := b2.frz 0
    have m1f := b2.frz 1
    have m2f := b2.frz 2
    have m3f := b2.frz 3
    have m4f := b2.frz 4
    have m5f := b2.frz 5
    have mz := b2.lt
    simp only [List.getElem?_toArray, List.getElem?_cons_succ, List.getElem?_cons_zero] at p0 p1 p2 p3 p4 p5 m0 m1 m2 m3 m4 m5
    go_wp2_with fail
    have z := ((((((b2.set 0 (.int .i64 xc)).set 1 (.int .i64 xn)).set 2 (.int .i64 xb)).set 3 (.int .i64 xa)).set 4 (.int .i64 v)).set 5 (.slice B xs.length cB))
    simp only [List.setIfInBounds_toArray, List.set_cons_zero, List.set_cons_succ] at z
    have q0 := z.cell 0
    have q1 := z.cell 1
    have q2 := z.cell 2
    have q3 := z.cell 3
    have q4 := z.cell 4
    have q5 := z.cell 5
    simp only [List.getElem?_toArray, List.getElem?_cons_succ, List.getElem?_cons_zero] at q0 q1 q2 q3 q4 q5
    have X := ((((((e1.setNew (p := ⟨w.heap.size + 1, 0, none⟩) (Nat.le_succ _) (.int .i64 xc)).setNew (p := ⟨w.heap.size + 1, 1, none⟩) (Nat.le_succ _) (.int .i64 xn)).setNew (p := ⟨w.heap.size + 1, 2, none⟩) (Nat.le_succ _) (.int .i64 xb)).setNew (p := ⟨w.heap.size + 1, 3, none⟩) (Nat.le_succ _) (.int .i64 xa)).setNew (p := ⟨w.heap.size + 1, 4, none⟩) (Nat.le_succ _) (.int .i64 v)).setNew (p := ⟨w.heap.size + 1, 5, none⟩) (Nat.le_succ _) (.slice B xs.length cB))
    have hI := ((hL.ext e1)).kp (KpP.set (p := (· = w.heap.size + 1)) (x := ⟨w.heap.size + 1, 5, none⟩) (KpP.set (p := (· = w.heap.size + 1)) (x := ⟨w.heap.size + 1, 4, none⟩) (KpP.set (p := (· = w.heap.size + 1)) (x := ⟨w.heap.size + 1, 3, none⟩) (KpP.set (p := (· = w.heap.size + 1)) (x := ⟨w.heap.size + 1, 2, none⟩) (KpP.set (p := (· = w.heap.size + 1)) (x := ⟨w.heap.size + 1, 1, none⟩) (KpP.set (p := (· = w.heap.size + 1)) (x := ⟨w.heap.size + 1, 0, none⟩) (KpP.refl _ w4) (.inl rfl) (.int .i64 xc)) (.inl rfl) (.int .i64 xn)) (.inl rfl) (.int .i64 xb)) (.inl rfl) (.int .i64 xa)) (.inl rfl) (.int .i64 v)) (.inl rfl) (.slice B xs.length cB)) (fun hx b hb e => HNE.out hx b hb e)
    exact bodyPost_ret (v := .agg #[.int .i64 xc, .int .i64 xn, .int .i64 xb, .int .i64 xa, .int .i64 v, .slice B xs.length cB]) (by simp [results, Try.results33, go_sem, q0, q1, q2, q3, q4, q5]) rfl ⟨⟨xc, xn, xb, ⟨xa, v, xs⟩⟩, B, cB, rfl, ⟨r0, r1, r2, r3, hv64⟩, hI, Nat.le_succ _, X⟩
  · have hE0 := Ext.alloc w1 (.cells #[] 3)
    have hown : OwnS (w1.alloc (.cells #[] 3)) w1.heap.size 3 1 (some ⟨w1.heap.size, 0, none⟩) 0 0 [] :=
      OwnS.of_blk (Blk.new w1 3 #[]) (Nat.le_refl _) rfl (Nat.le_refl _) (Nat.zero_le _)
    have HB8 := Lib.hid (show 0 + xs.length ≤ maxLen ∧ (0 + xs.length) * 8 ≤ 140737488355328 by unfold maxLen; omega)
    have hcl := (hL.ext (e1.trans hE0)).cells
    have p5 := (b1.ext hE0).cell 5
    simp only [List.getElem?_toArray, List.getElem?_cons_succ, List.getElem?_cons_zero] at p5
    go_wp2_with ((at_builtin; refine wpList_app _ rfl _ _ _ rfl w1.heap.size 3 iN _ 1 8 Try.underlying22 jN0 jN1 jN2 jN3 rfl (by omega) _ 0 0 [] rfl hown B xs.length cB (xs.map (Value.int .i64)) rfl (by simp) hcl (ints_one _) HB8.out.1 HB8.out.2 (by simp) ?_; intro A' c' w2 ho' hg' hat'))
    simp only [List.nil_append, Nat.zero_add] at ho'
    have x2 : Ext w1 w2 := hE0.grown hg' (by simp)
    have b3 := Blk.new w2 3 #[.int .i64 by_, .int .i64 (-1), .int .i64 1114111, .int .i64 1114112]
    have e3 := Ext.alloc w2 (.cells #[.int .i64 by_, .int .i64 (-1), .int .i64 1114111, .int .i64 1114112] 3)
    obtain ⟨g3, hg3⟩ : ∃ g3, g3 = w2.heap.size := ⟨_, rfl⟩
    rw [← hg3] at b3 ⊢
    have hbz := b1.lt
    have hbz2 := b2.lt
    replace x2 := x2.trans e3
    replace ho' := OwnS.ext ho' e3
    generalize w2.alloc (.cells #[.int .i64 by_, .int .i64 (-1), .int .i64 1114111, .int .i64 1114112] 3) = w3 at *
    clear e3 hg3 hE0 hown hcl p5 hg' hat'
    refine (HB4 _).out.mono ?_
    rintro e w4 hq
    obtain ⟨rfl, x3⟩ := hq.v
    clear hq
    replace b3 := b3.ext x3
    replace x2 := x2.trans x3
    replace ho' := OwnS.ext ho' x3
    obtain ⟨v, hv, hv64⟩ : ∃ v, w4.cell? ⟨g3, i, none⟩ = some (.int .i64 v) ∧ I64 v := by
      rw [b3.cell]
      match i, hi4 with
      | 0, _ => exact ⟨_, rfl, hby⟩
      | 1, _ => exact ⟨_, rfl, by unfold I64; omega⟩
      | 2, _ => exact ⟨_, rfl, by unfold I64; omega⟩
      | 3, _ => exact ⟨_, rfl, by unfold I64; omega⟩
    clear b3 x3
    have hbase := x2.size
    have hrng := hL.rng
    go_upto_region 13 with ((at_builtin; refine wpList_app1V rfl _ _ _ rfl 3 iN _ 8 Try.underlying22 jN0 jN1 jN2 jN3 (by omega) rfl w1.heap.size (.int .i64 v) rfl rfl A' xs.length c' _ rfl ho' rfl hl hbase ?_; intro A5 c5 w5 ho5 hg5 hat5; have x15 := Ext.app x2 ho' hg5; have b15 := b1.ext x15; have p5 := b15.cell 5; have p5f := b15.frz 5; have p5z := b15.lt; simp only [List.getElem?_toArray, List.getElem?_cons_succ, List.getElem?_cons_zero] at p5))
    obtain ⟨ys, hys⟩ : ∃ ys, ys = xs ++ [v] := ⟨_, rfl⟩
    have hyl : xs.length + 1 = ys.length := by rw [hys]; simp
    have hyr : ∀ y ∈ ys, I64 y := by
      rw [hys]; intro y hy
      rcases List.mem_append.1 hy with hy | hy
      · exact hrng y hy
      · obtain rfl := List.mem_singleton.1 hy
        exact hv64
    have ho6 : OwnI w5 w1.heap.size 3 A5 c5 ys := by
      unfold OwnI; rw [← hyl, hys, List.map_append]; exact ho5
    have hI5 := IL.of_own ho6 hyr
    have hrow := OwnS.row ho6
    have HNE2 := Lib.hid (show ys ≠ [] → ∀ b, A5.map (·.block) = some b → ¬ b = w.heap.size + 1 from fun hx b hb e => by have := hrow b hb; omega)
    have hkx : KpP (· = w.heap.size) w5 (w5.setCell ⟨w.heap.size, 5, none⟩ (.slice A5 ys.length c5)) := KpP.set (p := (· = w.heap.size)) (KpP.refl _ _) (.inl rfl) _
    have hI6 := hI5.kp hkx (fun hx b hb e => by have := hrow b hb; omega)
    rw [hyl]
    replace b1 := b15.set 5 (.slice A5 ys.length c5)
    simp only [List.setIfInBounds_toArray, List.set_cons_zero, List.set_cons_succ] at b1
    replace b2 := (b2.ext x15).far (p := ⟨w.heap.size, 5, none⟩) (by simp) (.slice A5 ys.length c5)
    replace e1 := (e1.trans x15).setNew (p := ⟨w.heap.size, 5, none⟩) (Nat.le_refl _) (.slice A5 ys.length c5)
    generalize w5.setCell ⟨w.heap.size, 5, none⟩ (.slice A5 ys.length c5) = w6 at *
    have hyl2 : ys.length ≤ xs.length + 1 := by omega
    clear p5 p5f p5z hv hkx hI5 ho6 ho5 hg5 hat5 b15 x15 hys hyl ho'
    have p0 := b1.cell 0
    have p1 := b1.cell 1
    have p2 := b1.cell 2
    have p3 := b1.cell 3
    have p4 := b1.cell 4
    have p5 := b1.cell 5
    have m0 := b2.cell 0
    have m1 := b2.cell 1
    have m2 := b2.cell 2
    have m3 := b2.cell 3
    have m4 := b2.cell 4
    have m5 := b2.cell 5
    have m0f := b2.frz 0
    have m1f := b2.frz 1
    have m2f := b2.frz 2
    have m3f := b2.frz 3
    have m4f := b2.frz 4
    have m5f := b2.frz 5
    have mz := b2.lt
    simp only [List.getElem?_toArray, List.getElem?_cons_succ, List.getElem?_cons_zero] at p0 p1 p2 p3 p4 p5 m0 m1 m2 m3 m4 m5
    go_wp2_with fail
    have z := ((((((b2.set 0 (.int .i64 xc)).set 1 (.int .i64 xn)).set 2 (.int .i64 xb)).set 3 (.int .i64 xa)).set 4 (.int .i64 xd)).set 5 (.slice A5 ys.length c5))
    simp only [List.setIfInBounds_toArray, List.set_cons_zero, List.set_cons_succ] at z
    have q0 := z.cell 0
    have q1 := z.cell 1
    have q2 := z.cell 2
    have q3 := z.cell 3
    have q4 := z.cell 4
    have q5 := z.cell 5
    simp only [List.getElem?_toArray, List.getElem?_cons_succ, List.getElem?_cons_zero] at q0 q1 q2 q3 q4 q5
    have X := ((((((e1.setNew (p := ⟨w.heap.size + 1, 0, none⟩) (Nat.le_succ _) (.int .i64 xc)).setNew (p := ⟨w.heap.size + 1, 1, none⟩) (Nat.le_succ _) (.int .i64 xn)).setNew (p := ⟨w.heap.size + 1, 2, none⟩) (Nat.le_succ _) (.int .i64 xb)).setNew (p := ⟨w.heap.size + 1, 3, none⟩) (Nat.le_succ _) (.int .i64 xa)).setNew (p := ⟨w.heap.size + 1, 4, none⟩) (Nat.le_succ _) (.int .i64 xd)).setNew (p := ⟨w.heap.size + 1, 5, none⟩) (Nat.le_succ _) (.slice A5 ys.length c5))
    have hI := (hI6).kp (KpP.set (p := (· = w.heap.size + 1)) (x := ⟨w.heap.size + 1, 5, none⟩) (KpP.set (p := (· = w.heap.size + 1)) (x := ⟨w.heap.size + 1, 4, none⟩) (KpP.set (p := (· = w.heap.size + 1)) (x := ⟨w.heap.size + 1, 3, none⟩) (KpP.set (p := (· = w.heap.size + 1)) (x := ⟨w.heap.size + 1, 2, none⟩) (KpP.set (p := (· = w.heap.size + 1)) (x := ⟨w.heap.size + 1, 1, none⟩) (KpP.set (p := (· = w.heap.size + 1)) (x := ⟨w.heap.size + 1, 0, none⟩) (KpP.refl _ w6) (.inl rfl) (.int .i64 xc)) (.inl rfl) (.int .i64 xn)) (.inl rfl) (.int .i64 xb)) (.inl rfl) (.int .i64 xa)) (.inl rfl) (.int .i64 xd)) (.inl rfl) (.slice A5 ys.length c5)) (fun hx b hb e => HNE2.out hx b hb e)
    exact bodyPost_ret (v := .agg #[.int .i64 xc, .int .i64 xn, .int .i64 xb, .int .i64 xa, .int .i64 xd, .slice A5 ys.length c5]) (by simp [results, Try.results33, go_sem, q0, q1, q2, q3, q4, q5]) rfl ⟨⟨xc, xn, xb, ⟨xa, xd, ys⟩⟩, A5, c5, rfl, ⟨r0, r1, r2, r3, r4⟩, hI, hyl2, X⟩

end Go.Proofs.Ythhfjomjjhenkaa
