/- The walk of the reference's Join. -/
import Derived.Test.YthhfjomjjhenkaaE21
namespace Go.Proofs.Ythhfjomjjhenkaa
open Go.RowKit

theorem Fr.map {w : World} {A : Option Addr} (h : Fr w A) (k : Nat) : Fr w (A.map (fun x => x.add k)) := by
  intro b hb
  cases A with
  | none => cases hb
  | some x =>
    refine h b ?_
    rw [← hb]
    simp only [Option.map_some]
    unfold Addr.add
    split <;> rfl

set_option maxHeartbeats 2000000 in
theorem rJoin_any (T : Option Addr) (tc : Nat) (t : List Int) (a b : Ed) (A B : Option Addr) (c c' : Nat) (w : World) (ht : IL w T tc t) (hl : IL w A c a.ins) (hl' : IL w B c' b.ins)
    (hlen : t.length ≤ 1000000) (hlen2 : a.ins.length ≤ 1000000) (hlen3 : b.ins.length ≤ 1000000) (ea : EdOf t.length a) (eb : EdOf (spliceE t a).length b) :
    Calls Try.prog 30 #[.slice T t.length tc, .agg #[.int .i64 a.at_, .int .i64 a.del, .slice A a.ins.length c], .agg #[.int .i64 b.at_, .int .i64 b.del, .slice B b.ins.length c']] w (RetEdV (joinE t a b) w) := by
  obtain ⟨B2, B3, B4, X⟩ := alloc3 w 25 #[.int .i64 a.at_, .int .i64 a.del, .slice A a.ins.length c] 25 #[.int .i64 b.at_, .int .i64 b.del, .slice B b.ins.length c'] 25 #[.int .i64 0, .int .i64 0, .slice none 0 0]
  have hsl := spliceE_len ea
  have hsl2 := spliceE_len eb
  have hbd := join_bd ea eb
  have g1 := ea.1
  have g2 := ea.2.1
  have g3 := ea.2.2.1
  have k1 := eb.1
  have k2 := eb.2.1
  have k3 := eb.2.2.1
  have hat := joinAt_if g1 k1
  have hst := joinStay_if ea eb
  have HJ := Lib.hid (show joinE t a b = ⟨joinAt a b, (t.length : Int) - joinStay t a b - joinAt a b, ((spliceE (spliceE t a) b).drop (joinAt a b)).take ((spliceE (spliceE t a) b).length - joinStay t a b - joinAt a b)⟩ from rfl)
  have HC := Lib.hid (rSplice_any T tc t a.at_ a.del A c a.ins _ (ht.ext X) (hl.ext X) (by omega) (by omega) g1 g2 g3)
  have HC2 := fun (w1 : World) (C : Option Addr) (cc : Nat) (h : IL w1 C cc (spliceE t a)) (h' : IL w1 B c' b.ins) => Lib.hid (rSplice_any C cc (spliceE t a) b.at_ b.del B c' b.ins w1 h h' (by omega) (by omega) k1 k2 k3)
  change ∀ (w1 : World) (C : Option Addr) (cc : Nat), _ → _ → Hid (Calls _ _ _ _ (RetIL (spliceE (spliceE t a) b) w1)) at HC2
  change Hid (Calls _ _ _ _ (RetIL (spliceE t a) _)) at HC
  have hl2 : (spliceE (spliceE t a) b).length ≤ 1099511627776 := by omega
  have htI : (t.length : Int) ≤ 1000000 := by omega
  have hsI : ((spliceE t a).length : Int) ≤ 3000000000 := by omega
  generalize joinAt a b = at_ at *
  generalize joinStay t a b = st at *
  generalize spliceE (spliceE t a) b = s2 at *
  generalize spliceE t a = s at *
  have l0 := hbd.1
  have l1 : (at_ : Int) ≤ (s2.length : Int) - st := by omega
  have l2 : (s2.length : Int) - st ≤ s2.length := by omega
  have l3 : ((s2.length : Int) - st).toNat = s2.length - st := by omega
  have l4 := hbd.2
  clear hlen hlen2 hlen3 hsl hsl2 ea eb hbd
  go_enter Try.func30, Try.ntmps30
  go_wp2_with fail
  refine HC.out.mono ?_
  rintro e w1 ⟨C, cc, rfl, hi, hx1, _⟩
  obtain ⟨q0, q1, q2, _, _, _, hz3⟩ := (B3.ext hx1).c3
  have X1 := X.trans hx1
  go_wp2_with fail
  refine (HC2 _ _ _ hi (hl'.ext X1)).out.mono ?_
  rintro e w2 ⟨C2, cc2, rfl, hi2, hx2, hfr⟩
  clear q0 q1 q2 hz3
  obtain ⟨p0, p1, p2, _, _, _, hz2⟩ := ((B2.ext hx1).ext hx2).c3
  obtain ⟨q0, q1, q2, _, _, _, hz3⟩ := ((B3.ext hx1).ext hx2).c3
  have B4' := (B4.ext hx1).ext hx2
  obtain ⟨r0, r1, r2, s0, s1, s3, hz4⟩ := B4'.c3
  have X2 := X1.trans hx2
  have hbd := hi2.len
  have hcl : (s2.length : Int) - st ≤ cc2 := by omega
  have hul : ((s2.drop at_).take (s2.length - st - at_)).length = s2.length - st - at_ := by simp; omega
  have hin := fun h => IL.cut_in hi2 (k := at_) (j := s2.length - st) h (by omega)
  have hend := fun h => IL.cut_end (j := s2.length - st) (k := at_) hi2 h
  generalize hu : (s2.drop at_).take (s2.length - st - at_) = u at *
  have HUL := Lib.hid hul.symm
  have HIN := Lib.hid hin
  have HEND := Lib.hid hend
  clear hul hin hend hu
  have hz5 := (B4.ext hx1).lt
  by_cases hc : cc2 = at_
  · subst hc
    go_wp2
    have hsw : (t.length : Int) - cc2 - st = (t.length : Int) - st - cc2 := by omega
    rw [HUL.out]
    have hE2 := ((X2.setNew (p := ⟨w.heap.size + 1 + 1, 0, none⟩) (by simp; omega) (.int .i64 cc2)).setNew (p := ⟨w.heap.size + 1 + 1, 1, none⟩) (by simp; omega) (.int .i64 ((t.length : Int) - cc2 - st))).setNew (p := ⟨w.heap.size + 1 + 1, 2, none⟩) (by simp; omega) (.slice C2 u.length 0)
    have hil := (((HEND.out trivial).setOld hfr (p := ⟨w.heap.size + 1 + 1, 0, none⟩) hz5 (.int .i64 cc2)).setOld hfr (p := ⟨w.heap.size + 1 + 1, 1, none⟩) hz5 (.int .i64 ((t.length : Int) - cc2 - st))).setOld hfr (p := ⟨w.heap.size + 1 + 1, 2, none⟩) hz5 (.slice C2 u.length 0)
    exact bodyPost_ret (v := .agg #[.int .i64 cc2, .int .i64 ((t.length : Int) - cc2 - st), .slice C2 u.length 0]) (by simp [results, Try.results30, go_sem, r0, r1, r2]) rfl
      ⟨C2, 0, by rw [HJ.out, hsw], by rw [HJ.out]; exact hil, hE2⟩
  · go_wp2
    have hsw : (t.length : Int) - at_ - st = (t.length : Int) - st - at_ := by omega
    rw [HUL.out]
    have hE2 := ((X2.setNew (p := ⟨w.heap.size + 1 + 1, 0, none⟩) (by simp; omega) (.int .i64 at_)).setNew (p := ⟨w.heap.size + 1 + 1, 1, none⟩) (by simp; omega) (.int .i64 ((t.length : Int) - at_ - st))).setNew (p := ⟨w.heap.size + 1 + 1, 2, none⟩) (by simp; omega) (.slice (Option.map (fun x => x.add at_) C2) u.length (cc2 - at_))
    have hil := (((HIN.out (by omega)).setOld (hfr.map _) (p := ⟨w.heap.size + 1 + 1, 0, none⟩) hz5 (.int .i64 at_)).setOld (hfr.map _) (p := ⟨w.heap.size + 1 + 1, 1, none⟩) hz5 (.int .i64 ((t.length : Int) - at_ - st))).setOld (hfr.map _) (p := ⟨w.heap.size + 1 + 1, 2, none⟩) hz5 (.slice (Option.map (fun x => x.add at_) C2) u.length (cc2 - at_))
    exact bodyPost_ret (v := .agg #[.int .i64 at_, .int .i64 ((t.length : Int) - at_ - st), .slice (Option.map (fun x => x.add at_) C2) u.length (cc2 - at_)]) (by simp [results, Try.results30, go_sem, r0, r1, r2]) rfl
      ⟨_, _, by rw [HJ.out, hsw], by rw [HJ.out]; exact hil, hE2⟩
end Go.Proofs.Ythhfjomjjhenkaa
