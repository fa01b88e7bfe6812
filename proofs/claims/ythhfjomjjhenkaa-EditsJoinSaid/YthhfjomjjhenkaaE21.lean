/- The walks of edits.Join and of the reference's Join. -/
import Derived.Test.YthhfjomjjhenkaaE18
import Derived.Test.YthhfjomjjhenkaaE19
namespace Go.Proofs.Ythhfjomjjhenkaa
open Go.RowKit

/-- how many of the last symbols stay -/
def joinStay (t : List Int) (a b : Ed) : Nat := (min ((t.length : Int) - a.at_ - a.del) (((spliceE t a).length : Int) - b.at_ - b.del)).toNat
def joinAt (a b : Ed) : Nat := (min a.at_ b.at_).toNat
def joinE (t : List Int) (a b : Ed) : Ed :=
  ⟨joinAt a b, (t.length : Int) - joinStay t a b - joinAt a b, ((spliceE (spliceE t a) b).drop (joinAt a b)).take ((spliceE (spliceE t a) b).length - joinStay t a b - joinAt a b)⟩

theorem EdOf_of_err {n : Nat} {e : Ed} (h : editErr n e.at_ e.del e.ins = 0) : EdOf n e := by
  obtain ⟨h1, h2, h3, h4, _⟩ := editErr_ok h
  exact ⟨h1, h2, h3, h4⟩
theorem join_bd {t : List Int} {a b : Ed} (ha : EdOf t.length a) (hb : EdOf (spliceE t a).length b) :
    joinAt a b + joinStay t a b ≤ (spliceE (spliceE t a) b).length ∧ joinAt a b + joinStay t a b ≤ t.length := by
  have h1 := spliceE_len ha
  have h2 := spliceE_len hb
  obtain ⟨a1, a2, a3, _⟩ := ha
  obtain ⟨b1, b2, b3, _⟩ := hb
  unfold joinAt joinStay
  omega
theorem joinAt_if {a b : Ed} (ha : 0 ≤ a.at_) (hb : 0 ≤ b.at_) : (if b.at_ < a.at_ then b.at_ else a.at_) = (joinAt a b : Int) := by
  unfold joinAt; split <;> omega
theorem joinStay_if {t : List Int} {a b : Ed} (ha : EdOf t.length a) (hb : EdOf (spliceE t a).length b) :
    (if ((spliceE t a).length : Int) - b.at_ - b.del < (t.length : Int) - a.at_ - a.del then ((spliceE t a).length : Int) - b.at_ - b.del else (t.length : Int) - a.at_ - a.del) = (joinStay t a b : Int) := by
  obtain ⟨a1, a2, a3, _⟩ := ha
  obtain ⟨b1, b2, b3, _⟩ := hb
  unfold joinStay; split <;> omega

set_option maxHeartbeats 1000000 in
theorem join_no1 (T : Option Addr) (tc : Nat) (t : List Int) (a b : Ed) (A B : Option Addr) (c c' : Nat) (w : World) (ht : IL w T tc t) (hl : IL w A c a.ins) (hd : I64 a.del)
    (hlen : t.length ≤ 1000000000) (hlen2 : a.ins.length ≤ 1000000000) (he : editErr t.length a.at_ a.del a.ins ≠ 0) :
    Calls Try.prog 28 #[.slice T t.length tc, .agg #[.int .i64 a.at_, .int .i64 a.del, .slice A a.ins.length c], .agg #[.int .i64 b.at_, .int .i64 b.del, .slice B b.ins.length c']] w (RetEdE ⟨0, 0, []⟩ (editErr t.length a.at_ a.del a.ins) w) := by
  obtain ⟨B2, B3, B4, X⟩ := alloc3 w 25 #[.int .i64 a.at_, .int .i64 a.del, .slice A a.ins.length c] 25 #[.int .i64 b.at_, .int .i64 b.del, .slice B b.ins.length c'] 25 #[.int .i64 0, .int .i64 0, .slice none 0 0]
  have HC := Lib.hid (splice_no T tc t a.at_ a.del A c a.ins _ (ht.ext X) (hl.ext X) hd (by omega) (by omega) he)
  generalize editErr t.length a.at_ a.del a.ins = er at *
  clear hlen hlen2
  go_enter Try.func28, Try.ntmps28
  go_wp2_with fail
  refine HC.out.mono ?_
  rintro e w1 ⟨C, cc, rfl, hi, hx1, _⟩
  obtain ⟨r0, r1, r2, s0, s1, s2, hz4⟩ := (B4.ext hx1).c3
  go_wp2
  exact bodyPost_ret (v := .tuple #[.agg #[.int .i64 0, .int .i64 0, .slice none 0 0], .int .i64 er]) (by simp [results, Try.results28, go_sem, r0, r1, r2]) rfl
    ⟨none, 0, rfl, IL.nil _, (((X.trans hx1).setNew (by simp; omega) _).setNew (by simp; omega) _).setNew (by simp; omega) _, Fr.nil _⟩

set_option maxHeartbeats 1000000 in
theorem join_no2 (T : Option Addr) (tc : Nat) (t : List Int) (a b : Ed) (A B : Option Addr) (c c' : Nat) (w : World) (ht : IL w T tc t) (hl : IL w A c a.ins) (hl' : IL w B c' b.ins) (hd : I64 a.del) (hd' : I64 b.del)
    (hlen : t.length ≤ 1000000000) (hlen2 : a.ins.length ≤ 1000000000) (hlen3 : b.ins.length ≤ 1000000000) (h1 : editErr t.length a.at_ a.del a.ins = 0) (he : editErr (spliceE t a).length b.at_ b.del b.ins ≠ 0) :
    Calls Try.prog 28 #[.slice T t.length tc, .agg #[.int .i64 a.at_, .int .i64 a.del, .slice A a.ins.length c], .agg #[.int .i64 b.at_, .int .i64 b.del, .slice B b.ins.length c']] w (RetEdE ⟨0, 0, []⟩ (editErr (spliceE t a).length b.at_ b.del b.ins) w) := by
  obtain ⟨B2, B3, B4, X⟩ := alloc3 w 25 #[.int .i64 a.at_, .int .i64 a.del, .slice A a.ins.length c] 25 #[.int .i64 b.at_, .int .i64 b.del, .slice B b.ins.length c'] 25 #[.int .i64 0, .int .i64 0, .slice none 0 0]
  have HC := Lib.hid (splice_ok T tc t a.at_ a.del A c a.ins _ (ht.ext X) (hl.ext X) hd (by omega) (by omega) h1)
  have hsl := spliceE_len (EdOf_of_err h1)
  have g2 := (EdOf_of_err h1).2.1
  have HC2 := fun (w1 : World) (C : Option Addr) (cc : Nat) (h : IL w1 C cc (spliceE t a)) (h' : IL w1 B c' b.ins) => Lib.hid (splice_no C cc (spliceE t a) b.at_ b.del B c' b.ins w1 h h' hd' (by omega) (by omega) he)
  have HH := Lib.hid (show spliceL t a.at_ a.del a.ins = spliceE t a from rfl)
  rw [HH.out] at HC
  generalize editErr (spliceE t a).length b.at_ b.del b.ins = er at *
  generalize spliceE t a = s at *
  clear hlen hlen2 hlen3 hsl h1 HH
  go_enter Try.func28, Try.ntmps28
  go_wp2_with fail
  refine HC.out.mono ?_
  rintro e w1 ⟨C, cc, rfl, hi, hx1, _⟩
  obtain ⟨q0, q1, q2, _, _, _, hz3⟩ := (B3.ext hx1).c3
  have X1 := X.trans hx1
  go_wp2_with fail
  refine (HC2 _ _ _ hi (hl'.ext X1)).out.mono ?_
  rintro e w2 ⟨C2, cc2, rfl, hi2, hx2, _⟩
  obtain ⟨r0, r1, r2, s0, s1, s2, hz4⟩ := ((B4.ext hx1).ext hx2).c3
  go_wp2
  exact bodyPost_ret (v := .tuple #[.agg #[.int .i64 0, .int .i64 0, .slice none 0 0], .int .i64 er]) (by simp [results, Try.results28, go_sem, r0, r1, r2]) rfl
    ⟨none, 0, rfl, IL.nil _, (((X1.trans hx2).setNew (by simp; omega) _).setNew (by simp; omega) _).setNew (by simp; omega) _, Fr.nil _⟩

set_option maxHeartbeats 1000000 in
theorem join_ok (T : Option Addr) (tc : Nat) (t : List Int) (a b : Ed) (A B : Option Addr) (c c' : Nat) (w : World) (ht : IL w T tc t) (hl : IL w A c a.ins) (hl' : IL w B c' b.ins) (hd : I64 a.del) (hd' : I64 b.del)
    (hlen : t.length ≤ 1000000000) (hlen2 : a.ins.length ≤ 1000000000) (hlen3 : b.ins.length ≤ 1000000000) (h1 : editErr t.length a.at_ a.del a.ins = 0) (h2 : editErr (spliceE t a).length b.at_ b.del b.ins = 0) :
    Calls Try.prog 28 #[.slice T t.length tc, .agg #[.int .i64 a.at_, .int .i64 a.del, .slice A a.ins.length c], .agg #[.int .i64 b.at_, .int .i64 b.del, .slice B b.ins.length c']] w (RetEdE (joinE t a b) 0 w) := by
  obtain ⟨B2, B3, B4, X⟩ := alloc3 w 25 #[.int .i64 a.at_, .int .i64 a.del, .slice A a.ins.length c] 25 #[.int .i64 b.at_, .int .i64 b.del, .slice B b.ins.length c'] 25 #[.int .i64 0, .int .i64 0, .slice none 0 0]
  have HC := Lib.hid (splice_ok T tc t a.at_ a.del A c a.ins _ (ht.ext X) (hl.ext X) hd (by omega) (by omega) h1)
  have ea := EdOf_of_err h1
  have eb := EdOf_of_err h2
  have hsl := spliceE_len ea
  have hsl2 := spliceE_len eb
  have hbd := join_bd ea eb
  have g1 := ea.1
  have g2 := ea.2.1
  have g3 := ea.2.2.1
  have k1 := eb.1
  have k2 := eb.2.1
  have k3 := eb.2.2.1
  have hat := joinAt_if g1 k1
  have hst := joinStay_if ea eb
  have HJ := Lib.hid (show joinE t a b = ⟨joinAt a b, (t.length : Int) - joinStay t a b - joinAt a b, ((spliceE (spliceE t a) b).drop (joinAt a b)).take ((spliceE (spliceE t a) b).length - joinStay t a b - joinAt a b)⟩ from rfl)
  have HC2 := fun (w1 : World) (C : Option Addr) (cc : Nat) (h : IL w1 C cc (spliceE t a)) (h' : IL w1 B c' b.ins) => Lib.hid (splice_ok C cc (spliceE t a) b.at_ b.del B c' b.ins w1 h h' hd' (by omega) (by omega) h2)
  change ∀ (w1 : World) (C : Option Addr) (cc : Nat), _ → _ → Hid (Calls _ _ _ _ (RetSp (spliceE (spliceE t a) b) 0 w1)) at HC2
  change Hid (Calls _ _ _ _ (RetSp (spliceE t a) 0 _)) at HC
  have hl2 : (spliceE (spliceE t a) b).length ≤ 1099511627776 := by omega
  have htI : (t.length : Int) ≤ 1000000000 := by omega
  have hsI : ((spliceE t a).length : Int) ≤ 3000000000 := by omega
  generalize joinAt a b = at_ at *
  generalize joinStay t a b = st at *
  generalize spliceE (spliceE t a) b = s2 at *
  generalize spliceE t a = s at *
  have HR := fun (w1 : World) (C : Option Addr) (cc : Nat) (h : IL w1 C cc s2) => Lib.hid (replaced_any T C tc cc t.length at_ st s2 w1 h (by omega) hl2 hbd.1 hbd.2)
  clear hlen hlen2 hlen3 hsl hsl2 h1 h2 ea eb hl2 hbd
  go_enter Try.func28, Try.ntmps28
  go_wp2_with fail
  refine HC.out.mono ?_
  rintro e w1 ⟨C, cc, rfl, hi, hx1, _⟩
  obtain ⟨q0, q1, q2, _, _, _, hz3⟩ := (B3.ext hx1).c3
  have X1 := X.trans hx1
  go_wp2_with fail
  refine (HC2 _ _ _ hi (hl'.ext X1)).out.mono ?_
  rintro e w2 ⟨C2, cc2, rfl, hi2, hx2, _⟩
  clear q0 q1 q2 hz3
  obtain ⟨p0, p1, p2, _, _, _, hz2⟩ := ((B2.ext hx1).ext hx2).c3
  obtain ⟨q0, q1, q2, _, _, _, hz3⟩ := ((B3.ext hx1).ext hx2).c3
  go_wp2_with fail
  refine (HR _ _ _ hi2).out.mono ?_
  rintro e w3 ⟨C3, cc3, rfl, hi3, hx3, hfr3⟩
  have B4' := ((B4.ext hx1).ext hx2).ext hx3
  obtain ⟨r0, r1, r2, s0, s1, s3, hz4⟩ := B4'.c3
  simp only at hi3 ⊢
  generalize hu : (s2.drop at_).take (s2.length - st - at_) = u at *
  have HU := Lib.hid hu
  clear hu
  go_wp2
  have hz5 := ((B4.ext hx1).ext hx2).lt
  refine bodyPost_ret (v := .tuple #[.agg #[.int .i64 at_, .int .i64 ((t.length : Int) - st - at_), .slice C3 u.length cc3], .int .i64 0]) (by simp [results, Try.results28, go_sem, r0, r1, r2]) rfl ⟨C3, cc3, ?_, ?_, ?_, ?_⟩
  · rw [HJ.out]
  · rw [HJ.out]
    exact ((hi3.setOld hfr3 (p := ⟨w.heap.size + 1 + 1, 0, none⟩) hz5 _).setOld hfr3 (p := ⟨w.heap.size + 1 + 1, 1, none⟩) hz5 _).setOld hfr3 (p := ⟨w.heap.size + 1 + 1, 2, none⟩) hz5 _
  · exact ((((X1.trans hx2).trans hx3).setNew (by simp; omega) _).setNew (by simp; omega) _).setNew (by simp; omega) _
  · exact hfr3.mono (X1.trans hx2)
end Go.Proofs.Ythhfjomjjhenkaa
