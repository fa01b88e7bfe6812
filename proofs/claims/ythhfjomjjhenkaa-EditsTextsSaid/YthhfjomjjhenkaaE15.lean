/- The walk of text.Splice. -/
import Derived.Test.YthhfjomjjhenkaaE14
import Derived.Test.YthhfjomjjhenkaaCat
import Derived.Test.YthhfjomjjhenkaaFw
import Derived.Test.YthhfjomjjhenkaaE7
import Derived.Deep.RegionHeld3
import Derived.Deep.DrawnRows
namespace Go.Proofs.Ythhfjomjjhenkaa
open Go.RowKit
attribute [local go_sem ↓] Go.wp_at_zero Go.wp_at_succ

theorem IL.take {w : World} {A : Option Addr} {c : Nat} {xs : List Int} (h : IL w A c xs) (j : Nat) : IL w A c (xs.take j) := by
  have h1 := h.le
  refine ⟨by simp; omega, h.cap, fun x hx => h.rng x (List.mem_of_mem_take hx), fun hn => ?_⟩
  obtain ⟨b, o, rfl, hc⟩ := h.at_ (by rintro rfl; simp at hn)
  refine ⟨b, o, rfl, fun i hi => ?_⟩
  rw [List.getElem_take]
  exact hc i (by simp at hi; omega)
theorem IL.drop {w : World} {A : Option Addr} {c k : Nat} {xs : List Int} (h : IL w A c xs) (hk : k ≤ xs.length) : IL w (A.map (fun x => x.add k)) (c - k) (xs.drop k) := by
  have h1 := IL.cut_in h (k := k) (j := xs.length) hk (Nat.le_refl _)
  rwa [List.take_of_length_le (by simp)] at h1
theorem IL.drop_end {w : World} {A : Option Addr} {c k : Nat} {xs : List Int} (h : IL w A c xs) (hk : c = k) : IL w A 0 (xs.drop k) := by
  have h1 := IL.cut_end h (j := xs.length) hk
  rwa [List.take_of_length_le (by simp)] at h1

/-- what a call leaves that returns a text and an error -/
def RetSp (xs : List Int) (err : Int) (w : World) (r : Ending) (w' : World) : Prop :=
  ∃ A c, r = .returned (.tuple #[.slice A xs.length c, .int .i64 err]) ∧ IL w' A c xs ∧ Ext w w' ∧ Fr w A

def spliceL (t : List Int) (a d : Int) (l : List Int) : List Int := t.take a.toNat ++ l ++ t.drop (a + d).toNat

theorem editErr_ok {n : Nat} {a d : Int} {l : List Int} (h : editErr n a d l = 0) : 0 ≤ a ∧ 0 ≤ d ∧ a + d ≤ n ∧ l.all symOk = true ∧ (n : Int) - d + l.length ≤ 65536 := by
  unfold editErr at h
  split at h
  · split at h
    · split at h
      · omega
      · refine ⟨by omega, by omega, by omega, by assumption, by omega⟩
    · omega
  · omega

set_option maxHeartbeats 1000000 in
theorem splice_no (T : Option Addr) (tc : Nat) (t : List Int) (a d : Int) (A : Option Addr) (c : Nat) (l : List Int) (w : World) (_ht : IL w T tc t) (hl : IL w A c l) (hd : I64 d)
    (hlen : t.length ≤ 1099511627776) (hlen2 : l.length ≤ 1099511627776) (he : editErr t.length a d l ≠ 0) :
    Calls Try.prog 23 #[.slice T t.length tc, .agg #[.int .i64 a, .int .i64 d, .slice A l.length c]] w (RetSp [] (editErr t.length a d l) w) := by
  have hx := Ext.alloc w (.cells #[.int .i64 a, .int .i64 d, .slice A l.length c] 25)
  have HC := Lib.hid (tcheck_any T t.length tc a d A c l _ (hl.ext hx) (by omega) (by omega) hd)
  generalize editErr t.length a d l = er at *
  clear hlen hlen2
  go_enter Try.func23, Try.ntmps23
  go_wp2_with fail
  refine HC.out.mono ?_
  rintro e w1 ⟨rfl, hx1⟩
  go_wp2
  exact bodyPost_ret (v := .tuple #[.slice none 0 0, .int .i64 er]) (by simp [results, Try.results23, go_sem]) rfl ⟨none, 0, rfl, IL.nil _, hx.trans hx1, Fr.nil _⟩

set_option maxHeartbeats 1000000 in
theorem splice_ok (T : Option Addr) (tc : Nat) (t : List Int) (a d : Int) (A : Option Addr) (c : Nat) (l : List Int) (w : World) (ht : IL w T tc t) (hl : IL w A c l) (hd : I64 d)
    (hlen : t.length ≤ 1099511627776) (hlen2 : l.length ≤ 1099511627776) (he : editErr t.length a d l = 0) :
    Calls Try.prog 23 #[.slice T t.length tc, .agg #[.int .i64 a, .int .i64 d, .slice A l.length c]] w (RetSp (spliceL t a d l) 0 w) := by
  obtain ⟨e1, e2, e3, e4, e5⟩ := editErr_ok he
  obtain ⟨an, rfl⟩ : ∃ n : Nat, a = n := ⟨a.toNat, by omega⟩
  obtain ⟨dn, rfl⟩ : ∃ n : Nat, d = n := ⟨d.toNat, by omega⟩
  obtain ⟨m, hm⟩ : ∃ m : Nat, (an : Int) + (dn : Int) = (m : Int) := ⟨an + dn, by omega⟩
  have hx := Ext.alloc w (.cells #[.int .i64 an, .int .i64 dn, .slice A l.length c] 25)
  have HC := Lib.hid (tcheck_any T t.length tc an dn A c l _ (hl.ext hx) (by omega) (by omega) hd)
  rw [he] at HC
  have hb := Blk.new w 25 #[.int .i64 an, .int .i64 dn, .slice A l.length c]
  obtain ⟨a1, a2⟩ := ht.len
  have hsl : spliceL t an dn l = [t.take an, l, t.drop m].flatten := by simp [spliceL, hm]
  have hll : [t.take an, l, t.drop m].flatten.length ≤ 1099511627776 := by simp; omega
  have HSL := Lib.hid hsl
  have HLL := Lib.hid hll
  have g1 : (m : Int) ≤ 1099511627776 := by omega
  have g2 : m ≤ t.length := by omega
  have g3 : an ≤ t.length := by omega
  have g4 : an ≤ tc := by omega
  have g5 : m ≤ tc := by omega
  have HT := Lib.hid (show (t.take an).length = an ∧ (t.drop m).length = t.length - m by simp; omega)
  clear hlen hlen2 he e1 e2 e4 e5 hsl hll hd
  have hg1 : (an : Int) + dn ≤ 1099511627776 := by omega
  have hwm : IntKind.i64.wrap (m : Int) = (m : Int) := by rw [IntKind.wrap_i64]; omega
  have g6 : (m : Int) ≤ t.length := by omega
  by_cases hc : tc = m
  · subst hc
    go_enter Try.func23, Try.ntmps23
    go_wp2_with fail
    refine HC.out.mono ?_
    rintro e w1 ⟨rfl, hx1⟩
    replace hx := hx.trans hx1
    obtain ⟨p0, p1, p2, _, _, _, pz⟩ := (hb.ext hx1).c3
    have kp0 := fun (w' : World) (h : Kp [] w1 w') => h.cell p0 (by simp)
    have kp1 := fun (w' : World) (h : Kp [] w1 w') => h.cell p1 (by simp)
    have kp2 := fun (w' : World) (h : Kp [] w1 w') => h.cell p2 (by simp)
    go_wp2_with fail
    refine Xr.start [] (by kernel_rfl) ?_
    repeat (first | (refine Xr.take 0 (some 13) (v := ?_) rfl rfl (by decide +kernel) (by rfl) ?_ ?_; rotate_left; (focus (intro w' hk; go_simp; (try with_reducible rfl); done)); (try simp only [Act.put, List.setIfInBounds_toArray, List.set_cons_zero, List.set_cons_succ])) | (refine Xr.take 1 (some 14) (v := ?_) rfl rfl (by decide +kernel) (by rfl) ?_ ?_; rotate_left; (focus (intro w' hk; go_simp; (try with_reducible rfl); done)); (try simp only [Act.put, List.setIfInBounds_toArray, List.set_cons_zero, List.set_cons_succ])) | (refine Xr.take 2 (some 15) (v := ?_) rfl rfl (by decide +kernel) (by rfl) ?_ ?_; rotate_left; (focus (intro w' hk; go_simp; (try with_reducible rfl); done)); (try simp only [Act.put, List.setIfInBounds_toArray, List.set_cons_zero, List.set_cons_succ])) | (refine Xr.take 3 (some 16) (v := ?_) rfl rfl (by decide +kernel) (by rfl) ?_ ?_; rotate_left; (focus (intro w' hk; go_simp; (try with_reducible rfl); done)); (try simp only [Act.put, List.setIfInBounds_toArray, List.set_cons_zero, List.set_cons_succ])) | (refine Xr.take 4 (some 17) (v := ?_) rfl rfl (by decide +kernel) (by rfl) ?_ ?_; rotate_left; (focus (intro w' hk; go_simp; (try with_reducible rfl); done)); (try simp only [Act.put, List.setIfInBounds_toArray, List.set_cons_zero, List.set_cons_succ])) | (refine Xr.take 5 (some 18) (v := ?_) rfl rfl (by decide +kernel) (by rfl) ?_ ?_; rotate_left; (focus (intro w' hk; go_simp; (try with_reducible rfl); done)); (try simp only [Act.put, List.setIfInBounds_toArray, List.set_cons_zero, List.set_cons_succ])) | (refine Xr.take 6 (some 19) (v := ?_) rfl rfl (by decide +kernel) (by rfl) ?_ ?_; rotate_left; (focus (intro w' hk; go_simp; (try with_reducible rfl); done)); (try simp only [Act.put, List.setIfInBounds_toArray, List.set_cons_zero, List.set_cons_succ])) | (refine Xr.take 7 (some 20) (v := ?_) rfl rfl (by decide +kernel) (by rfl) ?_ ?_; rotate_left; (focus (intro w' hk; go_simp; (try with_reducible rfl); done)); (try simp only [Act.put, List.setIfInBounds_toArray, List.set_cons_zero, List.set_cons_succ])) | (refine Xr.take 8 (some 21) (v := ?_) rfl rfl (by decide +kernel) (by rfl) ?_ ?_; rotate_left; (focus (intro w' hk; go_simp; (try with_reducible rfl); done)); (try simp only [Act.put, List.setIfInBounds_toArray, List.set_cons_zero, List.set_cons_succ])) | (refine Xr.take 9 (some 22) (v := ?_) rfl rfl (by decide +kernel) (by rfl) ?_ ?_; rotate_left; (focus (intro w' hk; go_simp; (try with_reducible rfl); done)); (try simp only [Act.put, List.setIfInBounds_toArray, List.set_cons_zero, List.set_cons_succ])) | (refine Xr.take 10 (some 23) (v := ?_) rfl rfl (by decide +kernel) (by rfl) ?_ ?_; rotate_left; (focus (intro w' hk; go_simp; (try with_reducible rfl); done)); (try simp only [Act.put, List.setIfInBounds_toArray, List.set_cons_zero, List.set_cons_succ])) | (refine Xr.take 11 (some 24) (v := ?_) rfl rfl (by decide +kernel) (by rfl) ?_ ?_; rotate_left; (focus (intro w' hk; go_simp; (try with_reducible rfl); done)); (try simp only [Act.put, List.setIfInBounds_toArray, List.set_cons_zero, List.set_cons_succ])) | (refine Xr.take 12 (some 25) (v := ?_) rfl rfl (by decide +kernel) (by rfl) ?_ ?_; rotate_left; (focus (intro w' hk; go_simp; (try with_reducible rfl); done)); (try simp only [Act.put, List.setIfInBounds_toArray, List.set_cons_zero, List.set_cons_succ])) | (refine Xr.take 15 (some 4) (v := ?_) rfl rfl (by decide +kernel) (by rfl) ?_ ?_; rotate_left; (focus (intro w' hk; go_simp; (try with_reducible rfl); done)); (try simp only [Act.put, List.setIfInBounds_toArray, List.set_cons_zero, List.set_cons_succ])) | (refine Xr.take 16 (some 5) (v := ?_) rfl rfl (by decide +kernel) (by rfl) ?_ ?_; rotate_left; (focus (intro w' hk; go_simp; (try with_reducible rfl); done)); (try simp only [Act.put, List.setIfInBounds_toArray, List.set_cons_zero, List.set_cons_succ])))
    refine Xr.lazy 13 26 14 (fun g => .slice (some ⟨g, 0, none⟩) 3 3) 22 #[.slice T an tc, .slice A l.length c, .slice T (t.length - tc) 0] rfl (by simp) (by decide +kernel) (by simp) (fun w' => by go_simp) ?_
    refine Xr.stepZ rfl (by decide +kernel) (fun _ => by rfl) (fun w7 g hE7 hK7 hg hB _ K hKK => ?_)
    (try simp only [Act.put, List.setIfInBounds_toArray, List.set_cons_zero, List.set_cons_succ])
    have X7 := hx.trans hK7.nil
    have hLL : LL w7 (some ⟨g, 0, none⟩) 3 [t.take an, l, t.drop tc] := LL.three (by rw [HT.out.1, HT.out.2]; exact hB) ((ht.ext X7).take an) (hl.ext X7) ((ht.ext X7).drop_end rfl)
    have HCC := Lib.hid (concat_any _ _ _ _ hLL HLL.out)
    rw [← HSL.out] at HCC
    clear hLL
    go_simp
    refine HCC.out.mono ?_
    rintro e w8 ⟨C, cc, rfl, hil, hx8, hfr⟩
    refine hKK _ _ (WI_ext hx8) (hK7.ext hx8) ?_
    clear hKK
    (try simp only [Act.put, List.setIfInBounds_toArray, List.set_cons_zero, List.set_cons_succ])
    repeat (first | (refine Xr.take 0 (some 13) (v := ?_) rfl rfl (by decide +kernel) (by rfl) ?_ ?_; rotate_left; (focus (intro w' hk; go_simp; (try with_reducible rfl); done)); (try simp only [Act.put, List.setIfInBounds_toArray, List.set_cons_zero, List.set_cons_succ])) | (refine Xr.take 1 (some 14) (v := ?_) rfl rfl (by decide +kernel) (by rfl) ?_ ?_; rotate_left; (focus (intro w' hk; go_simp; (try with_reducible rfl); done)); (try simp only [Act.put, List.setIfInBounds_toArray, List.set_cons_zero, List.set_cons_succ])) | (refine Xr.take 2 (some 15) (v := ?_) rfl rfl (by decide +kernel) (by rfl) ?_ ?_; rotate_left; (focus (intro w' hk; go_simp; (try with_reducible rfl); done)); (try simp only [Act.put, List.setIfInBounds_toArray, List.set_cons_zero, List.set_cons_succ])) | (refine Xr.take 3 (some 16) (v := ?_) rfl rfl (by decide +kernel) (by rfl) ?_ ?_; rotate_left; (focus (intro w' hk; go_simp; (try with_reducible rfl); done)); (try simp only [Act.put, List.setIfInBounds_toArray, List.set_cons_zero, List.set_cons_succ])) | (refine Xr.take 4 (some 17) (v := ?_) rfl rfl (by decide +kernel) (by rfl) ?_ ?_; rotate_left; (focus (intro w' hk; go_simp; (try with_reducible rfl); done)); (try simp only [Act.put, List.setIfInBounds_toArray, List.set_cons_zero, List.set_cons_succ])) | (refine Xr.take 5 (some 18) (v := ?_) rfl rfl (by decide +kernel) (by rfl) ?_ ?_; rotate_left; (focus (intro w' hk; go_simp; (try with_reducible rfl); done)); (try simp only [Act.put, List.setIfInBounds_toArray, List.set_cons_zero, List.set_cons_succ])) | (refine Xr.take 6 (some 19) (v := ?_) rfl rfl (by decide +kernel) (by rfl) ?_ ?_; rotate_left; (focus (intro w' hk; go_simp; (try with_reducible rfl); done)); (try simp only [Act.put, List.setIfInBounds_toArray, List.set_cons_zero, List.set_cons_succ])) | (refine Xr.take 7 (some 20) (v := ?_) rfl rfl (by decide +kernel) (by rfl) ?_ ?_; rotate_left; (focus (intro w' hk; go_simp; (try with_reducible rfl); done)); (try simp only [Act.put, List.setIfInBounds_toArray, List.set_cons_zero, List.set_cons_succ])) | (refine Xr.take 8 (some 21) (v := ?_) rfl rfl (by decide +kernel) (by rfl) ?_ ?_; rotate_left; (focus (intro w' hk; go_simp; (try with_reducible rfl); done)); (try simp only [Act.put, List.setIfInBounds_toArray, List.set_cons_zero, List.set_cons_succ])) | (refine Xr.take 9 (some 22) (v := ?_) rfl rfl (by decide +kernel) (by rfl) ?_ ?_; rotate_left; (focus (intro w' hk; go_simp; (try with_reducible rfl); done)); (try simp only [Act.put, List.setIfInBounds_toArray, List.set_cons_zero, List.set_cons_succ])) | (refine Xr.take 10 (some 23) (v := ?_) rfl rfl (by decide +kernel) (by rfl) ?_ ?_; rotate_left; (focus (intro w' hk; go_simp; (try with_reducible rfl); done)); (try simp only [Act.put, List.setIfInBounds_toArray, List.set_cons_zero, List.set_cons_succ])) | (refine Xr.take 11 (some 24) (v := ?_) rfl rfl (by decide +kernel) (by rfl) ?_ ?_; rotate_left; (focus (intro w' hk; go_simp; (try with_reducible rfl); done)); (try simp only [Act.put, List.setIfInBounds_toArray, List.set_cons_zero, List.set_cons_succ])) | (refine Xr.take 12 (some 25) (v := ?_) rfl rfl (by decide +kernel) (by rfl) ?_ ?_; rotate_left; (focus (intro w' hk; go_simp; (try with_reducible rfl); done)); (try simp only [Act.put, List.setIfInBounds_toArray, List.set_cons_zero, List.set_cons_succ])) | (refine Xr.take 15 (some 4) (v := ?_) rfl rfl (by decide +kernel) (by rfl) ?_ ?_; rotate_left; (focus (intro w' hk; go_simp; (try with_reducible rfl); done)); (try simp only [Act.put, List.setIfInBounds_toArray, List.set_cons_zero, List.set_cons_succ])) | (refine Xr.take 16 (some 5) (v := ?_) rfl rfl (by decide +kernel) (by rfl) ?_ ?_; rotate_left; (focus (intro w' hk; go_simp; (try with_reducible rfl); done)); (try simp only [Act.put, List.setIfInBounds_toArray, List.set_cons_zero, List.set_cons_succ])))
    refine Xr.done (by decide +kernel) (fun w9 hE9 hK9 => ?_)
    go_wp2
    exact bodyPost_ret (v := .tuple #[.slice C (spliceL t an dn l).length cc, .int .i64 0]) (by simp [results, Try.results23, go_sem]) rfl ⟨C, cc, rfl, hil.ext hE9, hx.trans hK9.nil, hfr.mono X7⟩
  · have hci : (tc : Int) ≠ m := by omega
    go_enter Try.func23, Try.ntmps23
    go_wp2_with fail
    refine HC.out.mono ?_
    rintro e w1 ⟨rfl, hx1⟩
    replace hx := hx.trans hx1
    obtain ⟨p0, p1, p2, _, _, _, pz⟩ := (hb.ext hx1).c3
    have kp0 := fun (w' : World) (h : Kp [] w1 w') => h.cell p0 (by simp)
    have kp1 := fun (w' : World) (h : Kp [] w1 w') => h.cell p1 (by simp)
    have kp2 := fun (w' : World) (h : Kp [] w1 w') => h.cell p2 (by simp)
    go_wp2_with fail
    refine Xr.start [] (by kernel_rfl) ?_
    repeat (first | (refine Xr.take 0 (some 13) (v := ?_) rfl rfl (by decide +kernel) (by rfl) ?_ ?_; rotate_left; (focus (intro w' hk; go_simp; (try with_reducible rfl); done)); (try simp only [Act.put, List.setIfInBounds_toArray, List.set_cons_zero, List.set_cons_succ])) | (refine Xr.take 1 (some 14) (v := ?_) rfl rfl (by decide +kernel) (by rfl) ?_ ?_; rotate_left; (focus (intro w' hk; go_simp; (try with_reducible rfl); done)); (try simp only [Act.put, List.setIfInBounds_toArray, List.set_cons_zero, List.set_cons_succ])) | (refine Xr.take 2 (some 15) (v := ?_) rfl rfl (by decide +kernel) (by rfl) ?_ ?_; rotate_left; (focus (intro w' hk; go_simp; (try with_reducible rfl); done)); (try simp only [Act.put, List.setIfInBounds_toArray, List.set_cons_zero, List.set_cons_succ])) | (refine Xr.take 3 (some 16) (v := ?_) rfl rfl (by decide +kernel) (by rfl) ?_ ?_; rotate_left; (focus (intro w' hk; go_simp; (try with_reducible rfl); done)); (try simp only [Act.put, List.setIfInBounds_toArray, List.set_cons_zero, List.set_cons_succ])) | (refine Xr.take 4 (some 17) (v := ?_) rfl rfl (by decide +kernel) (by rfl) ?_ ?_; rotate_left; (focus (intro w' hk; go_simp; (try with_reducible rfl); done)); (try simp only [Act.put, List.setIfInBounds_toArray, List.set_cons_zero, List.set_cons_succ])) | (refine Xr.take 5 (some 18) (v := ?_) rfl rfl (by decide +kernel) (by rfl) ?_ ?_; rotate_left; (focus (intro w' hk; go_simp; (try with_reducible rfl); done)); (try simp only [Act.put, List.setIfInBounds_toArray, List.set_cons_zero, List.set_cons_succ])) | (refine Xr.take 6 (some 19) (v := ?_) rfl rfl (by decide +kernel) (by rfl) ?_ ?_; rotate_left; (focus (intro w' hk; go_simp; (try with_reducible rfl); done)); (try simp only [Act.put, List.setIfInBounds_toArray, List.set_cons_zero, List.set_cons_succ])) | (refine Xr.take 7 (some 20) (v := ?_) rfl rfl (by decide +kernel) (by rfl) ?_ ?_; rotate_left; (focus (intro w' hk; go_simp; (try with_reducible rfl); done)); (try simp only [Act.put, List.setIfInBounds_toArray, List.set_cons_zero, List.set_cons_succ])) | (refine Xr.take 8 (some 21) (v := ?_) rfl rfl (by decide +kernel) (by rfl) ?_ ?_; rotate_left; (focus (intro w' hk; go_simp; (try with_reducible rfl); done)); (try simp only [Act.put, List.setIfInBounds_toArray, List.set_cons_zero, List.set_cons_succ])) | (refine Xr.take 9 (some 22) (v := ?_) rfl rfl (by decide +kernel) (by rfl) ?_ ?_; rotate_left; (focus (intro w' hk; go_simp; (try with_reducible rfl); done)); (try simp only [Act.put, List.setIfInBounds_toArray, List.set_cons_zero, List.set_cons_succ])) | (refine Xr.take 10 (some 23) (v := ?_) rfl rfl (by decide +kernel) (by rfl) ?_ ?_; rotate_left; (focus (intro w' hk; go_simp; (try with_reducible rfl); done)); (try simp only [Act.put, List.setIfInBounds_toArray, List.set_cons_zero, List.set_cons_succ])) | (refine Xr.take 11 (some 24) (v := ?_) rfl rfl (by decide +kernel) (by rfl) ?_ ?_; rotate_left; (focus (intro w' hk; go_simp; (try with_reducible rfl); done)); (try simp only [Act.put, List.setIfInBounds_toArray, List.set_cons_zero, List.set_cons_succ])) | (refine Xr.take 12 (some 25) (v := ?_) rfl rfl (by decide +kernel) (by rfl) ?_ ?_; rotate_left; (focus (intro w' hk; go_simp; (try with_reducible rfl); done)); (try simp only [Act.put, List.setIfInBounds_toArray, List.set_cons_zero, List.set_cons_succ])) | (refine Xr.take 15 (some 4) (v := ?_) rfl rfl (by decide +kernel) (by rfl) ?_ ?_; rotate_left; (focus (intro w' hk; go_simp; (try with_reducible rfl); done)); (try simp only [Act.put, List.setIfInBounds_toArray, List.set_cons_zero, List.set_cons_succ])) | (refine Xr.take 16 (some 5) (v := ?_) rfl rfl (by decide +kernel) (by rfl) ?_ ?_; rotate_left; (focus (intro w' hk; go_simp; (try with_reducible rfl); done)); (try simp only [Act.put, List.setIfInBounds_toArray, List.set_cons_zero, List.set_cons_succ])))
    refine Xr.lazy 13 26 14 (fun g => .slice (some ⟨g, 0, none⟩) 3 3) 22 #[.slice T an tc, .slice A l.length c, .slice (T.map (fun x => x.add m)) (t.length - m) (tc - m)] rfl (by simp) (by decide +kernel) (by simp) (fun w' => by go_simp) ?_
    refine Xr.stepZ rfl (by decide +kernel) (fun _ => by rfl) (fun w7 g hE7 hK7 hg hB _ K hKK => ?_)
    (try simp only [Act.put, List.setIfInBounds_toArray, List.set_cons_zero, List.set_cons_succ])
    have X7 := hx.trans hK7.nil
    have hLL : LL w7 (some ⟨g, 0, none⟩) 3 [t.take an, l, t.drop m] := LL.three (by rw [HT.out.1, HT.out.2]; exact hB) ((ht.ext X7).take an) (hl.ext X7) ((ht.ext X7).drop g2)
    have HCC := Lib.hid (concat_any _ _ _ _ hLL HLL.out)
    rw [← HSL.out] at HCC
    clear hLL
    go_simp
    refine HCC.out.mono ?_
    rintro e w8 ⟨C, cc, rfl, hil, hx8, hfr⟩
    refine hKK _ _ (WI_ext hx8) (hK7.ext hx8) ?_
    clear hKK
    (try simp only [Act.put, List.setIfInBounds_toArray, List.set_cons_zero, List.set_cons_succ])
    repeat (first | (refine Xr.take 0 (some 13) (v := ?_) rfl rfl (by decide +kernel) (by rfl) ?_ ?_; rotate_left; (focus (intro w' hk; go_simp; (try with_reducible rfl); done)); (try simp only [Act.put, List.setIfInBounds_toArray, List.set_cons_zero, List.set_cons_succ])) | (refine Xr.take 1 (some 14) (v := ?_) rfl rfl (by decide +kernel) (by rfl) ?_ ?_; rotate_left; (focus (intro w' hk; go_simp; (try with_reducible rfl); done)); (try simp only [Act.put, List.setIfInBounds_toArray, List.set_cons_zero, List.set_cons_succ])) | (refine Xr.take 2 (some 15) (v := ?_) rfl rfl (by decide +kernel) (by rfl) ?_ ?_; rotate_left; (focus (intro w' hk; go_simp; (try with_reducible rfl); done)); (try simp only [Act.put, List.setIfInBounds_toArray, List.set_cons_zero, List.set_cons_succ])) | (refine Xr.take 3 (some 16) (v := ?_) rfl rfl (by decide +kernel) (by rfl) ?_ ?_; rotate_left; (focus (intro w' hk; go_simp; (try with_reducible rfl); done)); (try simp only [Act.put, List.setIfInBounds_toArray, List.set_cons_zero, List.set_cons_succ])) | (refine Xr.take 4 (some 17) (v := ?_) rfl rfl (by decide +kernel) (by rfl) ?_ ?_; rotate_left; (focus (intro w' hk; go_simp; (try with_reducible rfl); done)); (try simp only [Act.put, List.setIfInBounds_toArray, List.set_cons_zero, List.set_cons_succ])) | (refine Xr.take 5 (some 18) (v := ?_) rfl rfl (by decide +kernel) (by rfl) ?_ ?_; rotate_left; (focus (intro w' hk; go_simp; (try with_reducible rfl); done)); (try simp only [Act.put, List.setIfInBounds_toArray, List.set_cons_zero, List.set_cons_succ])) | (refine Xr.take 6 (some 19) (v := ?_) rfl rfl (by decide +kernel) (by rfl) ?_ ?_; rotate_left; (focus (intro w' hk; go_simp; (try with_reducible rfl); done)); (try simp only [Act.put, List.setIfInBounds_toArray, List.set_cons_zero, List.set_cons_succ])) | (refine Xr.take 7 (some 20) (v := ?_) rfl rfl (by decide +kernel) (by rfl) ?_ ?_; rotate_left; (focus (intro w' hk; go_simp; (try with_reducible rfl); done)); (try simp only [Act.put, List.setIfInBounds_toArray, List.set_cons_zero, List.set_cons_succ])) | (refine Xr.take 8 (some 21) (v := ?_) rfl rfl (by decide +kernel) (by rfl) ?_ ?_; rotate_left; (focus (intro w' hk; go_simp; (try with_reducible rfl); done)); (try simp only [Act.put, List.setIfInBounds_toArray, List.set_cons_zero, List.set_cons_succ])) | (refine Xr.take 9 (some 22) (v := ?_) rfl rfl (by decide +kernel) (by rfl) ?_ ?_; rotate_left; (focus (intro w' hk; go_simp; (try with_reducible rfl); done)); (try simp only [Act.put, List.setIfInBounds_toArray, List.set_cons_zero, List.set_cons_succ])) | (refine Xr.take 10 (some 23) (v := ?_) rfl rfl (by decide +kernel) (by rfl) ?_ ?_; rotate_left; (focus (intro w' hk; go_simp; (try with_reducible rfl); done)); (try simp only [Act.put, List.setIfInBounds_toArray, List.set_cons_zero, List.set_cons_succ])) | (refine Xr.take 11 (some 24) (v := ?_) rfl rfl (by decide +kernel) (by rfl) ?_ ?_; rotate_left; (focus (intro w' hk; go_simp; (try with_reducible rfl); done)); (try simp only [Act.put, List.setIfInBounds_toArray, List.set_cons_zero, List.set_cons_succ])) | (refine Xr.take 12 (some 25) (v := ?_) rfl rfl (by decide +kernel) (by rfl) ?_ ?_; rotate_left; (focus (intro w' hk; go_simp; (try with_reducible rfl); done)); (try simp only [Act.put, List.setIfInBounds_toArray, List.set_cons_zero, List.set_cons_succ])) | (refine Xr.take 15 (some 4) (v := ?_) rfl rfl (by decide +kernel) (by rfl) ?_ ?_; rotate_left; (focus (intro w' hk; go_simp; (try with_reducible rfl); done)); (try simp only [Act.put, List.setIfInBounds_toArray, List.set_cons_zero, List.set_cons_succ])) | (refine Xr.take 16 (some 5) (v := ?_) rfl rfl (by decide +kernel) (by rfl) ?_ ?_; rotate_left; (focus (intro w' hk; go_simp; (try with_reducible rfl); done)); (try simp only [Act.put, List.setIfInBounds_toArray, List.set_cons_zero, List.set_cons_succ])))
    refine Xr.done (by decide +kernel) (fun w9 hE9 hK9 => ?_)
    go_wp2
    exact bodyPost_ret (v := .tuple #[.slice C (spliceL t an dn l).length cc, .int .i64 0]) (by simp [results, Try.results23, go_sem]) rfl ⟨C, cc, rfl, hil.ext hE9, hx.trans hK9.nil, hfr.mono X7⟩
end Go.Proofs.Ythhfjomjjhenkaa
