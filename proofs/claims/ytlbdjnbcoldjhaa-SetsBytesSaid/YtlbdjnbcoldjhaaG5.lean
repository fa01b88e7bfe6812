/- Walks of package sets: add, limited. -/
import Derived.Test.YtlbdjnbcoldjhaaG4
import Derived.Test.YtlbdjnbcoldjhaaG0
namespace Go.Proofs.Ytlbdjnbcoldjhaa
open Go.RowKit

/-- a slice that is owned: one of its cells may be written -/
theorem OwnS.store {w : World} {base e size n c : Nat} {A : Option Addr} {xs : List Value} (h : OwnS w base e size A n c xs) {i : Nat} (hi : i < xs.length) :
    ∃ g, A = some ⟨g, 0, none⟩ ∧ base ≤ g ∧ w.cell? ⟨g, i, none⟩ = some xs[i] ∧ w.frozen? ⟨g, i, none⟩ = false ∧ g < w.heap.size ∧ ∀ v, OwnS (w.setCell ⟨g, i, none⟩ v) base e size A n c (xs.set i v) := by
  rcases h.form with ⟨_, h0, _, h1⟩ | ⟨g, cur, rfl, hg, hh, hnc, hcm, hcs, ht⟩
  · subst h1; simp at hi
  · have hB : Blk w g e cur := hh
    obtain ⟨b, o, he, hc⟩ := OwnS.cells h (by intro e; subst e; simp at hi)
    injection he with he; injection he with e1 e2 _
    subst e1 e2
    refine ⟨g, rfl, hg, ?_, hB.frz i, hB.lt, fun v => ?_⟩
    · have := hc i hi
      simpa using this
    · have h1 := OwnS.of_blk (n := n) (c := c) (size := size) (hB.set i v) hg (by rw [Array.size_setIfInBounds]; exact hcs) hnc hcm
      have e : ((cur.setIfInBounds i v).toList.take (n * size)) = xs.set i v := by
        rw [Array.toList_setIfInBounds, ← ht, List.take_set]
      rw [e] at h1
      exact h1

/-- an owned list of spans -/
def OwnP (w : World) (base : Nat) (A : Option Addr) (c : Nat) (l : List Sp) : Prop := OwnS w base 48 2 A l.length c (flatS l)
theorem OwnP.nil (w : World) (base : Nat) : OwnP w base none 0 [] := OwnS.nil _ _ _ _
theorem OwnP.ext {w w' : World} {base c : Nat} {A : Option Addr} {l : List Sp} (h : OwnP w base A c l) (k : Ext w w') : OwnP w' base A c l := OwnS.ext h k
theorem OwnP.kp {w w' : World} {base c : Nat} {A : Option Addr} {l : List Sp} {p : Nat → Prop} (h : OwnP w base A c l) (k : KpP p w w') (hn : ∀ b, A.map (·.block) = some b → ¬ p b) : OwnP w' base A c l := OwnS.kp h k hn
theorem OwnP.row {w : World} {base c : Nat} {A : Option Addr} {l : List Sp} (h : OwnP w base A c l) {b : Nat} (hb : A.map (·.block) = some b) : base ≤ b := OwnS.row h b hb
theorem OwnP.blt {w : World} {base c : Nat} {A : Option Addr} {l : List Sp} (h : OwnP w base A c l) {b : Nat} (hb : A.map (·.block) = some b) : b < w.heap.size := (OwnS.blt h hb).1

theorem flatS_set (l : List Sp) (t : Sp) (v : Int) : (flatS (l ++ [t])).set (l.length * 2 + 1) (.int .i64 v) = flatS (l ++ [(t.1, v)]) := by
  rw [flatS_append, flatS_append, List.set_append, flatS_len, if_neg (by omega)]
  congr 1
  rw [show l.length * 2 + 1 - l.length * 2 = 1 by omega]
  rfl

theorem lastStore {w : World} {base n c g : Nat} {l0 : List Sp} {t : Sp} (h : OwnS w base 48 2 (some ⟨g, 0, none⟩) (n + 1) c (flatS (l0 ++ [t]))) (hn : l0.length = n) (v : Int) :
    OwnS (w.setCell ⟨g, n * 2 + 1, none⟩ (.int .i64 v)) base 48 2 (some ⟨g, 0, none⟩) (n + 1) c (flatS (l0 ++ [(t.1, v)])) := by
  have hfl : n * 2 + 1 < (flatS (l0 ++ [t])).length := by rw [flatS_len, List.length_append, List.length_singleton]; omega
  obtain ⟨g', he, _, _, _, _, gst⟩ := OwnS.store h hfl
  injection he with he; injection he with e1 _ _
  subst e1
  have := gst (.int .i64 v)
  rw [← hn, flatS_set] at this
  rw [← hn]; exact this

theorem lastCell {w : World} {base n c g : Nat} {l0 : List Sp} {t : Sp} (h : OwnS w base 48 2 (some ⟨g, 0, none⟩) (n + 1) c (flatS (l0 ++ [t]))) (hn : l0.length = n) :
    w.cell? ⟨g, n * 2 + 1, none⟩ = some (.int .i64 t.2) ∧ w.frozen? ⟨g, n * 2 + 1, none⟩ = false ∧ g < w.heap.size := by
  have hfl : n * 2 + 1 < (flatS (l0 ++ [t])).length := by rw [flatS_len, List.length_append, List.length_singleton]; omega
  obtain ⟨g', he, _, h1, h2, h3, _⟩ := OwnS.store h hfl
  injection he with he; injection he with e1 _ _
  subst e1
  have hval : (flatS (l0 ++ [t]))[n * 2 + 1] = .int .i64 t.2 := by
    have := (flatS_get (l0 ++ [t]) n (by rw [List.length_append, List.length_singleton]; omega)).2
    obtain ⟨_, e1⟩ := List.getElem?_eq_some_iff.1 this
    rw [e1]; simp [← hn]
  rw [hval] at h1
  exact ⟨h1, h2, h3⟩

/-- what add leaves -/
def RetAdd (base : Nat) (A : Option Addr) (out : List Sp) (w : World) (e : Ending) (w' : World) : Prop :=
  ∃ (A' : Option Addr) (c' : Nat), e = .returned (.slice A' out.length c') ∧ OwnP w' base A' c' out ∧ KpP (fun b => A.map (·.block) = some b) w w' ∧ (A'.map (·.block) = A.map (·.block) ∨ ∃ b, A'.map (·.block) = some b ∧ w.heap.size ≤ b)

theorem addS_join {l : List Sp} {t s : Sp} (h : s.1 ≤ t.2 + 1) : addS (l ++ [t]) s = l ++ [(t.1, max t.2 s.2)] := by rw [addS_snoc, if_pos h]
theorem addS_more {l : List Sp} {t s : Sp} (h : ¬ s.1 ≤ t.2 + 1) : addS (l ++ [t]) s = l ++ [t] ++ [s] := by rw [addS_snoc, if_neg h]

set_option maxRecDepth 100000 in
set_option maxHeartbeats 4000000 in
theorem add_any (base : Nat) (A : Option Addr) (c : Nat) (l : List Sp) (s : Sp) (w : World) (hl : OwnP w base A c l) (hb : base ≤ w.heap.size) (hr : ∀ t ∈ l, goodS t) (hs : goodS s) (hn : l.length ≤ 1000000) :
    Calls Try.prog 39 #[.slice A l.length c, spV s] w (RetAdd base A (addS l s) w) := by
  obtain ⟨iS, jS0, jS1, jS2, jS3⟩ := info_parts infoS
  obtain ⟨lo, hi⟩ := s
  have hs' : 0 ≤ lo ∧ lo ≤ hi ∧ hi ≤ 1114111 := hs
  unfold spV
  simp only
  have bx := Blk.new w 48 #[.int .i64 lo, .int .i64 hi]
  have ex := Ext.alloc w (.cells #[.int .i64 lo, .int .i64 hi] 48)
  have hz0 := ex.size
  have hlx := OwnP.ext hl ex
  have hcap := OwnS.caps hl
  rcases List.eq_nil_or_concat l with rfl | ⟨l0, t, rfl⟩
  · rw [addS_nil]
    simp only [List.length_nil] at hlx hcap ⊢
    have HX := Lib.hid (show OwnS (w.alloc (.cells #[.int .i64 lo, .int .i64 hi] 48)) base 48 2 A 0 c (flatS []) from hlx)
    have HNEW := Lib.hid (Blk.new (w.alloc (.cells #[.int .i64 lo, .int .i64 hi] 48)) 48 (flatS [(lo, hi)]).toArray)
    have e2 := Ext.alloc (w.alloc (.cells #[.int .i64 lo, .int .i64 hi] 48)) (.cells (flatS [(lo, hi)]).toArray 48)
    have hz2 := e2.size
    obtain ⟨p0, p1, _, _, pz⟩ := bx.c2
    go_enter Try.func39, Try.ntmps39
    go_upto_region 2 with fail
    refine Xr.start [] (by kernel_rfl) ?_
    (refine Xr.take 0 (some 8) (v := ?_) rfl rfl (by decide +kernel) (by rfl) ?_ ?_; rotate_left; (focus (intro w' hk; go_simp; (try with_reducible rfl); done)); (try simp only [Act.put, List.setIfInBounds_toArray, List.set_cons_zero, List.set_cons_succ]))
    (refine Xr.take 1 (some 9) (v := ?_) rfl rfl (by decide +kernel) (by rfl) ?_ ?_; rotate_left; (focus (intro w' hk; go_simp; (try with_reducible rfl); done)); (try simp only [Act.put, List.setIfInBounds_toArray, List.set_cons_zero, List.set_cons_succ]))
    (refine Xr.take 2 (some 10) (v := ?_) rfl rfl (by decide +kernel) (by rfl) ?_ ?_; rotate_left; (focus (intro w' hk; go_simp; (try with_reducible rfl); done)); (try simp only [Act.put, List.setIfInBounds_toArray, List.set_cons_zero, List.set_cons_succ]))
    first | (refine Xr.take 3 (some 11) (v := ?_) rfl rfl (by decide +kernel) (by rfl) ?_ ?_; rotate_left; (focus (intro w' hk; go_simp; (try with_reducible rfl); done)); (try simp only [Act.put, List.setIfInBounds_toArray, List.set_cons_zero, List.set_cons_succ])) | (refine Xr.skip 3 (some 11) rfl rfl (by decide +kernel) (by rfl) ?_; (try simp only [Act.put, List.setIfInBounds_toArray, List.set_cons_zero, List.set_cons_succ]))
    first | (refine Xr.take 4 (some 12) (v := ?_) rfl rfl (by decide +kernel) (by rfl) ?_ ?_; rotate_left; (focus (intro w' hk; go_simp; (try with_reducible rfl); done)); (try simp only [Act.put, List.setIfInBounds_toArray, List.set_cons_zero, List.set_cons_succ])) | (refine Xr.skip 4 (some 12) rfl rfl (by decide +kernel) (by rfl) ?_; (try simp only [Act.put, List.setIfInBounds_toArray, List.set_cons_zero, List.set_cons_succ]))
    first | (refine Xr.take 5 (some 13) (v := ?_) rfl rfl (by decide +kernel) (by rfl) ?_ ?_; rotate_left; (focus (intro w' hk; go_simp; (try with_reducible rfl); done)); (try simp only [Act.put, List.setIfInBounds_toArray, List.set_cons_zero, List.set_cons_succ])) | (refine Xr.skip 5 (some 13) rfl rfl (by decide +kernel) (by rfl) ?_; (try simp only [Act.put, List.setIfInBounds_toArray, List.set_cons_zero, List.set_cons_succ]))
    first | (refine Xr.take 6 (some 14) (v := ?_) rfl rfl (by decide +kernel) (by rfl) ?_ ?_; rotate_left; (focus (intro w' hk; go_simp; (try with_reducible rfl); done)); (try simp only [Act.put, List.setIfInBounds_toArray, List.set_cons_zero, List.set_cons_succ])) | (refine Xr.skip 6 (some 14) rfl rfl (by decide +kernel) (by rfl) ?_; (try simp only [Act.put, List.setIfInBounds_toArray, List.set_cons_zero, List.set_cons_succ]))
    first | (refine Xr.take 7 (some 15) (v := ?_) rfl rfl (by decide +kernel) (by rfl) ?_ ?_; rotate_left; (focus (intro w' hk; go_simp; (try with_reducible rfl); done)); (try simp only [Act.put, List.setIfInBounds_toArray, List.set_cons_zero, List.set_cons_succ])) | (refine Xr.skip 7 (some 15) rfl rfl (by decide +kernel) (by rfl) ?_; (try simp only [Act.put, List.setIfInBounds_toArray, List.set_cons_zero, List.set_cons_succ]))
    first | (refine Xr.take 8 (some 16) (v := ?_) rfl rfl (by decide +kernel) (by rfl) ?_ ?_; rotate_left; (focus (intro w' hk; go_simp; (try with_reducible rfl); done)); (try simp only [Act.put, List.setIfInBounds_toArray, List.set_cons_zero, List.set_cons_succ])) | (refine Xr.skip 8 (some 16) rfl rfl (by decide +kernel) (by rfl) ?_; (try simp only [Act.put, List.setIfInBounds_toArray, List.set_cons_zero, List.set_cons_succ]))
    first | (refine Xr.take 9 (some 17) (v := ?_) rfl rfl (by decide +kernel) (by rfl) ?_ ?_; rotate_left; (focus (intro w' hk; go_simp; (try with_reducible rfl); done)); (try simp only [Act.put, List.setIfInBounds_toArray, List.set_cons_zero, List.set_cons_succ])) | (refine Xr.skip 9 (some 17) rfl rfl (by decide +kernel) (by rfl) ?_; (try simp only [Act.put, List.setIfInBounds_toArray, List.set_cons_zero, List.set_cons_succ]))
    first | (refine Xr.take 10 (some 18) (v := ?_) rfl rfl (by decide +kernel) (by rfl) ?_ ?_; rotate_left; (focus (intro w' hk; go_simp; (try with_reducible rfl); done)); (try simp only [Act.put, List.setIfInBounds_toArray, List.set_cons_zero, List.set_cons_succ])) | (refine Xr.skip 10 (some 18) rfl rfl (by decide +kernel) (by rfl) ?_; (try simp only [Act.put, List.setIfInBounds_toArray, List.set_cons_zero, List.set_cons_succ]))
    first | (refine Xr.take 11 (some 19) (v := ?_) rfl rfl (by decide +kernel) (by rfl) ?_ ?_; rotate_left; (focus (intro w' hk; go_simp; (try with_reducible rfl); done)); (try simp only [Act.put, List.setIfInBounds_toArray, List.set_cons_zero, List.set_cons_succ])) | (refine Xr.skip 11 (some 19) rfl rfl (by decide +kernel) (by rfl) ?_; (try simp only [Act.put, List.setIfInBounds_toArray, List.set_cons_zero, List.set_cons_succ]))
    first | (refine Xr.take 12 (some 20) (v := ?_) rfl rfl (by decide +kernel) (by rfl) ?_ ?_; rotate_left; (focus (intro w' hk; go_simp; (try with_reducible rfl); done)); (try simp only [Act.put, List.setIfInBounds_toArray, List.set_cons_zero, List.set_cons_succ])) | (refine Xr.skip 12 (some 20) rfl rfl (by decide +kernel) (by rfl) ?_; (try simp only [Act.put, List.setIfInBounds_toArray, List.set_cons_zero, List.set_cons_succ]))
    (refine Xr.take 13 (some 21) (v := ?_) rfl rfl (by decide +kernel) (by rfl) ?_ ?_; rotate_left; (focus (intro w' hk; go_simp; (try with_reducible rfl); done)); (try simp only [Act.put, List.setIfInBounds_toArray, List.set_cons_zero, List.set_cons_succ]))
    refine Xr.done (by decide +kernel) (fun w2 hE2 hK2 => ?_)
    have x2 := hK2.nil
    have b2 := bx.ext x2
    obtain ⟨q0, q1, _, _, qz⟩ := b2.c2
    have H2 := Lib.hid (OwnS.ext HX.out x2)
    have HN2 := Lib.hid (Blk.new w2 48 (flatS [(lo, hi)]).toArray)
    have hz3 := x2.size
    have HB := Lib.hid (show base ≤ (w2.alloc (.cells (flatS [(lo, hi)]).toArray 48)).heap.size by have := (Ext.alloc w2 (.cells (flatS [(lo, hi)]).toArray 48)).size; omega)
    clear p0 p1 pz hE2 hK2
    go_wp2_with ((at_builtin; refine wpList_app _ rfl _ _ _ rfl base 48 iS _ 2 16 Try.underlying24 jS0 jS1 jS2 jS3 rfl (by omega) A 0 c (flatS []) rfl (OwnS.ext H2.out (Ext.alloc _ _)) _ 1 1 (flatS [(lo, hi)]) rfl rfl (blk_cells HN2.out) (flatS_one _) (by unfold maxLen; omega) (by omega) HB.out ?_; intro A' c' w3 ho3 hg3 hat3))
    go_ret
    refine ⟨A', c', rfl, ho3, ?_, ?_⟩
    · exact (KpP.of_ext ((ex.trans x2).trans (Ext.alloc _ _))).trans (KpP.of_grown hg3)
    · rcases hat3 with h | h
      · exact .inl h
      · exact .inr ⟨_, h, ((ex.trans x2).trans (Ext.alloc _ _)).size⟩
  · rw [List.concat_eq_append] at *
    have ht := hr t (by simp)
    have ht' : 0 ≤ t.1 ∧ t.1 ≤ t.2 ∧ t.2 ≤ 1114111 := ht
    obtain ⟨tlo, thi⟩ := t
    simp only at ht'
    have hlen : (l0 ++ [(tlo, thi)]).length = l0.length + 1 := by simp
    obtain ⟨n, hn0⟩ : ∃ n, n = l0.length := ⟨_, rfl⟩
    rw [hlen, ← hn0] at hcap hn ⊢
    have hlx' : OwnS (w.alloc (.cells #[.int .i64 lo, .int .i64 hi] 48)) base 48 2 A (n + 1) c (flatS (l0 ++ [(tlo, thi)])) := by
      unfold OwnP at hlx; rw [hlen, ← hn0] at hlx; exact hlx
    have hfl : n * 2 + 1 < (flatS (l0 ++ [(tlo, thi)])).length := by rw [flatS_len, hlen, ← hn0]; omega
    obtain ⟨g, rfl, hbg, g1, gf, glt, gst⟩ := OwnS.store hlx' hfl
    have hval : (flatS (l0 ++ [(tlo, thi)]))[n * 2 + 1] = .int .i64 thi := by
      have := (flatS_get (l0 ++ [(tlo, thi)]) n (by rw [hlen]; omega)).2
      obtain ⟨_, e1⟩ := List.getElem?_eq_some_iff.1 this
      rw [e1]; simp [hn0]
    rw [hval] at g1
    have HLX := Lib.hid hlx'
    have hn1 : (0 : Int) < (n : Int) + 1 := by omega
    have hn2 : (n : Int) < (n : Int) + 1 := by omega
    have hwn : IntKind.i64.wrap ((n : Int) + 1 - 1) = (n : Int) := by rw [IntKind.wrap_i64]; omega
    have hwn2 : IntKind.i64.wrap (n : Int) = (n : Int) := by rw [IntKind.wrap_i64]; omega
    have hwt : IntKind.i64.wrap (thi + 1) = thi + 1 := by rw [IntKind.wrap_i64]; omega
    obtain ⟨p0, p1, _, _, pz⟩ := bx.c2
    by_cases hj : lo ≤ thi + 1
    · have HA := Lib.hid (addS_join (l := l0) (t := (tlo, thi)) (s := (lo, hi)) hj)
      have hmx : (if thi < hi then hi else thi) = max thi hi := by split <;> omega
      have HRE := Lib.hid (show (addS (l0 ++ [(tlo, thi)]) (lo, hi)).length = n + 1 by rw [HA.out, List.length_append, List.length_singleton, hn0])
      have HN0 := Lib.hid hn0.symm
      have hadd : addS (l0 ++ [(tlo, thi)]) (lo, hi) = l0 ++ [(tlo, max thi hi)] := HA.out
      generalize addS (l0 ++ [(tlo, thi)]) (lo, hi) = out at *
      have HAD := Lib.hid hadd
      clear hadd HA hn0 hlen hval hfl gst hlx hl hr ht hs
      have k0 := fun (w' : World) (h : Kp [] (w.alloc (.cells #[.int .i64 lo, .int .i64 hi] 48)) w') => h.cell p0 (by simp)
      have k1 := fun (w' : World) (h : Kp [] (w.alloc (.cells #[.int .i64 lo, .int .i64 hi] 48)) w') => h.cell g1 (by simp)
      go_enter Try.func39, Try.ntmps39
      go_upto_region 2 with fail
      refine Xr.start [] (by kernel_rfl) ?_
      (refine Xr.take 0 (some 8) (v := ?_) rfl rfl (by decide +kernel) (by rfl) ?_ ?_; rotate_left; (focus (intro w' hk; go_simp; (try with_reducible rfl); done)); (try simp only [Act.put, List.setIfInBounds_toArray, List.set_cons_zero, List.set_cons_succ]))
      (refine Xr.take 1 (some 9) (v := ?_) rfl rfl (by decide +kernel) (by rfl) ?_ ?_; rotate_left; (focus (intro w' hk; go_simp; (try with_reducible rfl); done)); (try simp only [Act.put, List.setIfInBounds_toArray, List.set_cons_zero, List.set_cons_succ]))
      (refine Xr.take 2 (some 10) (v := ?_) rfl rfl (by decide +kernel) (by rfl) ?_ ?_; rotate_left; (focus (intro w' hk; go_simp; (try with_reducible rfl); done)); (try simp only [Act.put, List.setIfInBounds_toArray, List.set_cons_zero, List.set_cons_succ]))
      first | (refine Xr.take 3 (some 11) (v := ?_) rfl rfl (by decide +kernel) (by rfl) ?_ ?_; rotate_left; (focus (intro w' hk; go_simp; (try with_reducible rfl); done)); (try simp only [Act.put, List.setIfInBounds_toArray, List.set_cons_zero, List.set_cons_succ])) | (refine Xr.skip 3 (some 11) rfl rfl (by decide +kernel) (by rfl) ?_; (try simp only [Act.put, List.setIfInBounds_toArray, List.set_cons_zero, List.set_cons_succ]))
      first | (refine Xr.take 4 (some 12) (v := ?_) rfl rfl (by decide +kernel) (by rfl) ?_ ?_; rotate_left; (focus (intro w' hk; go_simp; (try with_reducible rfl); done)); (try simp only [Act.put, List.setIfInBounds_toArray, List.set_cons_zero, List.set_cons_succ])) | (refine Xr.skip 4 (some 12) rfl rfl (by decide +kernel) (by rfl) ?_; (try simp only [Act.put, List.setIfInBounds_toArray, List.set_cons_zero, List.set_cons_succ]))
      first | (refine Xr.take 5 (some 13) (v := ?_) rfl rfl (by decide +kernel) (by rfl) ?_ ?_; rotate_left; (focus (intro w' hk; go_simp; (try with_reducible rfl); done)); (try simp only [Act.put, List.setIfInBounds_toArray, List.set_cons_zero, List.set_cons_succ])) | (refine Xr.skip 5 (some 13) rfl rfl (by decide +kernel) (by rfl) ?_; (try simp only [Act.put, List.setIfInBounds_toArray, List.set_cons_zero, List.set_cons_succ]))
      first | (refine Xr.take 6 (some 14) (v := ?_) rfl rfl (by decide +kernel) (by rfl) ?_ ?_; rotate_left; (focus (intro w' hk; go_simp; (try with_reducible rfl); done)); (try simp only [Act.put, List.setIfInBounds_toArray, List.set_cons_zero, List.set_cons_succ])) | (refine Xr.skip 6 (some 14) rfl rfl (by decide +kernel) (by rfl) ?_; (try simp only [Act.put, List.setIfInBounds_toArray, List.set_cons_zero, List.set_cons_succ]))
      first | (refine Xr.take 7 (some 15) (v := ?_) rfl rfl (by decide +kernel) (by rfl) ?_ ?_; rotate_left; (focus (intro w' hk; go_simp; (try with_reducible rfl); done)); (try simp only [Act.put, List.setIfInBounds_toArray, List.set_cons_zero, List.set_cons_succ])) | (refine Xr.skip 7 (some 15) rfl rfl (by decide +kernel) (by rfl) ?_; (try simp only [Act.put, List.setIfInBounds_toArray, List.set_cons_zero, List.set_cons_succ]))
      first | (refine Xr.take 8 (some 16) (v := ?_) rfl rfl (by decide +kernel) (by rfl) ?_ ?_; rotate_left; (focus (intro w' hk; go_simp; (try with_reducible rfl); done)); (try simp only [Act.put, List.setIfInBounds_toArray, List.set_cons_zero, List.set_cons_succ])) | (refine Xr.skip 8 (some 16) rfl rfl (by decide +kernel) (by rfl) ?_; (try simp only [Act.put, List.setIfInBounds_toArray, List.set_cons_zero, List.set_cons_succ]))
      first | (refine Xr.take 9 (some 17) (v := ?_) rfl rfl (by decide +kernel) (by rfl) ?_ ?_; rotate_left; (focus (intro w' hk; go_simp; (try with_reducible rfl); done)); (try simp only [Act.put, List.setIfInBounds_toArray, List.set_cons_zero, List.set_cons_succ])) | (refine Xr.skip 9 (some 17) rfl rfl (by decide +kernel) (by rfl) ?_; (try simp only [Act.put, List.setIfInBounds_toArray, List.set_cons_zero, List.set_cons_succ]))
      first | (refine Xr.take 10 (some 18) (v := ?_) rfl rfl (by decide +kernel) (by rfl) ?_ ?_; rotate_left; (focus (intro w' hk; go_simp; (try with_reducible rfl); done)); (try simp only [Act.put, List.setIfInBounds_toArray, List.set_cons_zero, List.set_cons_succ])) | (refine Xr.skip 10 (some 18) rfl rfl (by decide +kernel) (by rfl) ?_; (try simp only [Act.put, List.setIfInBounds_toArray, List.set_cons_zero, List.set_cons_succ]))
      first | (refine Xr.take 11 (some 19) (v := ?_) rfl rfl (by decide +kernel) (by rfl) ?_ ?_; rotate_left; (focus (intro w' hk; go_simp; (try with_reducible rfl); done)); (try simp only [Act.put, List.setIfInBounds_toArray, List.set_cons_zero, List.set_cons_succ])) | (refine Xr.skip 11 (some 19) rfl rfl (by decide +kernel) (by rfl) ?_; (try simp only [Act.put, List.setIfInBounds_toArray, List.set_cons_zero, List.set_cons_succ]))
      first | (refine Xr.take 12 (some 20) (v := ?_) rfl rfl (by decide +kernel) (by rfl) ?_ ?_; rotate_left; (focus (intro w' hk; go_simp; (try with_reducible rfl); done)); (try simp only [Act.put, List.setIfInBounds_toArray, List.set_cons_zero, List.set_cons_succ])) | (refine Xr.skip 12 (some 20) rfl rfl (by decide +kernel) (by rfl) ?_; (try simp only [Act.put, List.setIfInBounds_toArray, List.set_cons_zero, List.set_cons_succ]))
      (refine Xr.take 13 (some 21) (v := ?_) rfl rfl (by decide +kernel) (by rfl) ?_ ?_; rotate_left; (focus (intro w' hk; go_simp; (try with_reducible rfl); done)); (try simp only [Act.put, List.setIfInBounds_toArray, List.set_cons_zero, List.set_cons_succ]))
      refine Xr.done (by decide +kernel) (fun w2 hE2 hK2 => ?_)
      have x2 := hK2.nil
      have q0 := x2.cell p0
      have q1 := x2.cell p1
      have q2 := x2.cell g1
      have kq0 := fun (w' : World) (h : Ext w2 w') => h.cell q0
      have kq1 := fun (w' : World) (h : Ext w2 w') => h.cell q1
      have kq2 := fun (w' : World) (h : Ext w2 w') => h.cell q2
      have hOw2 := OwnS.ext HLX.out x2
      clear k0 k1 p0 p1 g1 gf HLX hE2 hK2
      go_upto_region 3 with fail
      refine Xs.start [g] 14 (by kernel_rfl) ?_
      (refine Xs.take 0 (some 22) (v := ?_) rfl rfl (by decide +kernel) (by rfl) ?_ ?_; rotate_left; (focus (intro w' hk; go_simp; (try with_reducible rfl); done)); (try simp only [Act.put, List.setIfInBounds_toArray, List.set_cons_zero, List.set_cons_succ]))
      (refine Xs.take 1 (some 23) (v := ?_) rfl rfl (by decide +kernel) (by rfl) ?_ ?_; rotate_left; (focus (intro w' hk; go_simp; (try with_reducible rfl); done)); (try simp only [Act.put, List.setIfInBounds_toArray, List.set_cons_zero, List.set_cons_succ]))
      (refine Xs.take 2 (some 24) (v := ?_) rfl rfl (by decide +kernel) (by rfl) ?_ ?_; rotate_left; (focus (intro w' hk; go_simp; (try with_reducible rfl); done)); (try simp only [Act.put, List.setIfInBounds_toArray, List.set_cons_zero, List.set_cons_succ]))
      (refine Xs.take 3 (some 25) (v := ?_) rfl rfl (by decide +kernel) (by rfl) ?_ ?_; rotate_left; (focus (intro w' hk; go_simp; (try with_reducible rfl); done)); (try simp only [Act.put, List.setIfInBounds_toArray, List.set_cons_zero, List.set_cons_succ]))
      (refine Xs.take 4 (some 26) (v := ?_) rfl rfl (by decide +kernel) (by rfl) ?_ ?_; rotate_left; (focus (intro w' hk; go_simp; (try with_reducible rfl); done)); (try simp only [Act.put, List.setIfInBounds_toArray, List.set_cons_zero, List.set_cons_succ]))
      (refine Xs.take 5 (some 27) (v := ?_) rfl rfl (by decide +kernel) (by rfl) ?_ ?_; rotate_left; (focus (intro w' hk; go_simp; (try with_reducible rfl); done)); (try simp only [Act.put, List.setIfInBounds_toArray, List.set_cons_zero, List.set_cons_succ]))
      (refine Xs.take 6 (some 28) (v := ?_) rfl rfl (by decide +kernel) (by rfl) ?_ ?_; rotate_left; (focus (intro w' hk; go_simp; (try with_reducible rfl); done)); (try simp only [Act.put, List.setIfInBounds_toArray, List.set_cons_zero, List.set_cons_succ]))
      (refine Xs.take 7 (some 29) (v := ?_) rfl rfl (by decide +kernel) (by rfl) ?_ ?_; rotate_left; (focus (intro w' hk; go_simp; (try with_reducible rfl); done)); (try simp only [Act.put, List.setIfInBounds_toArray, List.set_cons_zero, List.set_cons_succ]))
      (refine Xs.take 8 (some 30) (v := ?_) rfl rfl (by decide +kernel) (by rfl) ?_ ?_; rotate_left; (focus (intro w' hk; go_simp; (try with_reducible rfl); done)); (try simp only [Act.put, List.setIfInBounds_toArray, List.set_cons_zero, List.set_cons_succ]))
      (refine Xs.take 9 (some 31) (v := ?_) rfl rfl (by decide +kernel) (by rfl) ?_ ?_; rotate_left; (focus (intro w' hk; go_simp; (try with_reducible rfl); done)); (try simp only [Act.put, List.setIfInBounds_toArray, List.set_cons_zero, List.set_cons_succ]))
      (refine Xs.take 10 (some 32) (v := ?_) rfl rfl (by decide +kernel) (by rfl) ?_ ?_; rotate_left; (focus (intro w' hk; go_simp; (try with_reducible rfl); done)); (try simp only [Act.put, List.setIfInBounds_toArray, List.set_cons_zero, List.set_cons_succ]))
      (refine Xs.take 11 (some 33) (v := ?_) rfl rfl (by decide +kernel) (by rfl) ?_ ?_; rotate_left; (focus (intro w' hk; go_simp; (try with_reducible rfl); done)); (try simp only [Act.put, List.setIfInBounds_toArray, List.set_cons_zero, List.set_cons_succ]))
      (refine Xs.take 12 (some 34) (v := ?_) rfl rfl (by decide +kernel) (by rfl) ?_ ?_; rotate_left; (focus (intro w' hk; go_simp; (try with_reducible rfl); done)); (try simp only [Act.put, List.setIfInBounds_toArray, List.set_cons_zero, List.set_cons_succ]))
      (refine Xs.take 13 (some 35) (v := ?_) rfl rfl (by decide +kernel) (by rfl) ?_ ?_; rotate_left; (focus (intro w' hk; go_simp; (try with_reducible rfl); done)); (try simp only [Act.put, List.setIfInBounds_toArray, List.set_cons_zero, List.set_cons_succ]))
      refine Xs.stop (by decide +kernel) (fun w3 hE3 hX3 => ?_)
      refine Xr.step 14 rfl (by decide +kernel) (by rfl) (fun w4 hE4 hK4 K hKK => ?_)
      have x24 := hX3.trans hE4
      have hO4 := OwnS.ext hOw2 x24
      have g4 := lastCell hO4 HN0.out
      have gc := g4.1
      have gf := g4.2.1
      simp only at gc
      clear g4 kq0 kq1 kq2 q0 q1 q2 hOw2 hX3 hE3
      go_simp
      refine hKK _ _ (WI_setL (WI_refl _ _ _) List.mem_cons_self _ _) (hK4.setL List.mem_cons_self _ _) ?_
      clear hKK
      (try simp only [Act.put, List.setIfInBounds_toArray, List.set_cons_zero, List.set_cons_succ])
      refine Xr.done (by decide +kernel) (fun w5 hE5 hK5 => ?_)
      have hO5 := OwnS.ext (lastStore hO4 HN0.out (max thi hi)) hE5
      have hkk := (KpP.set (p := fun b => (some (⟨g, 0, none⟩ : Addr)).map (·.block) = some b) (x := ⟨g, n * 2 + 1, none⟩) (KpP.of_ext ((ex.trans x2).trans x24)) (.inl rfl) (.int .i64 (max thi hi))).trans (KpP.of_ext hE5)
      clear gc gf hO4 hE4 hK4 hE5 hK5 x24
      go_wp2_with fail
      go_ret
      refine ⟨some ⟨g, 0, none⟩, c, ?_, ?_, hkk, .inl rfl⟩
      · rw [HRE.out]; rfl
      · unfold OwnP; rw [HRE.out, HAD.out]; exact hO5
    · have HA := Lib.hid (addS_more (l := l0) (t := (tlo, thi)) (s := (lo, hi)) hj)
      have HRE := Lib.hid (show (addS (l0 ++ [(tlo, thi)]) (lo, hi)).length = n + 1 + 1 by rw [HA.out]; simp [hn0])
      have hadd : addS (l0 ++ [(tlo, thi)]) (lo, hi) = l0 ++ [(tlo, thi)] ++ [(lo, hi)] := HA.out
      generalize addS (l0 ++ [(tlo, thi)]) (lo, hi) = out at *
      have HAD := Lib.hid hadd
      have HL6 := Lib.hid (show n + 1 + 1 ≤ maxLen ∧ (n + 1 + 1) * 16 ≤ 140737488355328 by unfold maxLen; omega)
      clear hadd HA hn0 hlen hval hfl gst hlx hl hr ht hs
      have k0 := fun (w' : World) (h : Kp [] (w.alloc (.cells #[.int .i64 lo, .int .i64 hi] 48)) w') => h.cell p0 (by simp)
      have k1 := fun (w' : World) (h : Kp [] (w.alloc (.cells #[.int .i64 lo, .int .i64 hi] 48)) w') => h.cell g1 (by simp)
      go_enter Try.func39, Try.ntmps39
      go_upto_region 2 with fail
      refine Xr.start [] (by kernel_rfl) ?_
      (refine Xr.take 0 (some 8) (v := ?_) rfl rfl (by decide +kernel) (by rfl) ?_ ?_; rotate_left; (focus (intro w' hk; go_simp; (try with_reducible rfl); done)); (try simp only [Act.put, List.setIfInBounds_toArray, List.set_cons_zero, List.set_cons_succ]))
      (refine Xr.take 1 (some 9) (v := ?_) rfl rfl (by decide +kernel) (by rfl) ?_ ?_; rotate_left; (focus (intro w' hk; go_simp; (try with_reducible rfl); done)); (try simp only [Act.put, List.setIfInBounds_toArray, List.set_cons_zero, List.set_cons_succ]))
      (refine Xr.take 2 (some 10) (v := ?_) rfl rfl (by decide +kernel) (by rfl) ?_ ?_; rotate_left; (focus (intro w' hk; go_simp; (try with_reducible rfl); done)); (try simp only [Act.put, List.setIfInBounds_toArray, List.set_cons_zero, List.set_cons_succ]))
      first | (refine Xr.take 3 (some 11) (v := ?_) rfl rfl (by decide +kernel) (by rfl) ?_ ?_; rotate_left; (focus (intro w' hk; go_simp; (try with_reducible rfl); done)); (try simp only [Act.put, List.setIfInBounds_toArray, List.set_cons_zero, List.set_cons_succ])) | (refine Xr.skip 3 (some 11) rfl rfl (by decide +kernel) (by rfl) ?_; (try simp only [Act.put, List.setIfInBounds_toArray, List.set_cons_zero, List.set_cons_succ]))
      first | (refine Xr.take 4 (some 12) (v := ?_) rfl rfl (by decide +kernel) (by rfl) ?_ ?_; rotate_left; (focus (intro w' hk; go_simp; (try with_reducible rfl); done)); (try simp only [Act.put, List.setIfInBounds_toArray, List.set_cons_zero, List.set_cons_succ])) | (refine Xr.skip 4 (some 12) rfl rfl (by decide +kernel) (by rfl) ?_; (try simp only [Act.put, List.setIfInBounds_toArray, List.set_cons_zero, List.set_cons_succ]))
      first | (refine Xr.take 5 (some 13) (v := ?_) rfl rfl (by decide +kernel) (by rfl) ?_ ?_; rotate_left; (focus (intro w' hk; go_simp; (try with_reducible rfl); done)); (try simp only [Act.put, List.setIfInBounds_toArray, List.set_cons_zero, List.set_cons_succ])) | (refine Xr.skip 5 (some 13) rfl rfl (by decide +kernel) (by rfl) ?_; (try simp only [Act.put, List.setIfInBounds_toArray, List.set_cons_zero, List.set_cons_succ]))
      first | (refine Xr.take 6 (some 14) (v := ?_) rfl rfl (by decide +kernel) (by rfl) ?_ ?_; rotate_left; (focus (intro w' hk; go_simp; (try with_reducible rfl); done)); (try simp only [Act.put, List.setIfInBounds_toArray, List.set_cons_zero, List.set_cons_succ])) | (refine Xr.skip 6 (some 14) rfl rfl (by decide +kernel) (by rfl) ?_; (try simp only [Act.put, List.setIfInBounds_toArray, List.set_cons_zero, List.set_cons_succ]))
      first | (refine Xr.take 7 (some 15) (v := ?_) rfl rfl (by decide +kernel) (by rfl) ?_ ?_; rotate_left; (focus (intro w' hk; go_simp; (try with_reducible rfl); done)); (try simp only [Act.put, List.setIfInBounds_toArray, List.set_cons_zero, List.set_cons_succ])) | (refine Xr.skip 7 (some 15) rfl rfl (by decide +kernel) (by rfl) ?_; (try simp only [Act.put, List.setIfInBounds_toArray, List.set_cons_zero, List.set_cons_succ]))
      first | (refine Xr.take 8 (some 16) (v := ?_) rfl rfl (by decide +kernel) (by rfl) ?_ ?_; rotate_left; (focus (intro w' hk; go_simp; (try with_reducible rfl); done)); (try simp only [Act.put, List.setIfInBounds_toArray, List.set_cons_zero, List.set_cons_succ])) | (refine Xr.skip 8 (some 16) rfl rfl (by decide +kernel) (by rfl) ?_; (try simp only [Act.put, List.setIfInBounds_toArray, List.set_cons_zero, List.set_cons_succ]))
      first | (refine Xr.take 9 (some 17) (v := ?_) rfl rfl (by decide +kernel) (by rfl) ?_ ?_; rotate_left; (focus (intro w' hk; go_simp; (try with_reducible rfl); done)); (try simp only [Act.put, List.setIfInBounds_toArray, List.set_cons_zero, List.set_cons_succ])) | (refine Xr.skip 9 (some 17) rfl rfl (by decide +kernel) (by rfl) ?_; (try simp only [Act.put, List.setIfInBounds_toArray, List.set_cons_zero, List.set_cons_succ]))
      first | (refine Xr.take 10 (some 18) (v := ?_) rfl rfl (by decide +kernel) (by rfl) ?_ ?_; rotate_left; (focus (intro w' hk; go_simp; (try with_reducible rfl); done)); (try simp only [Act.put, List.setIfInBounds_toArray, List.set_cons_zero, List.set_cons_succ])) | (refine Xr.skip 10 (some 18) rfl rfl (by decide +kernel) (by rfl) ?_; (try simp only [Act.put, List.setIfInBounds_toArray, List.set_cons_zero, List.set_cons_succ]))
      first | (refine Xr.take 11 (some 19) (v := ?_) rfl rfl (by decide +kernel) (by rfl) ?_ ?_; rotate_left; (focus (intro w' hk; go_simp; (try with_reducible rfl); done)); (try simp only [Act.put, List.setIfInBounds_toArray, List.set_cons_zero, List.set_cons_succ])) | (refine Xr.skip 11 (some 19) rfl rfl (by decide +kernel) (by rfl) ?_; (try simp only [Act.put, List.setIfInBounds_toArray, List.set_cons_zero, List.set_cons_succ]))
      first | (refine Xr.take 12 (some 20) (v := ?_) rfl rfl (by decide +kernel) (by rfl) ?_ ?_; rotate_left; (focus (intro w' hk; go_simp; (try with_reducible rfl); done)); (try simp only [Act.put, List.setIfInBounds_toArray, List.set_cons_zero, List.set_cons_succ])) | (refine Xr.skip 12 (some 20) rfl rfl (by decide +kernel) (by rfl) ?_; (try simp only [Act.put, List.setIfInBounds_toArray, List.set_cons_zero, List.set_cons_succ]))
      (refine Xr.take 13 (some 21) (v := ?_) rfl rfl (by decide +kernel) (by rfl) ?_ ?_; rotate_left; (focus (intro w' hk; go_simp; (try with_reducible rfl); done)); (try simp only [Act.put, List.setIfInBounds_toArray, List.set_cons_zero, List.set_cons_succ]))
      refine Xr.done (by decide +kernel) (fun w2 hE2 hK2 => ?_)
      have x2 := hK2.nil
      have q0 := x2.cell p0
      have q1 := x2.cell p1
      have hOw2 := Lib.hid (OwnS.ext HLX.out x2)
      have HN2 := Lib.hid (Blk.new w2 48 (flatS [(lo, hi)]).toArray)
      have HB := Lib.hid (show base ≤ (w2.alloc (.cells (flatS [(lo, hi)]).toArray 48)).heap.size from Nat.le_trans hb ((ex.trans x2).trans (Ext.alloc _ _)).size)
      clear k0 k1 p0 p1 g1 gf HLX hE2 hK2
      go_wp2_with ((at_builtin; refine wpList_app _ rfl _ _ _ rfl base 48 iS _ 2 16 Try.underlying24 jS0 jS1 jS2 jS3 rfl (by omega) (some ⟨g, 0, none⟩) (n + 1) c (flatS (l0 ++ [(tlo, thi)])) rfl (OwnS.ext hOw2.out (Ext.alloc _ _)) _ 1 1 (flatS [(lo, hi)]) rfl rfl (blk_cells HN2.out) (flatS_one _) HL6.out.1 HL6.out.2 HB.out ?_; intro A' c' w3 ho3 hg3 hat3))
      go_ret
      refine ⟨A', c', ?_, ?_, ?_, ?_⟩
      · rw [HRE.out]; rfl
      · unfold OwnP; rw [HRE.out, HAD.out, flatS_append (l0 ++ [(tlo, thi)])]; exact ho3
      · exact (KpP.of_ext ((ex.trans x2).trans (Ext.alloc _ _))).trans (KpP.of_grown hg3)
      · rcases hat3 with h | h
        · exact .inl h
        · exact .inr ⟨_, h, ((ex.trans x2).trans (Ext.alloc _ _)).size⟩

theorem limited_any (A : Option Addr) (c : Nat) (n : Nat) (w : World) (hn : n ≤ 1000000000) :
    Calls Try.prog 49 #[.slice A n c] w (fun e w' => e = .returned (if 64 < n then .tuple #[.slice none 0 0, .int .i64 4] else .tuple #[.slice A n c, .int .i64 0]) ∧ w' = w) := by
  by_cases h : 64 < n
  · have hI : (64 : Int) < n := by omega
    rw [if_pos h]
    go_enter Try.func49, Try.ntmps49
    go_wp2
    exact bodyPost_ret (v := .tuple #[.slice none 0 0, .int .i64 4]) (by simp [results, Try.results49, go_sem]) rfl ⟨rfl, rfl⟩
  · have hI : ¬ (64 : Int) < n := by omega
    rw [if_neg h]
    go_enter Try.func49, Try.ntmps49
    go_wp2
    exact bodyPost_ret (v := .tuple #[.slice A n c, .int .i64 0]) (by simp [results, Try.results49, go_sem]) rfl ⟨rfl, rfl⟩
end Go.Proofs.Ytlbdjnbcoldjhaa
