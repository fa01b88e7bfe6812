/- The generators once more, their slices new; lists of sets in memory; a slice of slices of ints that came in. -/
import Derived.Test.YtlbdjnbcoldjhaaH8
import Derived.Test.YtlbdjnbcoldjhaaRow
import Derived.DataReads
import Derived.Deep.Matrix
namespace Go.Proofs.Ytlbdjnbcoldjhaa
open Go.RowKit

def RetGenF (n : Nat) (w : World) (e : Ending) (w' : World) : Prop := ∃ (A : Option Addr) (c : Nat) (l : List Sp), e = .returned (.slice A l.length c) ∧ SL w' A c l ∧ l.length ≤ n ∧ (∀ s ∈ l, Small s) ∧ Ext w w' ∧ Fr w A
def RetSpF (n : Nat) (w : World) (e : Ending) (w' : World) : Prop := ∃ (A : Option Addr) (c : Nat) (l : List Sp), e = .returned (.slice A l.length c) ∧ SL w' A c l ∧ l.length ≤ n ∧ Ext w w' ∧ Fr w A
def RetSetF (n : Nat) (w : World) (e : Ending) (w' : World) : Prop := ∃ (A : Option Addr) (c : Nat) (l : List Sp), e = .returned (.slice A l.length c) ∧ SL w' A c l ∧ l.length ≤ n ∧ l.length ≤ 64 ∧ OkL l ∧ Ext w w' ∧ Fr w A

set_option maxRecDepth 100000 in
set_option maxHeartbeats 4000000 in
theorem gManyF_any (n : Nat) (f : Int) (w : World) (hn : n ≤ 1000) (hf : -100000 ≤ f ∧ f ≤ 100000) : Calls Try.prog 11 #[.int .i64 (n : Int), .int .i64 f] w (RetGenF n w) := by
  go_enter Try.func11, Try.ntmps11
  go_wp2
  go_loopw [5, 6] (fun v5 v6 wr => ∃ (i : Nat) (O : Option Addr) (cO : Nat) (xs : List Sp), v6 = .int .i64 i ∧ i ≤ n ∧ v5 = .slice O xs.length cO ∧ Hid (xs = manyL i f ∧ OwnP wr w.heap.size O cO xs) ∧ Ext w wr) (fun _ v _ => n - (intOf v).toNat)
  case atStart => exact ⟨0, none, 0, [], rfl, by omega, rfl, ⟨rfl, OwnP.nil _ _⟩, Ext.rfl' _⟩
  case round =>
    obtain ⟨i, O, cO, xs, rfl, hi, rfl, HX, x1⟩ := hrel
    by_cases hlt : i < n
    · have hiI : (i : Int) < (n : Int) := by omega
      have hxb : xs.length ≤ 1000000 := by rw [HX.out.1, manyL_len]; omega
      have HY := Lib.hid (show manyL (i + 1) f = xs ++ [(f + 2 * (i : Int), f + 2 * (i : Int))] by rw [manyL_succ, HX.out.1])
      go_wp2_with ((at_builtin; refine wpList_app1S (w1 := wr) rfl _ _ _ rfl Try.underlying24 w x1 (f + 2 * (i : Int), f + 2 * (i : Int)) rfl O cO xs rfl HX.out.2 rfl hxb _ HY.out ?_; intro O2 cO2 w2 ho2 x2))
      have HO2 := Lib.hid ho2
      clear ho2
      go_roundw
      case rel => exact ⟨i + 1, O2, cO2, manyL (i + 1) f, by go_num, by omega, rfl, ⟨rfl, HO2.out⟩, x2⟩
      case measure => simp [intOf]; omega
    · have hiI : ¬ (i : Int) < (n : Int) := by omega
      go_wp2
      go_ret
      refine ⟨O, cO, xs, rfl, ?_, ?_, ?_, x1, fun b hb => OwnP.row HX.out.2 hb⟩
      · exact OwnP.small HX.out.2 (by rw [HX.out.1]; exact manyL_small (by omega) hf)
      · rw [HX.out.1, manyL_len]; omega
      · rw [HX.out.1]; exact manyL_small (by omega) hf
set_option maxRecDepth 100000 in
set_option maxHeartbeats 4000000 in
theorem gSpoiltF_any (A : Option Addr) (c : Nat) (l : List Sp) (at_ by_ : Int) (w : World) (hl : SL w A c l) (hs : ∀ s ∈ l, Small s) (hlen : l.length ≤ 1000) (ha : I64 at_) (hb : I64 by_) :
    Calls Try.prog 10 #[.slice A l.length c, .int .i64 at_, .int .i64 by_] w (RetSpF (l.length + 1) w) := by
  have hcap := hl.len
  have HS := Lib.hid hs
  clear hs
  go_enter Try.func10, Try.ntmps10
  go_upto_region 3 with ((at_builtin; refine wpList_appSS rfl _ _ _ rfl Try.underlying24 w (Ext.rfl' _) none 0 [] rfl (OwnP.nil _ _) A c l rfl hl (by simp; omega) ?_; intro O1 c1 w1 ho1 x1))
  simp only [List.nil_append] at ho1 ⊢
  have HO := Lib.hid ho1
  clear ho1
  by_cases h0 : l = []
  · subst h0
    have h1 := HO.out
    go_wp2_with ((at_builtin; refine wpList_app1S (w1 := w1) rfl _ _ _ rfl Try.underlying24 w x1 (by_, 5) rfl O1 c1 [] rfl HO.out rfl (by simp) _ rfl ?_; intro O2 cO2 w2 ho2 x2))
    go_ret
    refine ⟨O2, cO2, [(by_, 5)], rfl, SL.of_own ho2 (fun s hs => ?_), by simp, x2, fun b hb => OwnP.row ho2 hb⟩
    obtain rfl := List.mem_singleton.1 hs
    exact ⟨hb, by unfold I64; simp only; omega⟩
  · have hpos : 0 < l.length := List.length_pos_iff.2 h0
    obtain ⟨n, hn⟩ : ∃ n, l.length = n + 1 := ⟨l.length - 1, by omega⟩
    have HN := Lib.hid hn
    rw [hn] at hlen hpos hcap ⊢
    clear hn h0
    have hne : (((n + 1 : Nat) : Int) == 0) = false := by simp; omega
    have HA1 := fun (q m : Int) (W : World) hq h0 h1 => Lib.hid ((around_any q m W hq h0 h1).mono (fun _ _ h => RetQ.ext h))
    have HAB := fun (q m : Int) h => around_bd q m h
    go_wp2_with fail
    have hq : I64 (wrap64 (at_.tdiv 4)) := by unfold I64 wrap64; omega
    have B1 := HAB (wrap64 (at_.tdiv 4)) ((n : Int) + 1) (by omega)
    have A1 := HA1 (wrap64 (at_.tdiv 4)) ((n : Int) + 1) w1 hq (by omega) (by omega)
    obtain ⟨j, hj⟩ : ∃ j : Nat, around (wrap64 (at_.tdiv 4)) ((n : Int) + 1) = j := ⟨(around (wrap64 (at_.tdiv 4)) ((n : Int) + 1)).toNat, by omega⟩
    rw [hj] at B1 A1
    clear hj hq
    refine A1.out.mono ?_
    rintro e w2 ⟨rfl, x2⟩
    clear A1
    have A2 := HA1 at_ 4 w2 ha (by omega) (by omega)
    have B2 := HAB at_ 4 (by omega)
    obtain ⟨q, hq⟩ : ∃ q : Nat, around at_ 4 = q := ⟨(around at_ 4).toNat, by omega⟩
    rw [hq] at A2 B2
    clear hq HA1 HAB
    go_wp2_with fail
    refine A2.out.mono ?_
    rintro e w3 ⟨rfl, x3⟩
    have X := (x1.trans x2).trans x3
    have HO3 := Lib.hid ((HO.out.ext x2).ext x3)
    have hjl : j < l.length := by rw [HN.out]; omega
    have hjn : (j : Int) < (n : Int) + 1 := by omega
    obtain ⟨g, rfl, hge, g1, g2, f1, f2, st1, st2⟩ := HO3.out.at hjl
    have HST1 := Lib.hid (st1 by_)
    have HST2 := Lib.hid (st2 by_)
    have HW := Lib.hid (hl.rng)
    clear st1 st2 A2 x1 x2 x3 HO
    have hqc : q = 0 ∨ q = 1 ∨ q = 2 ∨ q = 3 := by omega
    rcases hqc with rfl | rfl | rfl | rfl
    · go_wp2_with fail
      have hll : (l.set j (by_, l[j].2)).length = n + 1 := by rw [List.length_set, HN.out]
      have hx := X.setNew (p := ⟨g, j * 2, none⟩) hge (.int .i64 by_)
      go_ret
      refine ⟨_, _, l.set j (by_, l[j].2), by rw [hll]; rfl, SL.of_own HST1.out (fun s hs => ?_), by rw [List.length_set]; omega, hx, fun b hb => OwnP.row HST1.out hb⟩
      rcases List.mem_or_eq_of_mem_set hs with h | rfl
      · exact HW.out s h
      · exact ⟨hb, (HW.out _ (List.getElem_mem hjl)).2⟩
    · go_wp2_with fail
      have hll : (l.set j (l[j].1, by_)).length = n + 1 := by rw [List.length_set, HN.out]
      have hx := X.setNew (p := ⟨g, j * 2 + 1, none⟩) hge (.int .i64 by_)
      go_ret
      refine ⟨_, _, l.set j (l[j].1, by_), by rw [hll]; rfl, SL.of_own HST2.out (fun s hs => ?_), by rw [List.length_set]; omega, hx, fun b hb => OwnP.row HST2.out hb⟩
      rcases List.mem_or_eq_of_mem_set hs with h | rfl
      · exact HW.out s h
      · exact ⟨(HW.out _ (List.getElem_mem hjl)).1, hb⟩
    · go_wp2_with ((at_builtin; refine wpList_app1S (w1 := w3) rfl _ _ _ rfl Try.underlying24 w X l[j] rfl (some ⟨g, 0, none⟩) c1 l (by rw [HN.out]; rfl) HO3.out rfl (by rw [HN.out]; omega) _ rfl ?_; intro O2 cO2 w4 ho2 x4))
      have hll : (l ++ [l[j]]).length = n + 1 + 1 := by rw [List.length_append, HN.out]; rfl
      go_ret
      refine ⟨_, _, l ++ [l[j]], by rw [List.length_append]; rfl, SL.of_own ho2 (fun s hs => ?_), by rw [List.length_append]; exact Nat.le_refl _, x4, fun b hb => OwnP.row ho2 hb⟩
      rcases List.mem_append.1 hs with h | h
      · exact HW.out s h
      · obtain rfl := List.mem_singleton.1 h
        exact HW.out _ (List.getElem_mem hjl)
    · clear HST1 HST2 g1 g2 f1 f2
      have hnl : n < l.length := by rw [HN.out]; omega
      obtain ⟨g', he, -, -, g2, -, -, -, -⟩ := HO3.out.at hnl
      injection he with he
      injection he with he
      subst he
      have hsm := HS.out _ (List.getElem_mem hnl)
      unfold Small at hsm
      generalize l[n].2 = z at *
      have hwn : IntKind.i64.wrap ((n : Int) + 1 - 1) = (n : Int) := by rw [IntKind.wrap_i64]; omega
      have hwn2 : IntKind.i64.wrap (n : Int) = (n : Int) := by rw [IntKind.wrap_i64]; omega
      have hwz : IntKind.i64.wrap (z + 1) = z + 1 := by rw [IntKind.wrap_i64]; omega
      have hn1 : (n : Int) < (n : Int) + 1 := by omega
      have k2 := fun (w' : World) (h : Ext w3 w') => h.cell g2
      obtain ⟨iS, jS0, jS1, jS2, jS3⟩ := info_parts infoS
      go_upto_region 7 with fail
      refine Xs.start [g] 19 (by kernel_rfl) ?_
      (refine Xs.take 0 (some 27) (v := ?_) rfl rfl (by decide +kernel) (by rfl) ?_ ?_; rotate_left; (focus (intro w' hk; go_simp; (try with_reducible rfl); done)); (try simp only [Act.put, List.setIfInBounds_toArray, List.set_cons_zero, List.set_cons_succ]))
      (refine Xs.take 1 (some 28) (v := ?_) rfl rfl (by decide +kernel) (by rfl) ?_ ?_; rotate_left; (focus (intro w' hk; go_simp; (try with_reducible rfl); done)); (try simp only [Act.put, List.setIfInBounds_toArray, List.set_cons_zero, List.set_cons_succ]))
      (refine Xs.take 2 (some 29) (v := ?_) rfl rfl (by decide +kernel) (by rfl) ?_ ?_; rotate_left; (focus (intro w' hk; go_simp; (try with_reducible rfl); done)); (try simp only [Act.put, List.setIfInBounds_toArray, List.set_cons_zero, List.set_cons_succ]))
      (refine Xs.take 3 (some 30) (v := ?_) rfl rfl (by decide +kernel) (by rfl) ?_ ?_; rotate_left; (focus (intro w' hk; go_simp; (try with_reducible rfl); done)); (try simp only [Act.put, List.setIfInBounds_toArray, List.set_cons_zero, List.set_cons_succ]))
      (refine Xs.take 4 (some 31) (v := ?_) rfl rfl (by decide +kernel) (by rfl) ?_ ?_; rotate_left; (focus (intro w' hk; go_simp; (try with_reducible rfl); done)); (try simp only [Act.put, List.setIfInBounds_toArray, List.set_cons_zero, List.set_cons_succ]))
      (refine Xs.take 5 (some 32) (v := ?_) rfl rfl (by decide +kernel) (by rfl) ?_ ?_; rotate_left; (focus (intro w' hk; go_simp; (try with_reducible rfl); done)); (try simp only [Act.put, List.setIfInBounds_toArray, List.set_cons_zero, List.set_cons_succ]))
      (refine Xs.take 6 (some 33) (v := ?_) rfl rfl (by decide +kernel) (by rfl) ?_ ?_; rotate_left; (focus (intro w' hk; go_simp; (try with_reducible rfl); done)); (try simp only [Act.put, List.setIfInBounds_toArray, List.set_cons_zero, List.set_cons_succ]))
      (refine Xs.take 7 (some 34) (v := ?_) rfl rfl (by decide +kernel) (by rfl) ?_ ?_; rotate_left; (focus (intro w' hk; go_simp; (try with_reducible rfl); done)); (try simp only [Act.put, List.setIfInBounds_toArray, List.set_cons_zero, List.set_cons_succ]))
      (refine Xs.take 8 (some 35) (v := ?_) rfl rfl (by decide +kernel) (by rfl) ?_ ?_; rotate_left; (focus (intro w' hk; go_simp; (try with_reducible rfl); done)); (try simp only [Act.put, List.setIfInBounds_toArray, List.set_cons_zero, List.set_cons_succ]))
      (refine Xs.take 9 (some 36) (v := ?_) rfl rfl (by decide +kernel) (by rfl) ?_ ?_; rotate_left; (focus (intro w' hk; go_simp; (try with_reducible rfl); done)); (try simp only [Act.put, List.setIfInBounds_toArray, List.set_cons_zero, List.set_cons_succ]))
      (refine Xs.take 10 (some 37) (v := ?_) rfl rfl (by decide +kernel) (by rfl) ?_ ?_; rotate_left; (focus (intro w' hk; go_simp; (try with_reducible rfl); done)); (try simp only [Act.put, List.setIfInBounds_toArray, List.set_cons_zero, List.set_cons_succ]))
      (refine Xs.take 11 (some 38) (v := ?_) rfl rfl (by decide +kernel) (by rfl) ?_ ?_; rotate_left; (focus (intro w' hk; go_simp; (try with_reducible rfl); done)); (try simp only [Act.put, List.setIfInBounds_toArray, List.set_cons_zero, List.set_cons_succ]))
      (refine Xs.take 12 (some 39) (v := ?_) rfl rfl (by decide +kernel) (by rfl) ?_ ?_; rotate_left; (focus (intro w' hk; go_simp; (try with_reducible rfl); done)); (try simp only [Act.put, List.setIfInBounds_toArray, List.set_cons_zero, List.set_cons_succ]))
      (refine Xs.take 13 (some 40) (v := ?_) rfl rfl (by decide +kernel) (by rfl) ?_ ?_; rotate_left; (focus (intro w' hk; go_simp; (try with_reducible rfl); done)); (try simp only [Act.put, List.setIfInBounds_toArray, List.set_cons_zero, List.set_cons_succ]))
      (refine Xs.take 14 (some 41) (v := ?_) rfl rfl (by decide +kernel) (by rfl) ?_ ?_; rotate_left; (focus (intro w' hk; go_simp; (try with_reducible rfl); done)); (try simp only [Act.put, List.setIfInBounds_toArray, List.set_cons_zero, List.set_cons_succ]))
      (refine Xs.take 15 (some 42) (v := ?_) rfl rfl (by decide +kernel) (by rfl) ?_ ?_; rotate_left; (focus (intro w' hk; go_simp; (try with_reducible rfl); done)); (try simp only [Act.put, List.setIfInBounds_toArray, List.set_cons_zero, List.set_cons_succ]))
      (refine Xs.take 16 (some 43) (v := ?_) rfl rfl (by decide +kernel) (by rfl) ?_ ?_; rotate_left; (focus (intro w' hk; go_simp; (try with_reducible rfl); done)); (try simp only [Act.put, List.setIfInBounds_toArray, List.set_cons_zero, List.set_cons_succ]))
      (refine Xs.take 17 (some 44) (v := ?_) rfl rfl (by decide +kernel) (by rfl) ?_ ?_; rotate_left; (focus (intro w' hk; go_simp; (try with_reducible rfl); done)); (try simp only [Act.put, List.setIfInBounds_toArray, List.set_cons_zero, List.set_cons_succ]))
      refine Xs.call 18 rfl (by decide +kernel) (by rfl) (fun w4 hE4 hX4 K hKK => ?_)
      go_simp
      have bS := Blk.new w4 48 (flatS [(z + 1, z + 1)]).toArray
      refine hKK _ _ (Ext.alloc _ _) ?_
      clear hKK
      (try simp only [Act.put, List.setIfInBounds_toArray, List.set_cons_zero, List.set_cons_succ])
      refine Xs.stop (by decide +kernel) (fun w5 hE5 hX5 => ?_)
      refine Xr.step 19 rfl (by decide +kernel) (by rfl) (fun w6 hE6 hK6 K hKK => ?_)
      have x6 := hX5.trans hE6
      have b6 := (bS.ext hE5).ext hE6
      have HO6 := HO3.out.ext x6
      unfold OwnP at HO6
      rw [HN.out] at HO6
      refine wp_app _ _ _ _ rfl w.heap.size 48 iS _ 2 16 Try.underlying24 jS0 jS1 jS2 jS3 rfl (by omega) (some ⟨g, 0, none⟩) (n + 1) c1 (flatS l) rfl HO6 _ 1 1 (flatS [(z + 1, z + 1)]) rfl rfl (blk_cells b6) (flatS_one _) (by unfold maxLen; omega) (by omega) (X.trans x6).size ?_
      intro X' cX' w7 ho7 hg7 hat7
      refine hKK _ _ (WI_kp (KpP.of_grown hg7) (fun i hi => ?_)) (hK6.kpP (KpP.of_grown hg7) (fun i hi => ?_)) ?_
      · have : g = i := by simpa using hi
        subst this; simp
      · have : g = i := by simpa using hi
        subst this; simp
      clear hKK
      (try simp only [Act.put, List.setIfInBounds_toArray])
      (refine Xr.take 20 (some 7) (v := ?_) rfl rfl (by decide +kernel) (by rfl) ?_ ?_; rotate_left; (focus (intro w' hk; go_simp; (try with_reducible rfl); done)); (try simp only [Act.put]))
      refine Xr.done (by decide +kernel) (fun w8 hE8 hK8 => ?_)
      have X8 := (Ext.app (X.trans x6) HO6 hg7).trans hE8
      have HO8 := Lib.hid (OwnS.ext ho7 hE8)
      clear ho7 hg7 hat7 HO6 b6 bS hE4 hX4 hE5 hX5 hE6 hK6 x6 hE8 hK8 k2
      go_wp2_with fail
      go_ret
      have hll : (l ++ [(z + 1, z + 1)]).length = n + 1 + 1 := by rw [List.length_append, HN.out]; rfl
      refine ⟨X', cX', l ++ [(z + 1, z + 1)], by rw [hll]; rfl, SL.of_own (base := w.heap.size) (by rw [hll, flatS_append]; exact HO8.out) (fun s hs => ?_), by rw [List.length_append]; exact Nat.le_refl _, X8, fun b hb => OwnS.row HO8.out b hb⟩
      rcases List.mem_append.1 hs with h | h
      · exact HW.out s h
      · obtain rfl := List.mem_singleton.1 h
        exact ⟨by unfold I64; simp only; omega, by unfold I64; simp only; omega⟩

set_option maxRecDepth 100000 in
set_option maxHeartbeats 4000000 in
theorem gSetF_any (A : Option Addr) (c : Nat) (l : List Int) (most : Nat) (w : World) (hl : IL w A c l) (hm : most ≤ 1000) : Calls Try.prog 9 #[.slice A l.length c, .int .i64 (most : Int)] w (RetSetF most w) := by
  have hcap := hl.len
  have HS := Lib.hid (gSpans_any A c l most w hl hm)
  clear hl
  go_enter Try.func9, Try.ntmps9
  go_wp2_with fail
  refine HS.out.mono ?_
  rintro e w1 ⟨A1, c1, l1, rfl, h1, hn1, hs1, x1⟩
  have HN := Lib.hid (gNormal_any A1 c1 l1 w1 h1 (by omega))
  clear HS h1 hs1
  go_wp2_with fail
  refine HN.out.mono ?_
  rintro e w2 (⟨h1, rfl, x2⟩ | ⟨h1, ⟨h64, rfl, x2⟩ | ⟨h64, S, cS, rfl, hS, x2, hf⟩⟩)
  · clear HN
    have X := x1.trans x2
    go_wp2_with fail
    go_ret
    exact ⟨none, 0, [], rfl, SL.nil _, by simp, by simp, fun i hi => absurd hi (Nat.not_lt_zero _), X, Fr.nil _⟩
  · clear HN
    have X := x1.trans x2
    go_wp2_with fail
    go_ret
    exact ⟨none, 0, [], rfl, SL.nil _, by simp, by simp, fun i hi => absurd hi (Nat.not_lt_zero _), X, Fr.nil _⟩
  · have HL := Lib.hid (nrm_law h1)
    have hf2 := hf.mono x1
    clear HN hf h1
    have X := x1.trans x2
    generalize nrm l1 = out at *
    go_wp2_with fail
    go_ret
    exact ⟨S, cS, out, rfl, hS, by have := HL.out.2.2.1; omega, by omega, canon_okL HL.out.1 HL.out.2.2.2, X, hf2⟩

/-- a slice of lists of spans that this call has made -/
structure AllI (w : World) (base : Nat) (O : Option Addr) (cO : Nat) (hs : List Hs) : Prop where
  own : OwnS w base 24 1 O hs.length cO (flatH hs)
  sl : ∀ z ∈ hs, SL w z.A z.c z.l
  apart : ∀ z ∈ hs, z.l ≠ [] → ∀ b, z.A.map (·.block) = Option.some b → O.map (·.block) ≠ Option.some b
theorem allI_nil (w : World) (base : Nat) : AllI w base none 0 [] := ⟨OwnS.nil _ _ _ _, by simp, by simp⟩
theorem AllI.ext {w w' : World} {base : Nat} {O : Option Addr} {cO : Nat} {hs : List Hs} (h : AllI w base O cO hs) (x : Ext w w') : AllI w' base O cO hs := ⟨OwnS.ext h.own x, fun z hz => (h.sl z hz).ext x, h.apart⟩
theorem AllI.lls {w : World} {base : Nat} {O : Option Addr} {cO : Nat} {hs : List Hs} (h : AllI w base O cO hs) : LLS w O cO hs := by
  have hc := OwnS.caps h.own
  refine ⟨hc.1, by unfold maxLen; omega, h.sl, fun hn => ?_⟩
  obtain ⟨b, o, hA, hcell⟩ := OwnS.cells h.own (by intro e; unfold flatH at e; exact hn (List.map_eq_nil_iff.1 e))
  refine ⟨b, o, hA, fun k hk => ?_⟩
  have := hcell k (by unfold flatH; simpa using hk)
  simpa [flatH] using this
/-- one list is added; w5 is the world ahead of the call that made it -/
theorem AllI.push {w5 w6 w8 : World} {base : Nat} {O : Option Addr} {cO : Nat} {hs : List Hs} (h : AllI w5 base O cO hs) (x : Ext w5 w6)
    {S : Option Addr} {cS : Nat} {out : List Sp} (hS : SL w6 S cS out) (hf : Fr w5 S) {cs : Array Value} {T : Nat}
    {O' : Option Addr} {cO' : Nat} (hg : (w6.alloc (.cells cs T)).grownBy w8 (O.map (·.block))) (how : OwnS w8 base 24 1 O' (hs.length + 1) cO' (flatH hs ++ [.slice S out.length cS]))
    (hat : O'.map (·.block) = O.map (·.block) ∨ O'.map (·.block) = Option.some (w6.alloc (.cells cs T)).heap.size) : AllI w8 base O' cO' (hs ++ [⟨S, cS, out⟩]) := by
  have x6 := x.trans (Ext.alloc w6 (.cells cs T))
  have own6 := OwnS.ext h.own x6
  have kg := KpP.of_grown hg
  have sl6 : ∀ z ∈ hs, SL (w6.alloc (.cells cs T)) z.A z.c z.l := fun z hz => (h.sl z hz).ext x6
  refine ⟨?_, ?_, ?_⟩
  · rw [List.length_append, List.length_singleton]
    have e : flatH (hs ++ [⟨S, cS, out⟩]) = flatH hs ++ [.slice S out.length cS] := by simp [flatH]
    rw [e]; exact how
  · intro z hz
    rcases List.mem_append.1 hz with hz | hz
    · exact SL.kp (sl6 z hz) kg (fun hn b hb => h.apart z hz hn b hb)
    · obtain rfl := List.mem_singleton.1 hz
      refine SL.kp (hS.ext (Ext.alloc _ _)) kg (fun hn b hb hob => ?_)
      have h1 := hf b hb
      have h2 := (OwnS.blt h.own hob).1
      omega
  · intro z hz hn b hb
    rcases hat with hat | hat
    · rw [hat]
      rcases List.mem_append.1 hz with hz | hz
      · exact h.apart z hz hn b hb
      · obtain rfl := List.mem_singleton.1 hz
        intro hob
        have h1 := hf b hb
        have h2 := (OwnS.blt h.own hob).1
        omega
    · rw [hat]
      intro he
      have he2 : (w6.alloc (.cells cs T)).heap.size = b := by injection he
      rcases List.mem_append.1 hz with hz | hz
      · have := SL.blt (sl6 z hz) hn hb
        omega
      · obtain rfl := List.mem_singleton.1 hz
        have := SL.blt (hS.ext (Ext.alloc w6 (.cells cs T))) hn hb
        omega
/-- lists are copied behind an empty literal -/
theorem AllI.copy {w w8 : World} {base : Nat} {O : Option Addr} {cO : Nat} {hs : List Hs} (h : AllI w base O cO hs) {O' : Option Addr} {cO' : Nat} (x : Ext w w8)
    (how : OwnS w8 w.heap.size 24 1 O' hs.length cO' (flatH hs)) : AllI w8 w.heap.size O' cO' hs :=
  ⟨how, fun z hz => (h.sl z hz).ext x, fun z hz hn b hb hob => by
    have h1 := SL.blt (h.sl z hz) hn hb
    have h2 := OwnS.row how b hob
    omega⟩
theorem AllI.cells {w : World} {base : Nat} {O : Option Addr} {cO : Nat} {hs : List Hs} (h : AllI w base O cO hs) : CellsAt w O (flatH hs) := OwnS.cells h.own

theorem LLS.lit' {w : World} {g T : Nat} (hs : List Hs) (h : Blk w g T (flatH hs).toArray) (hsl : ∀ h ∈ hs, SL w h.A h.c h.l) (hn : hs.length ≤ 1000) : LLS w (Option.some ⟨g, 0, none⟩) hs.length hs :=
  ⟨Nat.le_refl _, by unfold maxLen; omega, hsl, fun _ => ⟨g, 0, rfl, fun i hi => by
    rw [h.cell]
    simp [flatH, hi]⟩⟩

/-- a slice of ints with its address -/
structure Hi where
  A : Option Addr
  c : Nat
  l : List Int
/-- The slice '.slice A rs.length c' holds slices of ints. -/
structure LIL (w : World) (A : Option Addr) (c : Nat) (rs : List Hi) : Prop where
  le : rs.length ≤ c
  cap : c ≤ maxLen
  il : ∀ h ∈ rs, IL w h.A h.c h.l
  at_ : rs ≠ [] → ∃ b o, A = Option.some ⟨b, o, none⟩ ∧ ∀ i (h : i < rs.length), w.cell? ⟨b, o + i, none⟩ = Option.some (.slice rs[i].A rs[i].l.length rs[i].c)
theorem LIL.ext {w w' : World} {A : Option Addr} {c : Nat} {rs : List Hi} (h : LIL w A c rs) (k : Ext w w') : LIL w' A c rs := by
  refine ⟨h.le, h.cap, fun x hx => (h.il x hx).ext k, fun hn => ?_⟩
  obtain ⟨b, o, rfl, hc⟩ := h.at_ hn
  exact ⟨b, o, rfl, fun i hi => k.cell (hc i hi)⟩
theorem LIL.len {w : World} {A : Option Addr} {c : Nat} {rs : List Hi} (h : LIL w A c rs) : rs.length ≤ c ∧ c ≤ 9223372036854775807 := ⟨h.le, by have := h.cap; unfold maxLen at this; omega⟩
theorem LIL.get {w : World} {A : Option Addr} {c : Nat} {rs : List Hi} {k : Nat} (h : LIL w A c rs) (hk : k < rs.length) : ∃ b o, A = Option.some ⟨b, o, none⟩ ∧ w.cell? ⟨b, o + k, none⟩ = Option.some (.slice rs[k].A rs[k].l.length rs[k].c) := by
  obtain ⟨b, o, rfl, hc⟩ := h.at_ (by intro h0; subst h0; simp at hk)
  exact ⟨b, o, rfl, hc k hk⟩
theorem lil_nil (w : World) : LIL w none 0 [] := ⟨Nat.le_refl _, Nat.zero_le _, by simp, fun h => absurd rfl h⟩
theorem add_plain {a : Addr} {r : Nat} (h : a.spot = none) : a.add r = ⟨a.block, a.off + r, none⟩ := by
  obtain ⟨b, o, s⟩ := a
  simp only at h
  subst h
  unfold Addr.add
  split
  · subst_vars; rfl
  · rfl
theorem lil_of_rows {w : World} {a : Addr} {base len cap : Nat} {A : Nat → Option Addr} {L C : Nat → Nat} {Z : Nat → List Int} (hl : len ≤ cap) (hm : cap ≤ maxLen)
    (h : ∀ r, r < cap → w.cell? (a.add r) = Option.some (.slice (A r) (L r) (C r)) ∧ L r ≤ C r ∧ C r ≤ maxLen ∧ (Z r).length = C r ∧ (∀ n ∈ Z r, (Lit.int .i64 n).wf = true) ∧ (A r = none → C r = 0) ∧
        ∀ a', A r = Option.some a' → base ≤ a'.block ∧ ∀ c, c < C r → w.cell? (a'.add c) = Option.some (.int .i64 ((Z r).getD c 0))) :
    ∃ rs : List Hi, rs.length = len ∧ LIL w (Option.some a) cap rs := by
  refine ⟨(List.range len).map (fun r => ⟨A r, C r, (Z r).take (L r)⟩), by simp, by simpa using hl, hm, fun x hx => ?_, fun hn => ?_⟩
  · obtain ⟨r, hr, rfl⟩ := List.mem_map.1 hx
    obtain ⟨h1, h2, h3, h4, h5, h6, h7⟩ := h r (by have := List.mem_range.1 hr; omega)
    have hlen : ((Z r).take (L r)).length = L r := by rw [List.length_take]; omega
    refine ⟨by rw [hlen]; exact h2, h3, fun n hn => I64.of_wf (h5 n (List.mem_of_mem_take hn)), fun hn => ?_⟩
    have h0 : 0 < L r := by rw [← hlen]; exact List.length_pos_iff.2 hn
    cases hA : A r with
    | none => have := h6 hA; omega
    | some a' =>
      obtain ⟨_, h8⟩ := h7 a' hA
      have hs := h8 0 (by omega)
      have hspot : a'.spot = none := by simpa [Addr.add] using World.cell?_spot hs
      obtain ⟨b, o, s⟩ := a'
      simp only at hspot
      subst hspot
      refine ⟨b, o, rfl, fun i hi => ?_⟩
      rw [hlen] at hi
      have h9 := h8 i (by omega)
      have e1 : ((Z r).take (L r))[i]'(by rw [hlen]; exact hi) = (Z r).getD i 0 := by
        rw [List.getElem_take, List.getD_eq_getElem?_getD, List.getElem?_eq_getElem (by omega)]; rfl
      rw [e1, ← h9, add_plain rfl]
  · have h0 : 0 < len := by
      rcases Nat.eq_zero_or_pos len with h | h
      · subst h; simp at hn
      · exact h
    have hs := (h 0 (by omega)).1
    have hspot : a.spot = none := by simpa [Addr.add] using World.cell?_spot hs
    obtain ⟨b, o, s⟩ := a
    simp only at hspot
    subst hspot
    refine ⟨b, o, rfl, fun i hi => ?_⟩
    have hi2 : i < len := by simpa using hi
    obtain ⟨h1, h2, h3, h4, _⟩ := h i (by omega)
    rw [add_plain rfl] at h1
    simp only at h1
    rw [h1]
    have hlen : ((Z i).take (L i)).length = L i := by rw [List.length_take]; omega
    simp [hlen]
end Go.Proofs.Ytlbdjnbcoldjhaa
