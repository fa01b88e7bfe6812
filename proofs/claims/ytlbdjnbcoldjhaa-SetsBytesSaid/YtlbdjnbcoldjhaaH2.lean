/- Walks of the reference of package sets: the generators Set and Spoilt. -/
import Derived.Test.YtlbdjnbcoldjhaaH1
import Derived.Test.YtlbdjnbcoldjhaaG18
import Derived.Test.YtlbdjnbcoldjhaaFs
import Derived.Test.YtlbdjnbcoldjhaaFk
namespace Go.Proofs.Ytlbdjnbcoldjhaa
open Go.RowKit

/-- 'xs = append(xs, ys...)', spans -/
theorem wpList_appSS {w : World} {ops : Array Oper} {rest : List Oper} {o : Oper} {a : Act} {Q : Exit → Act → World → Prop} (hgd : o.guard = none) (s x : Operand) (t : Nat)
    (ho : o.op = .call { callee := .builtin .append, args := #[s, x], argTypes := #[t, t] }) (ht : Try.prog.underlying t = some (.slice 48))
    (a0 : World) (hext : Ext a0 w) (A : Option Addr) (c : Nat) (xs : List Sp) (hs : a.eval s = .slice A xs.length c) (hown : OwnP w a0.heap.size A c xs)
    (B : Option Addr) (d : Nat) (ys : List Sp) (hx : a.eval x = .slice B ys.length d) (hy : SL w B d ys) (hb : xs.length + ys.length ≤ 1000000)
    (h : ∀ A' c' w', OwnP w' a0.heap.size A' c' (xs ++ ys) → Ext a0 w' → wpList Try.prog ops Q rest (a.put o.dst (.slice A' (xs ++ ys).length c')) w') : wpList Try.prog ops Q (o :: rest) a w := by
  obtain ⟨iS, jS0, jS1, jS2, jS3⟩ := info_parts infoS
  refine wpList_app _ hgd s x t ho a0.heap.size 48 iS _ 2 16 ht jS0 jS1 jS2 jS3 rfl (by omega) A xs.length c (flatS xs) hs hown B ys.length d (flatS ys) hx (flatS_len ys) hy.cells (flatS_one _) (by unfold maxLen; omega) (by omega) hext.size ?_
  intro A' c' w' ho' hg hat
  have hl : (xs ++ ys).length = xs.length + ys.length := by simp
  rw [← hl] at ho' ⊢
  refine h A' c' w' ?_ (Ext.app hext hown hg)
  unfold OwnP
  rw [flatS_append]
  exact ho'

/-- what Spoilt returns: at most n spans -/
def RetSp (n : Nat) (w : World) (e : Ending) (w' : World) : Prop := ∃ (A : Option Addr) (c : Nat) (l : List Sp), e = .returned (.slice A l.length c) ∧ SL w' A c l ∧ l.length ≤ n ∧ Ext w w'

set_option maxRecDepth 100000 in
set_option maxHeartbeats 4000000 in
theorem gSpoilt_any (A : Option Addr) (c : Nat) (l : List Sp) (at_ by_ : Int) (w : World) (hl : SL w A c l) (hs : ∀ s ∈ l, Small s) (hlen : l.length ≤ 1000) (ha : I64 at_) (hb : I64 by_) :
    Calls Try.prog 10 #[.slice A l.length c, .int .i64 at_, .int .i64 by_] w (RetSp (l.length + 1) w) := by
  have hcap := hl.len
  have HS := Lib.hid hs
  clear hs
  go_enter Try.func10, Try.ntmps10
  go_upto_region 3 with ((at_builtin; refine wpList_appSS rfl _ _ _ rfl Try.underlying24 w (Ext.rfl' _) none 0 [] rfl (OwnP.nil _ _) A c l rfl hl (by simp; omega) ?_; intro O1 c1 w1 ho1 x1))
  simp only [List.nil_append] at ho1 ⊢
  have HO := Lib.hid ho1
  clear ho1
  by_cases h0 : l = []
  · subst h0
    have h1 := HO.out
    go_wp2_with ((at_builtin; refine wpList_app1S (w1 := w1) rfl _ _ _ rfl Try.underlying24 w x1 (by_, 5) rfl O1 c1 [] rfl HO.out rfl (by simp) _ rfl ?_; intro O2 cO2 w2 ho2 x2))
    go_ret
    refine ⟨O2, cO2, [(by_, 5)], rfl, SL.of_own ho2 (fun s hs => ?_), by simp, x2⟩
    obtain rfl := List.mem_singleton.1 hs
    exact ⟨hb, by unfold I64; simp only; omega⟩
  · have hpos : 0 < l.length := List.length_pos_iff.2 h0
    obtain ⟨n, hn⟩ : ∃ n, l.length = n + 1 := ⟨l.length - 1, by omega⟩
    have HN := Lib.hid hn
    rw [hn] at hlen hpos hcap ⊢
    clear hn h0
    have hne : (((n + 1 : Nat) : Int) == 0) = false := by simp; omega
    have HA1 := fun (q m : Int) (W : World) hq h0 h1 => Lib.hid ((around_any q m W hq h0 h1).mono (fun _ _ h => RetQ.ext h))
    have HAB := fun (q m : Int) h => around_bd q m h
    go_wp2_with fail
    have hq : I64 (wrap64 (at_.tdiv 4)) := by unfold I64 wrap64; omega
    have B1 := HAB (wrap64 (at_.tdiv 4)) ((n : Int) + 1) (by omega)
    have A1 := HA1 (wrap64 (at_.tdiv 4)) ((n : Int) + 1) w1 hq (by omega) (by omega)
    obtain ⟨j, hj⟩ : ∃ j : Nat, around (wrap64 (at_.tdiv 4)) ((n : Int) + 1) = j := ⟨(around (wrap64 (at_.tdiv 4)) ((n : Int) + 1)).toNat, by omega⟩
    rw [hj] at B1 A1
    clear hj hq
    refine A1.out.mono ?_
    rintro e w2 ⟨rfl, x2⟩
    clear A1
    have A2 := HA1 at_ 4 w2 ha (by omega) (by omega)
    have B2 := HAB at_ 4 (by omega)
    obtain ⟨q, hq⟩ : ∃ q : Nat, around at_ 4 = q := ⟨(around at_ 4).toNat, by omega⟩
    rw [hq] at A2 B2
    clear hq HA1 HAB
    go_wp2_with fail
    refine A2.out.mono ?_
    rintro e w3 ⟨rfl, x3⟩
    have X := (x1.trans x2).trans x3
    have HO3 := Lib.hid ((HO.out.ext x2).ext x3)
    have hjl : j < l.length := by rw [HN.out]; omega
    have hjn : (j : Int) < (n : Int) + 1 := by omega
    obtain ⟨g, rfl, hge, g1, g2, f1, f2, st1, st2⟩ := HO3.out.at hjl
    have HST1 := Lib.hid (st1 by_)
    have HST2 := Lib.hid (st2 by_)
    have HW := Lib.hid (hl.rng)
    clear st1 st2 A2 x1 x2 x3 HO
    have hqc : q = 0 ∨ q = 1 ∨ q = 2 ∨ q = 3 := by omega
    rcases hqc with rfl | rfl | rfl | rfl
    · go_wp2_with fail
      have hll : (l.set j (by_, l[j].2)).length = n + 1 := by rw [List.length_set, HN.out]
      have hx := X.setNew (p := ⟨g, j * 2, none⟩) hge (.int .i64 by_)
      go_ret
      refine ⟨_, _, l.set j (by_, l[j].2), by rw [hll]; rfl, SL.of_own HST1.out (fun s hs => ?_), by rw [List.length_set]; omega, hx⟩
      rcases List.mem_or_eq_of_mem_set hs with h | rfl
      · exact HW.out s h
      · exact ⟨hb, (HW.out _ (List.getElem_mem hjl)).2⟩
    · go_wp2_with fail
      have hll : (l.set j (l[j].1, by_)).length = n + 1 := by rw [List.length_set, HN.out]
      have hx := X.setNew (p := ⟨g, j * 2 + 1, none⟩) hge (.int .i64 by_)
      go_ret
      refine ⟨_, _, l.set j (l[j].1, by_), by rw [hll]; rfl, SL.of_own HST2.out (fun s hs => ?_), by rw [List.length_set]; omega, hx⟩
      rcases List.mem_or_eq_of_mem_set hs with h | rfl
      · exact HW.out s h
      · exact ⟨(HW.out _ (List.getElem_mem hjl)).1, hb⟩
    · go_wp2_with ((at_builtin; refine wpList_app1S (w1 := w3) rfl _ _ _ rfl Try.underlying24 w X l[j] rfl (some ⟨g, 0, none⟩) c1 l (by rw [HN.out]; rfl) HO3.out rfl (by rw [HN.out]; omega) _ rfl ?_; intro O2 cO2 w4 ho2 x4))
      have hll : (l ++ [l[j]]).length = n + 1 + 1 := by rw [List.length_append, HN.out]; rfl
      go_ret
      refine ⟨_, _, l ++ [l[j]], by rw [List.length_append]; rfl, SL.of_own ho2 (fun s hs => ?_), by rw [List.length_append]; exact Nat.le_refl _, x4⟩
      rcases List.mem_append.1 hs with h | h
      · exact HW.out s h
      · obtain rfl := List.mem_singleton.1 h
        exact HW.out _ (List.getElem_mem hjl)
    · clear HST1 HST2 g1 g2 f1 f2
      have hnl : n < l.length := by rw [HN.out]; omega
      obtain ⟨g', he, -, -, g2, -, -, -, -⟩ := HO3.out.at hnl
      injection he with he
      injection he with he
      subst he
      have hsm := HS.out _ (List.getElem_mem hnl)
      unfold Small at hsm
      generalize l[n].2 = z at *
      have hwn : IntKind.i64.wrap ((n : Int) + 1 - 1) = (n : Int) := by rw [IntKind.wrap_i64]; omega
      have hwn2 : IntKind.i64.wrap (n : Int) = (n : Int) := by rw [IntKind.wrap_i64]; omega
      have hwz : IntKind.i64.wrap (z + 1) = z + 1 := by rw [IntKind.wrap_i64]; omega
      have hn1 : (n : Int) < (n : Int) + 1 := by omega
      have k2 := fun (w' : World) (h : Ext w3 w') => h.cell g2
      obtain ⟨iS, jS0, jS1, jS2, jS3⟩ := info_parts infoS
      go_upto_region 7 with fail
      refine Xs.start [g] 19 (by kernel_rfl) ?_
      (refine Xs.take 0 (some 27) (v := ?_) rfl rfl (by decide +kernel) (by rfl) ?_ ?_; rotate_left; (focus (intro w' hk; go_simp; (try with_reducible rfl); done)); (try simp only [Act.put, List.setIfInBounds_toArray, List.set_cons_zero, List.set_cons_succ]))
      (refine Xs.take 1 (some 28) (v := ?_) rfl rfl (by decide +kernel) (by rfl) ?_ ?_; rotate_left; (focus (intro w' hk; go_simp; (try with_reducible rfl); done)); (try simp only [Act.put, List.setIfInBounds_toArray, List.set_cons_zero, List.set_cons_succ]))
      (refine Xs.take 2 (some 29) (v := ?_) rfl rfl (by decide +kernel) (by rfl) ?_ ?_; rotate_left; (focus (intro w' hk; go_simp; (try with_reducible rfl); done)); (try simp only [Act.put, List.setIfInBounds_toArray, List.set_cons_zero, List.set_cons_succ]))
      (refine Xs.take 3 (some 30) (v := ?_) rfl rfl (by decide +kernel) (by rfl) ?_ ?_; rotate_left; (focus (intro w' hk; go_simp; (try with_reducible rfl); done)); (try simp only [Act.put, List.setIfInBounds_toArray, List.set_cons_zero, List.set_cons_succ]))
      (refine Xs.take 4 (some 31) (v := ?_) rfl rfl (by decide +kernel) (by rfl) ?_ ?_; rotate_left; (focus (intro w' hk; go_simp; (try with_reducible rfl); done)); (try simp only [Act.put, List.setIfInBounds_toArray, List.set_cons_zero, List.set_cons_succ]))
      (refine Xs.take 5 (some 32) (v := ?_) rfl rfl (by decide +kernel) (by rfl) ?_ ?_; rotate_left; (focus (intro w' hk; go_simp; (try with_reducible rfl); done)); (try simp only [Act.put, List.setIfInBounds_toArray, List.set_cons_zero, List.set_cons_succ]))
      (refine Xs.take 6 (some 33) (v := ?_) rfl rfl (by decide +kernel) (by rfl) ?_ ?_; rotate_left; (focus (intro w' hk; go_simp; (try with_reducible rfl); done)); (try simp only [Act.put, List.setIfInBounds_toArray, List.set_cons_zero, List.set_cons_succ]))
      (refine Xs.take 7 (some 34) (v := ?_) rfl rfl (by decide +kernel) (by rfl) ?_ ?_; rotate_left; (focus (intro w' hk; go_simp; (try with_reducible rfl); done)); (try simp only [Act.put, List.setIfInBounds_toArray, List.set_cons_zero, List.set_cons_succ]))
      (refine Xs.take 8 (some 35) (v := ?_) rfl rfl (by decide +kernel) (by rfl) ?_ ?_; rotate_left; (focus (intro w' hk; go_simp; (try with_reducible rfl); done)); (try simp only [Act.put, List.setIfInBounds_toArray, List.set_cons_zero, List.set_cons_succ]))
      (refine Xs.take 9 (some 36) (v := ?_) rfl rfl (by decide +kernel) (by rfl) ?_ ?_; rotate_left; (focus (intro w' hk; go_simp; (try with_reducible rfl); done)); (try simp only [Act.put, List.setIfInBounds_toArray, List.set_cons_zero, List.set_cons_succ]))
      (refine Xs.take 10 (some 37) (v := ?_) rfl rfl (by decide +kernel) (by rfl) ?_ ?_; rotate_left; (focus (intro w' hk; go_simp; (try with_reducible rfl); done)); (try simp only [Act.put, List.setIfInBounds_toArray, List.set_cons_zero, List.set_cons_succ]))
      (refine Xs.take 11 (some 38) (v := ?_) rfl rfl (by decide +kernel) (by rfl) ?_ ?_; rotate_left; (focus (intro w' hk; go_simp; (try with_reducible rfl); done)); (try simp only [Act.put, List.setIfInBounds_toArray, List.set_cons_zero, List.set_cons_succ]))
      (refine Xs.take 12 (some 39) (v := ?_) rfl rfl (by decide +kernel) (by rfl) ?_ ?_; rotate_left; (focus (intro w' hk; go_simp; (try with_reducible rfl); done)); (try simp only [Act.put, List.setIfInBounds_toArray, List.set_cons_zero, List.set_cons_succ]))
      (refine Xs.take 13 (some 40) (v := ?_) rfl rfl (by decide +kernel) (by rfl) ?_ ?_; rotate_left; (focus (intro w' hk; go_simp; (try with_reducible rfl); done)); (try simp only [Act.put, List.setIfInBounds_toArray, List.set_cons_zero, List.set_cons_succ]))
      (refine Xs.take 14 (some 41) (v := ?_) rfl rfl (by decide +kernel) (by rfl) ?_ ?_; rotate_left; (focus (intro w' hk; go_simp; (try with_reducible rfl); done)); (try simp only [Act.put, List.setIfInBounds_toArray, List.set_cons_zero, List.set_cons_succ]))
      (refine Xs.take 15 (some 42) (v := ?_) rfl rfl (by decide +kernel) (by rfl) ?_ ?_; rotate_left; (focus (intro w' hk; go_simp; (try with_reducible rfl); done)); (try simp only [Act.put, List.setIfInBounds_toArray, List.set_cons_zero, List.set_cons_succ]))
      (refine Xs.take 16 (some 43) (v := ?_) rfl rfl (by decide +kernel) (by rfl) ?_ ?_; rotate_left; (focus (intro w' hk; go_simp; (try with_reducible rfl); done)); (try simp only [Act.put, List.setIfInBounds_toArray, List.set_cons_zero, List.set_cons_succ]))
      (refine Xs.take 17 (some 44) (v := ?_) rfl rfl (by decide +kernel) (by rfl) ?_ ?_; rotate_left; (focus (intro w' hk; go_simp; (try with_reducible rfl); done)); (try simp only [Act.put, List.setIfInBounds_toArray, List.set_cons_zero, List.set_cons_succ]))
      refine Xs.call 18 rfl (by decide +kernel) (by rfl) (fun w4 hE4 hX4 K hKK => ?_)
      go_simp
      have bS := Blk.new w4 48 (flatS [(z + 1, z + 1)]).toArray
      refine hKK _ _ (Ext.alloc _ _) ?_
      clear hKK
      (try simp only [Act.put, List.setIfInBounds_toArray, List.set_cons_zero, List.set_cons_succ])
      refine Xs.stop (by decide +kernel) (fun w5 hE5 hX5 => ?_)
      refine Xr.step 19 rfl (by decide +kernel) (by rfl) (fun w6 hE6 hK6 K hKK => ?_)
      have x6 := hX5.trans hE6
      have b6 := (bS.ext hE5).ext hE6
      have HO6 := HO3.out.ext x6
      unfold OwnP at HO6
      rw [HN.out] at HO6
      refine wp_app _ _ _ _ rfl w.heap.size 48 iS _ 2 16 Try.underlying24 jS0 jS1 jS2 jS3 rfl (by omega) (some ⟨g, 0, none⟩) (n + 1) c1 (flatS l) rfl HO6 _ 1 1 (flatS [(z + 1, z + 1)]) rfl rfl (blk_cells b6) (flatS_one _) (by unfold maxLen; omega) (by omega) (X.trans x6).size ?_
      intro X' cX' w7 ho7 hg7 hat7
      refine hKK _ _ (WI_kp (KpP.of_grown hg7) (fun i hi => ?_)) (hK6.kpP (KpP.of_grown hg7) (fun i hi => ?_)) ?_
      · have : g = i := by simpa using hi
        subst this; simp
      · have : g = i := by simpa using hi
        subst this; simp
      clear hKK
      (try simp only [Act.put, List.setIfInBounds_toArray])
      (refine Xr.take 20 (some 7) (v := ?_) rfl rfl (by decide +kernel) (by rfl) ?_ ?_; rotate_left; (focus (intro w' hk; go_simp; (try with_reducible rfl); done)); (try simp only [Act.put]))
      refine Xr.done (by decide +kernel) (fun w8 hE8 hK8 => ?_)
      have X8 := (Ext.app (X.trans x6) HO6 hg7).trans hE8
      have HO8 := Lib.hid (OwnS.ext ho7 hE8)
      clear ho7 hg7 hat7 HO6 b6 bS hE4 hX4 hE5 hX5 hE6 hK6 x6 hE8 hK8 k2
      go_wp2_with fail
      go_ret
      have hll : (l ++ [(z + 1, z + 1)]).length = n + 1 + 1 := by rw [List.length_append, HN.out]; rfl
      refine ⟨X', cX', l ++ [(z + 1, z + 1)], by rw [hll]; rfl, SL.of_own (base := w.heap.size) (by rw [hll, flatS_append]; exact HO8.out) (fun s hs => ?_), by rw [List.length_append]; exact Nat.le_refl _, X8⟩
      rcases List.mem_append.1 hs with h | h
      · exact HW.out s h
      · obtain rfl := List.mem_singleton.1 h
        exact ⟨by unfold I64; simp only; omega, by unfold I64; simp only; omega⟩

/-- what the generator Set returns: a set, of at most n spans -/
def RetSet (n : Nat) (w : World) (e : Ending) (w' : World) : Prop := ∃ (A : Option Addr) (c : Nat) (l : List Sp), e = .returned (.slice A l.length c) ∧ SL w' A c l ∧ l.length ≤ n ∧ l.length ≤ 64 ∧ OkL l ∧ Ext w w'
theorem nrm_law {l : List Sp} (h : AllG l) : Canon (nrm l) ∧ (∀ x, has (nrm l) x = has l x) ∧ (nrm l).length ≤ l.length ∧ ∀ s ∈ nrm l, goodS s := by
  obtain ⟨m, hm1, hm2⟩ : ∃ m, l.Perm m ∧ m.Pairwise (fun s t : Sp => s.1 ≤ t.1) := by
    refine ⟨l.mergeSort (fun s t => decide (s.1 ≤ t.1)), (List.mergeSort_perm _ _).symm, ?_⟩
    have := List.pairwise_mergeSort (le := fun s t : Sp => decide (s.1 ≤ t.1)) (fun a b c h1 h2 => by simp at *; omega) (fun a b => by simp; omega) l
    exact this.imp (fun h => by simpa using h)
  have e : nrm l = m.foldl addS [] := (normal_eq h hm1 hm2).symm
  have hg : ∀ s ∈ m, goodS s := fun s hs => h s (hm1.mem_iff.2 hs)
  have hl := addAll_law m [] Canon.nil (fun s hs => (hg s hs).2.1) hm2 (by simp)
  rw [e]
  refine ⟨hl.1, fun x => ?_, ?_, addAll_good (by simp) hg⟩
  · have := hl.2 x
    rw [has_perm hm1 x]
    simpa [has_nil] using this
  · have := addAll_len m []
    have h2 := hm1.length_eq
    simp at this; omega

set_option maxRecDepth 100000 in
set_option maxHeartbeats 4000000 in
theorem gSet_any (A : Option Addr) (c : Nat) (l : List Int) (most : Nat) (w : World) (hl : IL w A c l) (hm : most ≤ 1000) : Calls Try.prog 9 #[.slice A l.length c, .int .i64 (most : Int)] w (RetSet most w) := by
  have hcap := hl.len
  have HS := Lib.hid (gSpans_any A c l most w hl hm)
  clear hl
  go_enter Try.func9, Try.ntmps9
  go_wp2_with fail
  refine HS.out.mono ?_
  rintro e w1 ⟨A1, c1, l1, rfl, h1, hn1, hs1, x1⟩
  have HN := Lib.hid (gNormal_any A1 c1 l1 w1 h1 (by omega))
  clear HS h1 hs1
  go_wp2_with fail
  refine HN.out.mono ?_
  rintro e w2 (⟨h1, rfl, x2⟩ | ⟨h1, ⟨h64, rfl, x2⟩ | ⟨h64, S, cS, rfl, hS, x2, hf⟩⟩)
  · clear HN
    have X := x1.trans x2
    go_wp2_with fail
    go_ret
    exact ⟨none, 0, [], rfl, SL.nil _, by simp, by simp, fun i hi => absurd hi (Nat.not_lt_zero _), X⟩
  · clear HN
    have X := x1.trans x2
    go_wp2_with fail
    go_ret
    exact ⟨none, 0, [], rfl, SL.nil _, by simp, by simp, fun i hi => absurd hi (Nat.not_lt_zero _), X⟩
  · have HL := Lib.hid (nrm_law h1)
    clear HN hf h1
    have X := x1.trans x2
    generalize nrm l1 = out at *
    go_wp2_with fail
    go_ret
    exact ⟨S, cS, out, rfl, hS, by have := HL.out.2.2.1; omega, by omega, canon_okL HL.out.1 HL.out.2.2.2, X⟩
end Go.Proofs.Ytlbdjnbcoldjhaa
