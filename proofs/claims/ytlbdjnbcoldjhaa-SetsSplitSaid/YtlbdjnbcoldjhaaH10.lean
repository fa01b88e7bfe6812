/- Walks of the reference of package sets: Split. -/
import Derived.Test.YtlbdjnbcoldjhaaH9
namespace Go.Proofs.Ytlbdjnbcoldjhaa
open Go.RowKit

set_option maxRecDepth 100000 in
set_option maxHeartbeats 16000000 in
theorem gSplit_any (A : Option Addr) (c : Nat) (ls : List Hs) (top : Int) (w : World) (hl : LLS w A c ls) (ht64 : I64 top) (hnl : ls.length ≤ 100) (hlen : (ls.map (·.l)).flatten.length ≤ 400) :
    Calls Try.prog 14 #[.slice A ls.length c, .int .i64 top] w (RetSplit (ls.map (·.l)) top w) := by
  have hcap := hl.len
  have HVB := fun (i : Nat) (hi : i < ls.length) (h0 : ∀ j (hj : j < ls.length), j < i → validE ls[j].l = 0) (h : validE ls[i].l ≠ 0) => Lib.hid (show vErr (ls.map (·.l)) = validE ls[i].l by
    have := vErr_bad (ls := ls.map (·.l)) (i := i) (by simpa using hi) (fun j hj hji => by simpa using h0 j (by simpa using hj) hji) (by simpa using h)
    simpa using this)
  have HVO := fun (h0 : ∀ j (hj : j < ls.length), validE ls[j].l = 0) => Lib.hid (show vErr (ls.map (·.l)) = 0 from vErr_ok (fun j hj => by simpa using h0 j (by simpa using hj)))
  go_enter Try.func14, Try.ntmps14
  go_wp2_with fail
  go_loopw [6] (fun v wr => ∃ i : Nat, v = .int .i64 i ∧ i ≤ ls.length ∧ Hid (∀ j (hj : j < ls.length), j < i → validE ls[j].l = 0) ∧ Ext w wr) (fun v _ => ls.length - (intOf v).toNat)
  case atStart => exact ⟨0, rfl, by omega, fun j _ hj => absurd hj (Nat.not_lt_zero _), Ext.rfl' _⟩
  case round =>
    obtain ⟨i, rfl, hi, HI, x1⟩ := hrel
    by_cases hlt : i < ls.length
    · have hiI : (i : Int) < ls.length := by omega
      obtain ⟨pb, po, rfl, g0⟩ := (hl.ext x1).get hlt
      have hsl := (hl.sl _ (List.getElem_mem hlt)).ext x1
      have HV := fun (W' : World) (x : Ext wr W') => Lib.hid (gValid_any _ _ _ W' (hsl.ext x))
      have HI2 := Lib.hid (show validE ls[i].l = 0 → ∀ j (hj : j < ls.length), j < i + 1 → validE ls[j].l = 0 from fun h j hj hji => by
        rcases Nat.lt_or_ge j i with h1 | h1
        · exact HI.out j hj h1
        · have : j = i := by omega
          subst this; exact h)
      have HB := HVB i hlt HI.out
      by_cases hv : validE ls[i].l = 0
      · have HI3 := Lib.hid (HI2.out hv)
        rw [hv] at HV
        generalize ls[i] = hh at *
        obtain ⟨hA, hc, hl2⟩ := hh
        simp only at g0 HV
        clear HI2 HB HVB HVO HI
        go_wp2_with fail
        refine (HV _ (Ext.rfl' _)).out.mono ?_
        rintro e w2 ⟨rfl, x2⟩
        have x3 := x1.trans x2
        clear HV g0 hsl
        go_wp2_with fail
        go_roundw
        case rel => exact ⟨i + 1, by go_num, by omega, HI3, x3⟩
        case measure => simp [intOf]; omega
      · have HB2 := HB hv
        have HSP := Lib.hid (show splitE (ls.map (·.l)) top = validE ls[i].l by rw [splitE_bad (by rw [HB2.out]; exact hv), HB2.out])
        generalize hve : validE ls[i].l = ve at *
        have hvb : (ve != 0) = true := by simpa using hv
        clear hve HB HB2 HI2 HVB HVO HI
        generalize ls[i] = hh at *
        obtain ⟨hA, hc, hl2⟩ := hh
        simp only at g0 HV
        go_wp2_with fail
        refine (HV _ (Ext.rfl' _)).out.mono ?_
        rintro e w2 ⟨rfl, x2⟩
        have x3 := x1.trans x2
        clear HV g0 hsl
        go_wp2_with fail
        exact bodyPost_ret (v := .tuple #[.slice none 0 0, .int .i64 ve]) (by simp [results, Try.results14, go_sem]) rfl ⟨none, 0, [], by rw [HSP.out]; rfl, LLS.nil _, by rw [HSP.out, if_neg hv]; rfl, x3⟩
    · have hiI : ¬ (i : Int) < ls.length := by omega
      have HV0 := HVO (fun j hj => HI.out j hj (by omega))
      clear HI HVO HVB
      by_cases ht : top < 0
      · have HSP := Lib.hid (splitE_top HV0.out (.inl ht))
        clear HV0
        go_wp2_with fail
        exact bodyPost_ret (v := .tuple #[.slice none 0 0, .int .i64 5]) (by simp [results, Try.results14, go_sem]) rfl ⟨none, 0, [], by rw [HSP.out]; rfl, LLS.nil _, by rw [HSP.out, if_neg (by decide)]; rfl, x1⟩
      · by_cases ht2 : 1114111 < top
        · have HSP := Lib.hid (splitE_top HV0.out (.inr ht2))
          clear HV0
          go_wp2_with fail
          exact bodyPost_ret (v := .tuple #[.slice none 0 0, .int .i64 5]) (by simp [results, Try.results14, go_sem]) rfl ⟨none, 0, [], by rw [HSP.out]; rfl, LLS.nil _, by rw [HSP.out, if_neg (by decide)]; rfl, x1⟩
        · have HSE := Lib.hid (splitE_ok HV0.out (show ¬ (top < 0 ∨ 1114111 < top) by omega))
          have HVA := Lib.hid (show ∀ h ∈ ls, OkL h.l from fun h hh => (validE_zero (vErr_zero HV0.out _ (List.mem_map_of_mem hh))).1)
          have hn1 : ¬ (1024 : Int) < ls.length := by omega
          have HEN := Lib.hid (ends_any A c ls top wr (hl.ext x1) (fun h hh => (okL_canon (HVA.out h hh)).2) (by omega))
          have HEO := Lib.hid (endsT_ok (top := top) (by omega) (ls := ls.map (·.l)) (fun s hs => by
            obtain ⟨a, ha, hs⟩ := List.mem_flatten.1 hs
            obtain ⟨h, hh, rfl⟩ := List.mem_map.1 ha
            have := (okL_canon (HVA.out h hh)).2 s hs
            unfold goodS at this
            omega))
          have hELN : (endsT top (ls.map (·.l))).length ≤ 801 := by
            have := foldl_putS_len top ((ls.map (·.l)).flatten) [0]
            unfold endsT
            simp only [List.length_singleton] at this
            omega
          have HCL : Hid (classes (ls.map (·.l)) top = (keysU (ls.map (·.l)) (endsT top (ls.map (·.l))) (endsT top (ls.map (·.l))).length).map (fun v => cls (endsT top (ls.map (·.l))) top (fun x => decide (vec (ls.map (·.l)) x = v)))) := rfl
          have HAL := fun (x y : Int) (W' : World) (h : LLS W' A c ls) => Lib.hid (gAlike_any A c ls x y W' h)
          simp only [alikeB_vec] at HAL
          clear HV0
          generalize hLS : ls.map (·.l) = LS at *
          have HLS := Lib.hid hLS
          clear hLS
          generalize endsT top LS = E at *
          go_wp2_with fail
          refine HEN.out.mono ?_
          rintro e w2 ⟨RA, rc, rfl, iE, x2⟩
          clear HEN
          have X1 := x1.trans x2
          have hel := iE.len
          have hmB := mkBools E.length (by omega)
          obtain ⟨bs0, hb0⟩ : ∃ bs0, bs0 = List.replicate E.length false := ⟨_, rfl⟩
          rw [← hb0] at hmB
          have HB0 := Lib.hid hb0
          clear hb0
          have bB := Blk.new w2 4 (bs0.map Value.bool).toArray
          have eB := Ext.alloc w2 (.cells (bs0.map Value.bool).toArray 4)
          go_upto_region 13 with fail
          obtain ⟨gD, hgD⟩ : ∃ gD, gD = w2.heap.size := ⟨_, rfl⟩
          rw [← hgD] at bB ⊢
          have HGD := Lib.hid (show w2.heap.size ≤ gD from Nat.le_of_eq hgD.symm)
          generalize w2.alloc (.cells (bs0.map Value.bool).toArray 4) = w3 at *
          rw [HB0.out, dn_zero LS E] at bB
          have HR0 := Lib.hid (show RsI w3 w2.heap.size gD LS E top 0 none 0 [] from ⟨bB, OwnS.nil _ _ _ _, by simp, rfl, by simp, by simp⟩)
          clear bB hgD hmB x1 x2
          go_wp2_with fail
          go_loopw [10, 11] (fun v10 v11 wr => ∃ (i : Nat) (O : Option Addr) (cO : Nat) (hs : List Hs), v11 = .int .i64 i ∧ i ≤ E.length ∧ v10 = .slice O hs.length cO ∧ Hid (RsI wr w2.heap.size gD LS E top i O cO hs) ∧ Ext w2 wr) (fun _ v _ => E.length - (intOf v).toNat)
          case atStart => exact ⟨0, none, 0, [], rfl, by omega, rfl, HR0.out, eB⟩
          case round =>
            clear HR0 eB
            obtain ⟨i, O, cO, hs, rfl, hi, rfl, HX, x4⟩ := hrel
            by_cases hiE2 : i < E.length
            · have hiI2 : (i : Int) < E.length := by omega
              have hd0 : wr.cell? ⟨gD, i, none⟩ = some (.bool (dnE LS E i i)) := by
                rw [HX.out.dn.cell]
                have h1 : i < (mixB (dnE LS E i) (dnE LS E i) E.length 0).length := by rw [mixB_len]; exact hiE2
                simp [h1, mixB_get hiE2]
              by_cases hk : vec LS E[i] ∈ keysU LS E i
              · have hdt : dnE LS E i i = true := by unfold dnE; rw [getD_in hiE2, decide_eq_true hk]
                rw [hdt] at hd0
                have HX2 := Lib.hid (show RsI wr w2.heap.size gD LS E top (i + 1) O cO hs from ⟨by rw [dn_same hiE2 hk]; exact HX.out.dn, HX.out.own, HX.out.sl, by rw [keys_old hiE2 hk]; exact HX.out.cls, HX.out.ok, HX.out.apart⟩)
                clear HX hdt hk
                go_wp2_with fail
                go_roundw
                case rel => exact ⟨i + 1, O, cO, hs, by go_num, by omega, rfl, HX2.out, x4⟩
                case measure => simp [intOf]; omega
              · have hdf : dnE LS E i i = false := by unfold dnE; rw [getD_in hiE2, decide_eq_false hk]
                rw [hdf] at hd0
                have HK := Lib.hid hk
                clear hdf hk
                have hmB := mkBools E.length (by omega)
                rw [← HB0.out] at hmB
                have bI := Blk.new wr 4 (bs0.map Value.bool).toArray
                have eI := Ext.alloc wr (.cells (bs0.map Value.bool).toArray 4)
                go_upto_region 19 with fail
                obtain ⟨gI, hgI⟩ : ∃ gI, gI = wr.heap.size := ⟨_, rfl⟩
                rw [← hgI] at bI ⊢
                have HGI := Lib.hid (show wr.heap.size ≤ gI from Nat.le_of_eq hgI.symm)
                have bD := HX.out.dn.ext eI
                generalize wr.alloc (.cells (bs0.map Value.bool).toArray 4) = w5 at *
                rw [HB0.out, in_start LS E i] at bI
                rw [dn_start LS E i] at bD
                have HII := Lib.hid (show Blk w5 gI 4 ((mixB (inF LS E i) (fun _ => false) E.length i).map Value.bool).toArray ∧ Blk w5 gD 4 ((mixB (dnF LS E i) (dnE LS E i) E.length i).map Value.bool).toArray from ⟨bI, bD⟩)
                have hne : gI ≠ gD := by
                  have := HX.out.dn.lt
                  have := HGI.out
                  omega
                have HKI := Lib.hid (KpP.of_ext (p := (· = gD)) eI)
                have x5 := x4.trans eI
                clear bI bD hgI hmB eI hd0
                go_wp2_with fail
                go_loopw [13] (fun v13 wk => ∃ (k : Nat), v13 = .int .i64 k ∧ k ≤ E.length ∧ i ≤ k ∧ Hid (Blk wk gI 4 ((mixB (inF LS E i) (fun _ => false) E.length k).map Value.bool).toArray ∧ Blk wk gD 4 ((mixB (dnF LS E i) (dnE LS E i) E.length k).map Value.bool).toArray) ∧ Hid (KpP (· = gD) wr wk) ∧ Ext w2 wk) (fun v _ => E.length - (intOf v).toNat)
                case atStart => exact ⟨i, rfl, by omega, Nat.le_refl _, HII.out, HKI.out, x5⟩
                case round =>
                  clear HII HKI x5
                  obtain ⟨k, rfl, hk, hik, HB, HKP, x6⟩ := hrel
                  by_cases hkt : k < E.length
                  · have hkI : (k : Int) < E.length := by omega
                    obtain ⟨pa, qa, hAe, g1⟩ := (iE.ext x6).get hiE2
                    obtain ⟨pa2, qa2, hAe2, g2⟩ := (iE.ext x6).get hkt
                    have hpa : pa < w2.heap.size := iE.blt (by intro e; rw [e] at hkt; simp at hkt) (by rw [hAe]; rfl)
                    subst hAe
                    obtain ⟨rfl, rfl⟩ : pa = pa2 ∧ qa = qa2 := by injection hAe2 with h1; injection h1 with h2 h3 h4; exact ⟨h2, h3⟩
                    clear hAe2
                    have hpI : pa ≠ gI := by
                      have h1 := HGI.out
                      have h2 := x4.size
                      omega
                    have HA2 := fun (W' : World) (x : Ext wr W') => HAL E[i] E[k] W' (((hl.ext X1).ext x6).ext x)
                    have h_in : decide (vec LS E[i] = vec LS E[k]) = inF LS E i k := by
                      unfold inF alE
                      rw [decide_eq_true hik, Bool.true_and, getD_in hiE2, getD_in hkt]
                    simp only [h_in] at HA2
                    have c1 := (blkB_get HB.out.1 (k := k) (by rw [mixB_len]; exact hkt)).2
                    have c2 := (blkB_get HB.out.1 (k := k) (by rw [mixB_len]; exact hkt)).1
                    have HM1 := Lib.hid (mixB_set (f := inF LS E i) (g := fun _ => false) hkt)
                    have HM2 := Lib.hid (mixB_set (f := dnF LS E i) (g := dnE LS E i) hkt)
                    have HD1 := Lib.hid (show (mixB (dnF LS E i) (dnE LS E i) E.length k)[k]'(by rw [mixB_len]; exact hkt) = dnE LS E i k by rw [mixB_get hkt, if_neg (Nat.lt_irrefl _)])
                    have HDI := Lib.hid (show (mixB (inF LS E i) (fun _ => false) E.length (k + 1))[k]'(by rw [mixB_len]; exact hkt) = inF LS E i k by rw [mixB_get hkt, if_pos (Nat.lt_succ_self _)])
                    have HD2 : Hid (dnF LS E i k = (dnE LS E i k || inF LS E i k)) := rfl
                    have c3 := (blkB_get HB.out.2 (k := k) (by rw [mixB_len]; exact hkt)).1
                    rw [HD1.out] at c3
                    generalize inF LS E i k = ik at *
                    generalize dnE LS E i k = dk at *
                    generalize dnF LS E i k = fk at *
                    generalize E[i] = x at *
                    generalize E[k] = y at *
                    generalize (mixB (inF LS E i) (fun _ => false) E.length k)[k]'(by rw [mixB_len]; exact hkt) = b0 at *
                    have k0 := fun (w' : World) (h : Kp [gI] wr w') => h.cell g1 (by simpa using hpI)
                    have k1 := fun (w' : World) (h : Kp [gI] wr w') => h.cell g2 (by simpa using hpI)
                    have hzI := HB.out.1.lt
                    clear h_in
                    go_upto_region 22 with fail
                    refine Xr.start [gI] (by kernel_rfl) ?_
                    (refine Xr.take 0 (some 65) (v := ?_) rfl rfl (by decide +kernel) (by rfl) ?_ ?_; rotate_left; (focus (intro w' hk; go_simp; (try with_reducible rfl); done)); (try simp only [Act.put, List.setIfInBounds_toArray, List.set_cons_zero, List.set_cons_succ]))
                    (refine Xr.take 1 (some 66) (v := ?_) rfl rfl (by decide +kernel) (by rfl) ?_ ?_; rotate_left; (focus (intro w' hk; go_simp; (try with_reducible rfl); done)); (try simp only [Act.put, List.setIfInBounds_toArray, List.set_cons_zero, List.set_cons_succ]))
                    (refine Xr.take 2 (some 67) (v := ?_) rfl rfl (by decide +kernel) (by rfl) ?_ ?_; rotate_left; (focus (intro w' hk; go_simp; (try with_reducible rfl); done)); (try simp only [Act.put, List.setIfInBounds_toArray, List.set_cons_zero, List.set_cons_succ]))
                    (refine Xr.take 3 (some 68) (v := ?_) rfl rfl (by decide +kernel) (by rfl) ?_ ?_; rotate_left; (focus (intro w' hk; go_simp; (try with_reducible rfl); done)); (try simp only [Act.put, List.setIfInBounds_toArray, List.set_cons_zero, List.set_cons_succ]))
                    (refine Xr.take 4 (some 69) (v := ?_) rfl rfl (by decide +kernel) (by rfl) ?_ ?_; rotate_left; (focus (intro w' hk; go_simp; (try with_reducible rfl); done)); (try simp only [Act.put, List.setIfInBounds_toArray, List.set_cons_zero, List.set_cons_succ]))
                    (refine Xr.take 5 (some 70) (v := ?_) rfl rfl (by decide +kernel) (by rfl) ?_ ?_; rotate_left; (focus (intro w' hk; go_simp; (try with_reducible rfl); done)); (try simp only [Act.put, List.setIfInBounds_toArray, List.set_cons_zero, List.set_cons_succ]))
                    (refine Xr.take 6 (some 71) (v := ?_) rfl rfl (by decide +kernel) (by rfl) ?_ ?_; rotate_left; (focus (intro w' hk; go_simp; (try with_reducible rfl); done)); (try simp only [Act.put, List.setIfInBounds_toArray, List.set_cons_zero, List.set_cons_succ]))
                    (refine Xr.take 7 (some 72) (v := ?_) rfl rfl (by decide +kernel) (by rfl) ?_ ?_; rotate_left; (focus (intro w' hk; go_simp; (try with_reducible rfl); done)); (try simp only [Act.put, List.setIfInBounds_toArray, List.set_cons_zero, List.set_cons_succ]))
                    (refine Xr.take 8 (some 73) (v := ?_) rfl rfl (by decide +kernel) (by rfl) ?_ ?_; rotate_left; (focus (intro w' hk; go_simp; (try with_reducible rfl); done)); (try simp only [Act.put, List.setIfInBounds_toArray, List.set_cons_zero, List.set_cons_succ]))
                    (refine Xr.take 9 (some 74) (v := ?_) rfl rfl (by decide +kernel) (by rfl) ?_ ?_; rotate_left; (focus (intro w' hk; go_simp; (try with_reducible rfl); done)); (try simp only [Act.put, List.setIfInBounds_toArray, List.set_cons_zero, List.set_cons_succ]))
                    (refine Xr.take 10 (some 75) (v := ?_) rfl rfl (by decide +kernel) (by rfl) ?_ ?_; rotate_left; (focus (intro w' hk; go_simp; (try with_reducible rfl); done)); (try simp only [Act.put, List.setIfInBounds_toArray, List.set_cons_zero, List.set_cons_succ]))
                    refine Xr.call 11 rfl (by decide +kernel) (by rfl) (fun y1 hE1 hK1 K hKK => ?_)
                    go_simp
                    refine (HA2 _ hE1).out.mono ?_
                    rintro e y2 ⟨rfl, z2⟩
                    refine hKK _ _ z2 ?_
                    clear hKK HA2
                    (try simp only [Act.put, List.setIfInBounds_toArray, List.set_cons_zero, List.set_cons_succ])
                    (refine Xr.take 12 (some 77) (v := ?_) rfl rfl (by decide +kernel) (by rfl) ?_ ?_; rotate_left; (focus (intro w' hk; go_simp; (try with_reducible rfl); done)); (try simp only [Act.put, List.setIfInBounds_toArray, List.set_cons_zero, List.set_cons_succ]))
                    refine Xr.step 13 rfl (by decide +kernel) (by rfl) (fun y3 hE3 hK3 K hKK => ?_)
                    have z3 := (hE1.trans z2).trans hE3
                    have HB3 := Lib.hid (show Blk y3 gI 4 ((mixB (inF LS E i) (fun _ => false) E.length k).map Value.bool).toArray ∧ Blk y3 gD 4 ((mixB (dnF LS E i) (dnE LS E i) E.length k).map Value.bool).toArray from ⟨HB.out.1.ext z3, HB.out.2.ext z3⟩)
                    replace c2 := z3.cell c2
                    have f3 := HB3.out.1.frz k
                    go_simp
                    refine hKK _ _ (WI_setL (WI_refl _ _ _) List.mem_cons_self _ _) (hK3.setL List.mem_cons_self _ _) ?_
                    clear hKK
                    (try simp only [Act.put, List.setIfInBounds_toArray, List.set_cons_zero, List.set_cons_succ])
                    refine Xr.done (by decide +kernel) (fun y4 hE4 hK4 => ?_)
                    have HB4 := Lib.hid (show Blk y4 gI 4 ((mixB (inF LS E i) (fun _ => false) E.length (k + 1)).map Value.bool).toArray ∧ Blk y4 gD 4 ((mixB (dnF LS E i) (dnE LS E i) E.length k).map Value.bool).toArray from ⟨by
                      have := (blkB_set HB3.out.1 k ik).ext hE4
                      rw [HM1.out] at this; exact this, (HB3.out.2.far hne.symm _).ext hE4⟩)
                    have HKP4 := Lib.hid (KpP.thenKp HKP.out hK4 (fun i hi => .inr (by
                      obtain rfl := List.mem_singleton.1 hi
                      exact HGI.out)))
                    have x64 := x6.kp (KpP.kp hK4 (p := (· = gI)) (fun i hi => List.mem_singleton.1 hi)) (fun i hi => by
                      have h1 := HGI.out
                      have h2 := x4.size
                      omega)
                    have d0 := (blkB_get HB4.out.2 (k := k) (by rw [mixB_len]; exact hkt)).1
                    rw [HD1.out] at d0
                    have d1 := HB4.out.2.frz k
                    have c4 := (blkB_get HB4.out.1 (k := k) (by rw [mixB_len]; exact hkt)).1
                    rw [HDI.out] at c4
                    have HFIN := Lib.hid (show ∀ v, v = fk → (Blk (y4.setCell ⟨gD, k, none⟩ (.bool v)) gI 4 ((mixB (inF LS E i) (fun _ => false) E.length (k + 1)).map Value.bool).toArray ∧ Blk (y4.setCell ⟨gD, k, none⟩ (.bool v)) gD 4 ((mixB (dnF LS E i) (dnE LS E i) E.length (k + 1)).map Value.bool).toArray) from fun v hv => by
                      subst hv
                      refine ⟨HB4.out.1.far hne _, ?_⟩
                      have := blkB_set HB4.out.2 k v
                      rw [HM2.out] at this; exact this)
                    have HKF := fun (v : Bool) => Lib.hid (KpP.set HKP4.out (x := ⟨gD, k, none⟩) (Or.inl rfl) (Value.bool v))
                    have HXF := fun (v : Bool) => Lib.hid (x64.setNew (p := ⟨gD, k, none⟩) HGD.out (Value.bool v))
                    clear HB HB3 HB4 HKP HKP4 x64 x6 hE1 hK1 hE3 hK3 hE4 hK4 z2 z3 k0 k1 g1 g2 c1 c2 c3 f3 hzI HM1 HM2 HD1 hpa hpI
                    cases dk
                    · have HF3 := Lib.hid (HFIN.out ik (by rw [HD2.out]; rfl))
                      have HK3 := HKF ik
                      have HX3 := HXF ik
                      clear HFIN HKF HXF HD2
                      go_wp2_with fail
                      go_roundw
                      case rel => exact ⟨k + 1, by go_num, by omega, by omega, HF3.out, HK3.out, HX3.out⟩
                      case measure => simp [intOf]; omega
                    · have HF3 := Lib.hid (HFIN.out true (by rw [HD2.out]; rfl))
                      have HK3 := HKF true
                      have HX3 := HXF true
                      clear HFIN HKF HXF HD2 c4
                      go_wp2_with fail
                      go_roundw
                      case rel => exact ⟨k + 1, by go_num, by omega, by omega, HF3.out, HK3.out, HX3.out⟩
                      case measure => simp [intOf]; omega
                  · have hkI : ¬ (k : Int) < E.length := by omega
                    obtain rfl : k = E.length := by omega
                    have hin := HB.out.1
                    have hdn := HB.out.2
                    rw [in_end hiE2 HK.out] at hin
                    rw [dn_end hiE2 HK.out] at hdn
                    have HDN := Lib.hid hdn
                    have hib := blkB_ib hin (by rw [List.length_map]; unfold maxLen; omega)
                    rw [List.length_map] at hib
                    have HOF := Lib.hid (of_any RA (some ⟨gI, 0, none⟩) rc E.length E (fun y => decide (vec LS y = vec LS E[i])) top wr (iE.ext x6) hib HEO.out.ends HEO.out.head (by omega) (by omega))
                    have H4 : 64 < (cls E top (fun y => decide (vec LS y = vec LS E[i]))).length → Hid (splitE LS top = 4) := fun h => Lib.hid (by
                      rw [HSE.out, if_pos]
                      rw [List.any_eq_true, HCL.out]
                      refine ⟨_, List.mem_map.2 ⟨vec LS E[i], ?_, rfl⟩, decide_eq_true h⟩
                      have := keysU_in (ls := LS) (E := E) (k := i) E.length hiE2
                      rw [getD_in hiE2] at this
                      exact this)
                    obtain ⟨out, hout⟩ : ∃ out, out = cls E top (fun y => decide (vec LS y = vec LS E[i])) := ⟨_, rfl⟩
                    rw [← hout] at HOF H4
                    have HOUT := Lib.hid hout
                    obtain ⟨i0, hi0, hz0, hz1, hz2⟩ := info_parts infoSl
                    have hhl := HX.out.len
                    have hown := Lib.hid (show OwnS wr w2.heap.size 24 1 O hs.length cO (flatH hs) from OwnS.kp HX.out.own HKP.out (fun b hb hbd => own_blk HX.out.own HX.out.dn (by decide) (by rw [hb, hbd])))
                    clear hin hdn hib hout HB
                    go_wp2_with fail
                    refine HOF.out.mono ?_
                    rintro e w6 (⟨h64, rfl, x7⟩ | ⟨h64, S, cS, rfl, hS, x7, hf⟩)
                    · have HS4 := H4 h64
                      clear H4 HOF
                      have XE := (X1.trans x6).trans x7
                      go_wp2_with fail
                      exact bodyPost_ret (v := .tuple #[.slice none 0 0, .int .i64 4]) (by simp [results, Try.results14, go_sem]) rfl (by rw [HLS.out]; exact ⟨none, 0, [], by rw [HS4.out]; rfl, LLS.nil _, by rw [HS4.out, if_neg (by decide)]; rfl, XE⟩)
                    · clear H4 HOF
                      have x67 := x6.trans x7
                      have HPU := fun (w8 : World) (O' : Option Addr) (cO' : Nat) hg how hat => Lib.hid (RsI.push (w8 := w8) (O' := O') (cO' := cO') (cs := #[.slice S out.length cS]) (T := 24) HX.out hiE2 HK.out HKP.out HDN.out x7 hS hf HOUT.out h64 hg how hat)
                      have hown6 := Lib.hid (OwnS.ext hown.out x7)
                      clear HX HKP HDN hown HOUT hS hf
                      go_wp2_with ((at_builtin; refine wpList_app _ rfl _ _ _ rfl w2.heap.size 24 i0 (.slice none 0 0) 1 24 Try.underlying23 hi0 hz0 hz1 hz2 rfl (by omega) O hs.length cO (flatH hs) rfl (OwnS.ext hown6.out (Ext.alloc _ _)) _ 1 1 [.slice S out.length cS] rfl rfl (blk_cells (Blk.new _ _ _)) (by intro u hu; obtain rfl := List.mem_singleton.1 hu; rfl) (by unfold maxLen; omega) (by omega) (x67.trans (Ext.alloc _ _)).size ?_; intro E2 cE2 w8 ho8 hg8 hat8))
                      have HR2 := HPU w8 E2 cE2 hg8 ho8 hat8
                      have x8 := Ext.app (x67.trans (Ext.alloc _ _)) (OwnS.ext hown6.out (Ext.alloc _ _)) hg8
                      have HLN := Lib.hid (show (hs ++ [(⟨S, cS, out⟩ : Hs)]).length = hs.length + 1 by simp)
                      clear HPU hown6 ho8 hg8 hat8
                      go_roundw
                      case rel => exact ⟨i + 1, E2, cE2, hs ++ [(⟨S, cS, out⟩ : Hs)], by go_num, by omega, by rw [HLN.out], HR2.out, x8⟩
                      case measure => simp [intOf]; omega
            · have hie : i = E.length := by omega
              have hiI2 : ¬ (i : Int) < E.length := by omega
              have hoL := HX.out.len
              have hoI : ¬ (1024 : Int) < hs.length := by omega
              have HLL := Lib.hid HX.out.lls
              have HCS := Lib.hid (show hs.map (·.l) = classes LS top by rw [HCL.out, ← hie]; exact HX.out.cls)
              have HS0 := Lib.hid (show splitE LS top = 0 by
                rw [HSE.out, ← HCS.out, if_neg]
                intro h
                rw [List.any_eq_true] at h
                obtain ⟨a, ha, h⟩ := h
                obtain ⟨z, hz, rfl⟩ := List.mem_map.1 ha
                have := HX.out.ok z hz
                have := of_decide_eq_true h
                omega)
              clear HX hie
              go_wp2_with fail
              exact bodyPost_ret (v := .tuple #[.slice O hs.length cO, .int .i64 0]) (by simp [results, Try.results14, go_sem]) rfl (by rw [HLS.out]; exact ⟨O, cO, hs, by rw [HS0.out], HLL.out, by rw [HS0.out, if_pos rfl]; exact HCS.out, X1.trans x4⟩)
end Go.Proofs.Ytlbdjnbcoldjhaa
