/- The walk of SetsClasses: every symbol is in exactly one class, and a set is the union of the classes of its symbols. -/
import Derived.Test.YtlbdjnbcoldjhaaNB
import Derived.Test.YtlbdjnbcoldjhaaHF
namespace Go.Proofs.Ytlbdjnbcoldjhaa
open Go.RowKit

theorem fst_cell {w : World} {A : Option Addr} {c : Nat} {l : List Sp} (h : SL w A c l) (hp : 0 < l.length) : ∃ b o, A = some ⟨b, o, none⟩ ∧ w.cell? ⟨b, o, none⟩ = some (.int .i64 (fstS l)) := by
  obtain ⟨b, o, hA, g1, _⟩ := h.get (k := 0) hp
  refine ⟨b, o, hA, ?_⟩
  rw [← fstS_get hp]
  simpa using g1
theorem mOk' {A B : Option Addr} {c d : Nat} {a b : List Sp} {w : World} (ha : SL w A c a) (hb : SL w B d b) (va : validE a = 0) (vb : validE b = 0) {o : List Sp} (ho : o = combo kAnd [a, b]) (hn : o.length ≤ 64) :
    Calls Try.prog 26 #[.slice A a.length c, .slice B b.length d] w (RetN o 0 w) := by
  have H := sC1 A B c d a b w ha hb
  have e : cE (validE a) (validE b) o = 0 := by unfold cE; rw [if_neg (by simp [va]), if_neg (by simp [vb]), if_neg (by omega)]
  have e2 : cO (validE a) (validE b) o = o := by unfold cO; rw [e, if_pos rfl]
  rw [← ho, e, e2] at H
  exact H
theorem cOk' {A : Option Addr} {c : Nat} {a : List Sp} {w : World} (ha : SL w A c a) (va : validE a = 0) {n : Int} (hn : n = cntS a) :
    Calls Try.prog 29 #[.slice A a.length c] w (fun e w' => e = .returned (.tuple #[.int .i64 n, .int .i64 0]) ∧ Ext w w') := by
  refine (sCount_any A c a w ha).mono ?_
  rintro e w' ⟨rfl, x⟩
  refine ⟨?_, x⟩
  rw [va, if_pos rfl, hn]
theorem flat6 {hs : List Hs} (h : ∀ z ∈ hs, z.l.length ≤ 6 ∧ OkL z.l) : (hs.map (·.l)).flatten.length ≤ 6 * hs.length := by
  induction hs with
  | nil => simp
  | cons z hs ih =>
    have h1 := (h z List.mem_cons_self).1
    have h2 := ih (fun y hy => h y (List.mem_cons_of_mem _ hy))
    simp only [List.map_cons, List.flatten_cons, List.length_append, List.length_cons]
    omega
/-- a sum of few numbers is small -/
theorem sum_small {os : List Hs} {LS : List (List Sp)} {t : Int} (h : SpF os LS t) : ∀ i, i ≤ os.length → 0 ≤ (((os.map (·.l)).take i).map cntS).sum ∧ (((os.map (·.l)).take i).map cntS).sum ≤ i * 100000000
  | 0, _ => by simp
  | i + 1, hi => by
    have ih := sum_small h i (by omega)
    rw [sum_take (show i < os.length by omega)]
    have h1 := h.ok i (by omega)
    have h2 := cntS_bound _ (okL_good h1.1)
    push_cast
    omega

set_option maxRecDepth 100000 in
set_option maxHeartbeats 16000000 in
theorem SetsClasses_any (A : Option Addr) (c : Nat) (rs : List Hi) (top symbol : Int) (w : World) (hl : LIL w A c rs) (ht : I64 top) (hsy : I64 symbol) :
    Calls Try.prog 6 #[.slice A rs.length c, .int .i64 top, .int .i64 symbol] w (RetV (.bool true) w) := by
  have hcap := hl.len
  obtain ⟨i0, hi0, hz0, hz1, hz2⟩ := info_parts infoSl
  go_enter Try.func6, Try.ntmps6
  go_upto_block 0 with fail
  go_cut [7, 8] from 36 to 53 (fun v7 v8 wx => ∃ (i : Nat) (O : Option Addr) (cO : Nat) (hs : List Hs), v8 = .int .i64 i ∧ v7 = .slice O hs.length cO ∧ hs.length ≤ 4 ∧ Hid ((∀ h ∈ hs, h.l.length ≤ 6 ∧ OkL h.l) ∧ AllI wx w.heap.size O cO hs) ∧ Ext w wx)
  case first =>
    as_aux_lemma =>
      go_wp2_with fail
      go_loopw [7, 8] (fun v11 v12 wr => ∃ (i : Nat) (O : Option Addr) (cO : Nat) (hs : List Hs), v12 = .int .i64 i ∧ i ≤ 4 ∧ v11 = .slice O hs.length cO ∧ Hid (hs.length = i ∧ (∀ h ∈ hs, h.l.length ≤ 6 ∧ OkL h.l) ∧ AllI wr w.heap.size O cO hs) ∧ Ext w wr) (fun _ v _ => 4 - (intOf v).toNat)
      case atStart => exact ⟨0, none, 0, [], rfl, by omega, rfl, ⟨rfl, by simp, allI_nil _ _⟩, Ext.rfl' _⟩
      case round =>
        obtain ⟨i, O, cO, hs, rfl, hi, rfl, HX, x1⟩ := hrel
        have hhl : hs.length ≤ 4 := by rw [HX.out.1]; exact hi
        by_cases hlt : i < rs.length
        · have hiI : (i : Int) < rs.length := by omega
          by_cases h4 : i < 4
          · have h4I : (i : Int) < 4 := by omega
            obtain ⟨pb, po, rfl, g0⟩ := (hl.ext x1).get hlt
            have hil := (hl.il _ (List.getElem_mem hlt)).ext x1
            generalize rs[i] = r at *
            obtain ⟨rA, rc, rl⟩ := r
            simp only at g0 hil
            have HS := Lib.hid (gSetF_any rA rc rl 6 wr hil (by omega))
            go_wp2_with fail
            refine HS.out.mono ?_
            rintro e w2 ⟨S, cS, out, rfl, hS, hn6, _, hok, x2, hf⟩
            have x12 := x1.trans x2
            have HPU := fun (w8 : World) (O' : Option Addr) (cO' : Nat) hg how hat => Lib.hid (AllI.push (w8 := w8) (O' := O') (cO' := cO') (cs := #[.slice S out.length cS]) (T := 24) HX.out.2.2 x2 hS hf hg how hat)
            have hown6 := Lib.hid (OwnS.ext HX.out.2.2.own x2)
            have HPL := Lib.hid (show (hs ++ [(⟨S, cS, out⟩ : Hs)]).length = i + 1 ∧ ∀ h ∈ hs ++ [(⟨S, cS, out⟩ : Hs)], h.l.length ≤ 6 ∧ OkL h.l from ⟨by rw [List.length_append, HX.out.1]; rfl, fun h hh => by
              rcases List.mem_append.1 hh with hh | hh
              · exact HX.out.2.1 h hh
              · obtain rfl := List.mem_singleton.1 hh
                exact ⟨hn6, hok⟩⟩)
            have HLN := Lib.hid (show (hs ++ [(⟨S, cS, out⟩ : Hs)]).length = hs.length + 1 by simp)
            clear HX hS hf HS hok g0 hil
            go_wp2_with ((at_builtin; refine wpList_app _ rfl _ _ _ rfl w.heap.size 24 i0 (.slice none 0 0) 1 24 Try.underlying23 hi0 hz0 hz1 hz2 rfl (by omega) O hs.length cO (flatH hs) rfl (OwnS.ext hown6.out (Ext.alloc _ _)) _ 1 1 [.slice S out.length cS] rfl rfl (blk_cells (Blk.new _ _ _)) (by intro u hu; obtain rfl := List.mem_singleton.1 hu; rfl) (by unfold maxLen; omega) (by omega) (x12.trans (Ext.alloc _ _)).size ?_; intro E2 cE2 w8 ho8 hg8 hat8))
            have HR2 := HPU w8 E2 cE2 hg8 ho8 hat8
            have x8 := Ext.app (x12.trans (Ext.alloc _ _)) (OwnS.ext hown6.out (Ext.alloc _ _)) hg8
            clear HPU hown6 ho8 hg8 hat8
            go_roundw
            case rel => exact ⟨i + 1, E2, cE2, hs ++ [(⟨S, cS, out⟩ : Hs)], by go_num, by omega, by rw [HLN.out], ⟨HPL.out.1, HPL.out.2, HR2.out⟩, x8⟩
            case measure => simp [intOf]; omega
          · have h4I : ¬ (i : Int) < 4 := by omega
            go_wp2_with fail
            go_meet
            exact ⟨i, O, cO, hs, rfl, rfl, hhl, ⟨HX.out.2.1, HX.out.2.2⟩, x1⟩
        · have hiI : ¬ (i : Int) < rs.length := by omega
          go_wp2_with fail
          go_meet
          exact ⟨i, O, cO, hs, rfl, rfl, hhl, ⟨HX.out.2.1, HX.out.2.2⟩, x1⟩
  case rest =>
    obtain ⟨i, O, cO, hs, rfl, rfl, hhl, HX, x1⟩ := hcut
    have HLA := Lib.hid HX.out.2.lls
    have hk4 := HLA.out.len
    have B3 := around_bd top 300 (by omega)
    have HA3 := Lib.hid ((around_any top 300 wc ht (by omega) (by omega)).mono (fun _ _ h => RetQ.ext h))
    generalize around top 300 = t at *
    have HCK := Lib.hid (show ClOk (hs.map (·.l)) t from ⟨fun a ha => by
      obtain ⟨z, hz, rfl⟩ := List.mem_map.1 ha
      exact (HX.out.1 z hz).2, by omega⟩)
    have HFL := Lib.hid (flat6 HX.out.1)
    have hel : (endsT t (hs.map (·.l))).length ≤ 49 := by
      have := foldl_putS_len t ((hs.map (·.l)).flatten) [0]
      have h2 := HFL.out
      unfold endsT
      simp only [List.length_singleton] at this
      omega
    have HE0 := Lib.hid (splitE_zero HCK.out (fun a ha => by
      obtain ⟨z, hz, rfl⟩ := List.mem_map.1 ha
      have := (HX.out.1 z hz).1
      omega) hel)
    have HOK := Lib.hid HX.out.1
    go_wp2_with fail
    refine HA3.out.mono ?_
    rintro e w2 ⟨rfl, x2⟩
    have HS := Lib.hid (sSplit_any O cO hs t w2 (HLA.out.ext x2) (by unfold I64; omega) (by omega) (by have := HFL.out; omega))
    clear HA3
    go_wp2_with fail
    refine HS.out.mono ?_
    rintro e w3 ⟨Q, cQ, os, rfl, hQ, hos, x3⟩
    have HSF := Lib.hid (SpF.of HCK.out (by rw [HE0.out, if_pos rfl] at hos; exact hos) hel)
    simp only [HE0.out]
    have hq0 := hQ.len
    have hon : (os.length : Int) ≠ 0 := by have := HSF.out.ne; omega
    have honb : ((os.length : Int) == 0) = false := by simpa using hon
    have HQ := Lib.hid hQ
    have HLB := Lib.hid (HLA.out.ext (x2.trans x3))
    have X := (x1.trans x2).trans x3
    have hle := HSF.out.le
    clear HS hQ hos HX HLA HE0 HFL HCK hel x1 x2 x3
    go_wp2_with fail
    go_loopw [12, 13] (fun v12 v13 wr => ∃ (i : Nat) (m : Int), v13 = .int .i64 i ∧ i ≤ os.length ∧ v12 = .int .i64 m ∧ Hid (m = (((os.map (·.l)).take i).map cntS).sum) ∧ Ext w3 wr) (fun _ v _ => os.length - (intOf v).toNat)
    case atStart => exact ⟨0, 0, rfl, by omega, rfl, rfl, Ext.rfl' _⟩
    case round =>
      obtain ⟨i, m, rfl, hi, rfl, HM, y1⟩ := hrel
      by_cases hlt : i < os.length
      · have hiI : (i : Int) < os.length := by omega
        obtain ⟨pb, po, hQe, g0⟩ := (HQ.out.ext y1).get hlt
        have hsl := (HQ.out.sl _ (List.getElem_mem hlt)).ext y1
        have hokI := HSF.out.ok i hlt
        have hmb := sum_small HSF.out i (by omega)
        rw [← HM.out] at hmb
        have hcb := cntS_bound _ (okL_good hokI.1)
        have HM2 := Lib.hid (show m + cntS os[i].l = (((os.map (·.l)).take (i + 1)).map cntS).sum by rw [sum_take hlt, HM.out])
        have hI : i ≤ 49 := by omega
        subst hQe
        have HVI := Lib.hid (okl_set hokI.1 (by omega))
        have HCN := Lib.hid (cOk' hsl HVI.out rfl)
        have HLI := Lib.hid hokI.1
        have HPI := Lib.hid hokI.2.2.1
        have hc1 := hokI.2.2.2
        have hln := hokI.2.1
        generalize hci : cntS os[i].l = ci at *
        have hcib : (ci == 0) = false := by simp; omega
        have hwm : IntKind.i64.wrap (m + ci) = m + ci := by rw [IntKind.wrap_i64]; omega
        have HAP := Lib.hid (show ∀ k (hki : k < i), ∃ j, ∃ hj : j < (hs.map (·.l)).length, has (hs.map (·.l))[j] (fstS os[i].l) ≠ has (hs.map (·.l))[j] (fstS (os[k]'(Nat.lt_trans hki hlt)).l) from fun k hki => HSF.out.apart i k hlt hki)
        have HLT := Lib.hid (show ∀ k (hki : k < i), fstS (os[k]'(Nat.lt_trans hki hlt)).l < fstS os[i].l from fun k hki => HSF.out.lt i k hlt hki)
        have HMT := Lib.hid (show ∀ k (hki : k < i), combo kAnd [os[i].l, (os[k]'(Nat.lt_trans hki hlt)).l] = [] from fun k hki => HSF.out.meet i k hlt hki)
        clear hci hokI hcb hmb HM
        generalize os[i] = z at *
        obtain ⟨zA, zc, zl⟩ := z
        simp only at g0 hsl HVI HCN HLI HPI hln HAP HLT HMT
        go_wp2_with fail
        refine HCN.out.mono ?_
        rintro e w4 ⟨rfl, y2⟩
        have y12 := y1.trans y2
        replace g0 := y2.cell g0
        replace hsl := hsl.ext y2
        clear HCN y2
        go_wp2_with fail
        go_loopw [16] (fun v16 wr2 => ∃ k : Nat, v16 = .int .i64 k ∧ k ≤ i ∧ Ext w4 wr2) (fun v _ => i - (intOf v).toNat)
        case atStart => exact ⟨0, rfl, by omega, Ext.rfl' _⟩
        case round =>
          obtain ⟨k, rfl, hk, y3⟩ := hrel
          by_cases hkt : k < i
          · have hkI : (k : Int) < i := by omega
            have hko : k < os.length := by omega
            have y13 := y12.trans y3
            obtain ⟨pb2, po2, hQe2, u0⟩ := (HQ.out.ext y13).get hko
            have hskl := (HQ.out.sl _ (List.getElem_mem hko)).ext y13
            obtain ⟨rfl, rfl⟩ : pb = pb2 ∧ po = po2 := by injection hQe2 with h1; injection h1 with h2 h3 h4; exact ⟨h2, h3⟩
            clear hQe2
            have g0k := y3.cell g0
            have hsik := hsl.ext y3
            have hokK := HSF.out.ok k hko
            have HVK := Lib.hid (okl_set hokK.1 (by omega))
            have HPK := Lib.hid hokK.2.2.1
            have HAPk := Lib.hid (HAP.out k hkt)
            have hltk := HLT.out k hkt
            have HMTk := Lib.hid (HMT.out k hkt)
            clear hokK
            generalize os[k] = zk at *
            obtain ⟨kA, kc, kl⟩ := zk
            simp only at u0 hskl HVK HPK HAPk hltk HMTk
            obtain ⟨fb1, fo1, rfl, c1⟩ := fst_cell hsik HPI.out
            obtain ⟨fb2, fo2, rfl, c2⟩ := fst_cell hskl HPK.out
            obtain ⟨nz, hnz⟩ : ∃ nz, zl.length = nz + 1 := ⟨zl.length - 1, by have := HPI.out; omega⟩
            obtain ⟨nk, hnk⟩ : ∃ nk, kl.length = nk + 1 := ⟨kl.length - 1, by have := HPK.out; omega⟩
            rw [hnz] at g0k
            rw [hnk] at u0
            have HNZ := Lib.hid hnz
            have HNK := Lib.hid hnk
            have hp1 : (0 : Int) < (nz : Int) + 1 := by omega
            have hp2 : (0 : Int) < (nk : Int) + 1 := by omega
            clear hnz hnk
            generalize hf1 : fstS zl = f1 at *
            generalize hf2 : fstS kl = f2 at *
            clear hf1 hf2
            go_wp2_with fail
            go_loopw [17, 18] (fun v17 v18 wr3 => ∃ (j : Nat) (ap : Bool), v18 = .int .i64 j ∧ j ≤ hs.length ∧ v17 = .bool ap ∧ Hid (ap = true ↔ ∃ q, ∃ hq : q < hs.length, q < j ∧ has hs[q].l f1 ≠ has hs[q].l f2) ∧ Ext wr wr3) (fun _ v _ => hs.length - (intOf v).toNat)
            case atStart => exact ⟨0, false, rfl, by omega, rfl, ⟨fun h => (by cases h), fun ⟨q, hq, h, _⟩ => absurd h (Nat.not_lt_zero _)⟩, Ext.rfl' _⟩
            case round =>
              obtain ⟨j, ap, rfl, hj, rfl, HJ, y4⟩ := hrel
              by_cases hjt : j < hs.length
              · have hjI : (j : Int) < hs.length := by omega
                obtain ⟨ab, ao, hOe, j0⟩ := ((HLB.out.ext y13).ext y4).get hjt
                have haj := ((HLB.out.sl _ (List.getElem_mem hjt)).ext y13).ext y4
                have HJ2 := Lib.hid (show ∀ v, v = (ap || has hs[j].l f1 != has hs[j].l f2) → (v = true ↔ ∃ q, ∃ hq : q < hs.length, q < j + 1 ∧ has hs[q].l f1 ≠ has hs[q].l f2) from fun v hv => by
                  rw [hv, Bool.or_eq_true, HJ.out]
                  constructor
                  · rintro (⟨q, hq, h1, h2⟩ | h)
                    · exact ⟨q, hq, by omega, h2⟩
                    · exact ⟨j, hjt, by omega, by simpa using h⟩
                  · rintro ⟨q, hq, h1, h2⟩
                    rcases Nat.lt_or_ge q j with h3 | h3
                    · exact .inl ⟨q, hq, h3, h2⟩
                    · obtain rfl : q = j := by omega
                      exact .inr (by simpa using h2))
                generalize hs[j] = aj at *
                obtain ⟨jA, jc, jl⟩ := aj
                simp only at j0 haj HJ2
                subst hOe
                have g0j := y4.cell g0k
                have u0j := y4.cell u0
                have c1j := y4.cell c1
                have c2j := y4.cell c2
                have HH1 := fun (W' : World) (x : Ext wr W') => Lib.hid (sHas_any jA jc jl f1 W' (haj.ext x))
                have HH2 := fun (W' : World) (x : Ext wr W') => Lib.hid (sHas_any jA jc jl f2 W' (haj.ext x))
                generalize has jl f1 = r1 at *
                generalize has jl f2 = r2 at *
                have k0 := fun (w' : World) (h : Kp [] wr w') => h.cell j0 (by simp)
                have k1 := fun (w' : World) (h : Kp [] wr w') => h.cell g0j (by simp)
                have k2 := fun (w' : World) (h : Kp [] wr w') => h.cell u0j (by simp)
                have k3 := fun (w' : World) (h : Kp [] wr w') => h.cell c1j (by simp)
                have k4 := fun (w' : World) (h : Kp [] wr w') => h.cell c2j (by simp)
                cases ap
                · as_aux_lemma =>
                    have HJ3 := Lib.hid (HJ2.out (r1 != r2) (by simp))
                    clear HJ HJ2
                    go_upto_region 25 with fail
                    refine Xr.start [] (by kernel_rfl) ?_
                    (refine Xr.take 0 (some 103) (v := ?_) rfl rfl (by decide +kernel) (by rfl) ?_ ?_; rotate_left; (focus (intro w' hk; go_simp; (try with_reducible rfl); done)); (try simp only [Act.put, List.setIfInBounds_toArray, List.set_cons_zero, List.set_cons_succ]))
                    (refine Xr.take 1 (some 104) (v := ?_) rfl rfl (by decide +kernel) (by rfl) ?_ ?_; rotate_left; (focus (intro w' hk; go_simp; (try with_reducible rfl); done)); (try simp only [Act.put, List.setIfInBounds_toArray, List.set_cons_zero, List.set_cons_succ]))
                    first | (refine Xr.take 2 (some 105) (v := ?_) rfl rfl (by decide +kernel) (by rfl) ?_ ?_; rotate_left; (focus (intro w' hk; go_simp; (try with_reducible rfl); done)); (try simp only [Act.put, List.setIfInBounds_toArray, List.set_cons_zero, List.set_cons_succ])) | (refine Xr.skip 2 (some 105) rfl rfl (by decide +kernel) (by rfl) ?_; (try simp only [Act.put, List.setIfInBounds_toArray, List.set_cons_zero, List.set_cons_succ]))
                    first | (refine Xr.take 3 (some 106) (v := ?_) rfl rfl (by decide +kernel) (by rfl) ?_ ?_; rotate_left; (focus (intro w' hk; go_simp; (try with_reducible rfl); done)); (try simp only [Act.put, List.setIfInBounds_toArray, List.set_cons_zero, List.set_cons_succ])) | (refine Xr.skip 3 (some 106) rfl rfl (by decide +kernel) (by rfl) ?_; (try simp only [Act.put, List.setIfInBounds_toArray, List.set_cons_zero, List.set_cons_succ]))
                    first | (refine Xr.take 4 (some 107) (v := ?_) rfl rfl (by decide +kernel) (by rfl) ?_ ?_; rotate_left; (focus (intro w' hk; go_simp; (try with_reducible rfl); done)); (try simp only [Act.put, List.setIfInBounds_toArray, List.set_cons_zero, List.set_cons_succ])) | (refine Xr.skip 4 (some 107) rfl rfl (by decide +kernel) (by rfl) ?_; (try simp only [Act.put, List.setIfInBounds_toArray, List.set_cons_zero, List.set_cons_succ]))
                    first | (refine Xr.take 5 (some 108) (v := ?_) rfl rfl (by decide +kernel) (by rfl) ?_ ?_; rotate_left; (focus (intro w' hk; go_simp; (try with_reducible rfl); done)); (try simp only [Act.put, List.setIfInBounds_toArray, List.set_cons_zero, List.set_cons_succ])) | (refine Xr.skip 5 (some 108) rfl rfl (by decide +kernel) (by rfl) ?_; (try simp only [Act.put, List.setIfInBounds_toArray, List.set_cons_zero, List.set_cons_succ]))
                    first | (refine Xr.take 6 (some 109) (v := ?_) rfl rfl (by decide +kernel) (by rfl) ?_ ?_; rotate_left; (focus (intro w' hk; go_simp; (try with_reducible rfl); done)); (try simp only [Act.put, List.setIfInBounds_toArray, List.set_cons_zero, List.set_cons_succ])) | (refine Xr.skip 6 (some 109) rfl rfl (by decide +kernel) (by rfl) ?_; (try simp only [Act.put, List.setIfInBounds_toArray, List.set_cons_zero, List.set_cons_succ]))
                    first | (refine Xr.take 7 (some 110) (v := ?_) rfl rfl (by decide +kernel) (by rfl) ?_ ?_; rotate_left; (focus (intro w' hk; go_simp; (try with_reducible rfl); done)); (try simp only [Act.put, List.setIfInBounds_toArray, List.set_cons_zero, List.set_cons_succ])) | (refine Xr.skip 7 (some 110) rfl rfl (by decide +kernel) (by rfl) ?_; (try simp only [Act.put, List.setIfInBounds_toArray, List.set_cons_zero, List.set_cons_succ]))
                    first | (refine Xr.take 8 (some 111) (v := ?_) rfl rfl (by decide +kernel) (by rfl) ?_ ?_; rotate_left; (focus (intro w' hk; go_simp; (try with_reducible rfl); done)); (try simp only [Act.put, List.setIfInBounds_toArray, List.set_cons_zero, List.set_cons_succ])) | (refine Xr.skip 8 (some 111) rfl rfl (by decide +kernel) (by rfl) ?_; (try simp only [Act.put, List.setIfInBounds_toArray, List.set_cons_zero, List.set_cons_succ]))
                    first | (refine Xr.take 9 (some 112) (v := ?_) rfl rfl (by decide +kernel) (by rfl) ?_ ?_; rotate_left; (focus (intro w' hk; go_simp; (try with_reducible rfl); done)); (try simp only [Act.put, List.setIfInBounds_toArray, List.set_cons_zero, List.set_cons_succ])) | (refine Xr.skip 9 (some 112) rfl rfl (by decide +kernel) (by rfl) ?_; (try simp only [Act.put, List.setIfInBounds_toArray, List.set_cons_zero, List.set_cons_succ]))
                    first | (refine Xr.take 10 (some 113) (v := ?_) rfl rfl (by decide +kernel) (by rfl) ?_ ?_; rotate_left; (focus (intro w' hk; go_simp; (try with_reducible rfl); done)); (try simp only [Act.put, List.setIfInBounds_toArray, List.set_cons_zero, List.set_cons_succ])) | (refine Xr.skip 10 (some 113) rfl rfl (by decide +kernel) (by rfl) ?_; (try simp only [Act.put, List.setIfInBounds_toArray, List.set_cons_zero, List.set_cons_succ]))
                    first | (refine Xr.take 11 (some 114) (v := ?_) rfl rfl (by decide +kernel) (by rfl) ?_ ?_; rotate_left; (focus (intro w' hk; go_simp; (try with_reducible rfl); done)); (try simp only [Act.put, List.setIfInBounds_toArray, List.set_cons_zero, List.set_cons_succ])) | (refine Xr.skip 11 (some 114) rfl rfl (by decide +kernel) (by rfl) ?_; (try simp only [Act.put, List.setIfInBounds_toArray, List.set_cons_zero, List.set_cons_succ]))
                    first | (refine Xr.take 12 (some 115) (v := ?_) rfl rfl (by decide +kernel) (by rfl) ?_ ?_; rotate_left; (focus (intro w' hk; go_simp; (try with_reducible rfl); done)); (try simp only [Act.put, List.setIfInBounds_toArray, List.set_cons_zero, List.set_cons_succ])) | (refine Xr.skip 12 (some 115) rfl rfl (by decide +kernel) (by rfl) ?_; (try simp only [Act.put, List.setIfInBounds_toArray, List.set_cons_zero, List.set_cons_succ]))
                    first | (refine Xr.take 14 (some 117) (v := ?_) rfl rfl (by decide +kernel) (by rfl) ?_ ?_; rotate_left; (focus (intro w' hk; go_simp; (try with_reducible rfl); done)); (try simp only [Act.put, List.setIfInBounds_toArray, List.set_cons_zero, List.set_cons_succ])) | (refine Xr.skip 14 (some 117) rfl rfl (by decide +kernel) (by rfl) ?_; (try simp only [Act.put, List.setIfInBounds_toArray, List.set_cons_zero, List.set_cons_succ]))
                    first | (refine Xr.take 15 (some 118) (v := ?_) rfl rfl (by decide +kernel) (by rfl) ?_ ?_; rotate_left; (focus (intro w' hk; go_simp; (try with_reducible rfl); done)); (try simp only [Act.put, List.setIfInBounds_toArray, List.set_cons_zero, List.set_cons_succ])) | (refine Xr.skip 15 (some 118) rfl rfl (by decide +kernel) (by rfl) ?_; (try simp only [Act.put, List.setIfInBounds_toArray, List.set_cons_zero, List.set_cons_succ]))
                    first | (refine Xr.take 16 (some 119) (v := ?_) rfl rfl (by decide +kernel) (by rfl) ?_ ?_; rotate_left; (focus (intro w' hk; go_simp; (try with_reducible rfl); done)); (try simp only [Act.put, List.setIfInBounds_toArray, List.set_cons_zero, List.set_cons_succ])) | (refine Xr.skip 16 (some 119) rfl rfl (by decide +kernel) (by rfl) ?_; (try simp only [Act.put, List.setIfInBounds_toArray, List.set_cons_zero, List.set_cons_succ]))
                    first | (refine Xr.take 17 (some 120) (v := ?_) rfl rfl (by decide +kernel) (by rfl) ?_ ?_; rotate_left; (focus (intro w' hk; go_simp; (try with_reducible rfl); done)); (try simp only [Act.put, List.setIfInBounds_toArray, List.set_cons_zero, List.set_cons_succ])) | (refine Xr.skip 17 (some 120) rfl rfl (by decide +kernel) (by rfl) ?_; (try simp only [Act.put, List.setIfInBounds_toArray, List.set_cons_zero, List.set_cons_succ]))
                    first | (refine Xr.take 18 (some 121) (v := ?_) rfl rfl (by decide +kernel) (by rfl) ?_ ?_; rotate_left; (focus (intro w' hk; go_simp; (try with_reducible rfl); done)); (try simp only [Act.put, List.setIfInBounds_toArray, List.set_cons_zero, List.set_cons_succ])) | (refine Xr.skip 18 (some 121) rfl rfl (by decide +kernel) (by rfl) ?_; (try simp only [Act.put, List.setIfInBounds_toArray, List.set_cons_zero, List.set_cons_succ]))
                    first | (refine Xr.take 19 (some 122) (v := ?_) rfl rfl (by decide +kernel) (by rfl) ?_ ?_; rotate_left; (focus (intro w' hk; go_simp; (try with_reducible rfl); done)); (try simp only [Act.put, List.setIfInBounds_toArray, List.set_cons_zero, List.set_cons_succ])) | (refine Xr.skip 19 (some 122) rfl rfl (by decide +kernel) (by rfl) ?_; (try simp only [Act.put, List.setIfInBounds_toArray, List.set_cons_zero, List.set_cons_succ]))
                    first | (refine Xr.take 20 (some 123) (v := ?_) rfl rfl (by decide +kernel) (by rfl) ?_ ?_; rotate_left; (focus (intro w' hk; go_simp; (try with_reducible rfl); done)); (try simp only [Act.put, List.setIfInBounds_toArray, List.set_cons_zero, List.set_cons_succ])) | (refine Xr.skip 20 (some 123) rfl rfl (by decide +kernel) (by rfl) ?_; (try simp only [Act.put, List.setIfInBounds_toArray, List.set_cons_zero, List.set_cons_succ]))
                    first | (refine Xr.take 21 (some 124) (v := ?_) rfl rfl (by decide +kernel) (by rfl) ?_ ?_; rotate_left; (focus (intro w' hk; go_simp; (try with_reducible rfl); done)); (try simp only [Act.put, List.setIfInBounds_toArray, List.set_cons_zero, List.set_cons_succ])) | (refine Xr.skip 21 (some 124) rfl rfl (by decide +kernel) (by rfl) ?_; (try simp only [Act.put, List.setIfInBounds_toArray, List.set_cons_zero, List.set_cons_succ]))
                    first | (refine Xr.take 22 (some 125) (v := ?_) rfl rfl (by decide +kernel) (by rfl) ?_ ?_; rotate_left; (focus (intro w' hk; go_simp; (try with_reducible rfl); done)); (try simp only [Act.put, List.setIfInBounds_toArray, List.set_cons_zero, List.set_cons_succ])) | (refine Xr.skip 22 (some 125) rfl rfl (by decide +kernel) (by rfl) ?_; (try simp only [Act.put, List.setIfInBounds_toArray, List.set_cons_zero, List.set_cons_succ]))
                    first | (refine Xr.take 23 (some 126) (v := ?_) rfl rfl (by decide +kernel) (by rfl) ?_ ?_; rotate_left; (focus (intro w' hk; go_simp; (try with_reducible rfl); done)); (try simp only [Act.put, List.setIfInBounds_toArray, List.set_cons_zero, List.set_cons_succ])) | (refine Xr.skip 23 (some 126) rfl rfl (by decide +kernel) (by rfl) ?_; (try simp only [Act.put, List.setIfInBounds_toArray, List.set_cons_zero, List.set_cons_succ]))
                    first | (refine Xr.take 24 (some 127) (v := ?_) rfl rfl (by decide +kernel) (by rfl) ?_ ?_; rotate_left; (focus (intro w' hk; go_simp; (try with_reducible rfl); done)); (try simp only [Act.put, List.setIfInBounds_toArray, List.set_cons_zero, List.set_cons_succ])) | (refine Xr.skip 24 (some 127) rfl rfl (by decide +kernel) (by rfl) ?_; (try simp only [Act.put, List.setIfInBounds_toArray, List.set_cons_zero, List.set_cons_succ]))
                    refine Xr.call 13 rfl (by decide +kernel) (by rfl) (fun a1 hE1 hK1 K hKK => ?_)
                    go_simp
                    refine (HH1 _ hK1.nil).out.mono ?_
                    rintro e b1 ⟨rfl, z2⟩
                    refine hKK _ _ z2 ?_
                    clear hKK HH1
                    (try simp only [Act.put, List.setIfInBounds_toArray, List.set_cons_zero, List.set_cons_succ])
                    refine Xr.call 25 rfl (by decide +kernel) (by rfl) (fun a2 hE2 hK2 K hKK => ?_)
                    go_simp
                    refine (HH2 _ hK2.nil).out.mono ?_
                    rintro e b2 ⟨rfl, z3⟩
                    refine hKK _ _ z3 ?_
                    clear hKK HH2
                    (try simp only [Act.put, List.setIfInBounds_toArray, List.set_cons_zero, List.set_cons_succ])
                    first | (refine Xr.take 26 (some 129) (v := ?_) rfl rfl (by decide +kernel) (by rfl) ?_ ?_; rotate_left; (focus (intro w' hk; go_simp; (try with_reducible rfl); done)); (try simp only [Act.put, List.setIfInBounds_toArray, List.set_cons_zero, List.set_cons_succ])) | (refine Xr.skip 26 (some 129) rfl rfl (by decide +kernel) (by rfl) ?_; (try simp only [Act.put, List.setIfInBounds_toArray, List.set_cons_zero, List.set_cons_succ]))
                    (refine Xr.take 27 (some 130) (v := ?_) rfl rfl (by decide +kernel) (by rfl) ?_ ?_; rotate_left; (focus (intro w' hk; go_simp; (try with_reducible rfl); done)); (try simp only [Act.put, List.setIfInBounds_toArray, List.set_cons_zero, List.set_cons_succ]))
                    (refine Xr.take 28 (some 17) (v := ?_) rfl rfl (by decide +kernel) (by rfl) ?_ ?_; rotate_left; (focus (intro w' hk; go_simp; (try with_reducible rfl); done)); (try simp only [Act.put, List.setIfInBounds_toArray, List.set_cons_zero, List.set_cons_succ]))
                    refine Xr.done (by decide +kernel) (fun a3 hE3 hK3 => ?_)
                    have y5 := y4.trans hK3.nil
                    clear k0 k1 k2 k3 k4 hE1 hK1 hE2 hK2 hE3 hK3 z2 z3 j0 haj g0j u0j c1j c2j
                    go_wp2_with fail
                    go_roundw
                    case rel => exact ⟨j + 1, r1 != r2, by go_num, by omega, rfl, HJ3.out, y5⟩
                    case measure => simp [intOf]; omega
                · as_aux_lemma =>
                    have HJ3 := Lib.hid (HJ2.out true (by simp))
                    clear HJ HJ2 HH1 HH2
                    go_upto_region 25 with fail
                    refine Xr.start [] (by kernel_rfl) ?_
                    (refine Xr.take 0 (some 103) (v := ?_) rfl rfl (by decide +kernel) (by rfl) ?_ ?_; rotate_left; (focus (intro w' hk; go_simp; (try with_reducible rfl); done)); (try simp only [Act.put, List.setIfInBounds_toArray, List.set_cons_zero, List.set_cons_succ]))
                    (refine Xr.take 1 (some 104) (v := ?_) rfl rfl (by decide +kernel) (by rfl) ?_ ?_; rotate_left; (focus (intro w' hk; go_simp; (try with_reducible rfl); done)); (try simp only [Act.put, List.setIfInBounds_toArray, List.set_cons_zero, List.set_cons_succ]))
                    first | (refine Xr.take 2 (some 105) (v := ?_) rfl rfl (by decide +kernel) (by rfl) ?_ ?_; rotate_left; (focus (intro w' hk; go_simp; (try with_reducible rfl); done)); (try simp only [Act.put, List.setIfInBounds_toArray, List.set_cons_zero, List.set_cons_succ])) | (refine Xr.skip 2 (some 105) rfl rfl (by decide +kernel) (by rfl) ?_; (try simp only [Act.put, List.setIfInBounds_toArray, List.set_cons_zero, List.set_cons_succ]))
                    first | (refine Xr.take 3 (some 106) (v := ?_) rfl rfl (by decide +kernel) (by rfl) ?_ ?_; rotate_left; (focus (intro w' hk; go_simp; (try with_reducible rfl); done)); (try simp only [Act.put, List.setIfInBounds_toArray, List.set_cons_zero, List.set_cons_succ])) | (refine Xr.skip 3 (some 106) rfl rfl (by decide +kernel) (by rfl) ?_; (try simp only [Act.put, List.setIfInBounds_toArray, List.set_cons_zero, List.set_cons_succ]))
                    first | (refine Xr.take 4 (some 107) (v := ?_) rfl rfl (by decide +kernel) (by rfl) ?_ ?_; rotate_left; (focus (intro w' hk; go_simp; (try with_reducible rfl); done)); (try simp only [Act.put, List.setIfInBounds_toArray, List.set_cons_zero, List.set_cons_succ])) | (refine Xr.skip 4 (some 107) rfl rfl (by decide +kernel) (by rfl) ?_; (try simp only [Act.put, List.setIfInBounds_toArray, List.set_cons_zero, List.set_cons_succ]))
                    first | (refine Xr.take 5 (some 108) (v := ?_) rfl rfl (by decide +kernel) (by rfl) ?_ ?_; rotate_left; (focus (intro w' hk; go_simp; (try with_reducible rfl); done)); (try simp only [Act.put, List.setIfInBounds_toArray, List.set_cons_zero, List.set_cons_succ])) | (refine Xr.skip 5 (some 108) rfl rfl (by decide +kernel) (by rfl) ?_; (try simp only [Act.put, List.setIfInBounds_toArray, List.set_cons_zero, List.set_cons_succ]))
                    first | (refine Xr.take 6 (some 109) (v := ?_) rfl rfl (by decide +kernel) (by rfl) ?_ ?_; rotate_left; (focus (intro w' hk; go_simp; (try with_reducible rfl); done)); (try simp only [Act.put, List.setIfInBounds_toArray, List.set_cons_zero, List.set_cons_succ])) | (refine Xr.skip 6 (some 109) rfl rfl (by decide +kernel) (by rfl) ?_; (try simp only [Act.put, List.setIfInBounds_toArray, List.set_cons_zero, List.set_cons_succ]))
                    first | (refine Xr.take 7 (some 110) (v := ?_) rfl rfl (by decide +kernel) (by rfl) ?_ ?_; rotate_left; (focus (intro w' hk; go_simp; (try with_reducible rfl); done)); (try simp only [Act.put, List.setIfInBounds_toArray, List.set_cons_zero, List.set_cons_succ])) | (refine Xr.skip 7 (some 110) rfl rfl (by decide +kernel) (by rfl) ?_; (try simp only [Act.put, List.setIfInBounds_toArray, List.set_cons_zero, List.set_cons_succ]))
                    first | (refine Xr.take 8 (some 111) (v := ?_) rfl rfl (by decide +kernel) (by rfl) ?_ ?_; rotate_left; (focus (intro w' hk; go_simp; (try with_reducible rfl); done)); (try simp only [Act.put, List.setIfInBounds_toArray, List.set_cons_zero, List.set_cons_succ])) | (refine Xr.skip 8 (some 111) rfl rfl (by decide +kernel) (by rfl) ?_; (try simp only [Act.put, List.setIfInBounds_toArray, List.set_cons_zero, List.set_cons_succ]))
                    first | (refine Xr.take 9 (some 112) (v := ?_) rfl rfl (by decide +kernel) (by rfl) ?_ ?_; rotate_left; (focus (intro w' hk; go_simp; (try with_reducible rfl); done)); (try simp only [Act.put, List.setIfInBounds_toArray, List.set_cons_zero, List.set_cons_succ])) | (refine Xr.skip 9 (some 112) rfl rfl (by decide +kernel) (by rfl) ?_; (try simp only [Act.put, List.setIfInBounds_toArray, List.set_cons_zero, List.set_cons_succ]))
                    first | (refine Xr.take 10 (some 113) (v := ?_) rfl rfl (by decide +kernel) (by rfl) ?_ ?_; rotate_left; (focus (intro w' hk; go_simp; (try with_reducible rfl); done)); (try simp only [Act.put, List.setIfInBounds_toArray, List.set_cons_zero, List.set_cons_succ])) | (refine Xr.skip 10 (some 113) rfl rfl (by decide +kernel) (by rfl) ?_; (try simp only [Act.put, List.setIfInBounds_toArray, List.set_cons_zero, List.set_cons_succ]))
                    first | (refine Xr.take 11 (some 114) (v := ?_) rfl rfl (by decide +kernel) (by rfl) ?_ ?_; rotate_left; (focus (intro w' hk; go_simp; (try with_reducible rfl); done)); (try simp only [Act.put, List.setIfInBounds_toArray, List.set_cons_zero, List.set_cons_succ])) | (refine Xr.skip 11 (some 114) rfl rfl (by decide +kernel) (by rfl) ?_; (try simp only [Act.put, List.setIfInBounds_toArray, List.set_cons_zero, List.set_cons_succ]))
                    first | (refine Xr.take 12 (some 115) (v := ?_) rfl rfl (by decide +kernel) (by rfl) ?_ ?_; rotate_left; (focus (intro w' hk; go_simp; (try with_reducible rfl); done)); (try simp only [Act.put, List.setIfInBounds_toArray, List.set_cons_zero, List.set_cons_succ])) | (refine Xr.skip 12 (some 115) rfl rfl (by decide +kernel) (by rfl) ?_; (try simp only [Act.put, List.setIfInBounds_toArray, List.set_cons_zero, List.set_cons_succ]))
                    try (refine Xr.skip 13 (some 116) rfl rfl (by decide +kernel) (by rfl) ?_; (try simp only [Act.put, List.setIfInBounds_toArray, List.set_cons_zero, List.set_cons_succ]))
                    first | (refine Xr.take 14 (some 117) (v := ?_) rfl rfl (by decide +kernel) (by rfl) ?_ ?_; rotate_left; (focus (intro w' hk; go_simp; (try with_reducible rfl); done)); (try simp only [Act.put, List.setIfInBounds_toArray, List.set_cons_zero, List.set_cons_succ])) | (refine Xr.skip 14 (some 117) rfl rfl (by decide +kernel) (by rfl) ?_; (try simp only [Act.put, List.setIfInBounds_toArray, List.set_cons_zero, List.set_cons_succ]))
                    first | (refine Xr.take 15 (some 118) (v := ?_) rfl rfl (by decide +kernel) (by rfl) ?_ ?_; rotate_left; (focus (intro w' hk; go_simp; (try with_reducible rfl); done)); (try simp only [Act.put, List.setIfInBounds_toArray, List.set_cons_zero, List.set_cons_succ])) | (refine Xr.skip 15 (some 118) rfl rfl (by decide +kernel) (by rfl) ?_; (try simp only [Act.put, List.setIfInBounds_toArray, List.set_cons_zero, List.set_cons_succ]))
                    first | (refine Xr.take 16 (some 119) (v := ?_) rfl rfl (by decide +kernel) (by rfl) ?_ ?_; rotate_left; (focus (intro w' hk; go_simp; (try with_reducible rfl); done)); (try simp only [Act.put, List.setIfInBounds_toArray, List.set_cons_zero, List.set_cons_succ])) | (refine Xr.skip 16 (some 119) rfl rfl (by decide +kernel) (by rfl) ?_; (try simp only [Act.put, List.setIfInBounds_toArray, List.set_cons_zero, List.set_cons_succ]))
                    first | (refine Xr.take 17 (some 120) (v := ?_) rfl rfl (by decide +kernel) (by rfl) ?_ ?_; rotate_left; (focus (intro w' hk; go_simp; (try with_reducible rfl); done)); (try simp only [Act.put, List.setIfInBounds_toArray, List.set_cons_zero, List.set_cons_succ])) | (refine Xr.skip 17 (some 120) rfl rfl (by decide +kernel) (by rfl) ?_; (try simp only [Act.put, List.setIfInBounds_toArray, List.set_cons_zero, List.set_cons_succ]))
                    first | (refine Xr.take 18 (some 121) (v := ?_) rfl rfl (by decide +kernel) (by rfl) ?_ ?_; rotate_left; (focus (intro w' hk; go_simp; (try with_reducible rfl); done)); (try simp only [Act.put, List.setIfInBounds_toArray, List.set_cons_zero, List.set_cons_succ])) | (refine Xr.skip 18 (some 121) rfl rfl (by decide +kernel) (by rfl) ?_; (try simp only [Act.put, List.setIfInBounds_toArray, List.set_cons_zero, List.set_cons_succ]))
                    first | (refine Xr.take 19 (some 122) (v := ?_) rfl rfl (by decide +kernel) (by rfl) ?_ ?_; rotate_left; (focus (intro w' hk; go_simp; (try with_reducible rfl); done)); (try simp only [Act.put, List.setIfInBounds_toArray, List.set_cons_zero, List.set_cons_succ])) | (refine Xr.skip 19 (some 122) rfl rfl (by decide +kernel) (by rfl) ?_; (try simp only [Act.put, List.setIfInBounds_toArray, List.set_cons_zero, List.set_cons_succ]))
                    first | (refine Xr.take 20 (some 123) (v := ?_) rfl rfl (by decide +kernel) (by rfl) ?_ ?_; rotate_left; (focus (intro w' hk; go_simp; (try with_reducible rfl); done)); (try simp only [Act.put, List.setIfInBounds_toArray, List.set_cons_zero, List.set_cons_succ])) | (refine Xr.skip 20 (some 123) rfl rfl (by decide +kernel) (by rfl) ?_; (try simp only [Act.put, List.setIfInBounds_toArray, List.set_cons_zero, List.set_cons_succ]))
                    first | (refine Xr.take 21 (some 124) (v := ?_) rfl rfl (by decide +kernel) (by rfl) ?_ ?_; rotate_left; (focus (intro w' hk; go_simp; (try with_reducible rfl); done)); (try simp only [Act.put, List.setIfInBounds_toArray, List.set_cons_zero, List.set_cons_succ])) | (refine Xr.skip 21 (some 124) rfl rfl (by decide +kernel) (by rfl) ?_; (try simp only [Act.put, List.setIfInBounds_toArray, List.set_cons_zero, List.set_cons_succ]))
                    first | (refine Xr.take 22 (some 125) (v := ?_) rfl rfl (by decide +kernel) (by rfl) ?_ ?_; rotate_left; (focus (intro w' hk; go_simp; (try with_reducible rfl); done)); (try simp only [Act.put, List.setIfInBounds_toArray, List.set_cons_zero, List.set_cons_succ])) | (refine Xr.skip 22 (some 125) rfl rfl (by decide +kernel) (by rfl) ?_; (try simp only [Act.put, List.setIfInBounds_toArray, List.set_cons_zero, List.set_cons_succ]))
                    first | (refine Xr.take 23 (some 126) (v := ?_) rfl rfl (by decide +kernel) (by rfl) ?_ ?_; rotate_left; (focus (intro w' hk; go_simp; (try with_reducible rfl); done)); (try simp only [Act.put, List.setIfInBounds_toArray, List.set_cons_zero, List.set_cons_succ])) | (refine Xr.skip 23 (some 126) rfl rfl (by decide +kernel) (by rfl) ?_; (try simp only [Act.put, List.setIfInBounds_toArray, List.set_cons_zero, List.set_cons_succ]))
                    first | (refine Xr.take 24 (some 127) (v := ?_) rfl rfl (by decide +kernel) (by rfl) ?_ ?_; rotate_left; (focus (intro w' hk; go_simp; (try with_reducible rfl); done)); (try simp only [Act.put, List.setIfInBounds_toArray, List.set_cons_zero, List.set_cons_succ])) | (refine Xr.skip 24 (some 127) rfl rfl (by decide +kernel) (by rfl) ?_; (try simp only [Act.put, List.setIfInBounds_toArray, List.set_cons_zero, List.set_cons_succ]))
                    try (refine Xr.skip 25 (some 128) rfl rfl (by decide +kernel) (by rfl) ?_; (try simp only [Act.put, List.setIfInBounds_toArray, List.set_cons_zero, List.set_cons_succ]))
                    first | (refine Xr.take 26 (some 129) (v := ?_) rfl rfl (by decide +kernel) (by rfl) ?_ ?_; rotate_left; (focus (intro w' hk; go_simp; (try with_reducible rfl); done)); (try simp only [Act.put, List.setIfInBounds_toArray, List.set_cons_zero, List.set_cons_succ])) | (refine Xr.skip 26 (some 129) rfl rfl (by decide +kernel) (by rfl) ?_; (try simp only [Act.put, List.setIfInBounds_toArray, List.set_cons_zero, List.set_cons_succ]))
                    (refine Xr.take 27 (some 130) (v := ?_) rfl rfl (by decide +kernel) (by rfl) ?_ ?_; rotate_left; (focus (intro w' hk; go_simp; (try with_reducible rfl); done)); (try simp only [Act.put, List.setIfInBounds_toArray, List.set_cons_zero, List.set_cons_succ]))
                    (refine Xr.take 28 (some 17) (v := ?_) rfl rfl (by decide +kernel) (by rfl) ?_ ?_; rotate_left; (focus (intro w' hk; go_simp; (try with_reducible rfl); done)); (try simp only [Act.put, List.setIfInBounds_toArray, List.set_cons_zero, List.set_cons_succ]))
                    refine Xr.done (by decide +kernel) (fun a3 hE3 hK3 => ?_)
                    have y5 := y4.trans hK3.nil
                    clear k0 k1 k2 k3 k4 hE3 hK3 j0 haj g0j u0j c1j c2j
                    go_wp2_with fail
                    go_roundw
                    case rel => exact ⟨j + 1, true, by go_num, by omega, rfl, HJ3.out, y5⟩
                    case measure => simp [intOf]; omega
              · as_aux_lemma =>
                  have hjI : ¬ (j : Int) < hs.length := by omega
                  obtain rfl : j = hs.length := by omega
                  have hap : ap = true := HJ.out.2 (by
                    obtain ⟨q, hq, h⟩ := HAPk.out
                    exact ⟨q, by simpa using hq, by simpa using hq, by simpa using h⟩)
                  subst hap
                  have g0m := y4.cell g0k
                  have u0m := y4.cell u0
                  have c1m := y4.cell c1
                  have c2m := y4.cell c2
                  have HMM := fun (W' : World) (x : Ext wr W') => Lib.hid (mOk' ((hsik.ext y4).ext x) ((hskl.ext y4).ext x) HVI.out HVK.out HMTk.out.symm (by simp))
                  rw [HNZ.out, HNK.out] at HMM
                  have k0 := fun (w' : World) (h : Kp [] wr w') => h.cell g0m (by simp)
                  have k1 := fun (w' : World) (h : Kp [] wr w') => h.cell u0m (by simp)
                  clear HJ HAPk HMTk
                  go_upto_region 26 with fail
                  refine Xr.start [] (by kernel_rfl) ?_
                  (refine Xr.take 0 (some 132) (v := ?_) rfl rfl (by decide +kernel) (by rfl) ?_ ?_; rotate_left; (focus (intro w' hk; go_simp; (try with_reducible rfl); done)); (try simp only [Act.put, List.setIfInBounds_toArray, List.set_cons_zero, List.set_cons_succ]))
                  (refine Xr.take 1 (some 133) (v := ?_) rfl rfl (by decide +kernel) (by rfl) ?_ ?_; rotate_left; (focus (intro w' hk; go_simp; (try with_reducible rfl); done)); (try simp only [Act.put, List.setIfInBounds_toArray, List.set_cons_zero, List.set_cons_succ]))
                  (refine Xr.take 2 (some 134) (v := ?_) rfl rfl (by decide +kernel) (by rfl) ?_ ?_; rotate_left; (focus (intro w' hk; go_simp; (try with_reducible rfl); done)); (try simp only [Act.put, List.setIfInBounds_toArray, List.set_cons_zero, List.set_cons_succ]))
                  (refine Xr.take 3 (some 135) (v := ?_) rfl rfl (by decide +kernel) (by rfl) ?_ ?_; rotate_left; (focus (intro w' hk; go_simp; (try with_reducible rfl); done)); (try simp only [Act.put, List.setIfInBounds_toArray, List.set_cons_zero, List.set_cons_succ]))
                  (refine Xr.take 4 (some 136) (v := ?_) rfl rfl (by decide +kernel) (by rfl) ?_ ?_; rotate_left; (focus (intro w' hk; go_simp; (try with_reducible rfl); done)); (try simp only [Act.put, List.setIfInBounds_toArray, List.set_cons_zero, List.set_cons_succ]))
                  (refine Xr.take 5 (some 137) (v := ?_) rfl rfl (by decide +kernel) (by rfl) ?_ ?_; rotate_left; (focus (intro w' hk; go_simp; (try with_reducible rfl); done)); (try simp only [Act.put, List.setIfInBounds_toArray, List.set_cons_zero, List.set_cons_succ]))
                  (refine Xr.take 6 (some 138) (v := ?_) rfl rfl (by decide +kernel) (by rfl) ?_ ?_; rotate_left; (focus (intro w' hk; go_simp; (try with_reducible rfl); done)); (try simp only [Act.put, List.setIfInBounds_toArray, List.set_cons_zero, List.set_cons_succ]))
                  (refine Xr.take 7 (some 139) (v := ?_) rfl rfl (by decide +kernel) (by rfl) ?_ ?_; rotate_left; (focus (intro w' hk; go_simp; (try with_reducible rfl); done)); (try simp only [Act.put, List.setIfInBounds_toArray, List.set_cons_zero, List.set_cons_succ]))
                  refine Xr.call 8 rfl (by decide +kernel) (by rfl) (fun a1 hE1 hK1 K hKK => ?_)
                  go_simp
                  refine (HMM _ hK1.nil).out.mono ?_
                  rintro e b1 ⟨MS, mc, rfl, hMS, z2⟩
                  refine hKK _ _ z2 ?_
                  clear hKK HMM
                  (try simp only [Act.put, List.setIfInBounds_toArray, List.set_cons_zero, List.set_cons_succ])
                  (refine Xr.take 9 (some 131) (v := ?_) rfl rfl (by decide +kernel) (by rfl) ?_ ?_; rotate_left; (focus (intro w' hk; go_simp; (try with_reducible rfl); done)); (try simp only [Act.put, List.setIfInBounds_toArray, List.set_cons_zero, List.set_cons_succ]))
                  (refine Xr.take 10 (some 141) (v := ?_) rfl rfl (by decide +kernel) (by rfl) ?_ ?_; rotate_left; (focus (intro w' hk; go_simp; (try with_reducible rfl); done)); (try simp only [Act.put, List.setIfInBounds_toArray, List.set_cons_zero, List.set_cons_succ]))
                  (refine Xr.take 11 (some 142) (v := ?_) rfl rfl (by decide +kernel) (by rfl) ?_ ?_; rotate_left; (focus (intro w' hk; go_simp; (try with_reducible rfl); done)); (try simp only [Act.put, List.setIfInBounds_toArray, List.set_cons_zero, List.set_cons_succ]))
                  (refine Xr.take 12 (some 19) (v := ?_) rfl rfl (by decide +kernel) (by rfl) ?_ ?_; rotate_left; (focus (intro w' hk; go_simp; (try with_reducible rfl); done)); (try simp only [Act.put, List.setIfInBounds_toArray, List.set_cons_zero, List.set_cons_succ]))
                  (refine Xr.take 13 (some 20) (v := ?_) rfl rfl (by decide +kernel) (by rfl) ?_ ?_; rotate_left; (focus (intro w' hk; go_simp; (try with_reducible rfl); done)); (try simp only [Act.put, List.setIfInBounds_toArray, List.set_cons_zero, List.set_cons_succ]))
                  refine Xr.done (by decide +kernel) (fun a2 hE2 hK2 => ?_)
                  have z := hK2.nil
                  replace g0m := z.cell g0m
                  replace u0m := z.cell u0m
                  replace c1m := z.cell c1m
                  replace c2m := z.cell c2m
                  have y5 := (y3.trans y4).trans z
                  clear k0 k1 hE1 hK1 hE2 hK2 z2 z hMS
                  have k0 := fun (w' : World) (h : Kp [] a2 w') => h.cell g0m (by simp)
                  have k1 := fun (w' : World) (h : Kp [] a2 w') => h.cell u0m (by simp)
                  have k2 := fun (w' : World) (h : Kp [] a2 w') => h.cell c1m (by simp)
                  have k3 := fun (w' : World) (h : Kp [] a2 w') => h.cell c2m (by simp)
                  have hge : ¬ f1 ≤ f2 := by omega
                  go_upto_region 27 with fail
                  refine Xr.start [] (by kernel_rfl) ?_
                  (refine Xr.take 0 (some 143) (v := ?_) rfl rfl (by decide +kernel) (by rfl) ?_ ?_; rotate_left; (focus (intro w' hk; go_simp; (try with_reducible rfl); done)); (try simp only [Act.put, List.setIfInBounds_toArray, List.set_cons_zero, List.set_cons_succ]))
                  (refine Xr.take 1 (some 144) (v := ?_) rfl rfl (by decide +kernel) (by rfl) ?_ ?_; rotate_left; (focus (intro w' hk; go_simp; (try with_reducible rfl); done)); (try simp only [Act.put, List.setIfInBounds_toArray, List.set_cons_zero, List.set_cons_succ]))
                  (refine Xr.take 2 (some 145) (v := ?_) rfl rfl (by decide +kernel) (by rfl) ?_ ?_; rotate_left; (focus (intro w' hk; go_simp; (try with_reducible rfl); done)); (try simp only [Act.put, List.setIfInBounds_toArray, List.set_cons_zero, List.set_cons_succ]))
                  first | (refine Xr.take 3 (some 146) (v := ?_) rfl rfl (by decide +kernel) (by rfl) ?_ ?_; rotate_left; (focus (intro w' hk; go_simp; (try with_reducible rfl); done)); (try simp only [Act.put, List.setIfInBounds_toArray, List.set_cons_zero, List.set_cons_succ])) | (refine Xr.skip 3 (some 146) rfl rfl (by decide +kernel) (by rfl) ?_; (try simp only [Act.put, List.setIfInBounds_toArray, List.set_cons_zero, List.set_cons_succ]))
                  first | (refine Xr.take 4 (some 147) (v := ?_) rfl rfl (by decide +kernel) (by rfl) ?_ ?_; rotate_left; (focus (intro w' hk; go_simp; (try with_reducible rfl); done)); (try simp only [Act.put, List.setIfInBounds_toArray, List.set_cons_zero, List.set_cons_succ])) | (refine Xr.skip 4 (some 147) rfl rfl (by decide +kernel) (by rfl) ?_; (try simp only [Act.put, List.setIfInBounds_toArray, List.set_cons_zero, List.set_cons_succ]))
                  first | (refine Xr.take 5 (some 148) (v := ?_) rfl rfl (by decide +kernel) (by rfl) ?_ ?_; rotate_left; (focus (intro w' hk; go_simp; (try with_reducible rfl); done)); (try simp only [Act.put, List.setIfInBounds_toArray, List.set_cons_zero, List.set_cons_succ])) | (refine Xr.skip 5 (some 148) rfl rfl (by decide +kernel) (by rfl) ?_; (try simp only [Act.put, List.setIfInBounds_toArray, List.set_cons_zero, List.set_cons_succ]))
                  (refine Xr.take 6 (some 149) (v := ?_) rfl rfl (by decide +kernel) (by rfl) ?_ ?_; rotate_left; (focus (intro w' hk; go_simp; (try with_reducible rfl); done)); (try simp only [Act.put, List.setIfInBounds_toArray, List.set_cons_zero, List.set_cons_succ]))
                  (refine Xr.take 7 (some 150) (v := ?_) rfl rfl (by decide +kernel) (by rfl) ?_ ?_; rotate_left; (focus (intro w' hk; go_simp; (try with_reducible rfl); done)); (try simp only [Act.put, List.setIfInBounds_toArray, List.set_cons_zero, List.set_cons_succ]))
                  first | (refine Xr.take 8 (some 151) (v := ?_) rfl rfl (by decide +kernel) (by rfl) ?_ ?_; rotate_left; (focus (intro w' hk; go_simp; (try with_reducible rfl); done)); (try simp only [Act.put, List.setIfInBounds_toArray, List.set_cons_zero, List.set_cons_succ])) | (refine Xr.skip 8 (some 151) rfl rfl (by decide +kernel) (by rfl) ?_; (try simp only [Act.put, List.setIfInBounds_toArray, List.set_cons_zero, List.set_cons_succ]))
                  first | (refine Xr.take 9 (some 152) (v := ?_) rfl rfl (by decide +kernel) (by rfl) ?_ ?_; rotate_left; (focus (intro w' hk; go_simp; (try with_reducible rfl); done)); (try simp only [Act.put, List.setIfInBounds_toArray, List.set_cons_zero, List.set_cons_succ])) | (refine Xr.skip 9 (some 152) rfl rfl (by decide +kernel) (by rfl) ?_; (try simp only [Act.put, List.setIfInBounds_toArray, List.set_cons_zero, List.set_cons_succ]))
                  (refine Xr.take 10 (some 153) (v := ?_) rfl rfl (by decide +kernel) (by rfl) ?_ ?_; rotate_left; (focus (intro w' hk; go_simp; (try with_reducible rfl); done)); (try simp only [Act.put, List.setIfInBounds_toArray, List.set_cons_zero, List.set_cons_succ]))
                  (refine Xr.take 11 (some 154) (v := ?_) rfl rfl (by decide +kernel) (by rfl) ?_ ?_; rotate_left; (focus (intro w' hk; go_simp; (try with_reducible rfl); done)); (try simp only [Act.put, List.setIfInBounds_toArray, List.set_cons_zero, List.set_cons_succ]))
                  first | (refine Xr.take 12 (some 155) (v := ?_) rfl rfl (by decide +kernel) (by rfl) ?_ ?_; rotate_left; (focus (intro w' hk; go_simp; (try with_reducible rfl); done)); (try simp only [Act.put, List.setIfInBounds_toArray, List.set_cons_zero, List.set_cons_succ])) | (refine Xr.skip 12 (some 155) rfl rfl (by decide +kernel) (by rfl) ?_; (try simp only [Act.put, List.setIfInBounds_toArray, List.set_cons_zero, List.set_cons_succ]))
                  first | (refine Xr.take 13 (some 156) (v := ?_) rfl rfl (by decide +kernel) (by rfl) ?_ ?_; rotate_left; (focus (intro w' hk; go_simp; (try with_reducible rfl); done)); (try simp only [Act.put, List.setIfInBounds_toArray, List.set_cons_zero, List.set_cons_succ])) | (refine Xr.skip 13 (some 156) rfl rfl (by decide +kernel) (by rfl) ?_; (try simp only [Act.put, List.setIfInBounds_toArray, List.set_cons_zero, List.set_cons_succ]))
                  first | (refine Xr.take 14 (some 157) (v := ?_) rfl rfl (by decide +kernel) (by rfl) ?_ ?_; rotate_left; (focus (intro w' hk; go_simp; (try with_reducible rfl); done)); (try simp only [Act.put, List.setIfInBounds_toArray, List.set_cons_zero, List.set_cons_succ])) | (refine Xr.skip 14 (some 157) rfl rfl (by decide +kernel) (by rfl) ?_; (try simp only [Act.put, List.setIfInBounds_toArray, List.set_cons_zero, List.set_cons_succ]))
                  first | (refine Xr.take 15 (some 158) (v := ?_) rfl rfl (by decide +kernel) (by rfl) ?_ ?_; rotate_left; (focus (intro w' hk; go_simp; (try with_reducible rfl); done)); (try simp only [Act.put, List.setIfInBounds_toArray, List.set_cons_zero, List.set_cons_succ])) | (refine Xr.skip 15 (some 158) rfl rfl (by decide +kernel) (by rfl) ?_; (try simp only [Act.put, List.setIfInBounds_toArray, List.set_cons_zero, List.set_cons_succ]))
                  first | (refine Xr.take 16 (some 159) (v := ?_) rfl rfl (by decide +kernel) (by rfl) ?_ ?_; rotate_left; (focus (intro w' hk; go_simp; (try with_reducible rfl); done)); (try simp only [Act.put, List.setIfInBounds_toArray, List.set_cons_zero, List.set_cons_succ])) | (refine Xr.skip 16 (some 159) rfl rfl (by decide +kernel) (by rfl) ?_; (try simp only [Act.put, List.setIfInBounds_toArray, List.set_cons_zero, List.set_cons_succ]))
                  first | (refine Xr.take 17 (some 160) (v := ?_) rfl rfl (by decide +kernel) (by rfl) ?_ ?_; rotate_left; (focus (intro w' hk; go_simp; (try with_reducible rfl); done)); (try simp only [Act.put, List.setIfInBounds_toArray, List.set_cons_zero, List.set_cons_succ])) | (refine Xr.skip 17 (some 160) rfl rfl (by decide +kernel) (by rfl) ?_; (try simp only [Act.put, List.setIfInBounds_toArray, List.set_cons_zero, List.set_cons_succ]))
                  first | (refine Xr.take 18 (some 161) (v := ?_) rfl rfl (by decide +kernel) (by rfl) ?_ ?_; rotate_left; (focus (intro w' hk; go_simp; (try with_reducible rfl); done)); (try simp only [Act.put, List.setIfInBounds_toArray, List.set_cons_zero, List.set_cons_succ])) | (refine Xr.skip 18 (some 161) rfl rfl (by decide +kernel) (by rfl) ?_; (try simp only [Act.put, List.setIfInBounds_toArray, List.set_cons_zero, List.set_cons_succ]))
                  first | (refine Xr.take 19 (some 162) (v := ?_) rfl rfl (by decide +kernel) (by rfl) ?_ ?_; rotate_left; (focus (intro w' hk; go_simp; (try with_reducible rfl); done)); (try simp only [Act.put, List.setIfInBounds_toArray, List.set_cons_zero, List.set_cons_succ])) | (refine Xr.skip 19 (some 162) rfl rfl (by decide +kernel) (by rfl) ?_; (try simp only [Act.put, List.setIfInBounds_toArray, List.set_cons_zero, List.set_cons_succ]))
                  first | (refine Xr.take 20 (some 163) (v := ?_) rfl rfl (by decide +kernel) (by rfl) ?_ ?_; rotate_left; (focus (intro w' hk; go_simp; (try with_reducible rfl); done)); (try simp only [Act.put, List.setIfInBounds_toArray, List.set_cons_zero, List.set_cons_succ])) | (refine Xr.skip 20 (some 163) rfl rfl (by decide +kernel) (by rfl) ?_; (try simp only [Act.put, List.setIfInBounds_toArray, List.set_cons_zero, List.set_cons_succ]))
                  first | (refine Xr.take 21 (some 164) (v := ?_) rfl rfl (by decide +kernel) (by rfl) ?_ ?_; rotate_left; (focus (intro w' hk; go_simp; (try with_reducible rfl); done)); (try simp only [Act.put, List.setIfInBounds_toArray, List.set_cons_zero, List.set_cons_succ])) | (refine Xr.skip 21 (some 164) rfl rfl (by decide +kernel) (by rfl) ?_; (try simp only [Act.put, List.setIfInBounds_toArray, List.set_cons_zero, List.set_cons_succ]))
                  first | (refine Xr.take 22 (some 165) (v := ?_) rfl rfl (by decide +kernel) (by rfl) ?_ ?_; rotate_left; (focus (intro w' hk; go_simp; (try with_reducible rfl); done)); (try simp only [Act.put, List.setIfInBounds_toArray, List.set_cons_zero, List.set_cons_succ])) | (refine Xr.skip 22 (some 165) rfl rfl (by decide +kernel) (by rfl) ?_; (try simp only [Act.put, List.setIfInBounds_toArray, List.set_cons_zero, List.set_cons_succ]))
                  first | (refine Xr.take 23 (some 166) (v := ?_) rfl rfl (by decide +kernel) (by rfl) ?_ ?_; rotate_left; (focus (intro w' hk; go_simp; (try with_reducible rfl); done)); (try simp only [Act.put, List.setIfInBounds_toArray, List.set_cons_zero, List.set_cons_succ])) | (refine Xr.skip 23 (some 166) rfl rfl (by decide +kernel) (by rfl) ?_; (try simp only [Act.put, List.setIfInBounds_toArray, List.set_cons_zero, List.set_cons_succ]))
                  first | (refine Xr.take 24 (some 167) (v := ?_) rfl rfl (by decide +kernel) (by rfl) ?_ ?_; rotate_left; (focus (intro w' hk; go_simp; (try with_reducible rfl); done)); (try simp only [Act.put, List.setIfInBounds_toArray, List.set_cons_zero, List.set_cons_succ])) | (refine Xr.skip 24 (some 167) rfl rfl (by decide +kernel) (by rfl) ?_; (try simp only [Act.put, List.setIfInBounds_toArray, List.set_cons_zero, List.set_cons_succ]))
                  first | (refine Xr.take 25 (some 168) (v := ?_) rfl rfl (by decide +kernel) (by rfl) ?_ ?_; rotate_left; (focus (intro w' hk; go_simp; (try with_reducible rfl); done)); (try simp only [Act.put, List.setIfInBounds_toArray, List.set_cons_zero, List.set_cons_succ])) | (refine Xr.skip 25 (some 168) rfl rfl (by decide +kernel) (by rfl) ?_; (try simp only [Act.put, List.setIfInBounds_toArray, List.set_cons_zero, List.set_cons_succ]))
                  first | (refine Xr.take 26 (some 169) (v := ?_) rfl rfl (by decide +kernel) (by rfl) ?_ ?_; rotate_left; (focus (intro w' hk; go_simp; (try with_reducible rfl); done)); (try simp only [Act.put, List.setIfInBounds_toArray, List.set_cons_zero, List.set_cons_succ])) | (refine Xr.skip 26 (some 169) rfl rfl (by decide +kernel) (by rfl) ?_; (try simp only [Act.put, List.setIfInBounds_toArray, List.set_cons_zero, List.set_cons_succ]))
                  (refine Xr.take 27 (some 170) (v := ?_) rfl rfl (by decide +kernel) (by rfl) ?_ ?_; rotate_left; (focus (intro w' hk; go_simp; (try with_reducible rfl); done)); (try simp only [Act.put, List.setIfInBounds_toArray, List.set_cons_zero, List.set_cons_succ]))
                  refine Xr.done (by decide +kernel) (fun a3 hE3 hK3 => ?_)
                  have y6 := y5.trans hK3.nil
                  clear k0 k1 k2 k3 hE3 hK3 g0m u0m c1m c2m
                  go_wp2_with fail
                  go_roundw
                  case rel => exact ⟨k + 1, by go_num, by omega, y6⟩
                  case measure => simp [intOf]; omega
          · have hkI : ¬ (k : Int) < i := by omega
            have y5 := y12.trans y3
            clear g0 hsl
            go_wp2_with fail
            go_roundw
            case rel => exact ⟨i + 1, m + ci, by go_num, by omega, rfl, HM2.out, y5⟩
            case measure => simp [intOf]; omega
      · have hiI : ¬ (i : Int) < os.length := by omega
        obtain rfl : i = os.length := by omega
        have hmt : m = t + 1 := by rw [HM.out, List.take_of_length_le (by simp)]; exact HSF.out.total
        subst hmt
        have hwt : IntKind.i64.wrap (t + 1) = t + 1 := by rw [IntKind.wrap_i64]; omega
        have hwt2 : IntKind.i64.wrap (t + 2) = t + 2 := by rw [IntKind.wrap_i64]; omega
        have hne : (t + 1 != t + 1) = false := by simp
        have X2 := X.trans y1
        have HLC := Lib.hid (HLB.out.ext y1)
        have HQC := Lib.hid (HQ.out.ext y1)
        clear HM X HLB HQ y1
        go_wp2_with fail
        go_loopw [21] (fun v wd => ∃ j : Nat, v = .int .i64 j ∧ j ≤ hs.length ∧ Ext wr wd) (fun v _ => hs.length - (intOf v).toNat)
        case atStart => exact ⟨0, rfl, by omega, Ext.rfl' _⟩
        case round =>
          obtain ⟨j, rfl, hj, y2⟩ := hrel
          by_cases hjt : j < hs.length
          · as_aux_lemma =>
              have hjI : (j : Int) < hs.length := by omega
              obtain ⟨ab, ao, hOe, j0⟩ := (HLC.out.ext y2).get hjt
              have haj := (HLC.out.sl _ (List.getElem_mem hjt)).ext y2
              have hoj := HOK.out _ (List.getElem_mem hjt)
              have HIN := Lib.hid (show hs[j].l ∈ hs.map (·.l) from List.mem_map_of_mem (List.getElem_mem hjt))
              have HUN := Lib.hid (HSF.out.union _ HIN.out)
              have HGO := Lib.hid (HSF.out.good hs[j].l)
              have HPT := fun (i : Nat) (hi : i < os.length) => Lib.hid (pick_take (a := hs[j].l) hi (HSF.out.ok i hi).2.2.1)
              have HPL := fun (i : Nat) => Lib.hid (show (pickS hs[j].l ((os.map (·.l)).take i)).length ≤ 2401 from by
                have h1 := pickS_len hs[j].l ((os.map (·.l)).take i) 49 (fun c hc => by
                  obtain ⟨z, hz, rfl⟩ := List.mem_map.1 (List.mem_of_mem_take hc)
                  obtain ⟨q, hq, rfl⟩ := List.getElem_of_mem hz
                  exact (HSF.out.ok q hq).2.1)
                have h2 : ((os.map (·.l)).take i).length ≤ 49 := by
                  rw [List.length_take, List.length_map]
                  omega
                have h3 := Nat.mul_le_mul_right 49 h2
                omega)
              clear HIN
              generalize hs[j] = aj at *
              obtain ⟨jA, jc, jl⟩ := aj
              simp only at j0 haj hoj HUN HGO HPT HPL
              subst hOe
              have HVJ := Lib.hid (okl_set hoj.2 (by omega))
              have HT0 := Lib.hid (top_okl (t := t) (by omega))
              have HVT := Lib.hid (okl_set HT0.out (by simp))
              obtain ⟨o, ho⟩ : ∃ o, o = combo kAnd [jl, [(0, t)]] := ⟨_, rfl⟩
              have holn : o.length ≤ 14 := by
                have := (two_law (k := kAnd) rfl hoj.2 HT0.out).2.2.2
                rw [← ho] at this
                simp at this; omega
              rw [← ho] at HUN
              have HO := Lib.hid ho
              clear ho hoj
              rename_i wd _
              have bT := Blk.new wr 48 (flatS [((0 : Int), t)]).toArray
              have eT := Ext.alloc wr (.cells (flatS [((0 : Int), t)]).toArray 48)
              have HSL := SL.lit [((0 : Int), t)] bT (fun s hs => good_small (okL_good HT0.out s hs)) (by simp)
              have HMM := Lib.hid (mOk' (haj.ext eT) HSL HVJ.out HVT.out HO.out (by omega))
              go_wp2_with fail
              refine HMM.out.mono ?_
              rintro e w4 ⟨MS, mc, rfl, hMS, y3⟩
              have y23 := (y2.trans eT).trans y3
              replace j0 := (eT.trans y3).cell j0
              replace haj := (haj.ext eT).ext y3
              clear HMM HSL bT eT y3
              go_wp2_with fail
              go_loopw [24, 25] (fun v24 v25 we => ∃ (i : Nat) (P : Option Addr) (cP : Nat) (ps : List Sp), v25 = .int .i64 i ∧ i ≤ os.length ∧ v24 = .slice P ps.length cP ∧ Hid (ps = pickS jl ((os.map (·.l)).take i) ∧ OwnP we w4.heap.size P cP ps) ∧ Ext w4 we) (fun _ v _ => os.length - (intOf v).toNat)
              case atStart => exact ⟨0, none, 0, [], rfl, by omega, rfl, ⟨rfl, OwnP.nil _ _⟩, Ext.rfl' _⟩
              case round =>
                obtain ⟨i, P, cP, ps, rfl, hi, rfl, HPS, y4⟩ := hrel
                have hpl : ps.length ≤ 2401 := by rw [HPS.out.1]; exact (HPL i).out
                by_cases hit : i < os.length
                · have hiI : (i : Int) < os.length := by omega
                  obtain ⟨pb, po, hQe, u0⟩ := (HQC.out.ext (y23.trans y4)).get hit
                  have hsl := (HQC.out.sl _ (List.getElem_mem hit)).ext (y23.trans y4)
                  have hokI := HSF.out.ok i hit
                  have HPI := Lib.hid hokI.2.2.1
                  have hzl := hokI.2.1
                  have HPT2 := HPT i hit
                  clear hokI
                  generalize os[i] = z at *
                  obtain ⟨zA, zc, zl⟩ := z
                  simp only at u0 hsl HPI hzl HPT2
                  subst hQe
                  obtain ⟨fb1, fo1, rfl, c1⟩ := fst_cell hsl HPI.out
                  obtain ⟨nz, hnz⟩ : ∃ nz, zl.length = nz + 1 := ⟨zl.length - 1, by have := HPI.out; omega⟩
                  rw [hnz] at u0
                  have HNZ := Lib.hid hnz
                  have hp1 : (0 : Int) < (nz : Int) + 1 := by omega
                  have j0e := y4.cell j0
                  have hae := haj.ext y4
                  generalize hf1 : fstS zl = f1 at *
                  have HHA := fun (W' : World) (x : Ext wr W') => Lib.hid (sHas_any jA jc jl f1 W' (hae.ext x))
                  clear hf1
                  have k0 := fun (w' : World) (h : Kp [] wr w') => h.cell j0e (by simp)
                  have k1 := fun (w' : World) (h : Kp [] wr w') => h.cell u0 (by simp)
                  have k2 := fun (w' : World) (h : Kp [] wr w') => h.cell c1 (by simp)
                  by_cases hh : has jl f1 = true
                  · rw [hh] at HHA HPT2
                    have HZZ := Lib.hid (show pickS jl ((os.map (·.l)).take (i + 1)) = ps ++ zl by rw [HPT2.out, if_pos rfl, HPS.out.1])
                    clear hnz
                    go_upto_region 39 with fail
                    refine Xr.start [] (by kernel_rfl) ?_
                    (refine Xr.take 0 (some 198) (v := ?_) rfl rfl (by decide +kernel) (by rfl) ?_ ?_; rotate_left; (focus (intro w' hk; go_simp; (try with_reducible rfl); done)); (try simp only [Act.put, List.setIfInBounds_toArray, List.set_cons_zero, List.set_cons_succ]))
                    (refine Xr.take 1 (some 199) (v := ?_) rfl rfl (by decide +kernel) (by rfl) ?_ ?_; rotate_left; (focus (intro w' hk; go_simp; (try with_reducible rfl); done)); (try simp only [Act.put, List.setIfInBounds_toArray, List.set_cons_zero, List.set_cons_succ]))
                    (refine Xr.take 2 (some 200) (v := ?_) rfl rfl (by decide +kernel) (by rfl) ?_ ?_; rotate_left; (focus (intro w' hk; go_simp; (try with_reducible rfl); done)); (try simp only [Act.put, List.setIfInBounds_toArray, List.set_cons_zero, List.set_cons_succ]))
                    (refine Xr.take 3 (some 201) (v := ?_) rfl rfl (by decide +kernel) (by rfl) ?_ ?_; rotate_left; (focus (intro w' hk; go_simp; (try with_reducible rfl); done)); (try simp only [Act.put, List.setIfInBounds_toArray, List.set_cons_zero, List.set_cons_succ]))
                    (refine Xr.take 4 (some 202) (v := ?_) rfl rfl (by decide +kernel) (by rfl) ?_ ?_; rotate_left; (focus (intro w' hk; go_simp; (try with_reducible rfl); done)); (try simp only [Act.put, List.setIfInBounds_toArray, List.set_cons_zero, List.set_cons_succ]))
                    (refine Xr.take 5 (some 203) (v := ?_) rfl rfl (by decide +kernel) (by rfl) ?_ ?_; rotate_left; (focus (intro w' hk; go_simp; (try with_reducible rfl); done)); (try simp only [Act.put, List.setIfInBounds_toArray, List.set_cons_zero, List.set_cons_succ]))
                    (refine Xr.take 6 (some 204) (v := ?_) rfl rfl (by decide +kernel) (by rfl) ?_ ?_; rotate_left; (focus (intro w' hk; go_simp; (try with_reducible rfl); done)); (try simp only [Act.put, List.setIfInBounds_toArray, List.set_cons_zero, List.set_cons_succ]))
                    (refine Xr.take 7 (some 205) (v := ?_) rfl rfl (by decide +kernel) (by rfl) ?_ ?_; rotate_left; (focus (intro w' hk; go_simp; (try with_reducible rfl); done)); (try simp only [Act.put, List.setIfInBounds_toArray, List.set_cons_zero, List.set_cons_succ]))
                    (refine Xr.take 8 (some 206) (v := ?_) rfl rfl (by decide +kernel) (by rfl) ?_ ?_; rotate_left; (focus (intro w' hk; go_simp; (try with_reducible rfl); done)); (try simp only [Act.put, List.setIfInBounds_toArray, List.set_cons_zero, List.set_cons_succ]))
                    (refine Xr.take 9 (some 207) (v := ?_) rfl rfl (by decide +kernel) (by rfl) ?_ ?_; rotate_left; (focus (intro w' hk; go_simp; (try with_reducible rfl); done)); (try simp only [Act.put, List.setIfInBounds_toArray, List.set_cons_zero, List.set_cons_succ]))
                    (refine Xr.take 10 (some 208) (v := ?_) rfl rfl (by decide +kernel) (by rfl) ?_ ?_; rotate_left; (focus (intro w' hk; go_simp; (try with_reducible rfl); done)); (try simp only [Act.put, List.setIfInBounds_toArray, List.set_cons_zero, List.set_cons_succ]))
                    refine Xr.call 11 rfl (by decide +kernel) (by rfl) (fun a1 hE1 hK1 K hKK => ?_)
                    go_simp
                    refine (HHA _ hK1.nil).out.mono ?_
                    rintro e b1 ⟨rfl, z2⟩
                    refine hKK _ _ z2 ?_
                    clear hKK HHA
                    (try simp only [Act.put, List.setIfInBounds_toArray, List.set_cons_zero, List.set_cons_succ])
                    refine Xr.done (by decide +kernel) (fun a2 hE2 hK2 => ?_)
                    have z := hK2.nil
                    have HPO := Lib.hid (HPS.out.2.ext z)
                    have y5 := y4.trans z
                    replace u0 := z.cell u0
                    have hsl2 := hsl.ext z
                    clear k0 k1 k2 hE1 hK1 hE2 hK2 z2 z j0e hae c1 HPS
                    rw [← HNZ.out] at u0
                    go_wp2_with ((at_builtin; refine wpList_appSZ rfl _ _ _ rfl Try.underlying24 w4 y5 P cP ps rfl HPO.out (some ⟨fb1, fo1, none⟩) zc zl rfl hsl2 (by omega) _ HZZ.out ?_; intro P2 cP2 a3 ho3 y6))
                    have HP3 := Lib.hid ho3
                    clear ho3
                    go_roundw
                    case rel => exact ⟨i + 1, P2, cP2, _, by go_num, by omega, rfl, ⟨rfl, HP3.out⟩, y6⟩
                    case measure => simp [intOf]; omega
                  · have hh' : has jl f1 = false := by simpa using hh
                    rw [hh'] at HHA HPT2
                    have HZZ := Lib.hid (show pickS jl ((os.map (·.l)).take (i + 1)) = ps by rw [HPT2.out, if_neg (by simp), HPS.out.1])
                    clear hnz hh hh'
                    go_upto_region 39 with fail
                    refine Xr.start [] (by kernel_rfl) ?_
                    (refine Xr.take 0 (some 198) (v := ?_) rfl rfl (by decide +kernel) (by rfl) ?_ ?_; rotate_left; (focus (intro w' hk; go_simp; (try with_reducible rfl); done)); (try simp only [Act.put, List.setIfInBounds_toArray, List.set_cons_zero, List.set_cons_succ]))
                    (refine Xr.take 1 (some 199) (v := ?_) rfl rfl (by decide +kernel) (by rfl) ?_ ?_; rotate_left; (focus (intro w' hk; go_simp; (try with_reducible rfl); done)); (try simp only [Act.put, List.setIfInBounds_toArray, List.set_cons_zero, List.set_cons_succ]))
                    (refine Xr.take 2 (some 200) (v := ?_) rfl rfl (by decide +kernel) (by rfl) ?_ ?_; rotate_left; (focus (intro w' hk; go_simp; (try with_reducible rfl); done)); (try simp only [Act.put, List.setIfInBounds_toArray, List.set_cons_zero, List.set_cons_succ]))
                    (refine Xr.take 3 (some 201) (v := ?_) rfl rfl (by decide +kernel) (by rfl) ?_ ?_; rotate_left; (focus (intro w' hk; go_simp; (try with_reducible rfl); done)); (try simp only [Act.put, List.setIfInBounds_toArray, List.set_cons_zero, List.set_cons_succ]))
                    (refine Xr.take 4 (some 202) (v := ?_) rfl rfl (by decide +kernel) (by rfl) ?_ ?_; rotate_left; (focus (intro w' hk; go_simp; (try with_reducible rfl); done)); (try simp only [Act.put, List.setIfInBounds_toArray, List.set_cons_zero, List.set_cons_succ]))
                    (refine Xr.take 5 (some 203) (v := ?_) rfl rfl (by decide +kernel) (by rfl) ?_ ?_; rotate_left; (focus (intro w' hk; go_simp; (try with_reducible rfl); done)); (try simp only [Act.put, List.setIfInBounds_toArray, List.set_cons_zero, List.set_cons_succ]))
                    (refine Xr.take 6 (some 204) (v := ?_) rfl rfl (by decide +kernel) (by rfl) ?_ ?_; rotate_left; (focus (intro w' hk; go_simp; (try with_reducible rfl); done)); (try simp only [Act.put, List.setIfInBounds_toArray, List.set_cons_zero, List.set_cons_succ]))
                    (refine Xr.take 7 (some 205) (v := ?_) rfl rfl (by decide +kernel) (by rfl) ?_ ?_; rotate_left; (focus (intro w' hk; go_simp; (try with_reducible rfl); done)); (try simp only [Act.put, List.setIfInBounds_toArray, List.set_cons_zero, List.set_cons_succ]))
                    (refine Xr.take 8 (some 206) (v := ?_) rfl rfl (by decide +kernel) (by rfl) ?_ ?_; rotate_left; (focus (intro w' hk; go_simp; (try with_reducible rfl); done)); (try simp only [Act.put, List.setIfInBounds_toArray, List.set_cons_zero, List.set_cons_succ]))
                    (refine Xr.take 9 (some 207) (v := ?_) rfl rfl (by decide +kernel) (by rfl) ?_ ?_; rotate_left; (focus (intro w' hk; go_simp; (try with_reducible rfl); done)); (try simp only [Act.put, List.setIfInBounds_toArray, List.set_cons_zero, List.set_cons_succ]))
                    (refine Xr.take 10 (some 208) (v := ?_) rfl rfl (by decide +kernel) (by rfl) ?_ ?_; rotate_left; (focus (intro w' hk; go_simp; (try with_reducible rfl); done)); (try simp only [Act.put, List.setIfInBounds_toArray, List.set_cons_zero, List.set_cons_succ]))
                    refine Xr.call 11 rfl (by decide +kernel) (by rfl) (fun a1 hE1 hK1 K hKK => ?_)
                    go_simp
                    refine (HHA _ hK1.nil).out.mono ?_
                    rintro e b1 ⟨rfl, z2⟩
                    refine hKK _ _ z2 ?_
                    clear hKK HHA
                    (try simp only [Act.put, List.setIfInBounds_toArray, List.set_cons_zero, List.set_cons_succ])
                    refine Xr.done (by decide +kernel) (fun a2 hE2 hK2 => ?_)
                    have z := hK2.nil
                    have HPO := Lib.hid (HPS.out.2.ext z)
                    have y5 := y4.trans z
                    clear k0 k1 k2 hE1 hK1 hE2 hK2 z2 z j0e hae c1 HPS u0 hsl
                    go_wp2_with fail
                    go_roundw
                    case rel => exact ⟨i + 1, P, cP, ps, by go_num, by omega, rfl, ⟨HZZ.out.symm, HPO.out⟩, y5⟩
                    case measure => simp [intOf]; omega
                · have hiI : ¬ (i : Int) < os.length := by omega
                  obtain rfl : i = os.length := by omega
                  have hpe : ps = pickS jl (os.map (·.l)) := by rw [HPS.out.1, List.take_of_length_le (by simp)]
                  have HGP := Lib.hid (show AllG ps from by rw [hpe]; exact HGO.out)
                  have HNP := Lib.hid (show nrm ps = o from by rw [hpe]; exact HUN.out)
                  have HE : nE ps = 0 := by unfold nE; rw [if_pos HGP.out, HNP.out, if_neg (by omega)]
                  have HOO : nO ps = o := by unfold nO; rw [if_pos HE, HNP.out]
                  have HSN := Lib.hid (sN P cP ps wr (OwnP.sl' HPS.out.2 (fun s hs => (good_small (HGP.out s hs)).s64)) (by omega))
                  rw [HE, HOO] at HSN
                  have hMS2 := hMS.ext y4
                  have y24 := y23.trans y4
                  clear HE HOO HNP HGP hpe HPS HUN HGO HPT HPL j0 haj hMS
                  go_wp2_with fail
                  refine HSN.out.mono ?_
                  rintro e w5 ⟨NS, nc, rfl, hNS, y5⟩
                  have HEQ := Lib.hid (sEqual_any NS MS nc mc o o w5 hNS (hMS2.ext y5))
                  rw [decide_eq_true rfl] at HEQ
                  clear HSN
                  go_wp2_with fail
                  refine HEQ.out.mono ?_
                  rintro e w6 ⟨rfl, y6⟩
                  have y7 := (y24.trans y5).trans y6
                  clear HEQ hNS hMS2 y5 y6
                  go_wp2_with fail
                  go_roundw
                  case rel => exact ⟨j + 1, by go_num, by omega, y7⟩
                  case measure => simp [intOf]; omega
          · have hjI : ¬ (j : Int) < hs.length := by omega
            have X3 := X2.trans y2
            have HLD := Lib.hid (HLC.out.ext y2)
            have HQD := Lib.hid (HQC.out.ext y2)
            have HAS := Lib.hid ((around_any symbol (t + 2) wr hsy (by omega) (by omega)).mono (fun _ _ h => RetQ.ext h))
            have hab := around_bd symbol (t + 2) (by omega)
            generalize around symbol (t + 2) = q2 at *
            clear HLC HQC X2
            go_wp2_with fail
            refine HAS.out.mono ?_
            rintro e w4 ⟨rfl, y3⟩
            clear HAS
            have bU := Blk.new w4 3 #[.int .i64 symbol, .int .i64 q2, .int .i64 t, .int .i64 (t + 1), .int .i64 (-1)]
            have eU := Ext.alloc w4 (.cells #[.int .i64 symbol, .int .i64 q2, .int .i64 t, .int .i64 (t + 1), .int .i64 (-1)] 3)
            have HU5 := Lib.hid (show ∀ q, q < 5 → ∃ x : Int, (w4.alloc (.cells #[.int .i64 symbol, .int .i64 q2, .int .i64 t, .int .i64 (t + 1), .int .i64 (-1)] 3)).cell? ⟨w4.heap.size, q, none⟩ = some (.int .i64 x) from fun q hq => by
              have hq5 : q = 0 ∨ q = 1 ∨ q = 2 ∨ q = 3 ∨ q = 4 := by omega
              rcases hq5 with rfl | rfl | rfl | rfl | rfl
              · exact ⟨symbol, by rw [bU.cell]; rfl⟩
              · exact ⟨q2, by rw [bU.cell]; rfl⟩
              · exact ⟨t, by rw [bU.cell]; rfl⟩
              · exact ⟨t + 1, by rw [bU.cell]; rfl⟩
              · exact ⟨-1, by rw [bU.cell]; rfl⟩)
            have y34 := y3.trans eU
            go_upto_region 45 with fail
            obtain ⟨gu, hgu⟩ : ∃ gu, gu = w4.heap.size := ⟨_, rfl⟩
            rw [← hgu] at HU5 ⊢
            clear hgu bU eU
            generalize w4.alloc (.cells #[.int .i64 symbol, .int .i64 q2, .int .i64 t, .int .i64 (t + 1), .int .i64 (-1)] 3) = w5 at *
            have X4 := X3.trans y34
            have HLE := Lib.hid (HLD.out.ext y34)
            have HQE := Lib.hid (HQD.out.ext y34)
            clear X3 HLD HQD y3 y34
            go_wp2_with fail
            go_loopw [29] (fun v wf => ∃ i : Nat, v = .int .i64 i ∧ i ≤ 5 ∧ Ext w5 wf) (fun v _ => 5 - (intOf v).toNat)
            case atStart => exact ⟨0, rfl, by omega, Ext.rfl' _⟩
            case round =>
              obtain ⟨i, rfl, hi, y4⟩ := hrel
              by_cases hit : i < 5
              · have hiI : (i : Int) < 5 := by omega
                obtain ⟨x, u0⟩ := HU5.out i hit
                replace u0 := y4.cell u0
                have HLF := Lib.hid (HLE.out.ext y4)
                have HQF := Lib.hid (HQE.out.ext y4)
                have HC1 := Lib.hid (sClass_any Q cQ os x wr HQF.out)
                have HC2 := fun (W' : World) (k : Ext wr W') => Lib.hid (sClass_any O cO hs x W' (HLF.out.ext k))
                have HC3 := fun (W' : World) (k : Ext wr W') => Lib.hid (gClass_any O cO hs x W' (HLF.out.ext k))
                have HCL := Lib.hid (HSF.out.cls x)
                unfold RetClass at HC1 HC2 HC3
                generalize hcx : clsN (os.map (·.l)) x = cx at HC1 HCL
                clear hcx
                generalize ((clsN (hs.map (·.l)) x).getD 0 : Nat) = cv at *
                generalize hce : (if (clsN (hs.map (·.l)) x).isSome = true then (0 : Int) else 7) = ce at *
                clear hce
                have hcv : (((cv : Nat) : Int) != ((cv : Nat) : Int)) = false := by simp
                have hcee : (ce != ce) = false := by simp
                cases cx with
                | some cc =>
                  as_aux_lemma =>
                    obtain ⟨hcc, hhc⟩ := HCL.out.2 cc rfl
                    have hxr := HCL.out.1.1 rfl
                    simp only [Option.getD_some, Option.isSome_some, if_true] at HC1
                    have hcI : ¬ (cc : Int) < 0 := by omega
                    have hcJ : ¬ (os.length : Int) ≤ (cc : Int) := by omega
                    have hccI : (cc : Int) < os.length := by omega
                    have hx0 : 0 ≤ x := hxr.1
                    have hxt : x ≤ t := hxr.2
                    obtain ⟨pb, po, hQe, g0⟩ := HQF.out.get hcc
                    have hsl := HQF.out.sl _ (List.getElem_mem hcc)
                    have HHC := fun (W' : World) (k : Ext wr W') => Lib.hid (sHas_any _ _ _ x W' (hsl.ext k))
                    rw [hhc] at HHC
                    clear HCL hhc hxr
                    generalize os[cc] = z at *
                    obtain ⟨zA, zc, zl⟩ := z
                    simp only at g0 hsl HHC
                    subst hQe
                    go_wp2_with fail
                    refine HC1.out.mono ?_
                    rintro e w6 ⟨rfl, y5⟩
                    replace u0 := y5.cell u0
                    replace g0 := y5.cell g0
                    have k0 := fun (w' : World) (h : Kp [] w6 w') => h.cell u0 (by simp)
                    have k1 := fun (w' : World) (h : Kp [] w6 w') => h.cell g0 (by simp)
                    clear HC1
                    go_upto_region 49 with fail
                    have d1 : decide (os.length ≤ cc) = false := by rw [decide_eq_false_iff_not]; omega
                    have d0 : ¬ os.length ≤ cc := by omega
                    have d2 : decide ((cc : Int) < 0) = false := by rw [decide_eq_false_iff_not]; omega
                    have d3 : decide (0 ≤ x) = true := by rw [decide_eq_true_iff]; omega
                    have d4 : decide (x ≤ t) = true := by rw [decide_eq_true_iff]; omega
                    refine Xr.start [] (by kernel_rfl) ?_
                    (refine Xr.take 0 (some 255) (v := ?_) rfl rfl (by decide +kernel) (by rfl) ?_ ?_; rotate_left; (focus (intro w' hk; go_simp; (try with_reducible rfl); done)))
                    (try simp only [Act.put, List.setIfInBounds_toArray, List.set_cons_zero, List.set_cons_succ])
                    (refine Xr.take 1 (some 256) (v := ?_) rfl rfl (by decide +kernel) (by rfl) ?_ ?_; rotate_left; (focus (intro w' hk; go_simp; (try with_reducible rfl); done)))
                    (try simp only [Act.put, List.setIfInBounds_toArray, List.set_cons_zero, List.set_cons_succ])
                    (refine Xr.take 2 (some 257) (v := ?_) rfl rfl (by decide +kernel) (by rfl) ?_ ?_; rotate_left; (focus (intro w' hk; go_simp; (try with_reducible rfl); done)))
                    (try simp only [Act.put, List.setIfInBounds_toArray, List.set_cons_zero, List.set_cons_succ])
                    (refine Xr.take 3 (some 258) (v := ?_) rfl rfl (by decide +kernel) (by rfl) ?_ ?_; rotate_left; (focus (intro w' hk; go_simp; (try with_reducible rfl); done)))
                    (try simp only [Act.put, List.setIfInBounds_toArray, List.set_cons_zero, List.set_cons_succ])
                    (refine Xr.take 4 (some 259) (v := ?_) rfl rfl (by decide +kernel) (by rfl) ?_ ?_; rotate_left; (focus (intro w' hk; go_simp; (try with_reducible rfl); done)))
                    (try simp only [Act.put, List.setIfInBounds_toArray, List.set_cons_zero, List.set_cons_succ])
                    (refine Xr.take 5 (some 260) (v := ?_) rfl rfl (by decide +kernel) (by rfl) ?_ ?_; rotate_left; (focus (intro w' hk; go_simp; (try with_reducible rfl); done)))
                    (try simp only [Act.put, List.setIfInBounds_toArray, List.set_cons_zero, List.set_cons_succ])
                    (refine Xr.take 6 (some 261) (v := ?_) rfl rfl (by decide +kernel) (by rfl) ?_ ?_; rotate_left; (focus (intro w' hk; go_simp; (try with_reducible rfl); done)))
                    (try simp only [Act.put, List.setIfInBounds_toArray, List.set_cons_zero, List.set_cons_succ])
                    (refine Xr.take 7 (some 262) (v := ?_) rfl rfl (by decide +kernel) (by rfl) ?_ ?_; rotate_left; (focus (intro w' hk; go_simp; (try with_reducible rfl); done)))
                    (try simp only [Act.put, List.setIfInBounds_toArray, List.set_cons_zero, List.set_cons_succ])
                    (refine Xr.take 8 (some 263) (v := ?_) rfl rfl (by decide +kernel) (by rfl) ?_ ?_; rotate_left; (focus (intro w' hk; go_simp; (try with_reducible rfl); done)))
                    (try simp only [Act.put, List.setIfInBounds_toArray, List.set_cons_zero, List.set_cons_succ])
                    (refine Xr.take 9 (some 264) (v := ?_) rfl rfl (by decide +kernel) (by rfl) ?_ ?_; rotate_left; (focus (intro w' hk; go_simp; (try with_reducible rfl); done)))
                    (try simp only [Act.put, List.setIfInBounds_toArray, List.set_cons_zero, List.set_cons_succ])
                    (refine Xr.take 10 (some 265) (v := ?_) rfl rfl (by decide +kernel) (by rfl) ?_ ?_; rotate_left; (focus (intro w' hk; go_simp; (try with_reducible rfl); done)))
                    (try simp only [Act.put, List.setIfInBounds_toArray, List.set_cons_zero, List.set_cons_succ])
                    (refine Xr.take 11 (some 266) (v := ?_) rfl rfl (by decide +kernel) (by rfl) ?_ ?_; rotate_left; (focus (intro w' hk; go_simp; (try with_reducible rfl); done)))
                    (try simp only [Act.put, List.setIfInBounds_toArray, List.set_cons_zero, List.set_cons_succ])
                    (refine Xr.take 12 (some 267) (v := ?_) rfl rfl (by decide +kernel) (by rfl) ?_ ?_; rotate_left; (focus (intro w' hk; go_simp; (try with_reducible rfl); done)))
                    (try simp only [Act.put, List.setIfInBounds_toArray, List.set_cons_zero, List.set_cons_succ])
                    (refine Xr.take 13 (some 268) (v := ?_) rfl rfl (by decide +kernel) (by rfl) ?_ ?_; rotate_left; (focus (intro w' hk; go_simp; (try with_reducible rfl); done)))
                    (try simp only [Act.put, List.setIfInBounds_toArray, List.set_cons_zero, List.set_cons_succ])
                    (refine Xr.take 14 (some 269) (v := ?_) rfl rfl (by decide +kernel) (by rfl) ?_ ?_; rotate_left; (focus (intro w' hk; go_simp; (try with_reducible rfl); done)))
                    (try simp only [Act.put, List.setIfInBounds_toArray, List.set_cons_zero, List.set_cons_succ])
                    (refine Xr.take 15 (some 270) (v := ?_) rfl rfl (by decide +kernel) (by rfl) ?_ ?_; rotate_left; (focus (intro w' hk; go_simp; (try with_reducible rfl); done)))
                    (try simp only [Act.put, List.setIfInBounds_toArray, List.set_cons_zero, List.set_cons_succ])
                    (refine Xr.take 16 (some 271) (v := ?_) rfl rfl (by decide +kernel) (by rfl) ?_ ?_; rotate_left; (focus (intro w' hk; go_simp; (try with_reducible rfl); done)))
                    (try simp only [Act.put, List.setIfInBounds_toArray, List.set_cons_zero, List.set_cons_succ])
                    (refine Xr.take 17 (some 272) (v := ?_) rfl rfl (by decide +kernel) (by rfl) ?_ ?_; rotate_left; (focus (intro w' hk; go_simp; (try with_reducible rfl); done)))
                    (try simp only [Act.put, List.setIfInBounds_toArray, List.set_cons_zero, List.set_cons_succ])
                    (refine Xr.take 18 (some 273) (v := ?_) rfl rfl (by decide +kernel) (by rfl) ?_ ?_; rotate_left; (focus (intro w' hk; go_simp; (try with_reducible rfl); done)))
                    (try simp only [Act.put, List.setIfInBounds_toArray, List.set_cons_zero, List.set_cons_succ])
                    (refine Xr.take 19 (some 274) (v := ?_) rfl rfl (by decide +kernel) (by rfl) ?_ ?_; rotate_left; (focus (intro w' hk; go_simp; (try with_reducible rfl); done)))
                    (try simp only [Act.put, List.setIfInBounds_toArray, List.set_cons_zero, List.set_cons_succ])
                    (refine Xr.take 20 (some 275) (v := ?_) rfl rfl (by decide +kernel) (by rfl) ?_ ?_; rotate_left; (focus (intro w' hk; go_simp; (try with_reducible rfl); done)))
                    (try simp only [Act.put, List.setIfInBounds_toArray, List.set_cons_zero, List.set_cons_succ])
                    (refine Xr.take 21 (some 276) (v := ?_) rfl rfl (by decide +kernel) (by rfl) ?_ ?_; rotate_left; (focus (intro w' hk; go_simp; (try with_reducible rfl); done)))
                    (try simp only [Act.put, List.setIfInBounds_toArray, List.set_cons_zero, List.set_cons_succ])
                    (refine Xr.take 22 (some 277) (v := ?_) rfl rfl (by decide +kernel) (by rfl) ?_ ?_; rotate_left; (focus (intro w' hk; go_simp; (try with_reducible rfl); done)))
                    (try simp only [Act.put, List.setIfInBounds_toArray, List.set_cons_zero, List.set_cons_succ])
                    (refine Xr.take 23 (some 278) (v := ?_) rfl rfl (by decide +kernel) (by rfl) ?_ ?_; rotate_left; (focus (intro w' hk; go_simp; (try with_reducible rfl); done)))
                    (try simp only [Act.put, List.setIfInBounds_toArray, List.set_cons_zero, List.set_cons_succ])
                    (refine Xr.take 24 (some 279) (v := ?_) rfl rfl (by decide +kernel) (by rfl) ?_ ?_; rotate_left; (focus (intro w' hk; go_simp; (try with_reducible rfl); done)))
                    (try simp only [Act.put, List.setIfInBounds_toArray, List.set_cons_zero, List.set_cons_succ])
                    (refine Xr.take 25 (some 280) (v := ?_) rfl rfl (by decide +kernel) (by rfl) ?_ ?_; rotate_left; (focus (intro w' hk; go_simp; (try with_reducible rfl); done)))
                    (try simp only [Act.put, List.setIfInBounds_toArray, List.set_cons_zero, List.set_cons_succ])
                    (refine Xr.take 26 (some 281) (v := ?_) rfl rfl (by decide +kernel) (by rfl) ?_ ?_; rotate_left; (focus (intro w' hk; go_simp; (try with_reducible rfl); done)))
                    (try simp only [Act.put, List.setIfInBounds_toArray, List.set_cons_zero, List.set_cons_succ])
                    (refine Xr.take 27 (some 282) (v := ?_) rfl rfl (by decide +kernel) (by rfl) ?_ ?_; rotate_left; (focus (intro w' hk; go_simp; (try with_reducible rfl); done)))
                    (try simp only [Act.put, List.setIfInBounds_toArray, List.set_cons_zero, List.set_cons_succ])
                    (refine Xr.take 28 (some 283) (v := ?_) rfl rfl (by decide +kernel) (by rfl) ?_ ?_; rotate_left; (focus (intro w' hk; go_simp; (try with_reducible rfl); done)))
                    (try simp only [Act.put, List.setIfInBounds_toArray, List.set_cons_zero, List.set_cons_succ])
                    (refine Xr.take 29 (some 284) (v := ?_) rfl rfl (by decide +kernel) (by rfl) ?_ ?_; rotate_left; (focus (intro w' hk; go_simp; (try with_reducible rfl); done)))
                    (try simp only [Act.put, List.setIfInBounds_toArray, List.set_cons_zero, List.set_cons_succ])
                    (refine Xr.take 30 (some 285) (v := ?_) rfl rfl (by decide +kernel) (by rfl) ?_ ?_; rotate_left; (focus (intro w' hk; go_simp; (try with_reducible rfl); done)))
                    (try simp only [Act.put, List.setIfInBounds_toArray, List.set_cons_zero, List.set_cons_succ])
                    (refine Xr.take 31 (some 286) (v := ?_) rfl rfl (by decide +kernel) (by rfl) ?_ ?_; rotate_left; (focus (intro w' hk; go_simp; (try with_reducible rfl); done)))
                    (try simp only [Act.put, List.setIfInBounds_toArray, List.set_cons_zero, List.set_cons_succ])
                    (refine Xr.take 32 (some 287) (v := ?_) rfl rfl (by decide +kernel) (by rfl) ?_ ?_; rotate_left; (focus (intro w' hk; go_simp; (try with_reducible rfl); done)))
                    (try simp only [Act.put, List.setIfInBounds_toArray, List.set_cons_zero, List.set_cons_succ])
                    (refine Xr.take 33 (some 288) (v := ?_) rfl rfl (by decide +kernel) (by rfl) ?_ ?_; rotate_left; (focus (intro w' hk; go_simp; (try with_reducible rfl); done)))
                    (try simp only [Act.put, List.setIfInBounds_toArray, List.set_cons_zero, List.set_cons_succ])
                    (refine Xr.take 34 (some 289) (v := ?_) rfl rfl (by decide +kernel) (by rfl) ?_ ?_; rotate_left; (focus (intro w' hk; go_simp; (try with_reducible rfl); done)))
                    (try simp only [Act.put, List.setIfInBounds_toArray, List.set_cons_zero, List.set_cons_succ])
                    (refine Xr.take 35 (some 290) (v := ?_) rfl rfl (by decide +kernel) (by rfl) ?_ ?_; rotate_left; (focus (intro w' hk; go_simp; (try with_reducible rfl); done)))
                    (try simp only [Act.put, List.setIfInBounds_toArray, List.set_cons_zero, List.set_cons_succ])
                    (refine Xr.take 36 (some 291) (v := ?_) rfl rfl (by decide +kernel) (by rfl) ?_ ?_; rotate_left; (focus (intro w' hk; go_simp; (try with_reducible rfl); done)))
                    (try simp only [Act.put, List.setIfInBounds_toArray, List.set_cons_zero, List.set_cons_succ])
                    refine Xr.call 37 rfl (by decide +kernel) (by rfl) (fun a1 hE1 hK1 K hKK => ?_)
                    go_simp
                    refine (HHC _ (y5.trans hK1.nil)).out.mono ?_
                    rintro e b1 ⟨rfl, z2⟩
                    refine hKK _ _ z2 ?_
                    clear hKK HHC
                    (try simp only [Act.put, List.setIfInBounds_toArray, List.set_cons_zero, List.set_cons_succ])
                    (refine Xr.take 38 (some 293) (v := ?_) rfl rfl (by decide +kernel) (by rfl) ?_ ?_; rotate_left; (focus (intro w' hk; go_simp; (try with_reducible rfl); done)))
                    (try simp only [Act.put, List.setIfInBounds_toArray, List.set_cons_zero, List.set_cons_succ])
                    (refine Xr.take 39 (some 294) (v := ?_) rfl rfl (by decide +kernel) (by rfl) ?_ ?_; rotate_left; (focus (intro w' hk; go_simp; (try with_reducible rfl); done)))
                    (try simp only [Act.put, List.setIfInBounds_toArray, List.set_cons_zero, List.set_cons_succ])
                    (refine Xr.take 40 (some 295) (v := ?_) rfl rfl (by decide +kernel) (by rfl) ?_ ?_; rotate_left; (focus (intro w' hk; go_simp; (try with_reducible rfl); done)))
                    (try simp only [Act.put, List.setIfInBounds_toArray, List.set_cons_zero, List.set_cons_succ])
                    (refine Xr.take 41 (some 296) (v := ?_) rfl rfl (by decide +kernel) (by rfl) ?_ ?_; rotate_left; (focus (intro w' hk; go_simp; (try with_reducible rfl); done)))
                    (try simp only [Act.put, List.setIfInBounds_toArray, List.set_cons_zero, List.set_cons_succ])
                    (refine Xr.take 42 (some 297) (v := ?_) rfl rfl (by decide +kernel) (by rfl) ?_ ?_; rotate_left; (focus (intro w' hk; go_simp; (try with_reducible rfl); done)))
                    (try simp only [Act.put, List.setIfInBounds_toArray, List.set_cons_zero, List.set_cons_succ])
                    (refine Xr.take 43 (some 298) (v := ?_) rfl rfl (by decide +kernel) (by rfl) ?_ ?_; rotate_left; (focus (intro w' hk; go_simp; (try with_reducible rfl); done)))
                    (try simp only [Act.put, List.setIfInBounds_toArray, List.set_cons_zero, List.set_cons_succ])
                    (refine Xr.take 44 (some 299) (v := ?_) rfl rfl (by decide +kernel) (by rfl) ?_ ?_; rotate_left; (focus (intro w' hk; go_simp; (try with_reducible rfl); done)))
                    (try simp only [Act.put, List.setIfInBounds_toArray, List.set_cons_zero, List.set_cons_succ])
                    (refine Xr.take 45 (some 300) (v := ?_) rfl rfl (by decide +kernel) (by rfl) ?_ ?_; rotate_left; (focus (intro w' hk; go_simp; (try with_reducible rfl); done)))
                    (try simp only [Act.put, List.setIfInBounds_toArray, List.set_cons_zero, List.set_cons_succ])
                    refine Xr.skip 46 (some 301) rfl rfl (by decide +kernel) (by rfl) ?_
                    (try simp only [Act.put, List.setIfInBounds_toArray, List.set_cons_zero, List.set_cons_succ])
                    refine Xr.skip 47 (some 302) rfl rfl (by decide +kernel) (by rfl) ?_
                    (try simp only [Act.put, List.setIfInBounds_toArray, List.set_cons_zero, List.set_cons_succ])
                    (refine Xr.take 48 (some 303) (v := ?_) rfl rfl (by decide +kernel) (by rfl) ?_ ?_; rotate_left; (focus (intro w' hk; go_simp; (try with_reducible rfl); done)))
                    (try simp only [Act.put, List.setIfInBounds_toArray, List.set_cons_zero, List.set_cons_succ])
                    (refine Xr.take 49 (some 304) (v := ?_) rfl rfl (by decide +kernel) (by rfl) ?_ ?_; rotate_left; (focus (intro w' hk; go_simp; (try with_reducible rfl); done)))
                    (try simp only [Act.put, List.setIfInBounds_toArray, List.set_cons_zero, List.set_cons_succ])
                    refine Xr.done (by decide +kernel) (fun a2 hE2 hK2 => ?_)
                    have z := hK2.nil
                    replace u0 := z.cell u0
                    have y6 := y5.trans z
                    clear k0 k1 hE1 hK1 hE2 hK2 z2 z g0 hsl y5
                    go_wp2_with fail
                    refine (HC2 _ y6).out.mono ?_
                    rintro e w7 ⟨rfl, y7⟩
                    have y67 := y6.trans y7
                    replace u0 := y7.cell u0
                    clear HC2
                    go_wp2_with fail
                    refine (HC3 _ y67).out.mono ?_
                    rintro e w8 ⟨rfl, y8⟩
                    have y9 := (y4.trans y67).trans y8
                    clear HC3 u0 y8 y67 y7 y6
                    go_wp2_with fail
                    go_roundw
                    case rel => exact ⟨i + 1, by go_num, by omega, y9⟩
                    case measure => simp [intOf]; omega
                | none =>
                  simp only [Option.getD_none, Option.isSome_none, Bool.false_eq_true, if_false] at HC1
                  have hxr : ¬ (0 ≤ x ∧ x ≤ t) := fun h => by
                    have := HCL.out.1.2 h
                    cases this
                  clear HCL
                  by_cases hx0 : 0 ≤ x
                  · as_aux_lemma =>
                      have hxt : ¬ x ≤ t := by omega
                      go_wp2_with fail
                      refine HC1.out.mono ?_
                      rintro e w6 ⟨rfl, y5⟩
                      replace u0 := y5.cell u0
                      have k0 := fun (w' : World) (h : Kp [] w6 w') => h.cell u0 (by simp)
                      clear HC1
                      go_upto_region 49 with fail
                      have d3 : decide (0 ≤ x) = true := by rw [decide_eq_true_iff]; omega
                      have d4 : decide (x ≤ t) = false := by rw [decide_eq_false_iff_not]; omega
                      go_wp2_with (go_quiet (fail))
                      replace u0 := (Ext.drewN w6 nq).cell u0
                      have y6 := y5.trans (Ext.drewN w6 nq)
                      clear k0 y5
                      refine (HC2 _ y6).out.mono ?_
                      rintro e w7 ⟨rfl, y7⟩
                      have y67 := y6.trans y7
                      replace u0 := y7.cell u0
                      clear HC2
                      go_wp2_with fail
                      refine (HC3 _ y67).out.mono ?_
                      rintro e w8 ⟨rfl, y8⟩
                      have y9 := (y4.trans y67).trans y8
                      clear HC3 u0 y8 y67 y7 y6
                      go_wp2_with fail
                      go_roundw
                      case rel => exact ⟨i + 1, by go_num, by omega, y9⟩
                      case measure => simp [intOf]; omega
                  · as_aux_lemma =>
                      go_wp2_with fail
                      refine HC1.out.mono ?_
                      rintro e w6 ⟨rfl, y5⟩
                      replace u0 := y5.cell u0
                      have k0 := fun (w' : World) (h : Kp [] w6 w') => h.cell u0 (by simp)
                      clear HC1
                      go_upto_region 49 with fail
                      have d3 : decide (0 ≤ x) = false := by rw [decide_eq_false_iff_not]; omega
                      go_wp2_with (go_quiet (fail))
                      replace u0 := (Ext.drewN w6 nq).cell u0
                      have y6 := y5.trans (Ext.drewN w6 nq)
                      clear k0 y5
                      refine (HC2 _ y6).out.mono ?_
                      rintro e w7 ⟨rfl, y7⟩
                      have y67 := y6.trans y7
                      replace u0 := y7.cell u0
                      clear HC2
                      go_wp2_with fail
                      refine (HC3 _ y67).out.mono ?_
                      rintro e w8 ⟨rfl, y8⟩
                      have y9 := (y4.trans y67).trans y8
                      clear HC3 u0 y8 y67 y7 y6
                      go_wp2_with fail
                      go_roundw
                      case rel => exact ⟨i + 1, by go_num, by omega, y9⟩
                      case measure => simp [intOf]; omega
              · have hiI : ¬ (i : Int) < 5 := by omega
                go_wp2_with fail
                refine (slives_any _).mono ?_
                rintro e wz ⟨rfl, xz⟩
                have XX := (X4.trans y4).trans xz
                go_wp2_with fail
                go_ret
                exact ⟨rfl, XX⟩
end Go.Proofs.Ytlbdjnbcoldjhaa
