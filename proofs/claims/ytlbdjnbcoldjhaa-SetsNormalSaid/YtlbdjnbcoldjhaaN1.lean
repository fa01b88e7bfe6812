/- The walk of SetsNormal: for all lists of spans Valid, Has, Equal and Normal do what the reference does. -/
import Derived.Test.YtlbdjnbcoldjhaaH8
namespace Go.Proofs.Ytlbdjnbcoldjhaa
open Go.RowKit

/-- appending spans; zs: how the new list is to be written -/
theorem wpList_appSZ {w : World} {ops : Array Oper} {rest : List Oper} {o : Oper} {a : Act} {Q : Exit → Act → World → Prop} (hgd : o.guard = none) (s x : Operand) (t : Nat)
    (ho : o.op = .call { callee := .builtin .append, args := #[s, x], argTypes := #[t, t] }) (ht : Try.prog.underlying t = some (.slice 48))
    (a0 : World) (hext : Ext a0 w) (A : Option Addr) (c : Nat) (xs : List Sp) (hs : a.eval s = .slice A xs.length c) (hown : OwnP w a0.heap.size A c xs)
    (B : Option Addr) (d : Nat) (ys : List Sp) (hx : a.eval x = .slice B ys.length d) (hy : SL w B d ys) (hb : xs.length + ys.length ≤ 1000000) (zs : List Sp) (hz : zs = xs ++ ys)
    (h : ∀ A' c' w', OwnP w' a0.heap.size A' c' zs → Ext a0 w' → wpList Try.prog ops Q rest (a.put o.dst (.slice A' zs.length c')) w') : wpList Try.prog ops Q (o :: rest) a w := by
  subst hz
  exact wpList_appSS hgd s x t ho ht a0 hext A c xs hs hown B d ys hx hy hb h
theorem ownP_lit0 (w : World) : OwnP (w.alloc (.cells #[] 48)) w.heap.size (some ⟨w.heap.size, 0, none⟩) 0 [] :=
  OwnS.of_blk (size := 2) (c := 0) (n := 0) (Blk.new w 48 #[]) (Nat.le_refl _) rfl (Nat.le_refl _) (Nat.zero_le _)
theorem OwnP.sl' {w : World} {base c : Nat} {A : Option Addr} {l : List Sp} (h : OwnP w base A c l) (hg : ∀ s ∈ l, S64 s) : SL w A c l := SL.of_own h hg

theorem LLS.lit {w : World} {g T : Nat} (hs : List Hs) (h : Blk w g T (flatH hs).toArray) (hsl : ∀ h ∈ hs, SL w h.A h.c h.l) (hn : hs.length ≤ 1000) : LLS w (Option.some ⟨g, 0, none⟩) hs.length hs :=
  ⟨Nat.le_refl _, by unfold maxLen; omega, hsl, fun _ => ⟨g, 0, rfl, fun i hi => by
    rw [h.cell]
    simp [flatH, hi]⟩⟩

open Classical in
/-- the error of Normal -/
noncomputable def nE (l : List Sp) : Int := if AllG l then (if 64 < (nrm l).length then 4 else 0) else 1
/-- what Normal returns -/
noncomputable def nO (l : List Sp) : List Sp := if nE l = 0 then nrm l else []
def RetN (o : List Sp) (er : Int) (w : World) (e : Ending) (w' : World) : Prop :=
  ∃ (S : Option Addr) (cS : Nat), e = .returned (.tuple #[.slice S o.length cS, .int .i64 er]) ∧ SL w' S cS o ∧ Ext w w'
theorem RetNm.n {l : List Sp} {w w' : World} {e : Ending} (h : RetNm l w e w') : RetN (nO l) (nE l) w e w' := by
  rcases h with ⟨h1, rfl, x⟩ | ⟨h1, ⟨h64, rfl, x⟩ | ⟨h64, S, cS, rfl, hS, x, _⟩⟩
  · have e1 : nE l = 1 := by unfold nE; rw [if_neg h1]
    have e2 : nO l = [] := by unfold nO; rw [e1, if_neg (by omega)]
    rw [e1, e2]
    exact ⟨none, 0, rfl, SL.nil _, x⟩
  · have e1 : nE l = 4 := by unfold nE; rw [if_pos h1, if_pos h64]
    have e2 : nO l = [] := by unfold nO; rw [e1, if_neg (by omega)]
    rw [e1, e2]
    exact ⟨none, 0, rfl, SL.nil _, x⟩
  · have e1 : nE l = 0 := by unfold nE; rw [if_pos h1, if_neg (by omega)]
    have e2 : nO l = nrm l := by unfold nO; rw [e1, if_pos rfl]
    rw [e1, e2]
    exact ⟨S, cS, rfl, hS, x⟩
theorem sN (A : Option Addr) (c : Nat) (l : List Sp) (w : World) (hl : SL w A c l) (hlen : l.length ≤ 40000) : Calls Try.prog 22 #[.slice A l.length c] w (RetN (nO l) (nE l) w) := (sNormal_any A c l w hl hlen).mono (fun _ _ h => h.n)
theorem gN (A : Option Addr) (c : Nat) (l : List Sp) (w : World) (hl : SL w A c l) (hlen : l.length ≤ 40000) : Calls Try.prog 23 #[.slice A l.length c] w (RetN (nO l) (nE l) w) := (gNormal_any A c l w hl hlen).mono (fun _ _ h => h.n)
/-- Normal of what Normal returned is the same -/
theorem nO_again {l : List Sp} (h : nE l = 0) : nE (nO l) = 0 ∧ nO (nO l) = nO l ∧ validE (nO l) = 0 := by
  have hg : AllG l := by
    unfold nE at h
    split at h
    · assumption
    · omega
  have h64 : (nrm l).length ≤ 64 := by
    unfold nE at h
    rw [if_pos hg] at h
    split at h <;> omega
  have h1 := nrm_law hg
  have h2 := nrm_law h1.2.2.2
  have e : nO l = nrm l := by unfold nO; rw [if_pos h]
  have e2 : nrm (nrm l) = nrm l := canon_ext h2.1 h1.1 h2.2.1
  rw [e]
  have e3 : nE (nrm l) = 0 := by unfold nE; rw [if_pos (show AllG (nrm l) from h1.2.2.2), if_neg (by rw [e2]; omega)]
  refine ⟨e3, by unfold nO; rw [if_pos e3, e2], ?_⟩
  rw [validE_ok (canon_okL h1.1 h1.2.2.2), if_neg (by omega)]
theorem nO_len (l : List Sp) : (nO l).length ≤ 64 := by
  unfold nO
  by_cases h : nE l = 0
  · rw [if_pos h]
    unfold nE at h
    split at h
    · split at h <;> omega
    · omega
  · rw [if_neg h]; simp

set_option maxRecDepth 100000 in
set_option maxHeartbeats 8000000 in
theorem SetsNormal_any (A : Option Addr) (c : Nat) (l : List Int) (at_ by_ n symbol : Int) (w : World) (hl : IL w A c l) (ha : I64 at_) (hb : I64 by_) (hn : I64 n) (hs : I64 symbol) :
    Calls Try.prog 4 #[.slice A l.length c, .int .i64 at_, .int .i64 by_, .int .i64 n, .int .i64 symbol] w (RetV (.bool true) w) := by
  have hcap := hl.len
  have HSP := Lib.hid (gSpans_any A c l 12 w hl (by omega))
  have HAR := fun (q m : Int) (W : World) hq h0 h1 => Lib.hid ((around_any q m W hq h0 h1).mono (fun _ _ h => RetQ.ext h))
  have HA1 := fun (W : World) => HAR n 5 W hn (by omega) (by omega)
  have HA2 := fun (W : World) => HAR n 400 W hn (by omega) (by omega)
  have HA3 := fun (W : World) => HAR by_ 500 W hb (by omega) (by omega)
  have B1 := around_bd n 5 (by omega)
  have B2 := around_bd n 400 (by omega)
  have B3 := around_bd by_ 500 (by omega)
  generalize around n 5 = n1 at *
  generalize around n 400 = n2 at *
  generalize around by_ 500 = n3 at *
  obtain ⟨m, hm⟩ : ∃ m : Nat, 62 + n1 = m := ⟨(62 + n1).toNat, by omega⟩
  have hwm : IntKind.i64.wrap (62 + n1) = (m : Int) := by rw [IntKind.wrap_i64]; omega
  clear HAR
  go_enter Try.func4, Try.ntmps4
  go_wp2_with fail
  refine HSP.out.mono ?_
  rintro e w1 ⟨A1, c1, l1, rfl, s1, hl1, hs1, x1⟩
  replace hs1 := Lib.hid hs1
  clear HSP
  go_wp2_with fail
  refine (HA1 _).out.mono ?_
  rintro e w2 ⟨rfl, x2⟩
  clear HA1
  go_wp2_with fail
  refine (HA2 _).out.mono ?_
  rintro e w3 ⟨rfl, x3⟩
  clear HA2
  have x13 := (x1.trans x2).trans x3
  replace s1 := (s1.ext x2).ext x3
  clear x1 x2 x3
  have HM := Lib.hid (gMany_any m n2 w3 (by omega) (by omega))
  go_wp2_with fail
  refine HM.out.mono ?_
  rintro e w4 ⟨A2, c2, l2, rfl, s2, hl2, hs2, x4⟩
  replace hs2 := Lib.hid hs2
  replace x13 := x13.trans x4
  replace s1 := s1.ext x4
  have HP := Lib.hid (gSpoilt_any A1 c1 l1 at_ by_ w4 s1 hs1.out (by omega) ha hb)
  clear HM x4
  go_wp2_with fail
  refine HP.out.mono ?_
  rintro e w5 ⟨A3, c3, l3, rfl, s3, hl3, x5⟩
  have HG := Lib.hid (gSet_any A c l 12 w5 (hl.ext (x13.trans x5)) (by omega))
  clear HP
  go_wp2_with fail
  refine HG.out.mono ?_
  rintro e w6 ⟨A4, c4, l4, rfl, s4, hl4, _, _, x6⟩
  clear HG
  replace x13 := (x13.trans x5).trans x6
  replace s1 := (s1.ext x5).ext x6
  replace s2 := (s2.ext x5).ext x6
  replace s3 := s3.ext x6
  clear x5 x6
  obtain ⟨l5, h5⟩ : ∃ l5, l5 = l2 ++ l1 := ⟨_, rfl⟩
  have H5 := Lib.hid h5
  clear h5
  have hl5 : l5.length ≤ 80 := by rw [H5.out, List.length_append]; omega
  go_wp2_with (first | (at_builtin; refine wpList_appSZ rfl _ _ _ rfl Try.underlying24 w6 x7 O1 d1 l2 rfl ho7 A1 c1 l1 rfl (s1.ext x7) (by omega) l5 H5.out ?_; intro O5 d5 w8 ho8 x8) | (at_builtin; refine wpList_appSZ rfl _ _ _ rfl Try.underlying24 w6 (Ext.alloc _ _) (some ⟨w6.heap.size, 0, none⟩) 0 [] rfl (ownP_lit0 w6) A2 c2 l2 rfl (s2.ext (Ext.alloc _ _)) (by simp; omega) l2 rfl ?_; intro O1 d1 w7 ho7 x7))
  have s5 := OwnP.sl' ho8 (fun s hs => by
    rw [H5.out] at hs
    rcases List.mem_append.1 hs with h | h
    · exact s2.rng s h
    · exact s1.rng s h)
  refine (HA3 _).out.mono ?_
  rintro e w9 ⟨rfl, x9⟩
  have x69 := x8.trans x9
  have HP2 := Lib.hid (gSpoilt_any A2 c2 l2 at_ n3 w9 (s2.ext x69) hs2.out (by omega) ha (by unfold I64; omega))
  clear HA3 ho7 x7 ho8
  go_wp2_with fail
  refine HP2.out.mono ?_
  rintro e w10 ⟨A6, c6, l6, rfl, s6, hl6, x10⟩
  have x610 := x69.trans x10
  replace s1 := s1.ext x610
  replace s2 := s2.ext x610
  replace s3 := s3.ext x610
  replace s4 := s4.ext x610
  replace s5 := (s5.ext x9).ext x10
  replace x13 := x13.trans x610
  clear HP2 x610 x69 x8 x9 x10
  go_upto_region 4 with fail
  have bL := Blk.new w10 24 (flatH [⟨A1, c1, l1⟩, ⟨A3, c3, l3⟩, ⟨A4, c4, l4⟩, ⟨A2, c2, l2⟩, ⟨O5, d5, l5⟩, ⟨A6, c6, l6⟩]).toArray
  have eL := Ext.alloc w10 (.cells (flatH [⟨A1, c1, l1⟩, ⟨A3, c3, l3⟩, ⟨A4, c4, l4⟩, ⟨A2, c2, l2⟩, ⟨O5, d5, l5⟩, ⟨A6, c6, l6⟩]).toArray 24)
  have HLL := LLS.lit [⟨A1, c1, l1⟩, ⟨A3, c3, l3⟩, ⟨A4, c4, l4⟩, ⟨A2, c2, l2⟩, ⟨O5, d5, l5⟩, ⟨A6, c6, l6⟩] bL (fun h hh => by
    simp only [List.mem_cons, List.not_mem_nil, or_false] at hh
    rcases hh with rfl | rfl | rfl | rfl | rfl | rfl
    · exact s1.ext eL
    · exact s3.ext eL
    · exact s4.ext eL
    · exact s2.ext eL
    · exact s5.ext eL
    · exact s6.ext eL) (by simp)
  have HLN := Lib.hid (show ∀ h ∈ ([⟨A1, c1, l1⟩, ⟨A3, c3, l3⟩, ⟨A4, c4, l4⟩, ⟨A2, c2, l2⟩, ⟨O5, d5, l5⟩, ⟨A6, c6, l6⟩] : List Hs), h.l.length ≤ 100 from fun h hh => by
    simp only [List.mem_cons, List.not_mem_nil, or_false] at hh
    rcases hh with rfl | rfl | rfl | rfl | rfl | rfl <;> simp only <;> omega)
  have H6 := Lib.hid (show ([⟨A1, c1, l1⟩, ⟨A3, c3, l3⟩, ⟨A4, c4, l4⟩, ⟨A2, c2, l2⟩, ⟨O5, d5, l5⟩, ⟨A6, c6, l6⟩] : List Hs).length = 6 from rfl)
  replace x13 := x13.trans eL
  rw [show (flatH [⟨A1, c1, l1⟩, ⟨A3, c3, l3⟩, ⟨A4, c4, l4⟩, ⟨A2, c2, l2⟩, ⟨O5, d5, l5⟩, ⟨A6, c6, l6⟩]).toArray = #[.slice A1 l1.length c1, .slice A3 l3.length c3, .slice A4 l4.length c4, .slice A2 l2.length c2, .slice O5 l5.length d5, .slice A6 l6.length c6] from rfl] at HLL x13
  generalize ([⟨A1, c1, l1⟩, ⟨A3, c3, l3⟩, ⟨A4, c4, l4⟩, ⟨A2, c2, l2⟩, ⟨O5, d5, l5⟩, ⟨A6, c6, l6⟩] : List Hs) = hs' at *
  rw [H6.out] at HLL
  obtain ⟨g, hg⟩ : ∃ g, g = w10.heap.size := ⟨_, rfl⟩
  rw [← hg] at HLL ⊢
  clear hg bL eL
  generalize w10.alloc (.cells #[.slice A1 l1.length c1, .slice A3 l3.length c3, .slice A4 l4.length c4, .slice A2 l2.length c2, .slice O5 l5.length d5, .slice A6 l6.length c6] 24) = wL at *
  clear s1 s2 s3 s4 s5 s6 hs1 hs2 H5 hl1 hl2 hl3 hl4 hl5 hl6 hwm hm B1 B2 B3
  go_wp2_with fail
  go_loopw [14] (fun v wr => ∃ i : Nat, v = .int .i64 i ∧ i ≤ 6 ∧ Ext wL wr) (fun v _ => 6 - (intOf v).toNat)
  case atStart => exact ⟨0, rfl, by omega, Ext.rfl' _⟩
  case round =>
    obtain ⟨i, rfl, hi, x1⟩ := hrel
    by_cases hlt : i < 6
    · have hiI : (i : Int) < 6 := by omega
      have hih : i < hs'.length := by rw [H6.out]; exact hlt
      obtain ⟨pb, po, hpe, g0⟩ := (HLL.ext x1).get hih
      have hsl := (HLL.sl _ (List.getElem_mem hih)).ext x1
      have hln := HLN.out _ (List.getElem_mem hih)
      have hpe2 : g = pb ∧ po = 0 := by injection hpe with h1; injection h1 with h2 h3 h4; exact ⟨h2, h3.symm⟩
      obtain ⟨rfl, rfl⟩ := hpe2
      clear hpe
      simp only [Nat.zero_add] at g0
      generalize hs'[i] = hh at *
      obtain ⟨hA, hc, hl2⟩ := hh
      simp only at g0 hsl hln
      have k0 := fun (w' : World) (h : Kp [] wr w') => h.cell g0 (by simp)
      go_upto_region 7 with fail
      have HV1 := fun (W' : World) (x : Ext wr W') => Lib.hid (sValid_any hA hc hl2 W' (hsl.ext x))
      have HV2 := fun (W' : World) (x : Ext wr W') => Lib.hid (gValid_any hA hc hl2 W' (hsl.ext x))
      have HH1 := fun (W' : World) (x : Ext wr W') => Lib.hid (sHas_any hA hc hl2 symbol W' (hsl.ext x))
      have HH2 := fun (W' : World) (x : Ext wr W') => Lib.hid (gHas_any hA hc hl2 symbol W' (hsl.ext x))
      generalize validE hl2 = ve at *
      generalize has hl2 symbol = r at *
      have hve : (ve != ve) = false := by simp
      have hr : (!r == r) = false := by simp
      refine Xr.start [] (by kernel_rfl) ?_
      (refine Xr.take 0 (some 55) (v := ?_) rfl rfl (by decide +kernel) (by rfl) ?_ ?_; rotate_left; (focus (intro w' hk; go_simp; (try with_reducible rfl); done)); (try simp only [Act.put, List.setIfInBounds_toArray, List.set_cons_zero, List.set_cons_succ]))
      (refine Xr.take 1 (some 56) (v := ?_) rfl rfl (by decide +kernel) (by rfl) ?_ ?_; rotate_left; (focus (intro w' hk; go_simp; (try with_reducible rfl); done)); (try simp only [Act.put, List.setIfInBounds_toArray, List.set_cons_zero, List.set_cons_succ]))
      (refine Xr.take 2 (some 57) (v := ?_) rfl rfl (by decide +kernel) (by rfl) ?_ ?_; rotate_left; (focus (intro w' hk; go_simp; (try with_reducible rfl); done)); (try simp only [Act.put, List.setIfInBounds_toArray, List.set_cons_zero, List.set_cons_succ]))
      (refine Xr.take 3 (some 58) (v := ?_) rfl rfl (by decide +kernel) (by rfl) ?_ ?_; rotate_left; (focus (intro w' hk; go_simp; (try with_reducible rfl); done)); (try simp only [Act.put, List.setIfInBounds_toArray, List.set_cons_zero, List.set_cons_succ]))
      (refine Xr.take 5 (some 60) (v := ?_) rfl rfl (by decide +kernel) (by rfl) ?_ ?_; rotate_left; (focus (intro w' hk; go_simp; (try with_reducible rfl); done)); (try simp only [Act.put, List.setIfInBounds_toArray, List.set_cons_zero, List.set_cons_succ]))
      (refine Xr.take 6 (some 61) (v := ?_) rfl rfl (by decide +kernel) (by rfl) ?_ ?_; rotate_left; (focus (intro w' hk; go_simp; (try with_reducible rfl); done)); (try simp only [Act.put, List.setIfInBounds_toArray, List.set_cons_zero, List.set_cons_succ]))
      (refine Xr.take 7 (some 62) (v := ?_) rfl rfl (by decide +kernel) (by rfl) ?_ ?_; rotate_left; (focus (intro w' hk; go_simp; (try with_reducible rfl); done)); (try simp only [Act.put, List.setIfInBounds_toArray, List.set_cons_zero, List.set_cons_succ]))
      (refine Xr.take 8 (some 63) (v := ?_) rfl rfl (by decide +kernel) (by rfl) ?_ ?_; rotate_left; (focus (intro w' hk; go_simp; (try with_reducible rfl); done)); (try simp only [Act.put, List.setIfInBounds_toArray, List.set_cons_zero, List.set_cons_succ]))
      refine Xr.call 4 rfl (by decide +kernel) (by rfl) (fun w11 hE1 hK1 K hKK => ?_)
      go_simp
      refine (HV1 _ hK1.nil).out.mono ?_
      rintro e w12 ⟨rfl, x2⟩
      refine hKK _ _ x2 ?_
      clear hKK HV1
      (try simp only [Act.put, List.setIfInBounds_toArray, List.set_cons_zero, List.set_cons_succ])
      refine Xr.call 9 rfl (by decide +kernel) (by rfl) (fun w13 hE2 hK2 K hKK => ?_)
      go_simp
      refine (HV2 _ hK2.nil).out.mono ?_
      rintro e w14 ⟨rfl, x3⟩
      refine hKK _ _ x3 ?_
      clear hKK HV2
      (try simp only [Act.put, List.setIfInBounds_toArray, List.set_cons_zero, List.set_cons_succ])
      (refine Xr.take 10 (some 65) (v := ?_) rfl rfl (by decide +kernel) (by rfl) ?_ ?_; rotate_left; (focus (intro w' hk; go_simp; (try with_reducible rfl); done)); (try simp only [Act.put, List.setIfInBounds_toArray, List.set_cons_zero, List.set_cons_succ]))
      (refine Xr.take 11 (some 66) (v := ?_) rfl rfl (by decide +kernel) (by rfl) ?_ ?_; rotate_left; (focus (intro w' hk; go_simp; (try with_reducible rfl); done)); (try simp only [Act.put, List.setIfInBounds_toArray, List.set_cons_zero, List.set_cons_succ]))
      first | (refine Xr.take 12 (some 67) (v := ?_) rfl rfl (by decide +kernel) (by rfl) ?_ ?_; rotate_left; (focus (intro w' hk; go_simp; (try with_reducible rfl); done)); (try simp only [Act.put, List.setIfInBounds_toArray, List.set_cons_zero, List.set_cons_succ])) | (refine Xr.skip 12 (some 67) rfl rfl (by decide +kernel) (by rfl) ?_; (try simp only [Act.put, List.setIfInBounds_toArray, List.set_cons_zero, List.set_cons_succ]))
      first | (refine Xr.take 13 (some 68) (v := ?_) rfl rfl (by decide +kernel) (by rfl) ?_ ?_; rotate_left; (focus (intro w' hk; go_simp; (try with_reducible rfl); done)); (try simp only [Act.put, List.setIfInBounds_toArray, List.set_cons_zero, List.set_cons_succ])) | (refine Xr.skip 13 (some 68) rfl rfl (by decide +kernel) (by rfl) ?_; (try simp only [Act.put, List.setIfInBounds_toArray, List.set_cons_zero, List.set_cons_succ]))
      first | (refine Xr.take 14 (some 69) (v := ?_) rfl rfl (by decide +kernel) (by rfl) ?_ ?_; rotate_left; (focus (intro w' hk; go_simp; (try with_reducible rfl); done)); (try simp only [Act.put, List.setIfInBounds_toArray, List.set_cons_zero, List.set_cons_succ])) | (refine Xr.skip 14 (some 69) rfl rfl (by decide +kernel) (by rfl) ?_; (try simp only [Act.put, List.setIfInBounds_toArray, List.set_cons_zero, List.set_cons_succ]))
      first | (refine Xr.take 15 (some 70) (v := ?_) rfl rfl (by decide +kernel) (by rfl) ?_ ?_; rotate_left; (focus (intro w' hk; go_simp; (try with_reducible rfl); done)); (try simp only [Act.put, List.setIfInBounds_toArray, List.set_cons_zero, List.set_cons_succ])) | (refine Xr.skip 15 (some 70) rfl rfl (by decide +kernel) (by rfl) ?_; (try simp only [Act.put, List.setIfInBounds_toArray, List.set_cons_zero, List.set_cons_succ]))
      first | (refine Xr.take 16 (some 71) (v := ?_) rfl rfl (by decide +kernel) (by rfl) ?_ ?_; rotate_left; (focus (intro w' hk; go_simp; (try with_reducible rfl); done)); (try simp only [Act.put, List.setIfInBounds_toArray, List.set_cons_zero, List.set_cons_succ])) | (refine Xr.skip 16 (some 71) rfl rfl (by decide +kernel) (by rfl) ?_; (try simp only [Act.put, List.setIfInBounds_toArray, List.set_cons_zero, List.set_cons_succ]))
      first | (refine Xr.take 18 (some 73) (v := ?_) rfl rfl (by decide +kernel) (by rfl) ?_ ?_; rotate_left; (focus (intro w' hk; go_simp; (try with_reducible rfl); done)); (try simp only [Act.put, List.setIfInBounds_toArray, List.set_cons_zero, List.set_cons_succ])) | (refine Xr.skip 18 (some 73) rfl rfl (by decide +kernel) (by rfl) ?_; (try simp only [Act.put, List.setIfInBounds_toArray, List.set_cons_zero, List.set_cons_succ]))
      first | (refine Xr.take 19 (some 74) (v := ?_) rfl rfl (by decide +kernel) (by rfl) ?_ ?_; rotate_left; (focus (intro w' hk; go_simp; (try with_reducible rfl); done)); (try simp only [Act.put, List.setIfInBounds_toArray, List.set_cons_zero, List.set_cons_succ])) | (refine Xr.skip 19 (some 74) rfl rfl (by decide +kernel) (by rfl) ?_; (try simp only [Act.put, List.setIfInBounds_toArray, List.set_cons_zero, List.set_cons_succ]))
      first | (refine Xr.take 20 (some 75) (v := ?_) rfl rfl (by decide +kernel) (by rfl) ?_ ?_; rotate_left; (focus (intro w' hk; go_simp; (try with_reducible rfl); done)); (try simp only [Act.put, List.setIfInBounds_toArray, List.set_cons_zero, List.set_cons_succ])) | (refine Xr.skip 20 (some 75) rfl rfl (by decide +kernel) (by rfl) ?_; (try simp only [Act.put, List.setIfInBounds_toArray, List.set_cons_zero, List.set_cons_succ]))
      first | (refine Xr.take 21 (some 76) (v := ?_) rfl rfl (by decide +kernel) (by rfl) ?_ ?_; rotate_left; (focus (intro w' hk; go_simp; (try with_reducible rfl); done)); (try simp only [Act.put, List.setIfInBounds_toArray, List.set_cons_zero, List.set_cons_succ])) | (refine Xr.skip 21 (some 76) rfl rfl (by decide +kernel) (by rfl) ?_; (try simp only [Act.put, List.setIfInBounds_toArray, List.set_cons_zero, List.set_cons_succ]))
      first | (refine Xr.take 22 (some 77) (v := ?_) rfl rfl (by decide +kernel) (by rfl) ?_ ?_; rotate_left; (focus (intro w' hk; go_simp; (try with_reducible rfl); done)); (try simp only [Act.put, List.setIfInBounds_toArray, List.set_cons_zero, List.set_cons_succ])) | (refine Xr.skip 22 (some 77) rfl rfl (by decide +kernel) (by rfl) ?_; (try simp only [Act.put, List.setIfInBounds_toArray, List.set_cons_zero, List.set_cons_succ]))
      refine Xr.call 17 rfl (by decide +kernel) (by rfl) (fun w15 hE3 hK3 K hKK => ?_)
      go_simp
      refine (HH1 _ hK3.nil).out.mono ?_
      rintro e w16 ⟨rfl, x4⟩
      refine hKK _ _ x4 ?_
      clear hKK HH1
      (try simp only [Act.put, List.setIfInBounds_toArray, List.set_cons_zero, List.set_cons_succ])
      refine Xr.call 23 rfl (by decide +kernel) (by rfl) (fun w17 hE4 hK4 K hKK => ?_)
      go_simp
      refine (HH2 _ hK4.nil).out.mono ?_
      rintro e w18 ⟨rfl, x5⟩
      refine hKK _ _ x5 ?_
      clear hKK HH2
      (try simp only [Act.put, List.setIfInBounds_toArray, List.set_cons_zero, List.set_cons_succ])
      first | (refine Xr.take 24 (some 79) (v := ?_) rfl rfl (by decide +kernel) (by rfl) ?_ ?_; rotate_left; (focus (intro w' hk; go_simp; (try with_reducible rfl); done)); (try simp only [Act.put, List.setIfInBounds_toArray, List.set_cons_zero, List.set_cons_succ])) | (refine Xr.skip 24 (some 79) rfl rfl (by decide +kernel) (by rfl) ?_; (try simp only [Act.put, List.setIfInBounds_toArray, List.set_cons_zero, List.set_cons_succ]))
      (refine Xr.take 25 (some 80) (v := ?_) rfl rfl (by decide +kernel) (by rfl) ?_ ?_; rotate_left; (focus (intro w' hk; go_simp; (try with_reducible rfl); done)); (try simp only [Act.put, List.setIfInBounds_toArray, List.set_cons_zero, List.set_cons_succ]))
      refine Xr.done (by decide +kernel) (fun w19 hE5 hK5 => ?_)
      have y1 := hK5.nil
      clear k0 hE1 hK1 hE2 hK2 hE3 hK3 hE4 hK4 hE5 hK5 x2 x3 x4 x5
      replace g0 := y1.cell g0
      replace hsl := hsl.ext y1
      replace x1 := x1.trans y1
      clear y1
      have HN1 := Lib.hid (sN hA hc hl2 w19 hsl (by omega))
      have HN2 := fun (W' : World) (x : Ext w19 W') => Lib.hid (gN hA hc hl2 W' (hsl.ext x) (by omega))
      have HAG := Lib.hid (nO_again (l := hl2))
      have HOL := Lib.hid (nO_len hl2)
      generalize nO hl2 = o at *
      generalize nE hl2 = er at *
      go_wp2_with fail
      refine HN1.out.mono ?_
      rintro e w20 ⟨S, cS, rfl, sS, x2⟩
      have HN3 := HN2 w20 x2
      replace g0 := x2.cell g0
      replace hsl := hsl.ext x2
      replace x1 := x1.trans x2
      clear HN1 HN2 x2
      go_wp2_with fail
      refine HN3.out.mono ?_
      rintro e w21 ⟨T, cT, rfl, sT, x3⟩
      replace g0 := x3.cell g0
      replace hsl := hsl.ext x3
      replace x1 := x1.trans x3
      have HEQ := Lib.hid (gEqual_any S T cS cT o o w21 (sS.ext x3) sT)
      have sS2 := sS.ext x3
      clear HN3 x3 sS
      rw [decide_eq_true rfl] at HEQ
      have hee : (er != er) = false := by simp
      have hol := HOL.out
      go_wp2_with fail
      refine HEQ.out.mono ?_
      rintro e w22 ⟨rfl, x4⟩
      replace g0 := x4.cell g0
      replace hsl := hsl.ext x4
      replace x1 := x1.trans x4
      have sS3 := sS2.ext x4
      have HN4 := Lib.hid (sN S cS o w22 sS3 (by omega))
      clear HEQ x4 sS2 sT
      by_cases he0 : er = 0
      · subst he0
        have HA := Lib.hid (HAG.out rfl)
        clear HAG
        rw [HA.out.1, HA.out.2.1] at HN4
        have hv0 := HA.out.2.2
        go_wp2_with fail
        refine HN4.out.mono ?_
        rintro e w23 ⟨U, cU, rfl, sU, x5⟩
        have HSE := Lib.hid (sEqual_any U S cU cS o o w23 sU (sS3.ext x5))
        rw [decide_eq_true rfl] at HSE
        replace g0 := x5.cell g0
        replace hsl := hsl.ext x5
        replace x1 := x1.trans x5
        have sS4 := sS3.ext x5
        clear HN4 x5 sU sS3
        go_wp2_with fail
        refine HSE.out.mono ?_
        rintro e w24 ⟨rfl, x5⟩
        have HVA := Lib.hid (sValid_any S cS o w24 (sS4.ext x5))
        rw [hv0] at HVA
        replace g0 := x5.cell g0
        replace hsl := hsl.ext x5
        replace x1 := x1.trans x5
        clear HSE x5 sS4 hv0 HA
        go_wp2_with fail
        refine HVA.out.mono ?_
        rintro e wX ⟨rfl, x5⟩
        replace g0 := x5.cell g0
        replace hsl := hsl.ext x5
        replace x1 := x1.trans x5
        clear HVA x5
        go_wp2_with fail
        go_loopw [21] (fun v wr2 => ∃ k : Nat, v = .int .i64 k ∧ k ≤ 6 ∧ Ext wX wr2) (fun v _ => 6 - (intOf v).toNat)
        case atStart => exact ⟨0, rfl, by omega, Ext.rfl' _⟩
        case round =>
          obtain ⟨k, rfl, hk, x6⟩ := hrel
          by_cases hkt : k < 6
          · have hkI : (k : Int) < 6 := by omega
            have hkh : k < hs'.length := by rw [H6.out]; exact hkt
            have xk := x1.trans x6
            obtain ⟨pb, po, hpe, q0⟩ := (HLL.ext xk).get hkh
            have hsk := (HLL.sl _ (List.getElem_mem hkh)).ext xk
            have hpe2 : g = pb ∧ po = 0 := by injection hpe with h1; injection h1 with h2 h3 h4; exact ⟨h2, h3.symm⟩
            obtain ⟨rfl, rfl⟩ := hpe2
            clear hpe
            simp only [Nat.zero_add] at q0
            generalize hs'[k] = hh2 at *
            obtain ⟨kA, kc, kl⟩ := hh2
            simp only at q0 hsk
            have g0k := x6.cell g0
            have hsi := hsl.ext x6
            have k0 := fun (w' : World) (h : Kp [] wr w') => h.cell g0k (by simp)
            have k1 := fun (w' : World) (h : Kp [] wr w') => h.cell q0 (by simp)
            have HE1 := fun (W' : World) (x : Ext wr W') => Lib.hid (sEqual_any hA kA hc kc hl2 kl W' (hsi.ext x) (hsk.ext x))
            have HE2 := fun (W' : World) (x : Ext wr W') => Lib.hid (gEqual_any hA kA hc kc hl2 kl W' (hsi.ext x) (hsk.ext x))
            generalize decide (hl2 = kl) = r at *
            have hr : (!r == r) = false := by simp
            go_upto_region 19 with fail
            refine Xr.start [] (by kernel_rfl) ?_
            (refine Xr.take 0 (some 134) (v := ?_) rfl rfl (by decide +kernel) (by rfl) ?_ ?_; rotate_left; (focus (intro w' hk; go_simp; (try with_reducible rfl); done)); (try simp only [Act.put, List.setIfInBounds_toArray, List.set_cons_zero, List.set_cons_succ]))
            (refine Xr.take 1 (some 135) (v := ?_) rfl rfl (by decide +kernel) (by rfl) ?_ ?_; rotate_left; (focus (intro w' hk; go_simp; (try with_reducible rfl); done)); (try simp only [Act.put, List.setIfInBounds_toArray, List.set_cons_zero, List.set_cons_succ]))
            (refine Xr.take 2 (some 136) (v := ?_) rfl rfl (by decide +kernel) (by rfl) ?_ ?_; rotate_left; (focus (intro w' hk; go_simp; (try with_reducible rfl); done)); (try simp only [Act.put, List.setIfInBounds_toArray, List.set_cons_zero, List.set_cons_succ]))
            (refine Xr.take 3 (some 137) (v := ?_) rfl rfl (by decide +kernel) (by rfl) ?_ ?_; rotate_left; (focus (intro w' hk; go_simp; (try with_reducible rfl); done)); (try simp only [Act.put, List.setIfInBounds_toArray, List.set_cons_zero, List.set_cons_succ]))
            (refine Xr.take 4 (some 138) (v := ?_) rfl rfl (by decide +kernel) (by rfl) ?_ ?_; rotate_left; (focus (intro w' hk; go_simp; (try with_reducible rfl); done)); (try simp only [Act.put, List.setIfInBounds_toArray, List.set_cons_zero, List.set_cons_succ]))
            (refine Xr.take 5 (some 139) (v := ?_) rfl rfl (by decide +kernel) (by rfl) ?_ ?_; rotate_left; (focus (intro w' hk; go_simp; (try with_reducible rfl); done)); (try simp only [Act.put, List.setIfInBounds_toArray, List.set_cons_zero, List.set_cons_succ]))
            (refine Xr.take 6 (some 140) (v := ?_) rfl rfl (by decide +kernel) (by rfl) ?_ ?_; rotate_left; (focus (intro w' hk; go_simp; (try with_reducible rfl); done)); (try simp only [Act.put, List.setIfInBounds_toArray, List.set_cons_zero, List.set_cons_succ]))
            (refine Xr.take 7 (some 141) (v := ?_) rfl rfl (by decide +kernel) (by rfl) ?_ ?_; rotate_left; (focus (intro w' hk; go_simp; (try with_reducible rfl); done)); (try simp only [Act.put, List.setIfInBounds_toArray, List.set_cons_zero, List.set_cons_succ]))
            (refine Xr.take 9 (some 143) (v := ?_) rfl rfl (by decide +kernel) (by rfl) ?_ ?_; rotate_left; (focus (intro w' hk; go_simp; (try with_reducible rfl); done)); (try simp only [Act.put, List.setIfInBounds_toArray, List.set_cons_zero, List.set_cons_succ]))
            (refine Xr.take 10 (some 144) (v := ?_) rfl rfl (by decide +kernel) (by rfl) ?_ ?_; rotate_left; (focus (intro w' hk; go_simp; (try with_reducible rfl); done)); (try simp only [Act.put, List.setIfInBounds_toArray, List.set_cons_zero, List.set_cons_succ]))
            (refine Xr.take 11 (some 145) (v := ?_) rfl rfl (by decide +kernel) (by rfl) ?_ ?_; rotate_left; (focus (intro w' hk; go_simp; (try with_reducible rfl); done)); (try simp only [Act.put, List.setIfInBounds_toArray, List.set_cons_zero, List.set_cons_succ]))
            (refine Xr.take 12 (some 146) (v := ?_) rfl rfl (by decide +kernel) (by rfl) ?_ ?_; rotate_left; (focus (intro w' hk; go_simp; (try with_reducible rfl); done)); (try simp only [Act.put, List.setIfInBounds_toArray, List.set_cons_zero, List.set_cons_succ]))
            (refine Xr.take 13 (some 147) (v := ?_) rfl rfl (by decide +kernel) (by rfl) ?_ ?_; rotate_left; (focus (intro w' hk; go_simp; (try with_reducible rfl); done)); (try simp only [Act.put, List.setIfInBounds_toArray, List.set_cons_zero, List.set_cons_succ]))
            (refine Xr.take 14 (some 148) (v := ?_) rfl rfl (by decide +kernel) (by rfl) ?_ ?_; rotate_left; (focus (intro w' hk; go_simp; (try with_reducible rfl); done)); (try simp only [Act.put, List.setIfInBounds_toArray, List.set_cons_zero, List.set_cons_succ]))
            (refine Xr.take 15 (some 149) (v := ?_) rfl rfl (by decide +kernel) (by rfl) ?_ ?_; rotate_left; (focus (intro w' hk; go_simp; (try with_reducible rfl); done)); (try simp only [Act.put, List.setIfInBounds_toArray, List.set_cons_zero, List.set_cons_succ]))
            (refine Xr.take 16 (some 150) (v := ?_) rfl rfl (by decide +kernel) (by rfl) ?_ ?_; rotate_left; (focus (intro w' hk; go_simp; (try with_reducible rfl); done)); (try simp only [Act.put, List.setIfInBounds_toArray, List.set_cons_zero, List.set_cons_succ]))
            refine Xr.call 8 rfl (by decide +kernel) (by rfl) (fun y1 hE1 hK1 K hKK => ?_)
            go_simp
            refine (HE1 _ hK1.nil).out.mono ?_
            rintro e y2 ⟨rfl, z2⟩
            refine hKK _ _ z2 ?_
            clear hKK HE1
            (try simp only [Act.put, List.setIfInBounds_toArray, List.set_cons_zero, List.set_cons_succ])
            refine Xr.call 17 rfl (by decide +kernel) (by rfl) (fun y3 hE2 hK2 K hKK => ?_)
            go_simp
            refine (HE2 _ hK2.nil).out.mono ?_
            rintro e y4 ⟨rfl, z3⟩
            refine hKK _ _ z3 ?_
            clear hKK HE2
            (try simp only [Act.put, List.setIfInBounds_toArray, List.set_cons_zero, List.set_cons_succ])
            (refine Xr.take 18 (some 152) (v := ?_) rfl rfl (by decide +kernel) (by rfl) ?_ ?_; rotate_left; (focus (intro w' hk; go_simp; (try with_reducible rfl); done)); (try simp only [Act.put, List.setIfInBounds_toArray, List.set_cons_zero, List.set_cons_succ]))
            refine Xr.done (by decide +kernel) (fun y5 hE3 hK3 => ?_)
            have z5 := x6.trans hK3.nil
            clear k0 k1 hE1 hK1 hE2 hK2 hE3 hK3 z2 z3 g0k q0 hsi hsk
            go_wp2_with fail
            go_roundw
            case rel => exact ⟨k + 1, by go_num, by omega, z5⟩
            case measure => simp [intOf]; omega
          · have hkI : ¬ (k : Int) < 6 := by omega
            have z5 := x1.trans x6
            clear g0 hsl
            go_wp2_with fail
            go_roundw
            case rel => exact ⟨i + 1, by go_num, by omega, z5⟩
            case measure => simp [intOf]; omega
      · have heb : (er == 0) = false := by simpa using he0
        clear HAG he0
        generalize nO o = o2 at *
        generalize nE o = er2 at *
        go_wp2_with fail
        refine HN4.out.mono ?_
        rintro e wX ⟨U, cU, rfl, sU, x5⟩
        replace g0 := x5.cell g0
        replace hsl := hsl.ext x5
        replace x1 := x1.trans x5
        clear HN4 x5 sU sS3
        go_wp2_with fail
        go_loopw [21] (fun v wr2 => ∃ k : Nat, v = .int .i64 k ∧ k ≤ 6 ∧ Ext wX wr2) (fun v _ => 6 - (intOf v).toNat)
        case atStart => exact ⟨0, rfl, by omega, Ext.rfl' _⟩
        case round =>
          obtain ⟨k, rfl, hk, x6⟩ := hrel
          by_cases hkt : k < 6
          · have hkI : (k : Int) < 6 := by omega
            have hkh : k < hs'.length := by rw [H6.out]; exact hkt
            have xk := x1.trans x6
            obtain ⟨pb, po, hpe, q0⟩ := (HLL.ext xk).get hkh
            have hsk := (HLL.sl _ (List.getElem_mem hkh)).ext xk
            have hpe2 : g = pb ∧ po = 0 := by injection hpe with h1; injection h1 with h2 h3 h4; exact ⟨h2, h3.symm⟩
            obtain ⟨rfl, rfl⟩ := hpe2
            clear hpe
            simp only [Nat.zero_add] at q0
            generalize hs'[k] = hh2 at *
            obtain ⟨kA, kc, kl⟩ := hh2
            simp only at q0 hsk
            have g0k := x6.cell g0
            have hsi := hsl.ext x6
            have k0 := fun (w' : World) (h : Kp [] wr w') => h.cell g0k (by simp)
            have k1 := fun (w' : World) (h : Kp [] wr w') => h.cell q0 (by simp)
            have HE1 := fun (W' : World) (x : Ext wr W') => Lib.hid (sEqual_any hA kA hc kc hl2 kl W' (hsi.ext x) (hsk.ext x))
            have HE2 := fun (W' : World) (x : Ext wr W') => Lib.hid (gEqual_any hA kA hc kc hl2 kl W' (hsi.ext x) (hsk.ext x))
            generalize decide (hl2 = kl) = r at *
            have hr : (!r == r) = false := by simp
            go_upto_region 19 with fail
            refine Xr.start [] (by kernel_rfl) ?_
            (refine Xr.take 0 (some 134) (v := ?_) rfl rfl (by decide +kernel) (by rfl) ?_ ?_; rotate_left; (focus (intro w' hk; go_simp; (try with_reducible rfl); done)); (try simp only [Act.put, List.setIfInBounds_toArray, List.set_cons_zero, List.set_cons_succ]))
            (refine Xr.take 1 (some 135) (v := ?_) rfl rfl (by decide +kernel) (by rfl) ?_ ?_; rotate_left; (focus (intro w' hk; go_simp; (try with_reducible rfl); done)); (try simp only [Act.put, List.setIfInBounds_toArray, List.set_cons_zero, List.set_cons_succ]))
            (refine Xr.take 2 (some 136) (v := ?_) rfl rfl (by decide +kernel) (by rfl) ?_ ?_; rotate_left; (focus (intro w' hk; go_simp; (try with_reducible rfl); done)); (try simp only [Act.put, List.setIfInBounds_toArray, List.set_cons_zero, List.set_cons_succ]))
            (refine Xr.take 3 (some 137) (v := ?_) rfl rfl (by decide +kernel) (by rfl) ?_ ?_; rotate_left; (focus (intro w' hk; go_simp; (try with_reducible rfl); done)); (try simp only [Act.put, List.setIfInBounds_toArray, List.set_cons_zero, List.set_cons_succ]))
            (refine Xr.take 4 (some 138) (v := ?_) rfl rfl (by decide +kernel) (by rfl) ?_ ?_; rotate_left; (focus (intro w' hk; go_simp; (try with_reducible rfl); done)); (try simp only [Act.put, List.setIfInBounds_toArray, List.set_cons_zero, List.set_cons_succ]))
            (refine Xr.take 5 (some 139) (v := ?_) rfl rfl (by decide +kernel) (by rfl) ?_ ?_; rotate_left; (focus (intro w' hk; go_simp; (try with_reducible rfl); done)); (try simp only [Act.put, List.setIfInBounds_toArray, List.set_cons_zero, List.set_cons_succ]))
            (refine Xr.take 6 (some 140) (v := ?_) rfl rfl (by decide +kernel) (by rfl) ?_ ?_; rotate_left; (focus (intro w' hk; go_simp; (try with_reducible rfl); done)); (try simp only [Act.put, List.setIfInBounds_toArray, List.set_cons_zero, List.set_cons_succ]))
            (refine Xr.take 7 (some 141) (v := ?_) rfl rfl (by decide +kernel) (by rfl) ?_ ?_; rotate_left; (focus (intro w' hk; go_simp; (try with_reducible rfl); done)); (try simp only [Act.put, List.setIfInBounds_toArray, List.set_cons_zero, List.set_cons_succ]))
            (refine Xr.take 9 (some 143) (v := ?_) rfl rfl (by decide +kernel) (by rfl) ?_ ?_; rotate_left; (focus (intro w' hk; go_simp; (try with_reducible rfl); done)); (try simp only [Act.put, List.setIfInBounds_toArray, List.set_cons_zero, List.set_cons_succ]))
            (refine Xr.take 10 (some 144) (v := ?_) rfl rfl (by decide +kernel) (by rfl) ?_ ?_; rotate_left; (focus (intro w' hk; go_simp; (try with_reducible rfl); done)); (try simp only [Act.put, List.setIfInBounds_toArray, List.set_cons_zero, List.set_cons_succ]))
            (refine Xr.take 11 (some 145) (v := ?_) rfl rfl (by decide +kernel) (by rfl) ?_ ?_; rotate_left; (focus (intro w' hk; go_simp; (try with_reducible rfl); done)); (try simp only [Act.put, List.setIfInBounds_toArray, List.set_cons_zero, List.set_cons_succ]))
            (refine Xr.take 12 (some 146) (v := ?_) rfl rfl (by decide +kernel) (by rfl) ?_ ?_; rotate_left; (focus (intro w' hk; go_simp; (try with_reducible rfl); done)); (try simp only [Act.put, List.setIfInBounds_toArray, List.set_cons_zero, List.set_cons_succ]))
            (refine Xr.take 13 (some 147) (v := ?_) rfl rfl (by decide +kernel) (by rfl) ?_ ?_; rotate_left; (focus (intro w' hk; go_simp; (try with_reducible rfl); done)); (try simp only [Act.put, List.setIfInBounds_toArray, List.set_cons_zero, List.set_cons_succ]))
            (refine Xr.take 14 (some 148) (v := ?_) rfl rfl (by decide +kernel) (by rfl) ?_ ?_; rotate_left; (focus (intro w' hk; go_simp; (try with_reducible rfl); done)); (try simp only [Act.put, List.setIfInBounds_toArray, List.set_cons_zero, List.set_cons_succ]))
            (refine Xr.take 15 (some 149) (v := ?_) rfl rfl (by decide +kernel) (by rfl) ?_ ?_; rotate_left; (focus (intro w' hk; go_simp; (try with_reducible rfl); done)); (try simp only [Act.put, List.setIfInBounds_toArray, List.set_cons_zero, List.set_cons_succ]))
            (refine Xr.take 16 (some 150) (v := ?_) rfl rfl (by decide +kernel) (by rfl) ?_ ?_; rotate_left; (focus (intro w' hk; go_simp; (try with_reducible rfl); done)); (try simp only [Act.put, List.setIfInBounds_toArray, List.set_cons_zero, List.set_cons_succ]))
            refine Xr.call 8 rfl (by decide +kernel) (by rfl) (fun y1 hE1 hK1 K hKK => ?_)
            go_simp
            refine (HE1 _ hK1.nil).out.mono ?_
            rintro e y2 ⟨rfl, z2⟩
            refine hKK _ _ z2 ?_
            clear hKK HE1
            (try simp only [Act.put, List.setIfInBounds_toArray, List.set_cons_zero, List.set_cons_succ])
            refine Xr.call 17 rfl (by decide +kernel) (by rfl) (fun y3 hE2 hK2 K hKK => ?_)
            go_simp
            refine (HE2 _ hK2.nil).out.mono ?_
            rintro e y4 ⟨rfl, z3⟩
            refine hKK _ _ z3 ?_
            clear hKK HE2
            (try simp only [Act.put, List.setIfInBounds_toArray, List.set_cons_zero, List.set_cons_succ])
            (refine Xr.take 18 (some 152) (v := ?_) rfl rfl (by decide +kernel) (by rfl) ?_ ?_; rotate_left; (focus (intro w' hk; go_simp; (try with_reducible rfl); done)); (try simp only [Act.put, List.setIfInBounds_toArray, List.set_cons_zero, List.set_cons_succ]))
            refine Xr.done (by decide +kernel) (fun y5 hE3 hK3 => ?_)
            have z5 := x6.trans hK3.nil
            clear k0 k1 hE1 hK1 hE2 hK2 hE3 hK3 z2 z3 g0k q0 hsi hsk
            go_wp2_with fail
            go_roundw
            case rel => exact ⟨k + 1, by go_num, by omega, z5⟩
            case measure => simp [intOf]; omega
          · have hkI : ¬ (k : Int) < 6 := by omega
            have z5 := x1.trans x6
            clear g0 hsl
            go_wp2_with fail
            go_roundw
            case rel => exact ⟨i + 1, by go_num, by omega, z5⟩
            case measure => simp [intOf]; omega
    · have hiI : ¬ (i : Int) < 6 := by omega
      go_wp2_with fail
      refine (slives_any _).mono ?_
      rintro e w11 ⟨rfl, x11⟩
      have X := (x13.trans x1).trans x11
      go_wp2_with fail
      go_ret
      exact ⟨rfl, X⟩
end Go.Proofs.Ytlbdjnbcoldjhaa
