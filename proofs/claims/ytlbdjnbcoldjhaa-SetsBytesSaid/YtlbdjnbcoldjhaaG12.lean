/- Walks of package sets: Normal. -/
import Derived.Test.YtlbdjnbcoldjhaaG11
import Derived.Shelf.SlSortCmp.NoneTotal
namespace Go.Proofs.Ytlbdjnbcoldjhaa
open Go.RowKit

theorem sortNone (p : Option Addr) (c : Nat) (fv : Value) (w : World) : Calls Try.prog 47 #[.slice p 0 c, fv] w (fun e w' => e = .returned (.tuple #[]) ∧ w' = w) := by
  have h := AnyF.slices_SortFunc_none Try.sortSpan p c fv w
  change Calls Try.prog 47 _ _ _ at h
  exact h

theorem OwnP.some {w : World} {base c : Nat} {A : Option Addr} {l : List Sp} (h : OwnP w base A c l) : (A = none ∧ c = 0 ∧ l = []) ∨ ∃ g, A = some ⟨g, 0, none⟩ := by
  rcases h.form with ⟨h1, h2, h3, _⟩ | ⟨g, cur, h1, _⟩
  · exact .inl ⟨h1, h3, List.length_eq_zero_iff.1 h2⟩
  · exact .inr ⟨g, h1⟩

/-- the sort of an owned list -/
theorem sortAny (base c : Nat) (A : Option Addr) (l : List Sp) (hg : ∀ s ∈ l, goodS s) (w : World) (hl : OwnP w base A c l) (hlen : l.length ≤ 1000000) :
    Calls Try.prog 47 #[.slice A l.length c, .func (.func 48) #[] #[]] w (fun e w' => e = .returned (.tuple #[]) ∧ ∃ m : List Sp, l.Perm m ∧ m.Pairwise (fun s t => s.1 ≤ t.1) ∧ m.length = l.length ∧ OwnP w' base A c m ∧ KpP (fun b => A.map (·.block) = some b) w w') := by
  rcases hl.some with ⟨rfl, rfl, rfl⟩ | ⟨g, rfl⟩
  · refine (sortNone none 0 _ w).mono ?_
    rintro e w' ⟨rfl, rfl⟩
    exact ⟨rfl, [], List.Perm.refl _, List.Pairwise.nil, rfl, hl, KpP.refl _ _⟩
  · refine (sortS_any base g c l hg w hl hlen).mono ?_
    rintro e w' ⟨rfl, m, h1, h2, h3, h4, h5⟩
    exact ⟨rfl, m, h1, h2, h3, h4, h5.mono (fun k hk => by simp [hk])⟩

set_option maxRecDepth 100000 in
set_option maxHeartbeats 4000000 in
theorem sNormal_any (A : Option Addr) (c : Nat) (l : List Sp) (w : World) (hl : SL w A c l) (hlen : l.length ≤ 40000) : Calls Try.prog 22 #[.slice A l.length c] w (RetNm l w) := by
  have hcap := hl.len
  go_enter Try.func22, Try.ntmps22
  go_wp2
  go_loopw [12] (fun v wr => ∃ i : Nat, v = .int .i64 i ∧ i ≤ l.length ∧ Hid (∀ j (h : j < l.length), j < i → goodS l[j]) ∧ Ext w wr) (fun v _ => l.length - (intOf v).toNat)
  case atStart => exact ⟨0, rfl, by omega, fun j _ hj => absurd hj (Nat.not_lt_zero _), Ext.rfl' _⟩
  case round =>
    obtain ⟨i, rfl, hi, HI, x1⟩ := hrel
    by_cases hlt : i < l.length
    · obtain ⟨b, o, rfl, g1, g2⟩ := (hl.ext x1).get hlt
      have hI : (i : Int) < l.length := by omega
      have HI2 := Lib.hid (show goodS l[i] → ∀ j (h : j < l.length), j < i + 1 → goodS l[j] from fun hn j h hji => by
        rcases Nat.lt_or_ge j i with h1 | h1
        · exact HI.out j h h1
        · have : j = i := by omega
          subst this; exact hn)
      have HBAD := Lib.hid (show ¬ goodS l[i] → ¬ AllG l from fun hn ha => hn (ha _ (List.getElem_mem hlt)))
      generalize l[i] = s at *
      obtain ⟨lo, hi2⟩ := s
      simp only at g1 g2
      have hG := fun (W' : World) => Lib.hid (right_any (lo, hi2) W')
      unfold spV at hG
      simp only at hG
      obtain ⟨b1, xa⟩ := alloc1 wr 48 #[.int .i64 lo, .int .i64 hi2]
      have x2 := x1.trans xa
      obtain ⟨p0, p1, _, _, pz⟩ := b1.c2
      by_cases hg : goodS (lo, hi2)
      · have hgB : goodB (lo, hi2) = true := decide_eq_true hg
        rw [hgB] at hG
        have HI3 := Lib.hid (HI2.out hg)
        clear HI2 HBAD HI
        go_wp2_with fail
        refine (hG _).out.mono ?_
        rintro e w1 ⟨rfl, x3⟩
        have x4 := x2.trans x3
        clear hG g1 g2 p0 p1 b1
        go_wp2_with fail
        go_roundw
        case rel => exact ⟨i + 1, by go_num, by omega, HI3, x4⟩
        case measure => simp [intOf]; omega
      · have hgB : goodB (lo, hi2) = false := decide_eq_false hg
        rw [hgB] at hG
        have HB := Lib.hid (HBAD.out hg)
        clear HI2 HBAD HI
        go_wp2_with fail
        refine (hG _).out.mono ?_
        rintro e w1 ⟨rfl, x3⟩
        have x4 := x2.trans x3
        clear hG g1 g2 p0 p1 b1
        go_wp2_with fail
        exact bodyPost_ret (v := .tuple #[.slice none 0 0, .int .i64 1]) (by simp [results, Try.results22, go_sem]) rfl (.inl ⟨HB.out, rfl, x4⟩)
    · have hI : ¬ (i : Int) < l.length := by omega
      have HALL := Lib.hid (show AllG l from fun s hs => by
        obtain ⟨j, hj, rfl⟩ := List.getElem_of_mem hs
        exact HI.out j hj (by omega))
      clear HI
      have HCL := Lib.hid (cloneS_any A c l wr (hl.ext x1) (by omega))
      go_wp2_with fail
      refine HCL.out.mono ?_
      rintro e w2 ⟨B, d, rfl, hB, x2⟩
      clear HCL
      have HSO := Lib.hid (sortAny wr.heap.size d B l HALL.out w2 hB (by omega))
      have HBR := Lib.hid (show ∀ b, B.map (·.block) = some b → wr.heap.size ≤ b ∧ b < w2.heap.size from fun b hb => ⟨OwnP.row hB hb, OwnP.blt hB hb⟩)
      clear hB
      go_wp2_with fail
      refine HSO.out.mono ?_
      rintro e w3 ⟨rfl, m, hpm, hpw, hml, hm, hk3⟩
      clear HSO
      have x13 : Ext w w3 := (x1.trans x2).kp hk3 (fun b hb => Nat.le_trans x1.size (HBR.out b hb).1)
      have hs3 := hk3.size
      have HB3 := Lib.hid (show ∀ b, B.map (·.block) = some b → b < w3.heap.size from fun b hb => Nat.lt_of_lt_of_le (HBR.out b hb).2 hs3)
      have HGM := Lib.hid (show ∀ s ∈ m, goodS s from fun s hs => HALL.out s (hpm.mem_iff.2 hs))
      have HMS := Lib.hid (SL.of_own hm (fun s hs => by have := HGM.out s hs; unfold goodS at this; exact ⟨by unfold I64; omega, by unfold I64; omega⟩))
      have HNE := Lib.hid (normal_eq (fun s hs => HALL.out s hs) hpm hpw)
      have HML := Lib.hid hml
      rw [← hml]
      have hmb : m.length ≤ 40000 := by omega
      clear hpm hpw hml hm hk3 x2 x1 hI HBR hlt hi hs3
      go_wp2_with fail
      go_loopw [7, 26] (fun v7 v26 wr => ∃ (k : Nat) (O : Option Addr) (cO : Nat) (xs : List Sp), v26 = .int .i64 k ∧ k ≤ m.length ∧ v7 = .slice O xs.length cO ∧ Hid (xs = (m.take k).foldl addS [] ∧ OwnP wr w3.heap.size O cO xs) ∧ Ext w3 wr) (fun _ v _ => m.length - (intOf v).toNat)
      case atStart => exact ⟨0, none, 0, [], rfl, by omega, rfl, ⟨rfl, OwnP.nil _ _⟩, Ext.rfl' _⟩
      case round =>
        obtain ⟨k, O, cO, xs, rfl, hk, rfl, HX, x4⟩ := hrel
        by_cases hkl : k < m.length
        · have hkI : (k : Int) < m.length := by omega
          obtain ⟨b, o, rfl, g1, g2⟩ := (HMS.out.ext x4).get hkl
          have HTK := Lib.hid (show (m.take (k + 1)).foldl addS [] = addS xs m[k] by
            rw [List.take_succ_eq_append_getElem hkl, List.foldl_append, HX.out.1]; rfl)
          have HXG := Lib.hid (show ∀ t ∈ xs, goodS t by
            rw [HX.out.1]
            exact addAll_good (by simp) (fun t ht => HGM.out t (List.mem_of_mem_take ht)))
          have HXL := Lib.hid (show xs.length ≤ 1000000 by
            have h1 := addAll_len (m.take k) []
            rw [← HX.out.1, List.length_take] at h1
            simp only [List.length_nil] at h1
            omega)
          have hgs := HGM.out _ (List.getElem_mem hkl)
          generalize m[k] = s at *
          obtain ⟨lo, hi2⟩ := s
          simp only at g1 g2
          obtain ⟨b1, xa⟩ := alloc1 wr 48 #[.int .i64 lo, .int .i64 hi2]
          obtain ⟨p0, p1, _, _, pz⟩ := b1.c2
          have HAD := fun (W' : World) (x : Ext wr W') => Lib.hid (add_any w3.heap.size O cO xs (lo, hi2) W' (OwnP.ext HX.out.2 x) (x4.trans x).size HXG.out hgs HXL.out)
          unfold spV at HAD
          simp only at HAD
          have HOB := Lib.hid (show ∀ b, O.map (·.block) = some b → w3.heap.size ≤ b from fun b hb => OwnP.row HX.out.2 hb)
          generalize addS xs (lo, hi2) = ys at *
          clear HX HXG HXL hgs
          go_wp2_with fail
          refine (HAD _ xa).out.mono ?_
          rintro e w4 ⟨O2, cO2, rfl, hO2, hk4, hat4⟩
          have x5 : Ext w3 w4 := (x4.trans xa).kp hk4 (fun b hb => HOB.out b hb)
          have HX2 := Lib.hid (show ys = (m.take (k + 1)).foldl addS [] ∧ OwnP w4 w3.heap.size O2 cO2 ys from ⟨HTK.out.symm, hO2⟩)
          clear HAD hO2 hk4 hat4 HTK p0 p1 b1 g1 g2 xa
          go_wp2_with fail
          go_roundw
          case rel => exact ⟨k + 1, O2, cO2, ys, by go_num, by omega, rfl, HX2, x5⟩
          case measure => simp [intOf]; omega
        · have hkI : ¬ (k : Int) < m.length := by omega
          have hke : k = m.length := by omega
          have hxs : xs = nrm l := by rw [HX.out.1, hke, List.take_length, HNE.out]; rfl
          have HXL : Hid (xs.length ≤ 1000000) := by
            have h1 := addAll_len (m.take k) []
            rw [← HX.out.1, List.length_take] at h1
            simp only [List.length_nil] at h1
            show _ ≤ _
            omega
          have HXG := Lib.hid (show ∀ t ∈ xs, goodS t by
            rw [HX.out.1]
            exact addAll_good (by simp) (fun t ht => HGM.out t (List.mem_of_mem_take ht)))
          have HXE := Lib.hid hxs
          have HO := Lib.hid HX.out.2
          have HLI := Lib.hid (limited_any O cO xs.length wr (by have := HXL.out; omega))
          have x14 := x13.trans x4
          clear hke hxs HX HNE
          by_cases h64 : 64 < xs.length
          · rw [if_pos h64] at HLI
            go_wp2_with fail
            refine HLI.out.mono ?_
            rintro e w5 ⟨rfl, rfl⟩
            go_wp2_with fail
            exact bodyPost_ret (v := .tuple #[.slice none 0 0, .int .i64 4]) (by simp [results, Try.results22, go_sem]) rfl (.inr ⟨HALL.out, .inl ⟨by rw [← HXE.out]; exact h64, rfl, x14⟩⟩)
          · rw [if_neg h64] at HLI
            go_wp2_with fail
            refine HLI.out.mono ?_
            rintro e w5 ⟨rfl, rfl⟩
            go_wp2_with fail
            exact bodyPost_ret (v := .tuple #[.slice O xs.length cO, .int .i64 0]) (by simp [results, Try.results22, go_sem]) rfl (.inr ⟨HALL.out, .inr ⟨by rw [← HXE.out]; omega, O, cO, by rw [HXE.out], by
              rw [← HXE.out]
              exact SL.of_own HO.out (fun s hs => by have := HXG.out s hs; unfold goodS at this; exact ⟨by unfold I64; omega, by unfold I64; omega⟩), x14, fun b hb => Nat.le_trans x13.size (OwnP.row HO.out hb)⟩⟩)
end Go.Proofs.Ytlbdjnbcoldjhaa
