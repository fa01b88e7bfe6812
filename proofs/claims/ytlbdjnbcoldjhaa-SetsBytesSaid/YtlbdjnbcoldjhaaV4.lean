/- Decode of package sets: the walk. -/
import Derived.Test.YtlbdjnbcoldjhaaV3
import Derived.Test.YtlbdjnbcoldjhaaG18
namespace Go.Proofs.Ytlbdjnbcoldjhaa
open Go.RowKit
attribute [local go_sem ↓] Go.wp_at_zero Go.wp_at_succ

/-- k spans, read one behind the other -/
def spR (st : Option (List Int)) : Nat → List Sp × Option (List Int)
  | 0 => ([], st)
  | k + 1 => ((spR st k).1 ++ [((irun (spR st k).2).1, (irun (irun (spR st k).2).2).1)], (irun (irun (spR st k).2).2).2)
theorem spR_len (st : Option (List Int)) : ∀ k, (spR st k).1.length = k
  | 0 => rfl
  | k + 1 => by simp [spR, spR_len st k]
/-- what Decode returns: spans, and whether they are a set -/
def DecR (bs : List Int) (o : List Sp) (er : Int) : Prop :=
  ((irun (some bs)).1 < 0 ∨ 64 < (irun (some bs)).1 → o = [] ∧ er = 2) ∧
  (∀ n : Nat, (irun (some bs)).1 = n → n ≤ 64 → (((spR (irun (some bs)).2 n).2 = some [] ∧ validE (spR (irun (some bs)).2 n).1 = 0 → o = (spR (irun (some bs)).2 n).1 ∧ er = 0) ∧ (¬ ((spR (irun (some bs)).2 n).2 = some [] ∧ validE (spR (irun (some bs)).2 n).1 = 0) → o = [] ∧ er = 2)))
def RetDec (bs : List Int) (w : World) (e : Ending) (w' : World) : Prop := ∃ (S : Option Addr) (cS : Nat) (o : List Sp) (er : Int), e = .returned (.tuple #[.slice S o.length cS, .int .i64 er]) ∧ DecR bs o er ∧ SL w' S cS o ∧ Ext w w'

theorem dec_bad {bs : List Int} (h : (irun (some bs)).1 < 0 ∨ 64 < (irun (some bs)).1) : DecR bs [] 2 := ⟨fun _ => ⟨rfl, rfl⟩, fun n hn h64 => by omega⟩
theorem dec_at {bs : List Int} {n : Nat} (hn : (irun (some bs)).1 = n) (h64 : n ≤ 64) {o : List Sp} {er : Int} (h1 : (spR (irun (some bs)).2 n).2 = some [] ∧ validE (spR (irun (some bs)).2 n).1 = 0 → o = (spR (irun (some bs)).2 n).1 ∧ er = 0)
    (h2 : ¬ ((spR (irun (some bs)).2 n).2 = some [] ∧ validE (spR (irun (some bs)).2 n).1 = 0) → o = [] ∧ er = 2) : DecR bs o er := ⟨fun h => by omega, fun m hm _ => by
  have : m = n := by omega
  subst this
  exact ⟨h1, h2⟩⟩

set_option maxRecDepth 100000 in
set_option maxHeartbeats 8000000 in
theorem sDecode_any (B : Option Addr) (cB : Nat) (bs : List Int) (w : World) (hB : BL w B cB bs) (hl : bs.length ≤ 1099511627776) : Calls Try.prog 34 #[.slice B bs.length cB] w (RetDec bs w) := by
  have hcap := hB.len
  have HR := Lib.hid (wRead_any B cB bs w hB hl)
  go_enter Try.func34, Try.ntmps34
  go_wp2_with fail
  refine HR.out.mono ?_
  rintro e w2 ⟨g, A, c, rfl, hR, x2, hg, hf⟩
  have HG := Lib.hid hg
  obtain ⟨k0, wr0, hb0, _⟩ := hR.blk
  have HGL := Lib.hid hb0.lt
  have HAL := Lib.hid (show ∀ b, bs ≠ [] → A.map (·.block) = some b → b < w2.heap.size from fun b hn hb => hR.bl.blt hn hb)
  have HI := Lib.hid (rdInt_any g A c bs (some bs) w2 hR)
  have HN64 := Lib.hid (unzig_i64 (urun_lt hR))
  have HBD := fun h => Lib.hid (dec_bad (bs := bs) h)
  have HAT := fun (n : Nat) hn h64 (o : List Sp) (er : Int) h1 h2 => Lib.hid (dec_at (bs := bs) (n := n) hn h64 (o := o) (er := er) h1 h2)
  have HNI : Hid ((irun (some bs)).1 = unzig (urun 0 0 (some bs)).1) := rfl
  rw [← HNI.out] at HN64
  generalize irun (some bs) = p at *
  obtain ⟨n, st1⟩ := p
  simp only at HI HN64 HBD HAT
  clear HR hR hb0 hf hg HNI
  go_wp2_with fail
  refine HI.out.mono ?_
  rintro e w3 ⟨rfl, hR3, k3⟩
  have hX3 : Ext w w3 := x2.kp k3 (fun i hi => by have := HG.out; omega)
  have HR3 := Lib.hid hR3
  have hs23 := k3.size
  clear HI hR3 k3
  by_cases hn0 : n < 0
  · have HE := HBD (.inl hn0)
    go_wp2_with fail
    exact bodyPost_ret (v := .tuple #[.slice none 0 0, .int .i64 2]) (by simp [results, Try.results34, go_sem]) rfl ⟨none, 0, [], 2, rfl, HE.out, SL.nil _, hX3⟩
  · by_cases hn1 : 64 < n
    · have HE := HBD (.inr hn1)
      go_wp2_with fail
      exact bodyPost_ret (v := .tuple #[.slice none 0 0, .int .i64 2]) (by simp [results, Try.results34, go_sem]) rfl ⟨none, 0, [], 2, rfl, HE.out, SL.nil _, hX3⟩
    · obtain ⟨m, rfl⟩ : ∃ m : Nat, n = m := ⟨n.toNat, by omega⟩
      have HAT2 := fun (o : List Sp) (er : Int) h1 h2 => HAT m rfl (by omega) o er h1 h2
      clear HAT HBD HN64
      have hm64 : m ≤ 64 := by omega
      go_wp2_with fail
      go_loopw [6, 20] (fun v6 v20 wr => ∃ (k : Nat) (O : Option Addr) (cO : Nat), v20 = .int .i64 k ∧ k ≤ m ∧ v6 = .slice O k cO ∧ Hid (RdAt wr g A c bs (spR st1 k).2 ∧ OwnP wr w2.heap.size O cO (spR st1 k).1 ∧ (∀ s ∈ (spR st1 k).1, S64 s) ∧ w2.heap.size ≤ wr.heap.size) ∧ Ext w wr) (fun _ v _ => m - (intOf v).toNat)
      case atStart => exact ⟨0, none, 0, rfl, by omega, rfl, ⟨HR3.out, OwnP.nil _ _, by simp [spR], hs23⟩, hX3⟩
      case round =>
        clear HR3 hX3
        obtain ⟨k, O, cO, rfl, hk, rfl, HX, x4⟩ := hrel
        by_cases hkt : k < m
        · have hkI : (k : Int) < m := by omega
          obtain ⟨iS, jS0, jS1, jS2, jS3⟩ := info_parts infoS
          have HI1 := Lib.hid (rdInt_any g A c bs (spR st1 k).2 wr HX.out.1)
          have HN1 : Hid (I64 (irun (spR st1 k).2).1) := Lib.hid (unzig_i64 (urun_lt HX.out.1))
          have HSU : Hid (spR st1 (k + 1) = ((spR st1 k).1 ++ [((irun (spR st1 k).2).1, (irun (irun (spR st1 k).2).2).1)], (irun (irun (spR st1 k).2).2).2)) := rfl
          have HQL := Lib.hid (spR_len st1 k)
          have hown := HX.out.2.1
          unfold OwnP at hown
          rw [HQL.out] at hown
          have HOW := Lib.hid hown
          have HRG := Lib.hid HX.out.2.2.1
          have HWS := Lib.hid HX.out.2.2.2
          generalize (spR st1 k).1 = q at *
          generalize irun (spR st1 k).2 = p1 at *
          obtain ⟨x, sa⟩ := p1
          simp only at HI1 HN1 HSU
          clear HX hown
          go_wp2_with fail
          refine HI1.out.mono ?_
          rintro e w4 ⟨rfl, hR4, k4⟩
          have HO4 := Lib.hid (OwnS.kp HOW.out k4 (fun b hb e => by have := OwnS.row HOW.out b hb; have := HGL.out; omega))
          have hx4 : Ext w w4 := x4.kp k4 (fun i hi => by have := HG.out; omega)
          have HI2 := Lib.hid (rdInt_any g A c bs sa w4 hR4)
          have HN2 : Hid (I64 (irun sa).1) := Lib.hid (unzig_i64 (urun_lt hR4))
          generalize irun sa = p2 at *
          obtain ⟨y, sb⟩ := p2
          simp only at HI2 HN2 HSU
          have hz4 := k4.size
          clear HI1 HOW hR4 k4
          go_wp2_with fail
          refine HI2.out.mono ?_
          rintro e w5 ⟨rfl, hR5, k5⟩
          have HO5 := Lib.hid (OwnS.kp HO4.out k5 (fun b hb e => by have := OwnS.row HO4.out b hb; have := HGL.out; omega))
          have hx5 : Ext w w5 := hx4.kp k5 (fun i hi => by have := HG.out; omega)
          have HR5 := Lib.hid hR5
          have HNB := Lib.hid (Blk.new w5 48 (flatS [(x, y)]).toArray)
          have HBS : Hid (w2.heap.size ≤ (w5.alloc (.cells (flatS [(x, y)]).toArray 48)).heap.size) := Lib.hid (by
            have h1 := (Ext.alloc w5 (.cells (flatS [(x, y)]).toArray 48)).size
            have h2 := k5.size
            have h3 := HWS.out
            omega)
          have HW5 : Hid (w2.heap.size ≤ w5.heap.size) := Lib.hid (by have h2 := k5.size; have h3 := HWS.out; omega)
          have HRN := Lib.hid (show ∀ s ∈ q ++ [(x, y)], S64 s from fun s hs => by
            rcases List.mem_append.1 hs with h | h
            · exact HRG.out s h
            · obtain rfl := List.mem_singleton.1 h
              exact ⟨HN1.out, HN2.out⟩)
          have hql := HQL.out
          clear HI2 HO4 hR5 k5
          go_wp2_with ((at_builtin; refine wpList_app _ rfl _ _ _ rfl w2.heap.size 48 iS _ 2 16 Try.underlying24 jS0 jS1 jS2 jS3 rfl (by omega) O k cO (flatS q) rfl (OwnS.ext HO5.out (Ext.alloc _ _)) _ 1 1 (flatS [(x, y)]) rfl rfl (blk_cells HNB.out) (flatS_one _) (by unfold maxLen; omega) (by omega) HBS.out ?_; intro O2 cO2 w6 ho6 hg6 hat6))
          have hx6 := Ext.app (hx5.trans (Ext.alloc w5 (.cells (flatS [(x, y)]).toArray 48))) (OwnS.down (OwnS.ext HO5.out (Ext.alloc w5 (.cells (flatS [(x, y)]).toArray 48))) x2.size) hg6
          have hkg := KpP.of_grown hg6
          have HN6 := Lib.hid (show RdAt w6 g A c bs (spR st1 (k + 1)).2 ∧ OwnP w6 w2.heap.size O2 cO2 (spR st1 (k + 1)).1 ∧ (∀ s ∈ (spR st1 (k + 1)).1, S64 s) ∧ w2.heap.size ≤ w6.heap.size from by
            rw [HSU.out]
            refine ⟨RdAt.kp (HR5.out.ext (Ext.alloc _ _)) hkg (fun e => ?_) (fun hn b hb e => ?_), ?_, HRN.out, ?_⟩
            · have := OwnS.row HO5.out g e
              have := HGL.out
              omega
            · have := OwnS.row HO5.out b e
              have := HAL.out b hn hb
              omega
            · show OwnS w6 w2.heap.size 48 2 O2 (q ++ [(x, y)]).length cO2 (flatS (q ++ [(x, y)]))
              rw [List.length_append, List.length_singleton, hql, flatS_append]
              exact ho6
            · have h1 := hkg.size
              have h2 := HBS.out
              exact Nat.le_trans h2 h1)
          clear hg6 hat6 ho6 hkg HNB HBS HO5 HR5 HSU HRN hql HQL
          go_roundw
          case rel => exact ⟨k + 1, O2, cO2, by go_num, by omega, rfl, HN6.out, hx6⟩
          case measure => simp [intOf]; omega
        · have hkI : ¬ (k : Int) < m := by omega
          obtain rfl : k = m := by omega
          have HE := Lib.hid (rdEnd_any g A c bs (spR st1 k).2 wr HX.out.1)
          have HSL := Lib.hid (SL.of_own (l := (spR st1 k).1) HX.out.2.1 HX.out.2.2.1)
          have HVA := fun (W : World) (x : Ext wr W) => Lib.hid (sValid_any O cO (spR st1 k).1 W (HSL.out.ext x))
          rw [spR_len] at HVA
          generalize hve : validE (spR st1 k).1 = ve at *
          generalize hst : (spR st1 k).2 = st2 at *
          have HLE := Lib.hid (spR_len st1 k)
          clear HX
          go_wp2_with fail
          refine HE.out.mono ?_
          rintro e w5 ⟨q, rfl, hq, y5⟩
          have HVB := HVA w5 y5
          have HQ := Lib.hid hq
          clear HVA HE hq
          by_cases hq0 : q = 0
          · subst hq0
            have hs0 := HQ.out.1 rfl
            by_cases hv0 : ve = 0
            · have HD := Lib.hid (HAT2 (spR st1 k).1 0 (fun _ => ⟨rfl, rfl⟩) (fun h => absurd ⟨hs0, hv0⟩ h))
              subst hv0
              clear HQ hs0 hve hst HAT2
              go_wp2_with fail
              refine HVB.out.mono ?_
              rintro e w6 ⟨rfl, y6⟩
              have hz := (x4.trans y5).trans y6
              have HS6 := Lib.hid ((HSL.out.ext y5).ext y6)
              clear HVB HSL
              go_wp2_with fail
              exact bodyPost_ret (v := .tuple #[.slice O k cO, .int .i64 0]) (by simp [results, Try.results34, go_sem]) rfl ⟨O, cO, (spR st1 k).1, 0, by rw [HLE.out], HD.out, HS6.out, hz⟩
            · have HD := Lib.hid (HAT2 [] 2 (fun h => absurd h.2 hv0) (fun _ => ⟨rfl, rfl⟩))
              have hvb : (ve != 0) = true := by simpa using hv0
              clear HQ hs0 hve hst HAT2 hv0
              go_wp2_with fail
              refine HVB.out.mono ?_
              rintro e w6 ⟨rfl, y6⟩
              have hz := (x4.trans y5).trans y6
              clear HVB HSL
              go_wp2_with fail
              exact bodyPost_ret (v := .tuple #[.slice none 0 0, .int .i64 2]) (by simp [results, Try.results34, go_sem]) rfl ⟨none, 0, [], 2, rfl, HD.out, SL.nil _, hz⟩
          · have HD := Lib.hid (HAT2 [] 2 (fun h => absurd (HQ.out.2 h.1) hq0) (fun _ => ⟨rfl, rfl⟩))
            have hqb : (q != 0) = true := by simpa using hq0
            have hz := x4.trans y5
            clear HQ hve hst HAT2 hq0 HVB HSL
            go_wp2_with fail
            exact bodyPost_ret (v := .tuple #[.slice none 0 0, .int .i64 2]) (by simp [results, Try.results34, go_sem]) rfl ⟨none, 0, [], 2, rfl, HD.out, SL.nil _, hz⟩
end Go.Proofs.Ytlbdjnbcoldjhaa
