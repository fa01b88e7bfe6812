/- Walks of the reference of package sets: the generator Spans. -/
import Derived.Test.YtlbdjnbcoldjhaaH0
namespace Go.Proofs.Ytlbdjnbcoldjhaa
open Go.RowKit

theorem tab_cell (W : World) (k : Nat) (hk : k < 8) : ∃ v : Int, (W.alloc (.cells #[.int .i64 0, .int .i64 60, .int .i64 95, .int .i64 127, .int .i64 250, .int .i64 55290, .int .i64 65530, .int .i64 1114100] 3)).cell? ⟨W.heap.size, k, none⟩ = some (.int .i64 v) ∧ 0 ≤ v ∧ v ≤ 1114100 := by
  have h := Blk.new W 3 #[.int .i64 0, .int .i64 60, .int .i64 95, .int .i64 127, .int .i64 250, .int .i64 55290, .int .i64 65530, .int .i64 1114100]
  rw [h.cell]
  match k, hk with
  | 0, _ => exact ⟨0, rfl, by omega, by omega⟩
  | 1, _ => exact ⟨60, rfl, by omega, by omega⟩
  | 2, _ => exact ⟨95, rfl, by omega, by omega⟩
  | 3, _ => exact ⟨127, rfl, by omega, by omega⟩
  | 4, _ => exact ⟨250, rfl, by omega, by omega⟩
  | 5, _ => exact ⟨55290, rfl, by omega, by omega⟩
  | 6, _ => exact ⟨65530, rfl, by omega, by omega⟩
  | 7, _ => exact ⟨1114100, rfl, by omega, by omega⟩
theorem RetQ.ext {v : Value} {w w' : World} {e : Ending} (h : RetQ v w e w') : RetV v w e w' := by
  obtain ⟨h1, n, rfl⟩ := h
  exact ⟨h1, Ext.drewN _ _⟩

set_option maxRecDepth 100000 in
set_option maxHeartbeats 4000000 in
theorem gSpans_any (A : Option Addr) (c : Nat) (l : List Int) (most : Nat) (w : World) (hl : IL w A c l) (hm : most ≤ 1000) : Calls Try.prog 17 #[.slice A l.length c, .int .i64 (most : Int)] w (RetGen most w) := by
  have hcap := hl.len
  go_enter Try.func17, Try.ntmps17
  go_wp2
  go_loopw [5, 6] (fun v5 v6 wr => ∃ (i : Nat) (O : Option Addr) (cO : Nat) (xs : List Sp), v6 = .int .i64 i ∧ i ≤ l.length ∧ v5 = .slice O xs.length cO ∧ Hid ((xs.length ≤ most ∧ i = 2 * xs.length) ∧ (∀ s ∈ xs, Small s) ∧ OwnP wr w.heap.size O cO xs) ∧ Ext w wr) (fun _ v _ => l.length + 1 - (intOf v).toNat)
  case atStart => exact ⟨0, none, 0, [], rfl, by omega, rfl, ⟨⟨Nat.zero_le _, rfl⟩, by simp, OwnP.nil _ _⟩, Ext.rfl' _⟩
  case round =>
    obtain ⟨i, O, cO, xs, rfl, hi, rfl, HX, x1⟩ := hrel
    have hbye : ∀ (W : World), Ext wr W → RetGen most w (.returned (.slice O xs.length cO)) W := fun W x => ⟨O, cO, xs, rfl, OwnP.small (HX.out.2.2.ext x) HX.out.2.1, HX.out.1.1, HX.out.2.1, x1.trans x⟩
    have HBY := Lib.hid hbye
    clear hbye
    have hbi : (i : Int) ≤ 9223372036854775806 := by
      have h1 := HX.out.1
      omega
    have hwi : IntKind.i64.wrap ((i : Int) + 1) = (i : Int) + 1 := by rw [IntKind.wrap_i64]; omega
    by_cases hlt : i + 1 < l.length
    · have hiI : (i : Int) + 1 < (l.length : Int) := by omega
      have hxm : xs.length ≤ most := HX.out.1.1
      by_cases hq : xs.length < most
      · have hqI : (xs.length : Int) < (most : Int) := by omega
        obtain ⟨pa, qa, hAe, g1⟩ := (hl.ext x1).get (k := i) (by omega)
        obtain ⟨pa2, qa2, hAe2, g2⟩ := (hl.ext x1).get hlt
        subst hAe
        obtain ⟨rfl, rfl⟩ : pa = pa2 ∧ qa = qa2 := by injection hAe2 with h1; injection h1 with h2 h3 h4; exact ⟨h2, h3⟩
        clear hAe2
        have hw1 := hl.wf (k := i) (by omega)
        have hw2 := hl.wf hlt
        generalize l[i] = x at *
        generalize l[i + 1] = y at *
        have hi0 : (i : Int) < (l.length : Int) := by omega
        have hn0 : (0 : Int) ≤ (i : Int) + 1 := by omega
        have hto : ((i : Int) + 1).toNat = i + 1 := by omega
        have HA1 := fun (W : World) => Lib.hid ((around_any x 1048576 W hw1 (by omega) (by omega)).mono (fun _ _ h => RetQ.ext h))
        have HA2 := fun (W : World) => Lib.hid ((around_any y 9 W hw2 (by omega) (by omega)).mono (fun _ _ h => RetQ.ext h))
        have HA3 := fun (W : World) => Lib.hid ((around_any y 50 W hw2 (by omega) (by omega)).mono (fun _ _ h => RetQ.ext h))
        have hb1 := around_bd x 1048576 (by omega)
        have hb2 := around_bd y 9 (by omega)
        have hb3 := around_bd y 50 (by omega)
        generalize around x 1048576 = n at *
        generalize around y 9 = d at *
        generalize around y 50 = f at *
        clear hw1 hw2 hlt hq
        go_wp2_with fail
        refine (HA1 _).out.mono ?_
        rintro e w1 ⟨rfl, y1⟩
        replace g2 := y1.cell g2
        have HO1 := Lib.hid (HX.out.2.2.ext y1)
        have x2 := x1.trans y1
        clear g1 HA1
        by_cases h3 : n % 4 = 3
        · have h3b : (n % 4 == 3) = true := by simp [h3]
          have hk0 : 0 ≤ n / 4 % 8 := by omega
          have hk1 : n / 4 % 8 < 8 := by omega
          obtain ⟨v, hv, hv1, hv2⟩ := tab_cell w1 (n / 4 % 8).toNat (by omega)
          have y2 := Ext.alloc w1 (.cells #[.int .i64 0, .int .i64 60, .int .i64 95, .int .i64 127, .int .i64 250, .int .i64 55290, .int .i64 65530, .int .i64 1114100] 3)
          replace g2 := y2.cell g2
          replace HO1 := Lib.hid (HO1.out.ext y2)
          replace x2 := x2.trans y2
          clear y2
          have hr0 : 0 ≤ n / 32 % 6 ∧ n / 32 % 6 < 6 := by omega
          have hwv : IntKind.i64.wrap (v + n / 32 % 6) = v + n / 32 % 6 := by rw [IntKind.wrap_i64]; omega
          go_wp2_with fail
          refine (HA2 _).out.mono ?_
          rintro e w2 ⟨rfl, y3⟩
          replace g2 := y3.cell g2
          replace HO1 := Lib.hid (HO1.out.ext y3)
          replace x2 := x2.trans y3
          clear y3 HA2
          have hlo : 0 ≤ (v + n / 32 % 6) ∧ (v + n / 32 % 6) ≤ 1114110 := by omega
          generalize (v + n / 32 % 6) = lo at *
          have hwd : IntKind.i64.wrap (lo + d) = lo + d := by rw [IntKind.wrap_i64]; omega
          go_wp2_with fail
          refine (HA3 _).out.mono ?_
          rintro e w3 ⟨rfl, y4⟩
          replace HO1 := Lib.hid (HO1.out.ext y4)
          replace x2 := x2.trans y4
          clear y4 HA3 g2
          have hxb : xs.length ≤ 1000000 := by omega
          by_cases hf : f = 49
          · have hfb : (f == 49) = true := by simp [hf]
            clear hf
            have HS2 := Lib.hid (show ∀ s ∈ xs ++ [(lo, 1114111)], Small s from fun s hs => by
              rcases List.mem_append.1 hs with h | h
              · exact HX.out.2.1 s h
              · obtain rfl := List.mem_singleton.1 h
                unfold Small; simp only; omega)
            clear hb1 hr0 hb2 hb3
            go_wp2_with ((at_builtin; refine wpList_app1S (w1 := w3) rfl _ _ _ rfl Try.underlying24 w x2 (lo, 1114111) rfl O cO xs rfl HO1.out rfl hxb _ rfl ?_; intro O2 cO2 w4 ho2 x4))
            have HO2 := Lib.hid (show ∃ q, q = xs ++ [(lo, 1114111)] ∧ OwnP w4 w.heap.size O2 cO2 q from ⟨_, rfl, ho2⟩)
            have HLN := Lib.hid (show (xs ++ [(lo, 1114111)]).length = xs.length + 1 by simp)
            clear ho2
            go_roundw
            case rel => exact ⟨i + 2, O2, cO2, xs ++ [(lo, 1114111)], by go_num, by omega, by rw [HLN.out], ⟨⟨by rw [HLN.out]; omega, by rw [HLN.out]; have := HX.out.1.2; omega⟩, HS2.out, by obtain ⟨q, rfl, h⟩ := HO2.out; exact h⟩, x4⟩
            case measure => simp [intOf]; omega
          · have hfb : (f == 49) = false := by simp [hf]
            clear hf
            have HS2 := Lib.hid (show ∀ s ∈ xs ++ [(lo, lo + d)], Small s from fun s hs => by
              rcases List.mem_append.1 hs with h | h
              · exact HX.out.2.1 s h
              · obtain rfl := List.mem_singleton.1 h
                unfold Small; simp only; omega)
            clear hb1 hr0 hb2 hb3
            go_wp2_with ((at_builtin; refine wpList_app1S (w1 := w3) rfl _ _ _ rfl Try.underlying24 w x2 (lo, lo + d) rfl O cO xs rfl HO1.out rfl hxb _ rfl ?_; intro O2 cO2 w4 ho2 x4))
            have HO2 := Lib.hid (show ∃ q, q = xs ++ [(lo, lo + d)] ∧ OwnP w4 w.heap.size O2 cO2 q from ⟨_, rfl, ho2⟩)
            have HLN := Lib.hid (show (xs ++ [(lo, lo + d)]).length = xs.length + 1 by simp)
            clear ho2
            go_roundw
            case rel => exact ⟨i + 2, O2, cO2, xs ++ [(lo, lo + d)], by go_num, by omega, by rw [HLN.out], ⟨⟨by rw [HLN.out]; omega, by rw [HLN.out]; have := HX.out.1.2; omega⟩, HS2.out, by obtain ⟨q, rfl, h⟩ := HO2.out; exact h⟩, x4⟩
            case measure => simp [intOf]; omega
        · have h3b : (n % 4 == 3) = false := by simp [h3]
          have hr0 : 0 ≤ n / 4 % 130 ∧ n / 4 % 130 < 130 := by omega
          go_wp2_with fail
          refine (HA2 _).out.mono ?_
          rintro e w2 ⟨rfl, y3⟩
          replace g2 := y3.cell g2
          replace HO1 := Lib.hid (HO1.out.ext y3)
          replace x2 := x2.trans y3
          clear y3 HA2
          have hlo : 0 ≤ (n / 4 % 130) ∧ (n / 4 % 130) ≤ 1114110 := by omega
          generalize (n / 4 % 130) = lo at *
          have hwd : IntKind.i64.wrap (lo + d) = lo + d := by rw [IntKind.wrap_i64]; omega
          go_wp2_with fail
          refine (HA3 _).out.mono ?_
          rintro e w3 ⟨rfl, y4⟩
          replace HO1 := Lib.hid (HO1.out.ext y4)
          replace x2 := x2.trans y4
          clear y4 HA3 g2
          have hxb : xs.length ≤ 1000000 := by omega
          by_cases hf : f = 49
          · have hfb : (f == 49) = true := by simp [hf]
            clear hf
            have HS2 := Lib.hid (show ∀ s ∈ xs ++ [(lo, 1114111)], Small s from fun s hs => by
              rcases List.mem_append.1 hs with h | h
              · exact HX.out.2.1 s h
              · obtain rfl := List.mem_singleton.1 h
                unfold Small; simp only; omega)
            clear hb1 hr0 hb2 hb3
            go_wp2_with ((at_builtin; refine wpList_app1S (w1 := w3) rfl _ _ _ rfl Try.underlying24 w x2 (lo, 1114111) rfl O cO xs rfl HO1.out rfl hxb _ rfl ?_; intro O2 cO2 w4 ho2 x4))
            have HO2 := Lib.hid (show ∃ q, q = xs ++ [(lo, 1114111)] ∧ OwnP w4 w.heap.size O2 cO2 q from ⟨_, rfl, ho2⟩)
            have HLN := Lib.hid (show (xs ++ [(lo, 1114111)]).length = xs.length + 1 by simp)
            clear ho2
            go_roundw
            case rel => exact ⟨i + 2, O2, cO2, xs ++ [(lo, 1114111)], by go_num, by omega, by rw [HLN.out], ⟨⟨by rw [HLN.out]; omega, by rw [HLN.out]; have := HX.out.1.2; omega⟩, HS2.out, by obtain ⟨q, rfl, h⟩ := HO2.out; exact h⟩, x4⟩
            case measure => simp [intOf]; omega
          · have hfb : (f == 49) = false := by simp [hf]
            clear hf
            have HS2 := Lib.hid (show ∀ s ∈ xs ++ [(lo, lo + d)], Small s from fun s hs => by
              rcases List.mem_append.1 hs with h | h
              · exact HX.out.2.1 s h
              · obtain rfl := List.mem_singleton.1 h
                unfold Small; simp only; omega)
            clear hb1 hr0 hb2 hb3
            go_wp2_with ((at_builtin; refine wpList_app1S (w1 := w3) rfl _ _ _ rfl Try.underlying24 w x2 (lo, lo + d) rfl O cO xs rfl HO1.out rfl hxb _ rfl ?_; intro O2 cO2 w4 ho2 x4))
            have HO2 := Lib.hid (show ∃ q, q = xs ++ [(lo, lo + d)] ∧ OwnP w4 w.heap.size O2 cO2 q from ⟨_, rfl, ho2⟩)
            have HLN := Lib.hid (show (xs ++ [(lo, lo + d)]).length = xs.length + 1 by simp)
            clear ho2
            go_roundw
            case rel => exact ⟨i + 2, O2, cO2, xs ++ [(lo, lo + d)], by go_num, by omega, by rw [HLN.out], ⟨⟨by rw [HLN.out]; omega, by rw [HLN.out]; have := HX.out.1.2; omega⟩, HS2.out, by obtain ⟨q, rfl, h⟩ := HO2.out; exact h⟩, x4⟩
            case measure => simp [intOf]; omega
      · have hqI : ¬ (xs.length : Int) < (most : Int) := by omega
        go_wp2
        go_ret
        exact HBY.out _ (Ext.rfl' _)
    · have hiI : ¬ (i : Int) + 1 < (l.length : Int) := by omega
      go_wp2
      go_ret
      exact HBY.out _ (Ext.rfl' _)
end Go.Proofs.Ytlbdjnbcoldjhaa
