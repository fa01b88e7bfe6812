/- Walks of the reference of package sets: alike. -/
import Derived.Test.YtlbdjnbcoldjhaaG8
namespace Go.Proofs.Ytlbdjnbcoldjhaa
open Go.RowKit

def alikeB (ls : List Hs) (x y : Int) : Bool := decide (∀ j (h : j < ls.length), has ls[j].l x = has ls[j].l y)
theorem alikeB_no {ls : List Hs} {x y : Int} {i : Nat} (hi : i < ls.length) (h : has ls[i].l x ≠ has ls[i].l y) : alikeB ls x y = false := decide_eq_false (fun hk => h (hk i hi))
theorem alikeB_yes {ls : List Hs} {x y : Int} (h : ∀ j (h : j < ls.length), has ls[j].l x = has ls[j].l y) : alikeB ls x y = true := decide_eq_true h

set_option maxRecDepth 100000 in
set_option maxHeartbeats 4000000 in
theorem gAlike_any (A : Option Addr) (c : Nat) (ls : List Hs) (x y : Int) (w : World) (hl : LLS w A c ls) : Calls Try.prog 41 #[.slice A ls.length c, .int .i64 x, .int .i64 y] w (RetV (.bool (alikeB ls x y)) w) := by
  have hcap := hl.len
  have HN := fun i hi h => Lib.hid (alikeB_no (ls := ls) (x := x) (y := y) (i := i) hi h)
  have HY := fun h => Lib.hid (alikeB_yes (ls := ls) (x := x) (y := y) h)
  generalize alikeB ls x y = r at *
  go_enter Try.func41, Try.ntmps41
  go_wp2
  go_loopw [7] (fun v wr => ∃ i : Nat, v = .int .i64 i ∧ i ≤ ls.length ∧ Hid (∀ j (h : j < ls.length), j < i → has ls[j].l x = has ls[j].l y) ∧ Ext w wr) (fun v _ => ls.length - (intOf v).toNat)
  case atStart => exact ⟨0, rfl, by omega, fun j _ hj => absurd hj (Nat.not_lt_zero _), Ext.rfl' _⟩
  case round =>
    obtain ⟨i, rfl, hi, HI, x1⟩ := hrel
    by_cases hlt : i < ls.length
    · have hiI : (i : Int) < ls.length := by omega
      obtain ⟨pb, po, rfl, g0⟩ := (hl.ext x1).get hlt
      have hsl := (hl.sl _ (List.getElem_mem hlt)).ext x1
      have HV := fun (z : Int) (W' : World) (x : Ext wr W') => Lib.hid (gHas_any _ _ _ z W' (hsl.ext x))
      have HI2 := Lib.hid (show has ls[i].l x = has ls[i].l y → ∀ j (hj : j < ls.length), j < i + 1 → has ls[j].l x = has ls[j].l y from fun h j hj hji => by
        rcases Nat.lt_or_ge j i with h1 | h1
        · exact HI.out j hj h1
        · have : j = i := by omega
          subst this; exact h)
      have HB := HN i hlt
      generalize ls[i] = hh at *
      obtain ⟨hA, hc, hl2⟩ := hh
      simp only at g0 HV HI2 HB
      have HVx := fun W' h => HV x W' h
      have HVy := fun W' h => HV y W' h
      clear HV
      generalize has hl2 x = bx at *
      generalize has hl2 y = by_ at *
      by_cases he : bx = by_
      · have HI3 := Lib.hid (HI2.out he)
        have hb : (!bx == by_) = false := by simp [he]
        clear HI2 HB HN HY HI he
        go_wp2_with fail
        refine (HVx _ (Ext.rfl' _)).out.mono ?_
        rintro e w2 ⟨rfl, x2⟩
        replace g0 := x2.cell g0
        go_wp2_with fail
        refine (HVy _ x2).out.mono ?_
        rintro e w3 ⟨rfl, x3⟩
        have x4 := (x1.trans x2).trans x3
        clear HVx HVy g0 hsl x2 x3
        go_wp2_with fail
        go_roundw
        case rel => exact ⟨i + 1, by go_num, by omega, HI3, x4⟩
        case measure => simp [intOf]; omega
      · have HR := HB he
        have hb : (!bx == by_) = true := by simp [he]
        clear HI2 HB HN HY HI he
        go_wp2_with fail
        refine (HVx _ (Ext.rfl' _)).out.mono ?_
        rintro e w2 ⟨rfl, x2⟩
        replace g0 := x2.cell g0
        go_wp2_with fail
        refine (HVy _ x2).out.mono ?_
        rintro e w3 ⟨rfl, x3⟩
        have x4 := (x1.trans x2).trans x3
        clear HVx HVy g0 hsl x2 x3
        go_wp2_with fail
        go_ret
        exact ⟨by rw [HR.out]; rfl, x4⟩
    · have hiI : ¬ (i : Int) < ls.length := by omega
      have HR := HY (fun j hj => HI.out j hj (by omega))
      clear HI HY HN
      go_wp2
      go_ret
      exact ⟨by rw [HR.out]; rfl, x1⟩
end Go.Proofs.Ytlbdjnbcoldjhaa
