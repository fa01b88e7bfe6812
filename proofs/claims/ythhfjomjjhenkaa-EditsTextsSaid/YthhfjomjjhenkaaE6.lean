/- The walk of the reference's Text. -/
import Derived.Test.YthhfjomjjhenkaaE5
namespace Go.Proofs.Ythhfjomjjhenkaa
open Go.RowKit

set_option maxHeartbeats 1000000 in
theorem rText_any (A : Option Addr) (c : Nat) (l : List Int) (m : Nat) (w : World) (hl : IL w A c l) (hm : m ≤ 1000000) :
    Calls Try.prog 22 #[.slice A l.length c, .int .i64 m] w (RetIL (rtext l m) w) := by
  obtain ⟨i0, hi0, hz0, hz1, hz2⟩ := info_parts infoInt
  obtain ⟨a1, a2⟩ := hl.len
  go_enter Try.func22, Try.ntmps22
  go_wp2
  go_loopw [5, 6] (fun v i wr => ∃ (k : Nat) (A' : Option Addr) (c' : Nat), k ≤ l.length ∧ k ≤ m ∧ i = .int .i64 k ∧ v = .slice A' (rtext l k).length c' ∧ OwnI wr w.heap.size 3 A' c' (rtext l k) ∧ Ext w wr) (fun _ i _ => l.length - (intOf i).toNat)
  case atStart => exact ⟨0, none, 0, Nat.zero_le _, Nat.zero_le _, rfl, rfl, OwnS.nil _ _ _ _, Ext.rfl' _⟩
  case round =>
    obtain ⟨k, A', c', hk, hkm, rfl, rfl, hown, hext⟩ := hrel
    have hlr := rtext_len l k
    by_cases hlt : k < l.length
    · by_cases hlm : k < m
      · have e1 := Ext.alloc wr (.cells (tab12.map (Value.int .i64)).toArray 3)
        have hB := (Blk.new wr 3 (tab12.map (Value.int .i64)).toArray)
        have hs := rtext_succ l k hlt
        have hp := around_bd l[k] 12 (by omega)
        have hpk : pick l k 12 = around l[k] 12 := by simp [pick, hlt]
        obtain ⟨p, hp12, hpp⟩ : ∃ p : Nat, p < 12 ∧ around l[k] 12 = (p : Int) := ⟨(around l[k] 12).toNat, by omega, by omega⟩
        have hsy : sym12 l[k] = tab12.getD p 0 := by unfold sym12; rw [hpp]; rfl
        rw [hsy] at hs
        rw [hpp] at hpk
        have HS := Lib.hid hs
        have HP := Lib.hid hpk
        clear hs hpk hsy hpp hp
        go_wp2_with fail
        refine (pick_any A c l k 12 _ (hl.ext (hext.trans e1)) (by omega) (by omega) (by omega)).mono ?_
        rintro e w1 h1
        obtain ⟨rfl, hx1⟩ := h1.v
        rw [HP.out]
        have hcell := (hB.ext hx1).cell p
        rw [show ((tab12.map (Value.int .i64)).toArray)[p]? = some (.int .i64 (tab12.getD p 0)) by
          simp [List.getD, List.getElem?_eq_getElem (show p < tab12.length from hp12)]] at hcell
        have hE := hext.trans (e1.trans hx1)
        have hown1 := OwnS.ext hown (e1.trans hx1)
        have hlt1 := (hB.ext hx1).lt
        clear hB
        have hp0 : (p : Int) < 12 := by omega
        have HT := Lib.hid (tab12_bd p hp12)
        generalize tab12.getD p 0 = s at *
        go_wp2_with ((at_builtin; refine wpList_app1I (w1 := w1) rfl _ _ _ rfl 3 infoInt Try.underlying22 w hE s rfl A' c' (rtext l k) rfl hown1 rfl (by omega) (rtext l (k + 1)) HS.out ?_; intro A2 c2 w2 hown2 hext2 _ _))
        go_roundw
        case rel => exact ⟨k + 1, A2, c2, by omega, by omega, by go_num, rfl, hown2, hext2⟩
        case measure => simp [intOf]; omega
      · have hk' : k = m := by omega
        subst hk'
        go_wp2
        go_ret
        exact ⟨A', c', rfl, IL.of_own hown (fun x hx => I64_of (by have := rtext_bd l k x hx; omega)), hext, OwnS.row hown⟩
    · have hk' : rtext l k = rtext l m := by
        unfold rtext; rw [List.take_of_length_le (by omega), List.take_of_length_le (by omega)]
      rw [hk'] at hown
      have HK := Lib.hid hk'
      clear hk'
      go_wp2
      go_ret
      rw [← HK.out] at hown ⊢
      exact ⟨A', c', rfl, IL.of_own hown (fun x hx => I64_of (by have := rtext_bd l k x hx; omega)), hext, OwnS.row hown⟩
end Go.Proofs.Ythhfjomjjhenkaa
