/- Package wire's Reader: the walks of Uint and Int. -/
import Derived.Test.YthhfjomjjhenkaaW4
namespace Go.Proofs.Ythhfjomjjhenkaa
open Go.RowKit
attribute [local go_sem ↓] Go.wp_at_zero Go.wp_at_succ

/-- what Uint returns and leaves, from step i on with n read so far -/
def urun (i n : Nat) : Option (List Int) → Nat × Option (List Int)
  | none => (0, none)
  | some bs => match uintP i bs with
    | none => (0, none)
    | some p => (n + p.1 * 2 ^ (7 * i), some p.2)
theorem urun_none (i n : Nat) : urun i n none = (0, none) := rfl
theorem urun_nil (i n : Nat) : urun i n (some []) = (0, none) := rfl
theorem urun_bad (i n : Nat) (b : Int) (r : List Int) (h : (i = 9 ∧ 1 < b) ∨ (0 < i ∧ b = 0)) : urun i n (some (b :: r)) = (0, none) := by
  simp only [urun, uintP, if_pos h]
theorem urun_last (i n : Nat) (b : Int) (r : List Int) (h : ¬ ((i = 9 ∧ 1 < b) ∨ (0 < i ∧ b = 0))) (hb : b < 128) : urun i n (some (b :: r)) = (n + b.toNat * 2 ^ (7 * i), some r) := by
  simp only [urun, uintP, if_neg h, if_pos hb]
theorem urun_more (i n : Nat) (b : Int) (r : List Int) (h : ¬ ((i = 9 ∧ 1 < b) ∨ (0 < i ∧ b = 0))) (hb : ¬ b < 128) : urun i n (some (b :: r)) = urun (i + 1) (n + b.toNat % 128 * 2 ^ (7 * i)) (some r) := by
  simp only [urun, uintP, if_neg h, if_neg hb]
  cases uintP (i + 1) r with
  | none => rfl
  | some p =>
    simp only [Option.map_some]
    have : 2 ^ (7 * (i + 1)) = 128 * 2 ^ (7 * i) := by rw [show 7 * (i + 1) = 7 + 7 * i by omega, Nat.pow_add]
    rw [this]
    congr 1
    rw [Nat.add_mul, Nat.add_assoc]
    congr 1
    congr 1
    rw [Nat.mul_comm 128 p.1, Nat.mul_assoc]

theorem acc_shl (b i : Nat) (hb : b < 128) (hi : i ≤ 9) (h9 : i = 9 → b ≤ 1) : b * 2 ^ (7 * i) < 18446744073709551616 := by
  rcases Nat.lt_or_ge i 9 with h | h
  · calc b * 2 ^ (7 * i) ≤ 127 * 2 ^ (7 * 8) := Nat.mul_le_mul (by omega) (Nat.pow_le_pow_right (by omega) (by omega))
      _ < 18446744073709551616 := by decide
  · have : i = 9 := by omega
    subst this
    have := h9 rfl
    calc b * 2 ^ (7 * 9) ≤ 1 * 2 ^ (7 * 9) := Nat.mul_le_mul_right _ this
      _ < 18446744073709551616 := by decide
theorem acc_or (n b i : Nat) (hn : n < 2 ^ (7 * i)) : n ||| b * 2 ^ (7 * i) = n + b * 2 ^ (7 * i) := by
  rw [Nat.or_comm, nat_join (7 * i) _ _ (by simp) hn, Nat.add_comm]
theorem acc_lt (n b i : Nat) (hn : n < 2 ^ (7 * i)) (hb : b < 128) : n + b * 2 ^ (7 * i) < 2 ^ (7 * (i + 1)) := by
  have : 2 ^ (7 * (i + 1)) = 128 * 2 ^ (7 * i) := by rw [show 7 * (i + 1) = 7 + 7 * i by omega, Nat.pow_add]
  rw [this]
  have : b * 2 ^ (7 * i) ≤ 127 * 2 ^ (7 * i) := Nat.mul_le_mul_right _ (by omega)
  omega
theorem u8_and127 (b : Int) (h : U8 b) : Go.bits .and .u8 b 127 = ((b.toNat % 128 : Nat) : Int) := by
  rw [u8_and b 127 h.1 h.2 (by omega) (by omega)]
  have : (127 : Int).toNat = 127 := rfl
  rw [this, nat_mask7]

theorem octP_none {s : Option (List Int)} {b : Int} (i n : Nat) (h : octP s = (b, none)) : urun i n s = (0, none) := by
  rcases s with _ | _ | ⟨c, r⟩
  · rfl
  · rfl
  · simp [octP] at h
theorem octP_some {s : Option (List Int)} {b : Int} {r : List Int} (h : octP s = (b, some r)) : s = some (b :: r) := by
  rcases s with _ | _ | ⟨c, r⟩
  · simp [octP] at h
  · simp [octP] at h
  · simp [octP] at h; simp [h]
theorem RdAt.u8 {w : World} {g : Nat} {A : Option Addr} {c : Nat} {bs r : List Int} (h : RdAt w g A c bs (some r)) : ∀ b ∈ r, U8 b := by
  obtain ⟨k, wr, _, _, hst⟩ := h.blk
  rcases hst with ⟨_, h2⟩ | ⟨_, h2⟩
  · cases h2
  · injection h2 with h2
    subst h2
    exact fun b hb => h.bl.rng b (List.mem_of_mem_drop hb)

theorem acc_code (n i : Nat) (b : Int) (hb : U8 b) (hn : n < 2 ^ (7 * i)) (hi : i ≤ 9) (h9 : i = 9 → b ≤ 1) : Go.bits .or .u64 (n : Int) (IntKind.u64.wrap (max b 0 % 128 * 2 ^ (7 * i))) = ((n + b.toNat % 128 * 2 ^ (7 * i) : Nat) : Int) := by
  obtain ⟨h0, h1⟩ := hb
  obtain ⟨m, rfl⟩ : ∃ m : Nat, b = m := ⟨b.toNat, by omega⟩
  have hm : max (m : Int) 0 = (m : Int) := by omega
  have e1 : max (m : Int) 0 % 128 * 2 ^ (7 * i) = ((m % 128 * 2 ^ (7 * i) : Nat) : Int) := by rw [hm]; simp
  have h2 := acc_shl (m % 128) i (by omega) hi (fun h => by have := h9 h; omega)
  have e2 : IntKind.u64.wrap ((m % 128 * 2 ^ (7 * i) : Nat) : Int) = ((m % 128 * 2 ^ (7 * i) : Nat) : Int) := by rw [IntKind.wrap_u64]; omega
  have hn2 : n < 18446744073709551616 := Nat.lt_of_lt_of_le hn (Nat.le_trans (Nat.pow_le_pow_right (by omega) (show 7 * i ≤ 64 by omega)) (by decide))
  rw [e1, e2, u64_or_nat _ _ hn2 h2, acc_or _ _ _ hn, Int.toNat_natCast]

set_option maxRecDepth 100000 in
set_option maxHeartbeats 4000000 in
theorem rdUint_any (g : Nat) (A : Option Addr) (c : Nat) (bs : List Int) (st : Option (List Int)) (w : World) (hR : RdAt w g A c bs st) :
    Calls Try.prog 73 #[.pointer (some ⟨g, 0, none⟩)] w (RetRd g A c bs (.int .u64 (urun 0 0 st).1) (urun 0 0 st).2 w) := by
  obtain ⟨fin, hfin⟩ : ∃ fin, fin = urun 0 0 st := ⟨_, rfl⟩
  rw [← hfin]
  have HF := Lib.hid hfin
  clear hfin
  go_enter Try.func73, Try.ntmps73
  go_wp2_with fail
  go_loopw [3, 6] (fun v3 v6 wr => ∃ (i n : Nat) (s : Option (List Int)), v3 = .int .u64 n ∧ v6 = .int .i64 i ∧ i ≤ 9 ∧ Hid (n < 2 ^ (7 * i)) ∧ Hid (fin = urun i n s) ∧ RdAt wr g A c bs s ∧ KpP (· = g) w wr) (fun _ v _ => 10 - (intOf v).toNat)
  case atStart => exact ⟨0, 0, st, rfl, rfl, by omega, (show (0 : Nat) < 2 ^ (7 * 0) by decide), HF, hR, KpP.refl _ _⟩
  case round =>
    clear hR HF
    obtain ⟨i, n, s, rfl, rfl, hi, hn, he, hR1, hk1⟩ := hrel
    have hI : (i : Int) < 10 := by omega
    go_wp2_with fail
    refine (octet_any g A c bs s _ hR1).mono ?_
    rintro e w2 ⟨rfl, hR2, hk2⟩
    have hk := hk1.trans hk2
    have hRs := hR1
    clear hk1 hk2 hR1
    obtain ⟨b, s2, ho⟩ : ∃ b s2, octP s = (b, s2) := ⟨_, _, rfl⟩
    rw [ho] at hR2
    rw [ho]
    simp only at hR2
    obtain ⟨k, wg, hB, hkl, hst⟩ := hR2.blk
    have q2 := hB.c3.2.2.1
    have q2f := hB.c3.2.2.2.2.2.1
    have qz := hB.lt
    rcases s2 with _ | r
    · have hu := Lib.hid (octP_none i n ho)
      have hw : wg ≠ 0 := by
        rcases hst with ⟨h, _⟩ | ⟨_, h⟩
        · exact h
        · cases h
      have hb1 : (wg != 0) = true := by simpa using hw
      have hb2 : (wg == 0) = false := by simpa using hw
      clear hw hst ho
      go_wp2_with fail
      go_ret
      have h1 := he.out
      rw [hu.out] at h1
      subst h1
      exact ⟨rfl, hR2, hk⟩
    · have hsb := octP_some ho
      subst hsb
      have hub := hRs.u8 b (by simp)
      have hw : wg = 0 := by
        rcases hst with ⟨_, h⟩ | ⟨h, _⟩
        · cases h
        · exact h
      subst hw
      obtain ⟨hb0, hb256⟩ := hub
      clear hst ho hRs
      have HS := Lib.hid (hR2.set2 hB hkl (e := 2) (by omega))
      by_cases hbad : (i = 9 ∧ 1 < b) ∨ (0 < i ∧ b = 0)
      · by_cases h1b : 1 < b
        · have g1 : ((i : Int) == 9) = true := by simp; omega
          have g2 : b > 1 := h1b
          go_wp2_with fail
          go_ret
          have h1 := he.out
          rw [urun_bad i n b r hbad] at h1
          subst h1
          obtain ⟨hS1, hS2⟩ := HS.out
          exact ⟨rfl, hS1, hk.trans hS2⟩
        · by_cases h9 : i = 9
          · have g1 : ((i : Int) == 9) = true := by simp; omega
            have g2 : ¬ b > 1 := h1b
            have g3 : (i : Int) > 0 := by omega
            have g4 : (b == 0) = true := by simp; omega
            go_wp2_with fail
            go_ret
            have h1 := he.out
            rw [urun_bad i n b r hbad] at h1
            subst h1
            obtain ⟨hS1, hS2⟩ := HS.out
            exact ⟨rfl, hS1, hk.trans hS2⟩
          · have g1 : ((i : Int) == 9) = false := by simp; omega
            have g3 : (i : Int) > 0 := by omega
            have g4 : (b == 0) = true := by simp; omega
            go_wp2_with fail
            go_ret
            have h1 := he.out
            rw [urun_bad i n b r hbad] at h1
            subst h1
            obtain ⟨hS1, hS2⟩ := HS.out
            exact ⟨rfl, hS1, hk.trans hS2⟩
      · have h127 := u8_and127 b ⟨hb0, hb256⟩
        have HA := Lib.hid (acc_code n i b ⟨hb0, hb256⟩ hn.out hi (fun h9 => by omega))
        by_cases h9 : i = 9
        · have g1 : ((i : Int) == 9) = true := by simp; omega
          have g2 : ¬ b > 1 := by omega
          have g3 : (i : Int) > 0 := by omega
          have g4 : (b == 0) = false := by simp; omega
          have hlt : b < 128 := by omega
          have h2 := HA.out
          have h3 : b.toNat % 128 = b.toNat := by omega
          rw [h3] at h2
          have H2 := Lib.hid h2
          have H9 := Lib.hid h9
          clear h2 h3 h9
          go_wp2_with fail
          go_ret
          have h1 := he.out
          rw [urun_last i n b r hbad hlt] at h1
          subst h1
          refine ⟨?_, hR2, hk⟩
          show Ending.returned (Value.int .u64 _) = _
          rw [H2.out]
        · have g1 : ((i : Int) == 9) = false := by simp; omega
          by_cases hi0 : i = 0
          · have g3 : ¬ (i : Int) > 0 := by omega
            have HI0 := Lib.hid hi0
            clear hi0
            by_cases hlt : b < 128
            · go_wp2_with fail
              go_ret
              have h1 := he.out
              rw [urun_last i n b r hbad hlt] at h1
              subst h1
              have h2 := HA.out
              have h3 : b.toNat % 128 = b.toNat := by omega
              rw [h3] at h2
              refine ⟨?_, hR2, hk⟩
              show Ending.returned (Value.int .u64 _) = _
              rw [h2]
            · have h1 := he.out
              rw [urun_more i n b r hbad hlt] at h1
              have H1 := Lib.hid h1
              clear h1
              go_wp2_with fail
              go_roundw
              case rel => exact ⟨i + 1, n + b.toNat % 128 * 2 ^ (7 * i), some r, by rw [HA.out], by go_num, by omega, acc_lt n _ i hn.out (by omega), H1, hR2, hk⟩
              case measure => simp [intOf]; omega
          · have g3 : (i : Int) > 0 := by omega
            have g4 : (b == 0) = false := by simp; omega
            by_cases hlt : b < 128
            · go_wp2_with fail
              go_ret
              have h1 := he.out
              rw [urun_last i n b r hbad hlt] at h1
              subst h1
              have h2 := HA.out
              have h3 : b.toNat % 128 = b.toNat := by omega
              rw [h3] at h2
              refine ⟨?_, hR2, hk⟩
              show Ending.returned (Value.int .u64 _) = _
              rw [h2]
            · have h1 := he.out
              rw [urun_more i n b r hbad hlt] at h1
              have H1 := Lib.hid h1
              clear h1
              go_wp2_with fail
              go_roundw
              case rel => exact ⟨i + 1, n + b.toNat % 128 * 2 ^ (7 * i), some r, by rw [HA.out], by go_num, by omega, acc_lt n _ i hn.out (by omega), H1, hR2, hk⟩
              case measure => simp [intOf]; omega
end Go.Proofs.Ythhfjomjjhenkaa
