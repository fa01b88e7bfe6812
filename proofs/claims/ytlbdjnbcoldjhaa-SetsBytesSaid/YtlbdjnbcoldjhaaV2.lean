/- The Reader of bytes: Read, octet, Uint, Int, End. -/
import Derived.Test.YtlbdjnbcoldjhaaV1
namespace Go.Proofs.Ytlbdjnbcoldjhaa
open Go.RowKit
attribute [local go_sem ↓] Go.wp_at_zero Go.wp_at_succ

/-- the reader in block g over bs: what is left to be read; none: an error stands -/
structure RdAt (w : World) (g : Nat) (A : Option Addr) (c : Nat) (bs : List Int) (st : Option (List Int)) : Prop where
  blk : ∃ (k : Nat) (wr : Int), Blk w g 87 #[.slice A bs.length c, .int .i64 k, .int .i64 wr] ∧ k ≤ bs.length ∧ (wr ≠ 0 ∧ st = none ∨ wr = 0 ∧ st = some (bs.drop k))
  bl : BL w A c bs
  off : bs ≠ [] → A.map (·.block) ≠ some g
namespace RdAt
variable {w w' : World} {g : Nat} {A : Option Addr} {c : Nat} {bs : List Int} {st : Option (List Int)}
theorem ext (h : RdAt w g A c bs st) (x : Ext w w') : RdAt w' g A c bs st := by
  obtain ⟨k, wr, hb, hr⟩ := h.blk
  exact ⟨⟨k, wr, hb.ext x, hr⟩, h.bl.ext x, h.off⟩
theorem lt (h : RdAt w g A c bs st) : g < w.heap.size := by obtain ⟨k, wr, hb, _⟩ := h.blk; exact hb.lt
/-- blocks that are written elsewhere -/
theorem kp {p : Nat → Prop} (h : RdAt w g A c bs st) (k : KpP p w w') (hg : ¬ p g) (hA : bs ≠ [] → ∀ b, A.map (·.block) = some b → ¬ p b) : RdAt w' g A c bs st := by
  obtain ⟨i, wr, hb, hr⟩ := h.blk
  exact ⟨⟨i, wr, k.blk hb hg, hr⟩, h.bl.kp k hA, h.off⟩
theorem set1 (h : RdAt w g A c bs st) {k : Nat} {wr : Int} (hb : Blk w g 87 #[.slice A bs.length c, .int .i64 k, .int .i64 wr]) {k' : Nat} (hk : k' ≤ bs.length) (hw : wr = 0) {v : Int} (hv : v = k') :
    RdAt (w.setCell ⟨g, 1, none⟩ (.int .i64 v)) g A c bs (some (bs.drop k')) ∧ KpP (· = g) w (w.setCell ⟨g, 1, none⟩ (.int .i64 v)) := by
  subst hv
  have kk : KpP (· = g) w (w.setCell ⟨g, 1, none⟩ (.int .i64 k')) := KpP.set (p := (· = g)) (KpP.refl _ _) (.inl rfl) _
  have h1 := hb.set 1 (.int .i64 k')
  simp only [List.setIfInBounds_toArray, List.set_cons_zero, List.set_cons_succ] at h1
  exact ⟨⟨⟨k', wr, h1, hk, .inr ⟨hw, rfl⟩⟩, h.bl.kp kk (fun hx b hb e => h.off hx (by rw [hb, e])), h.off⟩, kk⟩
theorem set2 (h : RdAt w g A c bs st) {k : Nat} {wr : Int} (hb : Blk w g 87 #[.slice A bs.length c, .int .i64 k, .int .i64 wr]) (hk : k ≤ bs.length) {e : Int} (he : e ≠ 0) :
    RdAt (w.setCell ⟨g, 2, none⟩ (.int .i64 e)) g A c bs none ∧ KpP (· = g) w (w.setCell ⟨g, 2, none⟩ (.int .i64 e)) := by
  have kk : KpP (· = g) w (w.setCell ⟨g, 2, none⟩ (.int .i64 e)) := KpP.set (p := (· = g)) (KpP.refl _ _) (.inl rfl) _
  have h1 := hb.set 2 (.int .i64 e)
  simp only [List.setIfInBounds_toArray, List.set_cons_zero, List.set_cons_succ] at h1
  exact ⟨⟨⟨k, e, h1, hk, .inl ⟨he, rfl⟩⟩, h.bl.kp kk (fun hx b hb e => h.off hx (by rw [hb, e])), h.off⟩, kk⟩
end RdAt

def octP : Option (List Int) → Int × Option (List Int)
  | some (b :: r) => (b, some r)
  | some [] => (0, none)
  | none => (0, none)
def RetRd (g : Nat) (A : Option Addr) (c : Nat) (bs : List Int) (v : Value) (st : Option (List Int)) (w : World) (e : Ending) (w' : World) : Prop := e = .returned v ∧ RdAt w' g A c bs st ∧ KpP (· = g) w w'

set_option maxHeartbeats 2000000 in
theorem octet_any (g : Nat) (A : Option Addr) (c : Nat) (bs : List Int) (st : Option (List Int)) (w : World) (hR : RdAt w g A c bs st) :
    Calls Try.prog 73 #[.pointer (some ⟨g, 0, none⟩)] w (RetRd g A c bs (.int .u8 (octP st).1) (octP st).2 w) := by
  obtain ⟨k, wr, hB, hk, hst⟩ := hR.blk
  have hlen := hR.bl.len
  have q0 := hB.c3.1
  have q1 := hB.c3.2.1
  have q2 := hB.c3.2.2.1
  have q0f := hB.c3.2.2.2.1
  have q1f := hB.c3.2.2.2.2.1
  have q2f := hB.c3.2.2.2.2.2.1
  have qz := hB.lt
  rcases hst with ⟨hw, rfl⟩ | ⟨rfl, rfl⟩
  · have hb1 : (wr != 0) = true := by simpa using hw
    have hb2 : (wr == 0) = false := by simpa using hw
    clear hw
    go_enter Try.func73, Try.ntmps73
    go_wp2_with fail
    go_ret
    exact ⟨rfl, hR, KpP.refl _ _⟩
  · by_cases hlt : k < bs.length
    · obtain ⟨b, o, rfl, p0⟩ := hR.bl.get hlt
      have hd : bs.drop k = bs[k] :: bs.drop (k + 1) := List.drop_eq_getElem_cons hlt
      rw [hd]
      generalize bs[k] = v at *
      have hI : ¬ (k : Int) ≥ bs.length := by omega
      have hwn : IntKind.i64.wrap ((k : Int) + 1) = (k : Int) + 1 := by rw [IntKind.wrap_i64]; omega
      have hbg : b ≠ g := fun e => hR.off (by rintro rfl; simp at hlt) (by simp [e])
      have HS := fun (W : World) (x : Ext w W) => Lib.hid ((hR.ext x).set1 (hB.ext x) (k' := k + 1) (by omega) rfl (v := (k : Int) + 1) (by omega))
      clear hd
      go_enter Try.func73, Try.ntmps73
      go_wp2_with (go_quiet (fail))
      go_ret
      exact ⟨rfl, (HS _ (Ext.drewN _ _)).out.1.ext (Ext.drewN _ _), (KpP.of_ext (Ext.drewN _ _)).trans ((HS _ (Ext.drewN _ _)).out.2.trans (KpP.of_ext (Ext.drewN _ _)))⟩
    · have hI : (k : Int) ≥ bs.length := by omega
      have hd : bs.drop k = [] := List.drop_eq_nil_of_le (by omega)
      rw [hd]
      have HS := fun (W : World) (x : Ext w W) => Lib.hid ((hR.ext x).set2 (hB.ext x) hk (e := 3) (by omega))
      clear hd
      go_enter Try.func73, Try.ntmps73
      go_wp2_with (go_quiet (fail))
      go_ret
      exact ⟨rfl, (HS _ (Ext.drewN _ _)).out.1, (KpP.of_ext (Ext.drewN _ _)).trans (HS _ (Ext.drewN _ _)).out.2⟩

def RetRead (bs : List Int) (w : World) (e : Ending) (w' : World) : Prop := ∃ g A c, e = .returned (.pointer (some ⟨g, 0, none⟩)) ∧ RdAt w' g A c bs (some bs) ∧ Ext w w' ∧ w.heap.size ≤ g ∧ Fr w A
set_option maxHeartbeats 2000000 in
theorem wRead_any (B : Option Addr) (cB : Nat) (bs : List Int) (w : World) (hB : BL w B cB bs) (hl : bs.length ≤ 1099511627776) :
    Calls Try.prog 35 #[.slice B bs.length cB] w (RetRead bs w) := by
  obtain ⟨iB, jB0, jB1, jB2, jB3⟩ := info_parts infoB
  have HB8 := Lib.hid (show 0 + bs.length ≤ maxLen ∧ (0 + bs.length) * 1 ≤ 140737488355328 by unfold maxLen; omega)
  have e1 := Ext.alloc w (.cells #[] 5)
  have hown : OwnS (w.alloc (.cells #[] 5)) w.heap.size 5 1 (some ⟨w.heap.size, 0, none⟩) 0 0 [] :=
    OwnS.of_blk (Blk.new w 5 #[]) (Nat.le_refl _) rfl (Nat.le_refl _) (Nat.zero_le _)
  have hcl := (hB.ext e1).cells
  have hrng := hB.rng
  go_enter Try.func35, Try.ntmps35
  go_wp2_with ((at_builtin; refine wpList_app _ rfl _ _ _ rfl w.heap.size 5 iB _ 1 1 Try.underlying53 jB0 jB1 jB2 jB3 rfl (by omega) _ 0 0 [] rfl hown B bs.length cB (bs.map (Value.int .u8)) rfl (by simp) hcl (bytes_one _) HB8.out.1 HB8.out.2 (by simp) ?_; intro A' c' w' ho' hg' hat'))
  simp only [List.nil_append, Nat.zero_add] at ho'
  have hE : Ext w w' := e1.grown hg' (by simp)
  have hbl : BL w' A' c' bs := BL.of_own ho' hrng
  go_ret
  exact ⟨w'.heap.size, A', c', rfl, ⟨⟨0, 0, Blk.new _ _ _, Nat.zero_le _, .inr ⟨rfl, rfl⟩⟩, hbl.ext (Ext.alloc _ _), fun _ e => by have := (OwnS.blt ho' e).1; omega⟩, hE.trans (Ext.alloc _ _), hE.size, OwnS.row ho'⟩

set_option maxHeartbeats 2000000 in
theorem rdEnd_any (g : Nat) (A : Option Addr) (c : Nat) (bs : List Int) (st : Option (List Int)) (w : World) (hR : RdAt w g A c bs st) :
    Calls Try.prog 58 #[.pointer (some ⟨g, 0, none⟩)] w (fun e w' => ∃ k : Int, e = .returned (.int .i64 k) ∧ (k = 0 ↔ st = some []) ∧ Ext w w') := by
  obtain ⟨k, wr, hB, hk, hst⟩ := hR.blk
  have hlen := hR.bl.len
  have q0 := hB.c3.1
  have q1 := hB.c3.2.1
  have q2 := hB.c3.2.2.1
  have qz := hB.lt
  rcases hst with ⟨hw, rfl⟩ | ⟨rfl, rfl⟩
  · have hb1 : (wr != 0) = true := by simpa using hw
    have hb2 : (wr == 0) = false := by simpa using hw
    have HW := Lib.hid hw
    clear hw
    go_enter Try.func58, Try.ntmps58
    go_wp2_with fail
    go_ret
    exact ⟨wr, rfl, by simp [HW.out], Ext.rfl' _⟩
  · by_cases hlt : k < bs.length
    · have hI : (k : Int) < bs.length := by omega
      have HD : Hid (bs.drop k ≠ []) := fun h => by have := List.length_drop (i := k) (l := bs); rw [h] at this; simp at this; omega
      go_enter Try.func58, Try.ntmps58
      go_wp2_with (go_quiet (fail))
      go_ret
      exact ⟨2, rfl, by simp; omega, by first | exact Ext.rfl' _ | exact Ext.drewN _ _⟩
    · have hI : ¬ (k : Int) < bs.length := by omega
      have HD : Hid (bs.drop k = []) := List.drop_eq_nil_of_le (by omega)
      go_enter Try.func58, Try.ntmps58
      go_wp2_with (go_quiet (fail))
      go_ret
      exact ⟨0, rfl, by simp; omega, by first | exact Ext.rfl' _ | exact Ext.drewN _ _⟩

attribute [local go_sem ↓] Go.wp_at_zero Go.wp_at_succ

/-- what Uint returns and leaves, from step i on with n read so far -/
def urun (i n : Nat) : Option (List Int) → Nat × Option (List Int)
  | none => (0, none)
  | some bs => match uintP i bs with
    | none => (0, none)
    | some p => (n + p.1 * 2 ^ (7 * i), some p.2)
theorem urun_none (i n : Nat) : urun i n none = (0, none) := rfl
theorem urun_nil (i n : Nat) : urun i n (some []) = (0, none) := rfl
theorem urun_bad (i n : Nat) (b : Int) (r : List Int) (h : (i = 9 ∧ 1 < b) ∨ (0 < i ∧ b = 0)) : urun i n (some (b :: r)) = (0, none) := by
  simp only [urun, uintP, if_pos h]
theorem urun_last (i n : Nat) (b : Int) (r : List Int) (h : ¬ ((i = 9 ∧ 1 < b) ∨ (0 < i ∧ b = 0))) (hb : b < 128) : urun i n (some (b :: r)) = (n + b.toNat * 2 ^ (7 * i), some r) := by
  simp only [urun, uintP, if_neg h, if_pos hb]
theorem urun_more (i n : Nat) (b : Int) (r : List Int) (h : ¬ ((i = 9 ∧ 1 < b) ∨ (0 < i ∧ b = 0))) (hb : ¬ b < 128) : urun i n (some (b :: r)) = urun (i + 1) (n + b.toNat % 128 * 2 ^ (7 * i)) (some r) := by
  simp only [urun, uintP, if_neg h, if_neg hb]
  cases uintP (i + 1) r with
  | none => rfl
  | some p =>
    simp only [Option.map_some]
    have : 2 ^ (7 * (i + 1)) = 128 * 2 ^ (7 * i) := by rw [show 7 * (i + 1) = 7 + 7 * i by omega, Nat.pow_add]
    rw [this]
    congr 1
    rw [Nat.add_mul, Nat.add_assoc]
    congr 1
    congr 1
    rw [Nat.mul_comm 128 p.1, Nat.mul_assoc]

theorem acc_shl (b i : Nat) (hb : b < 128) (hi : i ≤ 9) (h9 : i = 9 → b ≤ 1) : b * 2 ^ (7 * i) < 18446744073709551616 := by
  rcases Nat.lt_or_ge i 9 with h | h
  · calc b * 2 ^ (7 * i) ≤ 127 * 2 ^ (7 * 8) := Nat.mul_le_mul (by omega) (Nat.pow_le_pow_right (by omega) (by omega))
      _ < 18446744073709551616 := by decide
  · have : i = 9 := by omega
    subst this
    have := h9 rfl
    calc b * 2 ^ (7 * 9) ≤ 1 * 2 ^ (7 * 9) := Nat.mul_le_mul_right _ this
      _ < 18446744073709551616 := by decide
theorem acc_or (n b i : Nat) (hn : n < 2 ^ (7 * i)) : n ||| b * 2 ^ (7 * i) = n + b * 2 ^ (7 * i) := by
  rw [Nat.or_comm, nat_join (7 * i) _ _ (by simp) hn, Nat.add_comm]
theorem acc_lt (n b i : Nat) (hn : n < 2 ^ (7 * i)) (hb : b < 128) : n + b * 2 ^ (7 * i) < 2 ^ (7 * (i + 1)) := by
  have : 2 ^ (7 * (i + 1)) = 128 * 2 ^ (7 * i) := by rw [show 7 * (i + 1) = 7 + 7 * i by omega, Nat.pow_add]
  rw [this]
  have : b * 2 ^ (7 * i) ≤ 127 * 2 ^ (7 * i) := Nat.mul_le_mul_right _ (by omega)
  omega
theorem u8_and127 (b : Int) (h : U8 b) : Go.bits .and .u8 b 127 = ((b.toNat % 128 : Nat) : Int) := by
  rw [u8_and b 127 h.1 h.2 (by omega) (by omega)]
  have : (127 : Int).toNat = 127 := rfl
  rw [this, nat_mask7]

theorem octP_none {s : Option (List Int)} {b : Int} (i n : Nat) (h : octP s = (b, none)) : urun i n s = (0, none) := by
  rcases s with _ | _ | ⟨c, r⟩
  · rfl
  · rfl
  · simp [octP] at h
theorem octP_some {s : Option (List Int)} {b : Int} {r : List Int} (h : octP s = (b, some r)) : s = some (b :: r) := by
  rcases s with _ | _ | ⟨c, r⟩
  · simp [octP] at h
  · simp [octP] at h
  · simp [octP] at h; simp [h]
theorem RdAt.u8 {w : World} {g : Nat} {A : Option Addr} {c : Nat} {bs r : List Int} (h : RdAt w g A c bs (some r)) : ∀ b ∈ r, U8 b := by
  obtain ⟨k, wr, _, _, hst⟩ := h.blk
  rcases hst with ⟨_, h2⟩ | ⟨_, h2⟩
  · cases h2
  · injection h2 with h2
    subst h2
    exact fun b hb => h.bl.rng b (List.mem_of_mem_drop hb)

theorem acc_code (n i : Nat) (b : Int) (hb : U8 b) (hn : n < 2 ^ (7 * i)) (hi : i ≤ 9) (h9 : i = 9 → b ≤ 1) : Go.bits .or .u64 (n : Int) (IntKind.u64.wrap (max b 0 % 128 * 2 ^ (7 * i))) = ((n + b.toNat % 128 * 2 ^ (7 * i) : Nat) : Int) := by
  obtain ⟨h0, h1⟩ := hb
  obtain ⟨m, rfl⟩ : ∃ m : Nat, b = m := ⟨b.toNat, by omega⟩
  have hm : max (m : Int) 0 = (m : Int) := by omega
  have e1 : max (m : Int) 0 % 128 * 2 ^ (7 * i) = ((m % 128 * 2 ^ (7 * i) : Nat) : Int) := by rw [hm]; simp
  have h2 := acc_shl (m % 128) i (by omega) hi (fun h => by have := h9 h; omega)
  have e2 : IntKind.u64.wrap ((m % 128 * 2 ^ (7 * i) : Nat) : Int) = ((m % 128 * 2 ^ (7 * i) : Nat) : Int) := by rw [IntKind.wrap_u64]; omega
  have hn2 : n < 18446744073709551616 := Nat.lt_of_lt_of_le hn (Nat.le_trans (Nat.pow_le_pow_right (by omega) (show 7 * i ≤ 64 by omega)) (by decide))
  rw [e1, e2, u64_or_nat _ _ hn2 h2, acc_or _ _ _ hn, Int.toNat_natCast]

set_option maxRecDepth 100000 in
set_option maxHeartbeats 4000000 in
theorem rdUint_any (g : Nat) (A : Option Addr) (c : Nat) (bs : List Int) (st : Option (List Int)) (w : World) (hR : RdAt w g A c bs st) :
    Calls Try.prog 60 #[.pointer (some ⟨g, 0, none⟩)] w (RetRd g A c bs (.int .u64 (urun 0 0 st).1) (urun 0 0 st).2 w) := by
  obtain ⟨fin, hfin⟩ : ∃ fin, fin = urun 0 0 st := ⟨_, rfl⟩
  rw [← hfin]
  have HF := Lib.hid hfin
  clear hfin
  go_enter Try.func60, Try.ntmps60
  go_wp2_with fail
  go_loopw [3, 6] (fun v3 v6 wr => ∃ (i n : Nat) (s : Option (List Int)), v3 = .int .u64 n ∧ v6 = .int .i64 i ∧ i ≤ 9 ∧ Hid (n < 2 ^ (7 * i)) ∧ Hid (fin = urun i n s) ∧ RdAt wr g A c bs s ∧ KpP (· = g) w wr) (fun _ v _ => 10 - (intOf v).toNat)
  case atStart => exact ⟨0, 0, st, rfl, rfl, by omega, (show (0 : Nat) < 2 ^ (7 * 0) by decide), HF, hR, KpP.refl _ _⟩
  case round =>
    clear hR HF
    obtain ⟨i, n, s, rfl, rfl, hi, hn, he, hR1, hk1⟩ := hrel
    have hI : (i : Int) < 10 := by omega
    go_wp2_with fail
    refine (octet_any g A c bs s _ hR1).mono ?_
    rintro e w2 ⟨rfl, hR2, hk2⟩
    have hk := hk1.trans hk2
    have hRs := hR1
    clear hk1 hk2 hR1
    obtain ⟨b, s2, ho⟩ : ∃ b s2, octP s = (b, s2) := ⟨_, _, rfl⟩
    rw [ho] at hR2
    rw [ho]
    simp only at hR2
    obtain ⟨k, wg, hB, hkl, hst⟩ := hR2.blk
    have q2 := hB.c3.2.2.1
    have q2f := hB.c3.2.2.2.2.2.1
    have qz := hB.lt
    rcases s2 with _ | r
    · have hu := Lib.hid (octP_none i n ho)
      have hw : wg ≠ 0 := by
        rcases hst with ⟨h, _⟩ | ⟨_, h⟩
        · exact h
        · cases h
      have hb1 : (wg != 0) = true := by simpa using hw
      have hb2 : (wg == 0) = false := by simpa using hw
      clear hw hst ho
      go_wp2_with fail
      go_ret
      have h1 := he.out
      rw [hu.out] at h1
      subst h1
      exact ⟨rfl, hR2, hk⟩
    · have hsb := octP_some ho
      subst hsb
      have hub := hRs.u8 b (by simp)
      have hw : wg = 0 := by
        rcases hst with ⟨_, h⟩ | ⟨h, _⟩
        · cases h
        · exact h
      subst hw
      obtain ⟨hb0, hb256⟩ := hub
      clear hst ho hRs
      have HS := Lib.hid (hR2.set2 hB hkl (e := 2) (by omega))
      by_cases hbad : (i = 9 ∧ 1 < b) ∨ (0 < i ∧ b = 0)
      · by_cases h1b : 1 < b
        · have g1 : ((i : Int) == 9) = true := by simp; omega
          have g2 : b > 1 := h1b
          go_wp2_with fail
          go_ret
          have h1 := he.out
          rw [urun_bad i n b r hbad] at h1
          subst h1
          obtain ⟨hS1, hS2⟩ := HS.out
          exact ⟨rfl, hS1, hk.trans hS2⟩
        · by_cases h9 : i = 9
          · have g1 : ((i : Int) == 9) = true := by simp; omega
            have g2 : ¬ b > 1 := h1b
            have g3 : (i : Int) > 0 := by omega
            have g4 : (b == 0) = true := by simp; omega
            go_wp2_with fail
            go_ret
            have h1 := he.out
            rw [urun_bad i n b r hbad] at h1
            subst h1
            obtain ⟨hS1, hS2⟩ := HS.out
            exact ⟨rfl, hS1, hk.trans hS2⟩
          · have g1 : ((i : Int) == 9) = false := by simp; omega
            have g3 : (i : Int) > 0 := by omega
            have g4 : (b == 0) = true := by simp; omega
            go_wp2_with fail
            go_ret
            have h1 := he.out
            rw [urun_bad i n b r hbad] at h1
            subst h1
            obtain ⟨hS1, hS2⟩ := HS.out
            exact ⟨rfl, hS1, hk.trans hS2⟩
      · have h127 := u8_and127 b ⟨hb0, hb256⟩
        have HA := Lib.hid (acc_code n i b ⟨hb0, hb256⟩ hn.out hi (fun h9 => by omega))
        by_cases h9 : i = 9
        · have g1 : ((i : Int) == 9) = true := by simp; omega
          have g2 : ¬ b > 1 := by omega
          have g3 : (i : Int) > 0 := by omega
          have g4 : (b == 0) = false := by simp; omega
          have hlt : b < 128 := by omega
          have h2 := HA.out
          have h3 : b.toNat % 128 = b.toNat := by omega
          rw [h3] at h2
          have H2 := Lib.hid h2
          have H9 := Lib.hid h9
          clear h2 h3 h9
          go_wp2_with fail
          go_ret
          have h1 := he.out
          rw [urun_last i n b r hbad hlt] at h1
          subst h1
          refine ⟨?_, hR2, hk⟩
          show Ending.returned (Value.int .u64 _) = _
          rw [H2.out]
        · have g1 : ((i : Int) == 9) = false := by simp; omega
          by_cases hi0 : i = 0
          · have g3 : ¬ (i : Int) > 0 := by omega
            have HI0 := Lib.hid hi0
            clear hi0
            by_cases hlt : b < 128
            · go_wp2_with fail
              go_ret
              have h1 := he.out
              rw [urun_last i n b r hbad hlt] at h1
              subst h1
              have h2 := HA.out
              have h3 : b.toNat % 128 = b.toNat := by omega
              rw [h3] at h2
              refine ⟨?_, hR2, hk⟩
              show Ending.returned (Value.int .u64 _) = _
              rw [h2]
            · have h1 := he.out
              rw [urun_more i n b r hbad hlt] at h1
              have H1 := Lib.hid h1
              clear h1
              go_wp2_with fail
              go_roundw
              case rel => exact ⟨i + 1, n + b.toNat % 128 * 2 ^ (7 * i), some r, by rw [HA.out], by go_num, by omega, acc_lt n _ i hn.out (by omega), H1, hR2, hk⟩
              case measure => simp [intOf]; omega
          · have g3 : (i : Int) > 0 := by omega
            have g4 : (b == 0) = false := by simp; omega
            by_cases hlt : b < 128
            · go_wp2_with fail
              go_ret
              have h1 := he.out
              rw [urun_last i n b r hbad hlt] at h1
              subst h1
              have h2 := HA.out
              have h3 : b.toNat % 128 = b.toNat := by omega
              rw [h3] at h2
              refine ⟨?_, hR2, hk⟩
              show Ending.returned (Value.int .u64 _) = _
              rw [h2]
            · have h1 := he.out
              rw [urun_more i n b r hbad hlt] at h1
              have H1 := Lib.hid h1
              clear h1
              go_wp2_with fail
              go_roundw
              case rel => exact ⟨i + 1, n + b.toNat % 128 * 2 ^ (7 * i), some r, by rw [HA.out], by go_num, by omega, acc_lt n _ i hn.out (by omega), H1, hR2, hk⟩
              case measure => simp [intOf]; omega
attribute [local go_sem ↓] Go.wp_at_zero Go.wp_at_succ

def irun (st : Option (List Int)) : Int × Option (List Int) := (unzig (urun 0 0 st).1, (urun 0 0 st).2)
theorem urun_lt {w : World} {g : Nat} {A : Option Addr} {c : Nat} {bs : List Int} {st : Option (List Int)} (h : RdAt w g A c bs st) : (urun 0 0 st).1 < 18446744073709551616 := by
  rcases st with _ | r
  · simp [urun]
  · have hu := h.u8
    simp only [urun]
    cases hp : uintP 0 r with
    | none => simp
    | some p =>
      obtain ⟨n, s⟩ := p
      have := (uintP_inv r 0 n s (by omega) hu hp).2.1
      simp at this ⊢; omega

theorem xor_i64_comm (a b : Int) : Go.bits .xor .i64 a b = Go.bits .xor .i64 b a := by
  show IntKind.i64.wrap ((BitVec.ofInt 64 a ^^^ BitVec.ofInt 64 b).toNat : Int) = IntKind.i64.wrap ((BitVec.ofInt 64 b ^^^ BitVec.ofInt 64 a).toNat : Int)
  rw [BitVec.xor_comm]
theorem xor_i64_zero (a : Nat) (h : a < 9223372036854775808) : Go.bits .xor .i64 (a : Int) 0 = (a : Int) := by
  show IntKind.i64.wrap ((BitVec.ofInt 64 (a : Int) ^^^ BitVec.ofInt 64 0).toNat : Int) = _
  have h1 : (BitVec.ofInt 64 (0 : Int)) = 0#64 := by decide
  have h2 : (BitVec.ofInt 64 (a : Int)).toNat = a := by
    rw [BitVec.ofInt_natCast, BitVec.toNat_ofNat]; exact Nat.mod_eq_of_lt (by omega)
  rw [h1, BitVec.xor_zero, h2, IntKind.wrap_i64]; omega
theorem unz_code (n : Nat) (h : n < 18446744073709551616) : Go.bits .xor .i64 ((n : Int) / 2) (wrap64 (-wrap64 (Go.bits .and .u64 (n : Int) 1))) = unzig n := by
  have h1 := Lib.u64_and1 (n : Int) (by omega) (by omega)
  rw [h1]
  have e : (n : Int) / 2 = ((n / 2 : Nat) : Int) := by omega
  rw [e]
  unfold unzig
  by_cases h2 : n % 2 = 0
  · have h3 : (n : Int) % 2 = 0 := by omega
    rw [h3, if_pos h2]
    have h4 : wrap64 (-wrap64 0) = 0 := by simp [wrap64]
    rw [h4, xor_i64_zero _ (by omega)]
  · have h3 : (n : Int) % 2 = 1 := by omega
    rw [h3, if_neg h2]
    have h4 : wrap64 (-wrap64 1) = -1 := by simp [wrap64]
    rw [h4, xor_i64_comm, Lib.i64_not _ (by omega)]

set_option maxRecDepth 100000 in
set_option maxHeartbeats 4000000 in
theorem rdInt_any (g : Nat) (A : Option Addr) (c : Nat) (bs : List Int) (st : Option (List Int)) (w : World) (hR : RdAt w g A c bs st) :
    Calls Try.prog 37 #[.pointer (some ⟨g, 0, none⟩)] w (RetRd g A c bs (.int .i64 (irun st).1) (irun st).2 w) := by
  have hlt := urun_lt hR
  have HU := Lib.hid (rdUint_any g A c bs st w hR)
  obtain ⟨n, s, hn⟩ : ∃ n s, urun 0 0 st = (n, s) := ⟨_, _, rfl⟩
  unfold irun
  rw [hn] at HU hlt ⊢
  simp only at HU hlt ⊢
  clear hn hR
  have HZ := Lib.hid (unz_code n hlt)
  go_enter Try.func37, Try.ntmps37
  go_wp2_with fail
  refine HU.out.mono ?_
  rintro e w1 ⟨rfl, hR1, hk1⟩
  clear HU
  go_wp2_with fail
  go_ret
  refine ⟨?_, hR1, hk1⟩
  show Ending.returned (Value.int .i64 _) = _
  rw [HZ.out]

/-! ### lists -/
end Go.Proofs.Ytlbdjnbcoldjhaa
