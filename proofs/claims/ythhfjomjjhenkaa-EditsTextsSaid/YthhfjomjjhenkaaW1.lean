/- The plain law of package wire: varints, zigzag, lists of numbers; reading leads back, and only what was written is read. No program in sight. -/
import Derived.Test.YthhfjomjjhenkaaBase
import Derived.Lib.Zigzag
import Derived.Laws.BitsAllLaws
namespace Go.Proofs.Ythhfjomjjhenkaa
open Go.RowKit

/-- a byte -/
def U8 (b : Int) : Prop := 0 ≤ b ∧ b < 256

/-- the varint of a number -/
def venc (n : Nat) : List Int := if h : n < 128 then [(n : Int)] else ((n % 128 + 128 : Nat) : Int) :: venc (n / 128)
termination_by n
decreasing_by omega

theorem venc_small {n : Nat} (h : n < 128) : venc n = [(n : Int)] := by rw [venc, dif_pos h]
theorem venc_big {n : Nat} (h : ¬ n < 128) : venc n = ((n % 128 + 128 : Nat) : Int) :: venc (n / 128) := by rw [venc, dif_neg h]
theorem venc_u8 (n : Nat) : ∀ b ∈ venc n, U8 b := by
  induction n using Nat.strongRecOn with
  | _ n ih =>
    intro b hb
    by_cases h : n < 128
    · rw [venc_small h] at hb
      obtain rfl := List.mem_singleton.1 hb
      unfold U8; omega
    · rw [venc_big h] at hb
      rcases List.mem_cons.1 hb with rfl | hb
      · unfold U8; omega
      · exact ih (n / 128) (by omega) b hb
theorem venc_len : ∀ (k n : Nat), n < 128 ^ (k + 1) → (venc n).length ≤ k + 1
  | 0, n, h => by rw [venc_small (by simpa using h)]; simp
  | k + 1, n, h => by
    by_cases hn : n < 128
    · rw [venc_small hn]; simp
    · rw [venc_big hn]
      have : n / 128 < 128 ^ (k + 1) := by
        rw [Nat.div_lt_iff_lt_mul (by omega)]; rw [Nat.pow_succ] at h; exact h
      have := venc_len k (n / 128) this
      simp only [List.length_cons]; omega
theorem venc_len10 {n : Nat} (h : n < 18446744073709551616) : (venc n).length ≤ 10 := venc_len 9 n (Nat.lt_of_lt_of_le h (by decide))
theorem venc_pos (n : Nat) : 1 ≤ (venc n).length := by
  by_cases h : n < 128
  · rw [venc_small h]; simp
  · rw [venc_big h]; simp

/-- what (*Reader).Uint reads from the bytes that are left: the number and what is left then -/
def uintP : Nat → List Int → Option (Nat × List Int)
  | _, [] => none
  | i, b :: bs => if (i = 9 ∧ 1 < b) ∨ (0 < i ∧ b = 0) then none else if b < 128 then some (b.toNat, bs) else (uintP (i + 1) bs).map fun p => (b.toNat % 128 + 128 * p.1, p.2)

theorem pow_step (i : Nat) (h : i < 9) : 2 ^ (64 - 7 * i) = 128 * 2 ^ (64 - 7 * (i + 1)) := by
  have : 64 - 7 * i = 7 + (64 - 7 * (i + 1)) := by omega
  rw [this, Nat.pow_add]

theorem uintP_venc : ∀ (n i : Nat) (r : List Int), i ≤ 9 → n < 2 ^ (64 - 7 * i) → (0 < i → 0 < n) → uintP i (venc n ++ r) = some (n, r) := by
  intro n
  induction n using Nat.strongRecOn with
  | _ n ih =>
    intro i r hi hn hp
    by_cases h : n < 128
    · rw [venc_small h]
      simp only [List.singleton_append, uintP]
      rw [if_neg, if_pos (by omega)]
      · simp
      · rintro (⟨rfl, h1⟩ | ⟨h1, h2⟩)
        · simp at hn; omega
        · have := hp h1; omega
    · have hi9 : i < 9 := by
        rcases Nat.lt_or_ge i 9 with h9 | h9
        · exact h9
        · have : i = 9 := by omega
          subst this; simp at hn; omega
      rw [venc_big h]
      simp only [List.cons_append, uintP]
      have hq : n / 128 < 2 ^ (64 - 7 * (i + 1)) := by
        rw [Nat.div_lt_iff_lt_mul (by omega), Nat.mul_comm, ← pow_step i hi9]; exact hn
      rw [if_neg, if_neg (by omega), ih (n / 128) (by omega) (i + 1) r (by omega) hq (fun _ => by omega)]
      · simp only [Option.map_some, Option.some.injEq, Prod.mk.injEq, and_true]
        have : (((n % 128 + 128 : Nat) : Int)).toNat = n % 128 + 128 := by omega
        rw [this]; omega
      · rintro (⟨h1, _⟩ | ⟨_, h2⟩) <;> omega

theorem uintP_inv : ∀ (bs : List Int) (i n : Nat) (r : List Int), i ≤ 9 → (∀ b ∈ bs, U8 b) → uintP i bs = some (n, r) → bs = venc n ++ r ∧ n < 2 ^ (64 - 7 * i) ∧ (0 < i → 0 < n)
  | [], i, n, r, _, _, h => by simp [uintP] at h
  | b :: bs, i, n, r, hi, hu, h => by
    have hb := hu b (by simp)
    unfold U8 at hb
    rw [uintP] at h
    split at h
    · cases h
    rename_i hno
    split at h
    · rename_i hlt
      injection h with h; injection h with h1 h2
      subst h1 h2
      have e : ((b.toNat : Nat) : Int) = b := by omega
      refine ⟨?_, ?_, fun h0 => ?_⟩
      · rw [venc_small (by omega), e]; rfl
      · rcases Nat.lt_or_ge i 9 with h9 | h9
        · have := pow_step i h9
          have h2 : 1 ≤ 2 ^ (64 - 7 * (i + 1)) := Nat.one_le_two_pow
          omega
        · have : i = 9 := by omega
          subst this
          have : ¬ 1 < b := fun h1 => hno (.inl ⟨rfl, h1⟩)
          simp; omega
      · have : b ≠ 0 := fun e => hno (.inr ⟨h0, e⟩)
        omega
    · rename_i hge
      have hi9 : i < 9 := by
        rcases Nat.lt_or_ge i 9 with h9 | h9
        · exact h9
        · exact absurd (.inl ⟨by omega, by omega⟩) hno
      rw [Option.map_eq_some_iff] at h
      obtain ⟨⟨m, s⟩, hm, he⟩ := h
      injection he with h1 h2
      simp only at h1 h2
      subst h2
      obtain ⟨h3, h4, h5⟩ := uintP_inv bs (i + 1) m s (by omega) (fun x hx => hu x (by simp [hx])) hm
      have hm0 := h5 (by omega)
      have hp := pow_step i hi9
      refine ⟨?_, by omega, fun _ => by omega⟩
      rw [venc_big (by omega), List.cons_append, h3]
      congr 1
      · omega
      · have : n / 128 = m := by omega
        rw [this]

theorem uintP_len : ∀ (bs : List Int) (i n : Nat) (r : List Int), uintP i bs = some (n, r) → ∃ k, 0 < k ∧ k ≤ bs.length ∧ r = bs.drop k
  | [], i, n, r, h => by simp [uintP] at h
  | b :: bs, i, n, r, h => by
    rw [uintP] at h
    split at h
    · cases h
    split at h
    · injection h with h; injection h with h1 h2
      exact ⟨1, by omega, by simp, by simp [h2]⟩
    · rw [Option.map_eq_some_iff] at h
      obtain ⟨⟨m, s⟩, hm, he⟩ := h
      injection he with h1 h2
      simp only at h2
      subst h2
      obtain ⟨k, hk, hk2, rfl⟩ := uintP_len bs (i + 1) m s hm
      exact ⟨k + 1, by omega, by simp; omega, by simp⟩

/-! ### signed numbers -/
def unzig (n : Nat) : Int := if n % 2 = 0 then ((n / 2 : Nat) : Int) else -((n / 2 : Nat) : Int) - 1
theorem unzig_zig (x : Int) : unzig (Lib.zigzag x) = x := by
  unfold unzig Lib.zigzag
  by_cases h : 0 ≤ x
  · rw [if_pos h]
    rw [if_pos (by omega)]; omega
  · rw [if_neg h]
    rw [if_neg (by omega)]; omega
theorem zig_unzig (n : Nat) : Lib.zigzag (unzig n) = n := by
  unfold unzig Lib.zigzag
  by_cases h : n % 2 = 0
  · rw [if_pos h, if_pos (by omega)]; omega
  · rw [if_neg h, if_neg (by omega)]; omega
theorem unzig_i64 {n : Nat} (h : n < 18446744073709551616) : I64 (unzig n) := by
  unfold unzig I64
  split <;> omega

def ienc (x : Int) : List Int := venc (Lib.zigzag x)
theorem ienc_u8 (x : Int) : ∀ b ∈ ienc x, U8 b := venc_u8 _
def iencs (l : List Int) : List Int := l.flatMap ienc
/-- the bytes of a list of numbers -/
def lenc (l : List Int) : List Int := venc l.length ++ iencs l
theorem iencs_append (l m : List Int) : iencs (l ++ m) = iencs l ++ iencs m := by simp [iencs]
theorem iencs_u8 (l : List Int) : ∀ b ∈ iencs l, U8 b := fun b hb => by
  obtain ⟨x, _, hx⟩ := List.mem_flatMap.1 hb
  exact ienc_u8 x b hx
theorem iencs_len (l : List Int) : l.length ≤ (iencs l).length := by
  induction l with
  | nil => simp [iencs]
  | cons x l ih =>
    have := venc_pos (Lib.zigzag x)
    simp only [iencs, List.flatMap_cons, List.length_append, List.length_cons, ienc] at *
    omega
theorem ienc_len10 {x : Int} (h : I64 x) : (ienc x).length ≤ 10 := venc_len10 (Lib.zigzag_lt h.1 h.2)
theorem iencs_len10 {l : List Int} (h : ∀ x ∈ l, I64 x) : (iencs l).length ≤ 10 * l.length := by
  induction l with
  | nil => simp [iencs]
  | cons x l ih =>
    have h1 := ienc_len10 (h x (by simp))
    have h2 := ih (fun y hy => h y (by simp [hy]))
    simp only [iencs, List.flatMap_cons, List.length_append, List.length_cons] at *
    omega

def intP (bs : List Int) : Option (Int × List Int) := (uintP 0 bs).map fun p => (unzig p.1, p.2)
theorem intP_ienc {x : Int} (h : I64 x) (r : List Int) : intP (ienc x ++ r) = some (x, r) := by
  unfold intP ienc
  rw [uintP_venc _ 0 r (by omega) (by have := Lib.zigzag_lt h.1 h.2; simpa using this) (fun h => by omega)]
  simp [unzig_zig]
theorem intP_inv {bs : List Int} {x : Int} {r : List Int} (hu : ∀ b ∈ bs, U8 b) (h : intP bs = some (x, r)) : bs = ienc x ++ r ∧ I64 x := by
  unfold intP at h
  rw [Option.map_eq_some_iff] at h
  obtain ⟨⟨n, s⟩, hm, he⟩ := h
  injection he with h1 h2
  simp only at h1 h2
  subst h1 h2
  obtain ⟨h3, h4, _⟩ := uintP_inv bs 0 n s (by omega) hu hm
  refine ⟨?_, unzig_i64 (by simpa using h4)⟩
  unfold ienc; rw [zig_unzig]; exact h3

/-- so many numbers -/
def intsP : Nat → List Int → Option (List Int × List Int)
  | 0, bs => some ([], bs)
  | k + 1, bs => (intP bs).bind fun p => (intsP k p.2).map fun q => (p.1 :: q.1, q.2)
theorem intsP_iencs : ∀ (l : List Int) (r : List Int), (∀ x ∈ l, I64 x) → intsP l.length (iencs l ++ r) = some (l, r)
  | [], r, _ => by simp [intsP, iencs]
  | x :: l, r, h => by
    have e : iencs (x :: l) ++ r = ienc x ++ (iencs l ++ r) := by simp [iencs]
    simp only [List.length_cons, intsP]
    rw [e, intP_ienc (h x (by simp)), Option.bind_some, intsP_iencs l r (fun y hy => h y (by simp [hy]))]
    rfl
theorem intsP_inv : ∀ (k : Nat) (bs : List Int) (l r : List Int), (∀ b ∈ bs, U8 b) → intsP k bs = some (l, r) → bs = iencs l ++ r ∧ l.length = k ∧ ∀ x ∈ l, I64 x
  | 0, bs, l, r, _, h => by
    simp only [intsP, Option.some.injEq, Prod.mk.injEq] at h
    obtain ⟨rfl, rfl⟩ := h
    simp [iencs]
  | k + 1, bs, l, r, hu, h => by
    simp only [intsP, Option.bind_eq_some_iff, Option.map_eq_some_iff] at h
    obtain ⟨⟨x, s⟩, hx, ⟨l2, r2⟩, hl, he⟩ := h
    injection he with h1 h2
    simp only at h1 h2 hl
    subst h1 h2
    obtain ⟨h3, h4⟩ := intP_inv hu hx
    subst h3
    obtain ⟨h5, h6, h7⟩ := intsP_inv k s l2 r2 (fun b hb => hu b (by simp [hb])) hl
    subst h5
    refine ⟨by simp [iencs], by simp [h6], fun y hy => ?_⟩
    rcases List.mem_cons.1 hy with rfl | hy
    · exact h4
    · exact h7 y hy

/-- a list of numbers: its length, at most as many as bytes are left, and these -/
def listP (bs : List Int) : Option (List Int × List Int) := (uintP 0 bs).bind fun p => if p.2.length < p.1 then none else intsP p.1 p.2
theorem listP_lenc {l : List Int} (h : ∀ x ∈ l, I64 x) (hl : l.length ≤ 1099511627776) (r : List Int) : listP (lenc l ++ r) = some (l, r) := by
  unfold listP lenc
  rw [List.append_assoc, uintP_venc _ 0 _ (by omega) (by simp; omega) (fun h => by omega), Option.bind_some]
  have := iencs_len l
  simp only
  rw [if_neg (by simp; omega)]
  exact intsP_iencs l r h
theorem listP_inv {bs l r : List Int} (hu : ∀ b ∈ bs, U8 b) (h : listP bs = some (l, r)) : bs = lenc l ++ r ∧ ∀ x ∈ l, I64 x := by
  unfold listP at h
  rw [Option.bind_eq_some_iff] at h
  obtain ⟨⟨n, s⟩, hn, hs⟩ := h
  simp only at hs
  split at hs
  · cases hs
  obtain ⟨h3, _, _⟩ := uintP_inv bs 0 n s (by omega) hu hn
  subst h3
  obtain ⟨h5, h6, h7⟩ := intsP_inv n s l r (fun b hb => hu b (by simp [hb])) hs
  subst h5 h6
  exact ⟨by simp [lenc], h7⟩
end Go.Proofs.Ythhfjomjjhenkaa
