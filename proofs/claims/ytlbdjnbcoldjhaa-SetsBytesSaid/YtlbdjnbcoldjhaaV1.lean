/- Numbers of variable length, bytes in memory, the Writer, and the reference's Int. -/
import Derived.Test.YtlbdjnbcoldjhaaG5
import Derived.Laws.BitsAllLaws
import Derived.Lib.Zigzag
import Derived.Outline
import Derived.Deep.DrawnRows
namespace Go.Proofs.Ytlbdjnbcoldjhaa
open Go.RowKit
def Off (A : Option Addr) (b : Nat) : Prop := A.map (·.block) ≠ some b

/-- a byte -/
def U8 (b : Int) : Prop := 0 ≤ b ∧ b < 256

/-- the varint of a number -/
def venc (n : Nat) : List Int := if h : n < 128 then [(n : Int)] else ((n % 128 + 128 : Nat) : Int) :: venc (n / 128)
termination_by n
decreasing_by omega

theorem venc_small {n : Nat} (h : n < 128) : venc n = [(n : Int)] := by rw [venc, dif_pos h]
theorem venc_big {n : Nat} (h : ¬ n < 128) : venc n = ((n % 128 + 128 : Nat) : Int) :: venc (n / 128) := by rw [venc, dif_neg h]
theorem venc_u8 (n : Nat) : ∀ b ∈ venc n, U8 b := by
  induction n using Nat.strongRecOn with
  | _ n ih =>
    intro b hb
    by_cases h : n < 128
    · rw [venc_small h] at hb
      obtain rfl := List.mem_singleton.1 hb
      unfold U8; omega
    · rw [venc_big h] at hb
      rcases List.mem_cons.1 hb with rfl | hb
      · unfold U8; omega
      · exact ih (n / 128) (by omega) b hb
theorem venc_len : ∀ (k n : Nat), n < 128 ^ (k + 1) → (venc n).length ≤ k + 1
  | 0, n, h => by rw [venc_small (by simpa using h)]; simp
  | k + 1, n, h => by
    by_cases hn : n < 128
    · rw [venc_small hn]; simp
    · rw [venc_big hn]
      have : n / 128 < 128 ^ (k + 1) := by
        rw [Nat.div_lt_iff_lt_mul (by omega)]; rw [Nat.pow_succ] at h; exact h
      have := venc_len k (n / 128) this
      simp only [List.length_cons]; omega
theorem venc_len10 {n : Nat} (h : n < 18446744073709551616) : (venc n).length ≤ 10 := venc_len 9 n (Nat.lt_of_lt_of_le h (by decide))
theorem venc_pos (n : Nat) : 1 ≤ (venc n).length := by
  by_cases h : n < 128
  · rw [venc_small h]; simp
  · rw [venc_big h]; simp

/-- what (*Reader).Uint reads from the bytes that are left: the number and what is left then -/
def uintP : Nat → List Int → Option (Nat × List Int)
  | _, [] => none
  | i, b :: bs => if (i = 9 ∧ 1 < b) ∨ (0 < i ∧ b = 0) then none else if b < 128 then some (b.toNat, bs) else (uintP (i + 1) bs).map fun p => (b.toNat % 128 + 128 * p.1, p.2)

theorem pow_step (i : Nat) (h : i < 9) : 2 ^ (64 - 7 * i) = 128 * 2 ^ (64 - 7 * (i + 1)) := by
  have : 64 - 7 * i = 7 + (64 - 7 * (i + 1)) := by omega
  rw [this, Nat.pow_add]

theorem uintP_venc : ∀ (n i : Nat) (r : List Int), i ≤ 9 → n < 2 ^ (64 - 7 * i) → (0 < i → 0 < n) → uintP i (venc n ++ r) = some (n, r) := by
  intro n
  induction n using Nat.strongRecOn with
  | _ n ih =>
    intro i r hi hn hp
    by_cases h : n < 128
    · rw [venc_small h]
      simp only [List.singleton_append, uintP]
      rw [if_neg, if_pos (by omega)]
      · simp
      · rintro (⟨rfl, h1⟩ | ⟨h1, h2⟩)
        · simp at hn; omega
        · have := hp h1; omega
    · have hi9 : i < 9 := by
        rcases Nat.lt_or_ge i 9 with h9 | h9
        · exact h9
        · have : i = 9 := by omega
          subst this; simp at hn; omega
      rw [venc_big h]
      simp only [List.cons_append, uintP]
      have hq : n / 128 < 2 ^ (64 - 7 * (i + 1)) := by
        rw [Nat.div_lt_iff_lt_mul (by omega), Nat.mul_comm, ← pow_step i hi9]; exact hn
      rw [if_neg, if_neg (by omega), ih (n / 128) (by omega) (i + 1) r (by omega) hq (fun _ => by omega)]
      · simp only [Option.map_some, Option.some.injEq, Prod.mk.injEq, and_true]
        have : (((n % 128 + 128 : Nat) : Int)).toNat = n % 128 + 128 := by omega
        rw [this]; omega
      · rintro (⟨h1, _⟩ | ⟨_, h2⟩) <;> omega

theorem uintP_inv : ∀ (bs : List Int) (i n : Nat) (r : List Int), i ≤ 9 → (∀ b ∈ bs, U8 b) → uintP i bs = some (n, r) → bs = venc n ++ r ∧ n < 2 ^ (64 - 7 * i) ∧ (0 < i → 0 < n)
  | [], i, n, r, _, _, h => by simp [uintP] at h
  | b :: bs, i, n, r, hi, hu, h => by
    have hb := hu b (by simp)
    unfold U8 at hb
    rw [uintP] at h
    split at h
    · cases h
    rename_i hno
    split at h
    · rename_i hlt
      injection h with h; injection h with h1 h2
      subst h1 h2
      have e : ((b.toNat : Nat) : Int) = b := by omega
      refine ⟨?_, ?_, fun h0 => ?_⟩
      · rw [venc_small (by omega), e]; rfl
      · rcases Nat.lt_or_ge i 9 with h9 | h9
        · have := pow_step i h9
          have h2 : 1 ≤ 2 ^ (64 - 7 * (i + 1)) := Nat.one_le_two_pow
          omega
        · have : i = 9 := by omega
          subst this
          have : ¬ 1 < b := fun h1 => hno (.inl ⟨rfl, h1⟩)
          simp; omega
      · have : b ≠ 0 := fun e => hno (.inr ⟨h0, e⟩)
        omega
    · rename_i hge
      have hi9 : i < 9 := by
        rcases Nat.lt_or_ge i 9 with h9 | h9
        · exact h9
        · exact absurd (.inl ⟨by omega, by omega⟩) hno
      rw [Option.map_eq_some_iff] at h
      obtain ⟨⟨m, s⟩, hm, he⟩ := h
      injection he with h1 h2
      simp only at h1 h2
      subst h2
      obtain ⟨h3, h4, h5⟩ := uintP_inv bs (i + 1) m s (by omega) (fun x hx => hu x (by simp [hx])) hm
      have hm0 := h5 (by omega)
      have hp := pow_step i hi9
      refine ⟨?_, by omega, fun _ => by omega⟩
      rw [venc_big (by omega), List.cons_append, h3]
      congr 1
      · omega
      · have : n / 128 = m := by omega
        rw [this]

theorem uintP_len : ∀ (bs : List Int) (i n : Nat) (r : List Int), uintP i bs = some (n, r) → ∃ k, 0 < k ∧ k ≤ bs.length ∧ r = bs.drop k
  | [], i, n, r, h => by simp [uintP] at h
  | b :: bs, i, n, r, h => by
    rw [uintP] at h
    split at h
    · cases h
    split at h
    · injection h with h; injection h with h1 h2
      exact ⟨1, by omega, by simp, by simp [h2]⟩
    · rw [Option.map_eq_some_iff] at h
      obtain ⟨⟨m, s⟩, hm, he⟩ := h
      injection he with h1 h2
      simp only at h2
      subst h2
      obtain ⟨k, hk, hk2, rfl⟩ := uintP_len bs (i + 1) m s hm
      exact ⟨k + 1, by omega, by simp; omega, by simp⟩

/-! ### signed numbers -/
def unzig (n : Nat) : Int := if n % 2 = 0 then ((n / 2 : Nat) : Int) else -((n / 2 : Nat) : Int) - 1
theorem unzig_zig (x : Int) : unzig (Lib.zigzag x) = x := by
  unfold unzig Lib.zigzag
  by_cases h : 0 ≤ x
  · rw [if_pos h]
    rw [if_pos (by omega)]; omega
  · rw [if_neg h]
    rw [if_neg (by omega)]; omega
theorem zig_unzig (n : Nat) : Lib.zigzag (unzig n) = n := by
  unfold unzig Lib.zigzag
  by_cases h : n % 2 = 0
  · rw [if_pos h, if_pos (by omega)]; omega
  · rw [if_neg h, if_neg (by omega)]; omega
theorem unzig_i64 {n : Nat} (h : n < 18446744073709551616) : I64 (unzig n) := by
  unfold unzig I64
  split <;> omega

def ienc (x : Int) : List Int := venc (Lib.zigzag x)
theorem ienc_u8 (x : Int) : ∀ b ∈ ienc x, U8 b := venc_u8 _
def iencs (l : List Int) : List Int := l.flatMap ienc
/-- the bytes of a list of numbers -/
def lenc (l : List Int) : List Int := venc l.length ++ iencs l
theorem iencs_append (l m : List Int) : iencs (l ++ m) = iencs l ++ iencs m := by simp [iencs]
theorem iencs_u8 (l : List Int) : ∀ b ∈ iencs l, U8 b := fun b hb => by
  obtain ⟨x, _, hx⟩ := List.mem_flatMap.1 hb
  exact ienc_u8 x b hx
theorem iencs_len (l : List Int) : l.length ≤ (iencs l).length := by
  induction l with
  | nil => simp [iencs]
  | cons x l ih =>
    have := venc_pos (Lib.zigzag x)
    simp only [iencs, List.flatMap_cons, List.length_append, List.length_cons, ienc] at *
    omega
theorem ienc_len10 {x : Int} (h : I64 x) : (ienc x).length ≤ 10 := venc_len10 (Lib.zigzag_lt h.1 h.2)
theorem iencs_len10 {l : List Int} (h : ∀ x ∈ l, I64 x) : (iencs l).length ≤ 10 * l.length := by
  induction l with
  | nil => simp [iencs]
  | cons x l ih =>
    have h1 := ienc_len10 (h x (by simp))
    have h2 := ih (fun y hy => h y (by simp [hy]))
    simp only [iencs, List.flatMap_cons, List.length_append, List.length_cons] at *
    omega

def intP (bs : List Int) : Option (Int × List Int) := (uintP 0 bs).map fun p => (unzig p.1, p.2)
theorem intP_ienc {x : Int} (h : I64 x) (r : List Int) : intP (ienc x ++ r) = some (x, r) := by
  unfold intP ienc
  rw [uintP_venc _ 0 r (by omega) (by have := Lib.zigzag_lt h.1 h.2; simpa using this) (fun h => by omega)]
  simp [unzig_zig]
theorem intP_inv {bs : List Int} {x : Int} {r : List Int} (hu : ∀ b ∈ bs, U8 b) (h : intP bs = some (x, r)) : bs = ienc x ++ r ∧ I64 x := by
  unfold intP at h
  rw [Option.map_eq_some_iff] at h
  obtain ⟨⟨n, s⟩, hm, he⟩ := h
  injection he with h1 h2
  simp only at h1 h2
  subst h1 h2
  obtain ⟨h3, h4, _⟩ := uintP_inv bs 0 n s (by omega) hu hm
  refine ⟨?_, unzig_i64 (by simpa using h4)⟩
  unfold ienc; rw [zig_unzig]; exact h3

/-- so many numbers -/
def intsP : Nat → List Int → Option (List Int × List Int)
  | 0, bs => some ([], bs)
  | k + 1, bs => (intP bs).bind fun p => (intsP k p.2).map fun q => (p.1 :: q.1, q.2)
theorem intsP_iencs : ∀ (l : List Int) (r : List Int), (∀ x ∈ l, I64 x) → intsP l.length (iencs l ++ r) = some (l, r)
  | [], r, _ => by simp [intsP, iencs]
  | x :: l, r, h => by
    have e : iencs (x :: l) ++ r = ienc x ++ (iencs l ++ r) := by simp [iencs]
    simp only [List.length_cons, intsP]
    rw [e, intP_ienc (h x (by simp)), Option.bind_some, intsP_iencs l r (fun y hy => h y (by simp [hy]))]
    rfl
theorem intsP_inv : ∀ (k : Nat) (bs : List Int) (l r : List Int), (∀ b ∈ bs, U8 b) → intsP k bs = some (l, r) → bs = iencs l ++ r ∧ l.length = k ∧ ∀ x ∈ l, I64 x
  | 0, bs, l, r, _, h => by
    simp only [intsP, Option.some.injEq, Prod.mk.injEq] at h
    obtain ⟨rfl, rfl⟩ := h
    simp [iencs]
  | k + 1, bs, l, r, hu, h => by
    simp only [intsP, Option.bind_eq_some_iff, Option.map_eq_some_iff] at h
    obtain ⟨⟨x, s⟩, hx, ⟨l2, r2⟩, hl, he⟩ := h
    injection he with h1 h2
    simp only at h1 h2 hl
    subst h1 h2
    obtain ⟨h3, h4⟩ := intP_inv hu hx
    subst h3
    obtain ⟨h5, h6, h7⟩ := intsP_inv k s l2 r2 (fun b hb => hu b (by simp [hb])) hl
    subst h5
    refine ⟨by simp [iencs], by simp [h6], fun y hy => ?_⟩
    rcases List.mem_cons.1 hy with rfl | hy
    · exact h4
    · exact h7 y hy

/-- a list of numbers: its length, at most as many as bytes are left, and these -/
def listP (bs : List Int) : Option (List Int × List Int) := (uintP 0 bs).bind fun p => if p.2.length < p.1 then none else intsP p.1 p.2
theorem listP_lenc {l : List Int} (h : ∀ x ∈ l, I64 x) (hl : l.length ≤ 1099511627776) (r : List Int) : listP (lenc l ++ r) = some (l, r) := by
  unfold listP lenc
  rw [List.append_assoc, uintP_venc _ 0 _ (by omega) (by simp; omega) (fun h => by omega), Option.bind_some]
  have := iencs_len l
  simp only
  rw [if_neg (by simp; omega)]
  exact intsP_iencs l r h
theorem listP_inv {bs l r : List Int} (hu : ∀ b ∈ bs, U8 b) (h : listP bs = some (l, r)) : bs = lenc l ++ r ∧ ∀ x ∈ l, I64 x := by
  unfold listP at h
  rw [Option.bind_eq_some_iff] at h
  obtain ⟨⟨n, s⟩, hn, hs⟩ := h
  simp only at hs
  split at hs
  · cases hs
  obtain ⟨h3, _, _⟩ := uintP_inv bs 0 n s (by omega) hu hn
  subst h3
  obtain ⟨h5, h6, h7⟩ := intsP_inv n s l r (fun b hb => hu b (by simp [hb])) hs
  subst h5 h6
  exact ⟨by simp [lenc], h7⟩
attribute [local go_sem ↓] Go.wp_at_zero Go.wp_at_succ

/-- bytes in memory -/
structure BL (w : World) (A : Option Addr) (c : Nat) (bs : List Int) : Prop where
  le : bs.length ≤ c
  cap : c ≤ maxLen
  rng : ∀ x ∈ bs, U8 x
  at_ : bs ≠ [] → ∃ b o, A = some ⟨b, o, none⟩ ∧ ∀ i (h : i < bs.length), w.cell? ⟨b, o + i, none⟩ = some (.int .u8 bs[i])

namespace BL
variable {w w' : World} {A : Option Addr} {c : Nat} {bs : List Int}
theorem ext (h : BL w A c bs) (k : Ext w w') : BL w' A c bs := by
  refine ⟨h.le, h.cap, h.rng, fun hn => ?_⟩
  obtain ⟨b, o, rfl, hc⟩ := h.at_ hn
  exact ⟨b, o, rfl, fun i hi => k.cell (hc i hi)⟩
theorem kp {p : Nat → Prop} (h : BL w A c bs) (k : KpP p w w') (hn : bs ≠ [] → ∀ b, A.map (·.block) = some b → ¬ p b) : BL w' A c bs := by
  refine ⟨h.le, h.cap, h.rng, fun hx => ?_⟩
  obtain ⟨b, o, rfl, hc⟩ := h.at_ hx
  refine ⟨b, o, rfl, fun i hi => ?_⟩
  have h1 := hc i hi
  rw [World.cell?_of_block (w := w) (k.block b (World.block_lt_of_cell? _ _ h1) (hn hx b rfl))]; exact h1
theorem blt (h : BL w A c bs) (hx : bs ≠ []) {b : Nat} (hb : A.map (·.block) = some b) : b < w.heap.size := by
  obtain ⟨b', o, rfl, hc⟩ := h.at_ hx
  have : b' = b := by simpa using hb
  subst this
  exact World.block_lt_of_cell? _ _ (hc 0 (List.length_pos_iff.2 hx))
theorem len (h : BL w A c bs) : bs.length ≤ c ∧ c ≤ 9223372036854775807 := ⟨h.le, by have := h.cap; unfold maxLen at this; omega⟩
theorem nil (w : World) : BL w none 0 [] := ⟨Nat.le_refl _, Nat.zero_le _, by simp, fun h => absurd rfl h⟩
theorem get {k : Nat} (h : BL w A c bs) (hk : k < bs.length) : ∃ b o, A = some ⟨b, o, none⟩ ∧ w.cell? ⟨b, o + k, none⟩ = some (.int .u8 bs[k]) := by
  obtain ⟨b, o, rfl, hc⟩ := h.at_ (by intro h0; subst h0; simp at hk)
  exact ⟨b, o, rfl, hc k hk⟩
theorem cells (h : BL w A c bs) : CellsAt w A (bs.map (Value.int .u8)) := by
  intro hn
  obtain ⟨b, o, rfl, hc⟩ := h.at_ (by intro h0; subst h0; simp at hn)
  exact ⟨b, o, rfl, fun i hi => by simp only [List.getElem_map]; exact hc i (by simpa using hi)⟩
end BL

/-- a slice of bytes of the call's own -/
def OwnB (w : World) (base : Nat) (A : Option Addr) (c : Nat) (bs : List Int) : Prop := OwnS w base 5 1 A bs.length c (bs.map (Value.int .u8))
theorem bytes_one (xs : List Int) : ∀ u ∈ xs.map (Value.int .u8), u.oneCell' = true := by
  intro u hu
  obtain ⟨_, _, rfl⟩ := List.mem_map.1 hu
  rfl
theorem BL.of_own {w : World} {base : Nat} {A : Option Addr} {c : Nat} {bs : List Int} (h : OwnB w base A c bs) (hr : ∀ x ∈ bs, U8 x) : BL w A c bs := by
  refine ⟨(OwnS.caps h).1, ?_, hr, fun hn => ?_⟩
  · have := (OwnS.caps h).2; unfold maxLen; omega
  · obtain ⟨b, o, rfl, hc⟩ := OwnS.cells h (by simpa using hn)
    exact ⟨b, o, rfl, fun i hi => by have := hc i (by simpa using hi); simpa using this⟩

/-- 'xs = append(xs, v)', one cell, in a plain region -/
theorem wpList_app1V {P : Program} {w1 w : World} {ops : Array Oper} {rest : List Oper} {o : Oper} {a : Act} {Q : Exit → Act → World → Prop} (hgd : o.guard = none) (s x : Operand) (t : Nat)
    (ho : o.op = .call { callee := .builtin .append, args := #[s, x], argTypes := #[t, t] })
    (e : Nat) (i : TypeInfo) (z : Value) (bytes : Nat) (ht : P.underlying t = some (.slice e)) (hi : P.info? e = some i) (hz : i.zero = some z)
    (hsize : i.size = 1) (hby : i.bytes = bytes) (hb8 : bytes ≤ 8) (hzs : z.cells.size = 1)
    (base : Nat) (v : Value) (hv : v.oneCell' = true) (hw : w = w1.alloc (.cells #[v] e))
    (A : Option Addr) (n c : Nat) (xs : List Value) (hs : a.eval s = .slice A n c) (hown : OwnS w1 base e 1 A n c xs)
    (hx : a.eval x = .slice (some ⟨w1.heap.size, 0, none⟩) 1 1) (hb : n ≤ 1099511627776) (hbase : base ≤ w1.heap.size)
    (h : ∀ A' c' w', OwnS w' base e 1 A' (n + 1) c' (xs ++ [v]) → w1.grownBy w' (A.map (·.block)) → (A'.map (·.block) = A.map (·.block) ∨ (A'.map (·.block) = some (w1.heap.size + 1))) → wpList P ops Q rest (a.put o.dst (.slice A' (n + 1) c')) w') : wpList P ops Q (o :: rest) a w := by
  subst hw
  have e1 := Ext.alloc w1 (.cells #[v] e)
  have hc : CellsAt (w1.alloc (.cells #[v] e)) (some ⟨w1.heap.size, 0, none⟩) [v] := fun _ => ⟨_, 0, rfl, fun i hi => by
    have : i = 0 := by simpa using hi
    subst this; simp⟩
  refine wpList_app _ hgd s x t ho base e i z 1 bytes ht hi hz hsize hby hzs (by omega) A n c xs hs (OwnS.ext hown e1) _ 1 1 [v] hx rfl hc
    (by simpa using hv) (by unfold maxLen; omega) (Nat.le_trans (Nat.mul_le_mul_left _ hb8) (by omega)) (by simp; omega) ?_
  intro A' c' w' ho' hg hat
  have hg' : w1.grownBy w' (A.map (·.block)) := ⟨hg.os, hg.tape, hg.output, Nat.le_trans e1.size hg.size, fun k hk hne => (hg.block k (Nat.lt_of_lt_of_le hk e1.size) hne).trans (e1.block k hk)⟩
  exact h A' c' w' ho' hg' (by simpa using hat)

theorem infoB : (Try.prog.info? 5).map (fun i => (i.zero, i.size, i.bytes)) = some (some (.int .u8 0), 1, 1) := by kernel_rfl

/-- the writer in block g has written bs -/
structure WrAt (w : World) (base g : Nat) (A : Option Addr) (c : Nat) (bs : List Int) : Prop where
  blk : Blk w g 82 #[.slice A bs.length c]
  own : OwnB w base A c bs
  lo : base ≤ g
  rng : ∀ b ∈ bs, U8 b
theorem WrAt.ext {w w' : World} {base g : Nat} {A : Option Addr} {c : Nat} {bs : List Int} (h : WrAt w base g A c bs) (x : Ext w w') : WrAt w' base g A c bs := ⟨h.blk.ext x, OwnS.ext h.own x, h.lo, h.rng⟩
theorem WrAt.off {w : World} {base g : Nat} {A : Option Addr} {c : Nat} {bs : List Int} (h : WrAt w base g A c bs) : A.map (·.block) ≠ some g := fun e => by
  obtain ⟨_, cur, hh⟩ := OwnS.blt h.own e
  have := h.blk; unfold Blk at this; rw [this] at hh; injection hh with hh; injection hh with _ h2; revert h2; decide

def wrB (g : Nat) (A : Option Addr) (b : Nat) : Prop := b = g ∨ A.map (·.block) = some b
/-- what a call that writes 'new' leaves -/
def WrOut (base g : Nat) (A : Option Addr) (bs new : List Int) (w w' : World) : Prop :=
  ∃ A' c', WrAt w' base g A' c' (bs ++ new) ∧ KpP (wrB g A) w w' ∧ ∀ b, A'.map (·.block) = some b → A.map (·.block) = some b ∨ w.heap.size ≤ b
def RetWr (base g : Nat) (A : Option Addr) (bs new : List Int) (w : World) (e : Ending) (w' : World) : Prop := e = .returned (.tuple #[]) ∧ WrOut base g A bs new w w'

theorem WrOut.trans {base g : Nat} {A A' : Option Addr} {c' : Nat} {bs new new2 : List Int} {w w1 w2 : World} (hw : WrAt w1 base g A' c' (bs ++ new)) (hk : KpP (wrB g A) w w1) (ha : ∀ b, A'.map (·.block) = some b → A.map (·.block) = some b ∨ w.heap.size ≤ b)
    (h : WrOut base g A' (bs ++ new) new2 w1 w2) : WrOut base g A bs (new ++ new2) w w2 := by
  obtain ⟨A2, c2, h1, h2, h3⟩ := h
  refine ⟨A2, c2, by rw [← List.append_assoc]; exact h1, ⟨h2.os.trans hk.os, h2.tape.trans hk.tape, h2.output.trans hk.output, Nat.le_trans hk.size h2.size, fun k hkl hn => ?_⟩, fun b hb => ?_⟩
  · refine (h2.block k (Nat.lt_of_lt_of_le hkl hk.size) (fun hor => ?_)).trans (hk.block k hkl hn)
    rcases hor with e | e
    · exact hn (.inl e)
    · rcases ha k e with h4 | h4
      · exact hn (.inr h4)
      · omega
  · rcases h3 b hb with h4 | h4
    · exact ha b h4
    · right; have := hk.size; omega
theorem WrOut.extL {base g : Nat} {A : Option Addr} {bs new : List Int} {w w1 w2 : World} (x : Ext w w1) (h : WrOut base g A bs new w1 w2) : WrOut base g A bs new w w2 := by
  obtain ⟨A2, c2, h1, h2, h3⟩ := h
  exact ⟨A2, c2, h1, (KpP.of_ext x).trans h2, fun b hb => (h3 b hb).imp id (fun h => Nat.le_trans x.size h)⟩
theorem WrOut.extR {base g : Nat} {A : Option Addr} {bs new : List Int} {w w1 w2 : World} (h : WrOut base g A bs new w w1) (x : Ext w1 w2) : WrOut base g A bs new w w2 := by
  obtain ⟨A2, c2, h1, h2, h3⟩ := h
  exact ⟨A2, c2, h1.ext x, h2.trans (KpP.of_ext x), h3⟩
theorem WrOut.zero {base g : Nat} {A : Option Addr} {c : Nat} {bs : List Int} {w : World} (h : WrAt w base g A c bs) : WrOut base g A bs [] w w :=
  ⟨A, c, by rw [List.append_nil]; exact h, KpP.refl _ _, fun _ hb => .inl hb⟩

/-- the store behind an append -/
theorem WrAt.put {w w1 : World} {base g : Nat} {A : Option Addr} {c : Nat} {bs new : List Int} (h : WrAt w base g A c bs) {A' : Option Addr} {c' : Nat} (hg : w.grownBy w1 (A.map (·.block)))
    (ho : OwnS w1 base 5 1 A' (bs.length + new.length) c' (bs.map (Value.int .u8) ++ new.map (Value.int .u8))) (hat : A'.map (·.block) = A.map (·.block) ∨ ∃ n, w.heap.size ≤ n ∧ A'.map (·.block) = some n) (hn : ∀ b ∈ new, U8 b) :
    WrOut base g A bs new w (w1.setCell ⟨g, 0, none⟩ (.slice A' (bs.length + new.length) c')) := by
  have kg := KpP.of_grown hg
  have hb1 := kg.blk h.blk h.off
  have hgl := h.blk.lt
  have hA' : A'.map (·.block) ≠ some g := fun e => by
    rcases hat with e2 | ⟨n, hn2, e2⟩
    · exact h.off (e2.symm.trans e)
    · rw [e2] at e; injection e with e; omega
  refine ⟨A', c', ⟨?_, ?_, h.lo, fun b hb => ?_⟩, (kg.mono (fun b hb => .inr hb)).set (.inl (.inl rfl)) _, fun b hb => ?_⟩
  · have := hb1.set 0 (.slice A' (bs.length + new.length) c')
    simp only [List.setIfInBounds_toArray, List.set_cons_zero] at this
    simpa using this
  · have := OwnS.far ho (p := ⟨g, 0, none⟩) hA' (.slice A' (bs.length + new.length) c')
    unfold OwnB
    rw [List.length_append, List.map_append]; exact this
  · rcases List.mem_append.1 hb with hb | hb
    · exact h.rng b hb
    · exact hn b hb
  · rcases hat with e2 | ⟨n, hn2, e2⟩
    · exact .inl (e2.symm.trans hb)
    · rw [e2] at hb; injection hb with hb; right; omega
attribute [local go_sem ↓] Go.wp_at_zero Go.wp_at_succ

theorem u8_low (m : Nat) : IntKind.u8.wrap (m : Int) = ((m % 256 : Nat) : Int) := by rw [IntKind.wrap_u8']; omega
theorem u8_or128 (m : Nat) : Go.bits .or .u8 ((m : Int) % 256) 128 = ((m % 128 + 128 : Nat) : Int) := by
  rw [Lib.u8_or128_any _ (by omega) (by omega)]; omega

set_option maxRecDepth 100000 in
set_option maxHeartbeats 4000000 in
theorem wUint_any (n : Nat) (base g : Nat) (A : Option Addr) (c : Nat) (bs : List Int) (w : World) (hn : n < 18446744073709551616) (hW : WrAt w base g A c bs) (hl : bs.length ≤ 549755813888) :
    Calls Try.prog 70 #[.pointer (some ⟨g, 0, none⟩), .int .u64 n] w (RetWr base g A bs (venc n) w) := by
  obtain ⟨iB, jB0, jB1, jB2, jB3⟩ := info_parts infoB
  have hv10 := venc_len10 hn
  go_enter Try.func70, Try.ntmps70
  go_wp2_with fail
  go_loopw [1] (fun v1 wr => ∃ (m : Nat) (pre : List Int) (A1 : Option Addr) (c1 : Nat), v1 = .int .u64 m ∧ m < 18446744073709551616 ∧ Hid (venc n = pre ++ venc m) ∧ WrAt wr base g A1 c1 (bs ++ pre) ∧ Hid (KpP (wrB g A) w wr ∧ ∀ b, A1.map (·.block) = some b → A.map (·.block) = some b ∨ w.heap.size ≤ b)) (fun v _ => (intOf v).toNat)
  case atStart => exact ⟨n, [], A, c, rfl, hn, rfl, by rw [List.append_nil]; exact hW, KpP.refl _ _, fun b hb => .inl hb⟩
  case round =>
    clear hW
    obtain ⟨m, pre, A1, c1, rfl, hm, he, hW, hk⟩ := hrel
    have hpl : (bs ++ pre).length ≤ 1099511627776 := by
      have := congrArg List.length he.out
      simp only [List.length_append] at *; omega
    have HPL := Lib.hid hpl
    clear hpl
    have HWO := fun (new : List Int) (w2 : World) (hnew : venc n = pre ++ new) (h : WrOut base g A1 (bs ++ pre) new wr w2) => WrOut.trans hW hk.out.1 hk.out.2 h
    have HWP := fun (A2 : Option Addr) (c2 : Nat) (w2 : World) (new : List Int) (hn : ∀ b ∈ new, U8 b) (hg : wr.grownBy w2 (A1.map (·.block))) (ho : OwnS w2 base 5 1 A2 ((bs ++ pre).length + new.length) c2 ((bs ++ pre).map (Value.int .u8) ++ new.map (Value.int .u8)))
      (hat : A2.map (·.block) = A1.map (·.block) ∨ (A2.map (·.block) = some (wr.heap.size + 1))) => Lib.hid (WrOut.trans hW hk.out.1 hk.out.2 (hW.put hg ho (hat.imp id (fun e => ⟨_, Nat.le_succ _, e⟩)) hn))
    generalize bs ++ pre = cur at *
    have hlo := hW.lo
    have p0 := hW.blk.c1.1
    have p0f := hW.blk.c1.2.1
    have p0z := hW.blk.c1.2.2
    have hbase : base ≤ wr.heap.size := by omega
    by_cases hlt : m < 128
    · have hI : ¬ (m : Int) ≥ 128 := by omega
      have hcv := u8_low m
      have hcv2 : m % 256 = m := by omega
      rw [hcv2] at hcv
      clear hcv2
      go_wp2_with ((at_builtin; refine wpList_app1V rfl _ _ _ rfl 5 iB _ 1 Try.underlying53 jB0 jB1 jB2 jB3 (by omega) rfl base (.int .u8 m) rfl rfl A1 cur.length c1 _ rfl hW.own rfl HPL.out hbase ?_; intro A2 c2 w2 ho2 hg2 hat2; have q2 := (KpP.of_grown hg2).blk hW.blk hW.off; have q20 := q2.c1.1; have q21 := q2.c1.2.1; have q22 := q2.c1.2.2))
      have hP := HWP A2 c2 w2 [(m : Int)] (fun b hb => by obtain rfl := List.mem_singleton.1 hb; unfold U8; omega) hg2 ho2 hat2
      have hE : Hid (venc n = pre ++ [(m : Int)]) := by rw [he.out, venc_small hlt]; exact Lib.hid rfl
      clear HWO HWP
      go_end0
      refine ⟨rfl, ?_⟩
      rw [hE.out]; exact hP.out
    · have hI : (m : Int) ≥ 128 := by omega
      have HCV := Lib.hid (u8_or128 m)
      go_wp2_with ((at_builtin; refine wpList_app1V rfl _ _ _ rfl 5 iB _ 1 Try.underlying53 jB0 jB1 jB2 jB3 (by omega) rfl base (.int .u8 (Go.bits .or .u8 ((m : Int) % 256) 128)) rfl rfl A1 cur.length c1 _ rfl hW.own rfl HPL.out hbase ?_; intro A2 c2 w2 ho2 hg2 hat2; have q2 := (KpP.of_grown hg2).blk hW.blk hW.off; have q20 := q2.c1.1; have q21 := q2.c1.2.1; have q22 := q2.c1.2.2))
      rw [HCV.out] at ho2
      have hP := HWP A2 c2 w2 [((m % 128 + 128 : Nat) : Int)] (fun b hb => by obtain rfl := List.mem_singleton.1 hb; unfold U8; omega) hg2 ho2 hat2
      have hE : Hid (venc n = (pre ++ [((m % 128 + 128 : Nat) : Int)]) ++ venc (m / 128)) := by rw [he.out, venc_big hlt]; exact Lib.hid (by simp)
      clear HWO HWP
      obtain ⟨A3, c3, r1, r2, r3⟩ := hP.out
      go_wp2_with fail
      go_roundw
      case rel => exact ⟨m / 128, pre ++ [((m % 128 + 128 : Nat) : Int)], A3, c3, by go_num, by omega, hE, r1, r2, r3⟩
      case measure => simp [intOf]; omega

theorem IL.kpw {w w' : World} {A B : Option Addr} {c g : Nat} {xs : List Int} (h : IL w B c xs) (k : KpP (wrB g A) w w') (hn : xs ≠ [] → ∀ b, B.map (·.block) = some b → b ≠ g ∧ Off A b) : IL w' B c xs :=
  h.kp k (fun hx b hb hor => hor.elim (hn hx b hb).1 (hn hx b hb).2)

theorem zig_code (x : Int) (h : I64 x) : Go.bits .xor .u64 (IntKind.u64.wrap (IntKind.u64.wrap x * 2)) (IntKind.u64.wrap (x / 9223372036854775808)) = ((Lib.zigzag x : Nat) : Int) := by
  obtain ⟨h1, h2⟩ := h
  by_cases h0 : 0 ≤ x
  · have e1 : IntKind.u64.wrap (IntKind.u64.wrap x * 2) = (((2 * x).toNat : Nat) : Int) := by rw [IntKind.wrap_u64, IntKind.wrap_u64]; omega
    have e2 : IntKind.u64.wrap (x / 9223372036854775808) = ((0 : Nat) : Int) := by rw [IntKind.wrap_u64]; omega
    rw [e1, e2, bits_xor_u64_nat _ _ (by omega) (by omega), Nat.xor_zero]
    unfold Lib.zigzag; rw [if_pos h0]
  · have e1 : IntKind.u64.wrap (IntKind.u64.wrap x * 2) = (((2 * x + 18446744073709551616).toNat : Nat) : Int) := by rw [IntKind.wrap_u64, IntKind.wrap_u64]; omega
    have e2 : IntKind.u64.wrap (x / 9223372036854775808) = ((2 ^ 64 - 1 : Nat) : Int) := by rw [IntKind.wrap_u64]; omega
    have e3 := Lib.zigzag_neg h1 (by omega)
    have e4 : IntKind.u64.max = ((2 ^ 64 - 1 : Nat) : Int) := by decide
    rw [e1, e4, bits_xor_u64_nat _ _ (by decide) (by omega)] at e3
    rw [e1, e2, bits_xor_u64_nat _ _ (by omega) (by decide), Nat.xor_comm]
    exact e3

set_option maxRecDepth 100000 in
set_option maxHeartbeats 2000000 in
theorem wInt_any (x : Int) (base g : Nat) (A : Option Addr) (c : Nat) (bs : List Int) (w : World) (hx : I64 x) (hW : WrAt w base g A c bs) (hl : bs.length ≤ 549755813888) :
    Calls Try.prog 56 #[.pointer (some ⟨g, 0, none⟩), .int .i64 x] w (RetWr base g A bs (ienc x) w) := by
  have HU := fun W' h => Lib.hid (wUint_any (Lib.zigzag x) base g A c bs W' (Lib.zigzag_lt hx.1 hx.2) h hl)
  have HZ := Lib.hid (zig_code x hx)
  obtain ⟨h1, h2⟩ := hx
  go_enter Try.func56, Try.ntmps56
  go_wp2_with fail
  rw [HZ.out]
  refine (HU _ hW).out.mono ?_
  rintro e w1 ⟨rfl, hO⟩
  go_wp2
  go_end0
  exact ⟨rfl, hO⟩

set_option maxRecDepth 100000 in
set_option maxHeartbeats 2000000 in
theorem wDone_any (base g : Nat) (A : Option Addr) (c : Nat) (bs : List Int) (w : World) (hW : WrAt w base g A c bs) (hl : bs.length ≤ 1099511627776) :
    Calls Try.prog 57 #[.pointer (some ⟨g, 0, none⟩)] w (fun e w' => ∃ A' c', e = .returned (.slice A' bs.length c') ∧ OwnB w' w.heap.size A' c' bs ∧ Ext w w') := by
  obtain ⟨iB, jB0, jB1, jB2, jB3⟩ := info_parts infoB
  have HB8 := Lib.hid (show 0 + bs.length ≤ maxLen ∧ (0 + bs.length) * 1 ≤ 140737488355328 by unfold maxLen; omega)
  have e1 := Ext.alloc w (.cells #[] 5)
  have hown : OwnS (w.alloc (.cells #[] 5)) w.heap.size 5 1 (some ⟨w.heap.size, 0, none⟩) 0 0 [] :=
    OwnS.of_blk (Blk.new w 5 #[]) (Nat.le_refl _) rfl (Nat.le_refl _) (Nat.zero_le _)
  have hW1 := hW.ext e1
  have hcl := (BL.of_own hW1.own hW.rng).cells
  have q := hW1.blk.c1.1
  have p0 := hW.blk.c1.1
  go_enter Try.func57, Try.ntmps57
  go_wp2_with ((at_builtin; refine wpList_app _ rfl _ _ _ rfl w.heap.size 5 iB _ 1 1 Try.underlying53 jB0 jB1 jB2 jB3 rfl (by omega) _ 0 0 [] rfl hown A bs.length c (bs.map (Value.int .u8)) rfl (by simp) hcl (bytes_one _) HB8.out.1 HB8.out.2 (by simp) ?_; intro A' c' w' ho' hg' hat'))
  go_ret
  simp only [List.nil_append, Nat.zero_add] at ho'
  exact ⟨A', c', by simp, ho', e1.grown hg' (by simp)⟩

attribute [local go_sem ↓] Go.wp_at_zero Go.wp_at_succ

/-- a new slice of bytes -/
def RetOB (bs : List Int) (w : World) (e : Ending) (w' : World) : Prop := ∃ B c, e = .returned (.slice B bs.length c) ∧ OwnB w' w.heap.size B c bs ∧ Ext w w'

set_option maxRecDepth 100000 in
set_option maxHeartbeats 4000000 in
theorem r2Uint_any (n : Nat) (w : World) (hn : n < 18446744073709551616) : Calls Try.prog 71 #[.int .u64 n] w (RetOB (venc n) w) := by
  obtain ⟨iB, jB0, jB1, jB2, jB3⟩ := info_parts infoB
  have hv10 := venc_len10 hn
  go_enter Try.func71, Try.ntmps71
  go_wp2_with fail
  go_loopw [0, 3] (fun v0 v3 wr => ∃ (m : Nat) (pre : List Int) (A1 : Option Addr) (c1 : Nat), v0 = .int .u64 m ∧ v3 = .slice A1 pre.length c1 ∧ m < 18446744073709551616 ∧ Hid (venc n = pre ++ venc m) ∧ OwnB wr w.heap.size A1 c1 pre ∧ Ext w wr) (fun v _ _ => (intOf v).toNat)
  case atStart => exact ⟨n, [], none, 0, rfl, rfl, hn, rfl, OwnS.nil _ _ _ _, Ext.rfl' _⟩
  case round =>
    obtain ⟨m, pre, A1, c1, rfl, rfl, hm, he, ho, hx⟩ := hrel
    have hpl : pre.length ≤ 1099511627776 := by
      have := congrArg List.length he.out
      simp only [List.length_append] at *; omega
    have hsz := hx.size
    by_cases hlt : m < 128
    · have hI : ¬ (m : Int) > 127 := by omega
      have hcv := u8_low m
      have hcv2 : m % 256 = m := by omega
      rw [hcv2] at hcv
      clear hcv2
      go_wp2_with ((at_builtin; refine wpList_app1V rfl _ _ _ rfl 5 iB _ 1 Try.underlying53 jB0 jB1 jB2 jB3 (by omega) rfl w.heap.size (.int .u8 m) rfl rfl A1 pre.length c1 _ rfl ho rfl hpl hsz ?_; intro A2 c2 w2 ho2 hg2 hat2))
      have hE : Hid (venc n = pre ++ [(m : Int)]) := by rw [he.out, venc_small hlt]; exact Lib.hid rfl
      go_ret
      rw [hE.out]
      refine ⟨A2, c2, by simp, ?_, hx.app ho hg2⟩
      unfold OwnB
      rw [List.length_append, List.map_append]; exact ho2
    · have hI : (m : Int) > 127 := by omega
      have HV := Lib.hid (show (128 : Int) + (m : Int) % 128 = ((m % 128 + 128 : Nat) : Int) by omega)
      go_wp2_with ((at_builtin; refine wpList_app1V rfl _ _ _ rfl 5 iB _ 1 Try.underlying53 jB0 jB1 jB2 jB3 (by omega) rfl w.heap.size (.int .u8 (128 + (m : Int) % 128)) rfl rfl A1 pre.length c1 _ rfl ho rfl hpl hsz ?_; intro A2 c2 w2 ho2 hg2 hat2))
      rw [HV.out] at ho2
      have hE : Hid (venc n = (pre ++ [((m % 128 + 128 : Nat) : Int)]) ++ venc (m / 128)) := by rw [he.out, venc_big hlt]; exact Lib.hid (by simp)
      have HP : OwnB w2 w.heap.size A2 c2 (pre ++ [((m % 128 + 128 : Nat) : Int)]) := by
        unfold OwnB
        rw [List.length_append, List.map_append]; exact ho2
      have hx2 := hx.app ho hg2
      go_roundw
      case rel => exact ⟨m / 128, pre ++ [((m % 128 + 128 : Nat) : Int)], A2, c2, by go_num, by simp, by omega, hE, HP, hx2⟩
      case measure => simp [intOf]; omega

theorem r2Zig_any (x : Int) (w : World) (hx : I64 x) : Calls Try.prog 72 #[.int .i64 x] w (RetQ (.int .u64 (Lib.zigzag x)) w) := by
  obtain ⟨h1, h2⟩ := hx
  by_cases h0 : x < 0
  · have HV := Lib.hid (show (2 : Int) * -(x + 1) + 1 = ((Lib.zigzag x : Nat) : Int) by unfold Lib.zigzag; rw [if_neg (by omega)]; omega)
    go_enter Try.func72, Try.ntmps72
    go_wp2_with fail
    go_ret
    exact ⟨by rw [← HV.out]; rfl, 0, rfl⟩
  · have HV := Lib.hid (show (2 : Int) * x = ((Lib.zigzag x : Nat) : Int) by unfold Lib.zigzag; rw [if_pos (by omega)]; omega)
    go_enter Try.func72, Try.ntmps72
    go_wp2_with fail
    go_ret
    exact ⟨by rw [← HV.out]; rfl, 0, rfl⟩

theorem r2Int_any (x : Int) (w : World) (hx : I64 x) : Calls Try.prog 59 #[.int .i64 x] w (RetOB (ienc x) w) := by
  have HZ := Lib.hid (r2Zig_any x w hx)
  have HU := fun W' => Lib.hid (r2Uint_any (Lib.zigzag x) W' (Lib.zigzag_lt hx.1 hx.2))
  have HE : Hid (ienc x = venc (Lib.zigzag x)) := Lib.hid rfl
  rw [← HE.out] at HU
  clear HE
  go_enter Try.func59, Try.ntmps59
  go_wp2_with fail
  refine HZ.out.mono ?_
  rintro e w1 ⟨rfl, n, rfl⟩
  go_wp2_with fail
  refine (HU _).out.mono ?_
  rintro e w2 ⟨B, c, rfl, h1, h2⟩
  go_wp2_with fail
  go_ret
  exact ⟨B, c, rfl, h1, (Ext.drewN w n).trans h2⟩

end Go.Proofs.Ytlbdjnbcoldjhaa
