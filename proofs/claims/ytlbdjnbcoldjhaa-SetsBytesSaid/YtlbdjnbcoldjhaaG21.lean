/- The keys of Split's map: 16 words of 64 bits; their bits. -/
import Derived.Test.YtlbdjnbcoldjhaaG20
import Derived.Test.YtlbdjnbcoldjhaaMp
import Derived.ChangeKeysEq
namespace Go.Proofs.Ytlbdjnbcoldjhaa
open Go.RowKit

abbrev K16 := { l : List Int // l.length = 16 }
def k16V (x : K16) : Value := .agg (x.1.map (Value.int .u64)).toArray

theorem infoU64 : (Try.prog.info? 63).map (fun i => (i.zero, i.size, i.bytes)) = some (some (.int .u64 0), 1, 8) := by kernel_rfl
theorem part16 (xs : List Int) (i : Nat) (h : i < xs.length) (w : World) : (part 63 (xs.map (Value.int .u64)).toArray (i * 1)).run Try.prog w = .ok (.int .u64 xs[i]) w := by
  unfold part
  go_simp
theorem eqU64 (a b : Int) (n : Nat) (w : World) : (Op.equalIn (n + 1) 63 (.int .u64 a) (.int .u64 b)).run Try.prog w = .ok (a == b) w := by
  have u3 := Try.underlying63
  unfold Op.equalIn
  go_simp
theorem eqItems16 (n : Nat) (xs ys : List Int) (w : World) : ∀ (is : List Nat), (∀ i ∈ is, i < xs.length ∧ i < ys.length) →
    (Op.eqItems (n + 1) 63 1 (xs.map (Value.int .u64)).toArray (ys.map (Value.int .u64)).toArray is).run Try.prog w = .ok (is.all (fun i => xs.getD i 0 == ys.getD i 0)) w
  | [], _ => by simp [Op.eqItems]
  | i :: is, h => by
    obtain ⟨h1, h2⟩ := h i (by simp)
    have ih := eqItems16 n xs ys w is (fun j hj => h j (by simp [hj]))
    unfold Op.eqItems
    simp only [Sem.run_bind, part16 xs i h1, part16 ys i h2, eqU64, Result.andThen_ok]
    have e1 : xs.getD i 0 = xs[i] := by simp [List.getD_eq_getElem?_getD, h1]
    have e2 : ys.getD i 0 = ys[i] := by simp [List.getD_eq_getElem?_getD, h2]
    rw [List.all_cons, e1, e2]
    by_cases hc : xs[i] = ys[i]
    · simp only [hc, beq_self_eq_true, Bool.not_true, Bool.false_eq_true, if_false, Bool.true_and]
      exact ih
    · have : (xs[i] == ys[i]) = false := by simpa using hc
      simp [this]
set_option maxRecDepth 100000 in
theorem eqK16 (x y : K16) (w : World) : (Op.equal 64 (k16V x) (k16V y)).run Try.prog w = .ok (decide (x = y)) w := by
  obtain ⟨i0, hi0, _⟩ := info_parts infoU64
  have hu : Try.prog.underlying 64 = some (.array 16 63) := by kernel_rfl
  have hc : Try.prog.cellsOf 63 = 1 := by kernel_rfl
  unfold Op.equal k16V
  rw [show Op.maxDepth = 9999 + 1 from rfl, run_equalIn_array w 9999 _ _ hu hi0, hc, show (9999 : Nat) = 9998 + 1 from rfl, eqItems16 9998 x.1 y.1 w (List.range 16) (fun i hi => by
    have := List.mem_range.1 hi
    have h1 := x.2
    have h2 := y.2
    omega)]
  congr 1
  rw [Bool.eq_iff_iff, List.all_eq_true, decide_eq_true_iff]
  constructor
  · intro h
    refine Subtype.ext (List.ext_getElem (by rw [x.2, y.2]) (fun i h1 h2 => ?_))
    have := h i (List.mem_range.2 (by have := x.2; omega))
    simp only [beq_iff_eq] at this
    rwa [List.getD_eq_getElem?_getD, List.getD_eq_getElem?_getD, List.getElem?_eq_getElem h1, List.getElem?_eq_getElem h2] at this
  · rintro rfl i _
    simp

theorem check16 (e : Bool) (xs : List Int) (w : World) : ∀ (is : List Nat), (∀ i ∈ is, i < xs.length) →
    (forIn is PUnit.unit (fun i _ => do
      let k ← sizeOf 63
      let r ← part 63 (xs.map (Value.int .u64)).toArray (i * k)
      Instr.checkKey e 9999 63 r
      pure (ForInStep.yield PUnit.unit) : Nat → PUnit → Sem (ForInStep PUnit))).run Try.prog w = .ok PUnit.unit w
  | [], _ => by simp
  | i :: is, h => by
    have u3 := Try.underlying63
    have h1 := h i (by simp)
    have ih := check16 e xs w is (fun j hj => h j (by simp [hj]))
    obtain ⟨i0, hi0, hz0, hz1, hz2⟩ := info_parts infoU64
    have hsz : (sizeOf 63).run Try.prog w = .ok 1 w := by
      simp [sizeOf, run_typeInfo w hi0, hz1]
    have hk : (Instr.checkKey e 9999 63 (.int .u64 xs[i])).run Try.prog w = .ok () w := by
      rw [show (9999 : Nat) = 9998 + 1 from rfl]
      unfold Instr.checkKey
      simp [Sem.run_bind, run_underlying u3]
    simp only [List.forIn_cons, Sem.run_bind, hsz, Result.andThen_ok, part16 xs i h1, hk, Sem.run_pure]
    exact ih

theorem sameBits_ints (n : Nat) (xs : List Int) : Instr.sameBits (n + 1) (.agg (xs.map (Value.int .u64)).toArray) (.agg (xs.map (Value.int .u64)).toArray) = true := by
  simp only [Instr.sameBits, beq_self_eq_true, Bool.true_and]
  rw [List.all_eq_true]
  intro p hp
  obtain ⟨a, b⟩ := p
  have : a = b ∧ a ∈ xs.map (Value.int .u64) := by
    have h1 : ∀ (l : List Value) (a b : Value), (a, b) ∈ l.zip l → a = b ∧ a ∈ l := by
      intro l
      induction l with
      | nil => intro a b h; simp at h
      | cons x l ih =>
        intro a b h
        rw [List.zip_cons_cons] at h
        rcases List.mem_cons.1 h with h | h
        · injection h with h1 h2
          subst h1; subst h2; simp
        · have := ih a b h
          exact ⟨this.1, by simp [this.2]⟩
    exact h1 _ a b hp
  obtain ⟨rfl, hm⟩ := this
  obtain ⟨z, _, rfl⟩ := List.mem_map.1 hm
  cases n <;> simp [Instr.sameBits]

theorem klaw16 : KLaw Try.prog 64 k16V := by
  refine asking_klaw (d := .array 16 63) (by kernel_rfl) (fun x y => by simp [Instr.sameNow]) eqK16 (fun e x w => ?_) (fun x => sameBits_ints 9999 x.1)
  obtain ⟨i0, hi0, _⟩ := info_parts infoU64
  have hu : Try.prog.underlying 64 = some (.array 16 63) := by kernel_rfl
  have hc : Try.prog.cellsOf 63 = 1 := by kernel_rfl
  have h := check16 e x.1 w (List.range' 0 16) (fun i hi => by
    have := List.mem_range'.1 hi
    have := x.2
    omega)
  unfold k16V
  rw [show (10000 : Nat) = 9999 + 1 from rfl]
  unfold Instr.checkKey
  simp only [Sem.run_bind, run_underlying hu, Result.andThen_ok, Std.Legacy.Range.forIn_eq_forIn_range', Std.Legacy.Range.size, Nat.sub_zero, Nat.add_one_sub_one, Nat.div_one]
  rw [h]
  simp
end Go.Proofs.Ytlbdjnbcoldjhaa
