/- The desk of package edits in memory: what its blocks hold; the laws of its maps. -/
import Derived.Test.YthhfjomjjhenkaaMp
import Derived.Test.YthhfjomjjhenkaaE9
import Derived.Test.YthhfjomjjhenkaaApp
import Derived.Maps.RangeWalk
import Derived.Maps.OwnSet
import Derived.Laws.StructEq
import Derived.KernelRfl
namespace Go.Proofs.Ythhfjomjjhenkaa
open Go.RowKit

/-- an item without the slice's address -/
structure It where
  client : Int
  number : Int
  base : Int
  e : Ed

/-- an item that the desk holds: its symbols lie at A -/
structure Hv where
  it : It
  A : Option Addr
  c : Nat

def keyV (p : Int × Int) : Value := .agg #[.int .i64 p.1, .int .i64 p.2]
def itV (x : It) (A : Option Addr) (c : Nat) : Value := .agg #[.int .i64 x.client, .int .i64 x.number, .int .i64 x.base, .int .i64 x.e.at_, .int .i64 x.e.del, .slice A x.e.ins.length c]
def hvV (h : Hv) : Value := itV h.it h.A h.c

theorem eqKey (a b c d : Int) (w : World) : (Op.equalIn 10000 92 (.agg #[.int .i64 a, .int .i64 b]) (.agg #[.int .i64 c, .int .i64 d])).run Try.prog w = .ok (a == c && b == d) w := by
  have u3 := Try.underlying3
  have hS : Try.prog.underlying 92 = some (.struct (Try.prog.fieldsOf 92)) := by kernel_rfl
  have hp : Try.prog.stoodInHeld 92 = false := by kernel_rfl
  rw [show (10000 : Nat) = 9999 + 1 from rfl, run_equalIn_agg w 9999 92 _ _ hS hp]
  simp only [Program.fieldsOf, Try.underlying92]
  go_simp
  by_cases h1 : a = c <;> by_cases h2 : b = d <;> simp [h1, h2]

theorem klawInt : KLaw Try.prog 3 (Value.int .i64) := int_klaw Try.underlying3
theorem klawKey : KLaw Try.prog 92 keyV := by
  refine asking_klaw (d := .struct (Try.prog.fieldsOf 92)) (by kernel_rfl) (fun x y => by simp [keyV, Instr.sameNow]) (fun x y w => ?_) (fun e x w => ?_) (fun x => ?_)
  · show (Op.equalIn 10000 _ _ _).run _ _ = _
    unfold keyV
    rw [eqKey]
    congr 1
    rw [Bool.eq_iff_iff]
    simp [Prod.ext_iff]
  · unfold keyV
    have u3 := Try.underlying3
    have hS : Try.prog.underlying 92 = some (.struct (Try.prog.fieldsOf 92)) := by kernel_rfl
    unfold Instr.checkKey
    go_simp
    have hc : ∀ z : Int, ∀ W : World, (Instr.checkKey e 9999 3 (.int .i64 z)).run Try.prog W = .ok () W := fun z W => by
      rw [show (9999 : Nat) = 9998 + 1 from rfl]
      unfold Instr.checkKey
      simp [Sem.run_bind, run_underlying u3]
    rw [hc, Result.andThen_ok, hc]
  · simp [keyV, Instr.sameBits]

/-! ### the walk's words for a range -/
section
variable {α β : Type} {P : Program} {w : World} {b k e t : Nat} {kv : α → Value} {vv : β → Value} {l : List (α × β)}
theorem wpList_range {ops : Array Oper} {rest : List Oper} {o : Oper} {a : Act} {Q : Exit → Act → World → Prop} (hg : o.guard = none) (m : Operand) (hop : o.op = Op.range t m) (ht : P.underlying t = some (.map k e))
    (hm : a.eval m = .map (some b)) (h : MapAt w b kv vv l)
    (hK : ∀ w', Ext w w' → RngAt w' w.heap.size b kv vv l l → wpList P ops Q rest (a.put o.dst (.pointer (some ⟨w.heap.size, 0, none⟩))) w') : wpList P ops Q (o :: rest) a w := by
  refine wpList_plain hg fun K' hK' => ?_
  obtain ⟨ob, hrun, hr⟩ := h.range ht
  unfold Oper.wp
  simp only [execOp, hop, hm, hrun, Sem.run_bind, Sem.run_pure, Result.andThen_ok]
  exact hK' _ _ (hK _ (Ext.alloc _ _) hr)
end

/-! ### the desk -/
def flat (l : List (Int × Int × Int)) : List Value := l.flatMap fun y => [.int .i64 y.1, .int .i64 y.2.1, .int .i64 y.2.2]
theorem flat_len (l : List (Int × Int × Int)) : (flat l).length = l.length * 3 := by
  induction l with
  | nil => rfl
  | cons y l ih => simp only [flat, List.flatMap_cons, List.length_append] at *; simp only [List.length_cons, List.length_nil]; omega
theorem flat_append (l m : List (Int × Int × Int)) : flat (l ++ m) = flat l ++ flat m := by simp [flat]
theorem flat_get (l : List (Int × Int × Int)) (i : Nat) (h : i < l.length) : (flat l)[i * 3]? = some (.int .i64 l[i].1) ∧ (flat l)[i * 3 + 1]? = some (.int .i64 l[i].2.1) ∧ (flat l)[i * 3 + 2]? = some (.int .i64 l[i].2.2) := by
  induction l generalizing i with
  | nil => simp at h
  | cons y l ih =>
    cases i with
    | zero => simp [flat]
    | succ i =>
      have hi : i < l.length := by simpa using h
      have e : flat (y :: l) = .int .i64 y.1 :: .int .i64 y.2.1 :: .int .i64 y.2.2 :: flat l := by simp [flat]
      have e1 : (i + 1) * 3 = i * 3 + 3 := by omega
      rw [e, e1]
      exact ih i hi

/-- the slice of extents is kept apart from what is written elsewhere -/
def Off (A : Option Addr) (b : Nat) : Prop := A.map (·.block) ≠ some b

structure DeskAt (w : World) (base g m1 m2 : Nat) (A : Option Addr) (c : Nat) (ap : List (Int × Int × Int)) (nx : List (Int × Int)) (hd : List ((Int × Int) × Hv)) : Prop where
  blk : Blk w g 90 #[.slice A ap.length c, .map (some m1), .map (some m2)]
  own : OwnS w base 81 3 A ap.length c (flat ap)
  next : MapAt w m1 (Value.int .i64) (Value.int .i64) nx
  held : MapAt w m2 keyV hvV hd
  ne : Off A g
  ne2 : m1 ≠ m2
  il : ∀ p ∈ hd, p.1 = (p.2.it.client, p.2.it.number) ∧ IL w p.2.A p.2.c p.2.it.e.ins ∧ (p.2.it.e.ins ≠ [] → ∀ b, p.2.A.map (·.block) = some b → b ≠ g ∧ Off A b)
  lo : base ≤ g

theorem XL.of_own {w : World} {base c : Nat} {A : Option Addr} {ap : List (Int × Int × Int)} (h : OwnS w base 81 3 A ap.length c (flat ap)) : XL w A c ap := by
  have hc := OwnS.caps h
  refine ⟨hc.1, by unfold maxLen; omega, fun hn => ?_⟩
  obtain ⟨b, o, rfl, hcell⟩ := OwnS.cells h (by intro e; have := flat_len ap; rw [e] at this; exact hn (List.eq_nil_of_length_eq_zero (by simp at this; omega)))
  refine ⟨b, o, rfl, fun i hi => ?_⟩
  obtain ⟨h1, h2, h3⟩ := flat_get ap i hi
  obtain ⟨l1, e1⟩ := List.getElem?_eq_some_iff.1 h1
  obtain ⟨l2, e2⟩ := List.getElem?_eq_some_iff.1 h2
  obtain ⟨l3, e3⟩ := List.getElem?_eq_some_iff.1 h3
  have q1 := hcell _ l1
  have q2 := hcell _ l2
  have q3 := hcell _ l3
  rw [e1] at q1
  rw [e2] at q2
  rw [e3] at q3
  refine ⟨q1, ?_, ?_⟩
  · rw [Nat.add_assoc]; exact q2
  · rw [Nat.add_assoc]; exact q3

/-- what follows the k-th extent -/
theorem XL.drop {w : World} {A : Option Addr} {c k : Nat} {xs : List (Int × Int × Int)} (h : XL w A c xs) (hk : k ≤ xs.length) : XL w (A.map (fun x => x.add (k * 3))) (c - k) (xs.drop k) := by
  have h1 := h.le
  have h2 := h.cap
  refine ⟨by simp; omega, by omega, fun hn => ?_⟩
  have hx : xs ≠ [] := by rintro rfl; simp at hn
  obtain ⟨b, o, rfl, hc⟩ := h.at_ hx
  refine ⟨b, o + k * 3, by rw [Option.map_some, Addr.add_lit], fun i hi => ?_⟩
  have hi' : k + i < xs.length := by simp at hi; omega
  have h3 := hc (k + i) hi'
  have e1 : o + (k + i) * 3 = o + k * 3 + i * 3 := by omega
  rw [e1] at h3
  simpa [List.getElem_drop] using h3
theorem XL.drop_end {w : World} {A : Option Addr} {c k : Nat} {xs : List (Int × Int × Int)} (h : XL w A c xs) (hk : c = k) : XL w A 0 (xs.drop k) := by
  have h1 := h.le
  rw [List.drop_eq_nil_of_le (by omega)]
  exact ⟨by simp, by unfold maxLen; omega, fun hn => absurd rfl hn⟩

theorem DeskAt.ext {w w' : World} {base g m1 m2 c : Nat} {A : Option Addr} {ap nx hd} (h : DeskAt w base g m1 m2 A c ap nx hd) (x : Ext w w') : DeskAt w' base g m1 m2 A c ap nx hd :=
  ⟨h.blk.ext x, OwnS.ext h.own x, h.next.ext x, h.held.ext x, h.ne, h.ne2, fun p hp => ⟨(h.il p hp).1, (h.il p hp).2.1.ext x, (h.il p hp).2.2⟩, h.lo⟩
end Go.Proofs.Ythhfjomjjhenkaa
