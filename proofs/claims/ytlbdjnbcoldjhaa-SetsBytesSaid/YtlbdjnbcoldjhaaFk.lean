/- A region that draws its order, at a place where several operations may come up: each is walked. -/
import Derived.Test.YtlbdjnbcoldjhaaFw
namespace Go.Proofs.Ytlbdjnbcoldjhaa
open Go.RowKit
theorem Kp.grownL {L : List Nat} {a b c : World} {A : Option Addr} (h : Kp L a b) (k : b.grownBy c (A.map (·.block))) (hp : ∀ i, A.map (·.block) = some i → i ∈ L ∨ a.heap.size ≤ i) : Kp L a c :=
  ⟨k.os.trans h.os, k.tape.trans h.tape, k.output.trans h.output, Nat.le_trans h.size k.size, fun i hi hn => (k.block i (Nat.lt_of_lt_of_le hi h.size) (fun e => by
    rcases hp i e.symm with h1 | h1
    · exact hn h1
    · omega)).trans (h.block i hi hn)⟩
theorem WI_grown {L : List Nat} {I : List (Nat × Nat)} {w w' : World} {A : Option Addr} (k : w.grownBy w' (A.map (·.block))) (hp : ∀ i, A.map (·.block) = some i → i ∈ L ∨ InI I i) : WI L I w w' :=
  ⟨k.os, k.tape, k.output, k.size, fun i hi hn => k.block i hi (fun e => hn (hp i e.symm))⟩
section
variable {P : Program} {ops : Array Oper} {Q : Exit → Act → World → Prop} {L : List Nat} {w0 : World}
variable {n : Nat} {KD : List (Nat × Nat)} {Z : List Lz} {I : List (Nat × Nat)} {ls : List Nat} {a : Act} {w : World}
/-- one of two operations comes up -/
theorem Xr.fork2 (i j : Nat) {oi oj : Oper} (hoi : ops[i]? = some oi) (hoj : ops[j]? = some oj)
    (hr : (Region.ready .any ops (bits ops.size ls) == [i, j] && KD.all fun x => x.1 != i && x.1 != j) = true) (hwi : Region.wanted oi (yielded ops a.tmps) = true) (hwj : Region.wanted oj (yielded ops a.tmps) = true)
    (h1 : ∀ w', Ext w w' → Kp L w0 w' → ∀ K, (∀ a2 w2, WI L I w' w2 → Kp L w0 w2 → Xr L w0 P ops Q n KD Z ((w'.heap.size, w2.heap.size) :: I) (i :: ls) a2 w2 → K a2 w2) → oi.wp P a w' K (NoPanic Q))
    (h2 : ∀ w', Ext w w' → Kp L w0 w' → ∀ K, (∀ a2 w2, WI L I w' w2 → Kp L w0 w2 → Xr L w0 P ops Q n KD Z ((w'.heap.size, w2.heap.size) :: I) (j :: ls) a2 w2 → K a2 w2) → oj.wp P a w' K (NoPanic Q)) :
    Xr L w0 P ops Q (n + 1) KD Z I ls a w := by
  intro hKD
  simp only [Bool.and_eq_true, beq_iff_eq] at hr
  obtain ⟨hr, hZ⟩ := hr
  have hZi : (KD.all fun x => x.1 != i) = true := by
    rw [List.all_eq_true] at hZ ⊢
    intro x hx; have := hZ x hx; simp only [Bool.and_eq_true] at this; exact this.1
  have hZj : (KD.all fun x => x.1 != j) = true := by
    rw [List.all_eq_true] at hZ ⊢
    intro x hx; have := hZ x hx; simp only [Bool.and_eq_true] at this; exact this.2
  refine ⟨fun h0 => (by rw [hr] at h0; cases h0), fun k hk w' x1 x2 => ?_⟩
  rw [hr] at hk
  (try unfold stepX)
  have hk2 : k = i ∨ k = j := by simpa using hk
  rcases hk2 with rfl | rfl
  · rw [find_no (kd_find (by rw [hKD]; exact hZi))]
    refine step_of hoi hwi fun K' hK' => h1 w' x1 x2 K' fun a2 w2 h3 h4 h5 => hK' a2 w2 ⟨h3, h4, ?_⟩
    rw [bits_set]; exact h5 hKD
  · rw [find_no (kd_find (by rw [hKD]; exact hZj))]
    refine step_of hoj hwj fun K' hK' => h2 w' x1 x2 K' fun a2 w2 h3 h4 h5 => hK' a2 w2 ⟨h3, h4, ?_⟩
    rw [bits_set]; exact h5 hKD
end
end Go.Proofs.Ytlbdjnbcoldjhaa
