/- A region that draws its order and reads, ahead of its last writes, what these write: its walk in two parts. Up to operation s (behind all the others that matter) nothing old is written; from there on it is walked anew. -/
import Derived.Test.YtlbdjnbcoldjhaaFw
namespace Go.Proofs.Ytlbdjnbcoldjhaa
open Go.RowKit

def depsOf (ops : Array Oper) (k : Nat) : List Nat := match ops[k]? with
  | some o => (o.after.toList.filter (fun e => Region.binds .any e)).map (·.on)
  | none => []
def Down (ops : Array Oper) (listed : Array Bool) : Prop := ∀ k, listed.getD k false = true → ∀ d ∈ depsOf ops k, listed.getD d false = true
def ancs (ops : Array Oper) : Nat → List Nat → List Nat
  | 0, S => S
  | f + 1, S => ancs ops f ((List.range ops.size).filter fun d => S.contains d || S.any fun k => (depsOf ops k).contains d)
theorem ancs_all {ops : Array Oper} {listed : Array Bool} (hD : Down ops listed) : ∀ (f : Nat) (S : List Nat), (∀ d ∈ S, listed.getD d false = true) → ∀ d ∈ ancs ops f S, listed.getD d false = true
  | 0, _, h, d, hd => h d hd
  | f + 1, S, h, d, hd => ancs_all hD f _ (fun x hx => by
      obtain ⟨_, hx⟩ := List.mem_filter.1 hx
      rw [Bool.or_eq_true] at hx
      rcases hx with hx | hx
      · exact h x (by simpa using hx)
      · obtain ⟨k, hk, hkx⟩ := List.any_eq_true.1 hx
        exact hD k (h k hk) x (by simpa using hkx)) d hd
theorem deps_ready {ops : Array Oper} {listed : Array Bool} {s : Nat} (h : s ∈ Region.ready .any ops listed) : ∀ d ∈ depsOf ops s, listed.getD d false = true := by
  obtain ⟨_, o, ho, hall⟩ := mem_ready.1 h
  intro d hd
  unfold depsOf at hd
  rw [ho] at hd
  simp only [List.mem_map, List.mem_filter] at hd
  obtain ⟨e, ⟨he, hb⟩, rfl⟩ := hd
  exact hall e (by simpa using he) hb
theorem Down.set {ops : Array Oper} {listed : Array Bool} {i : Nat} (hD : Down ops listed) (hi : i ∈ Region.ready .any ops listed) : Down ops (listed.setIfInBounds i true) := by
  intro k hk d hd
  by_cases hki : k = i
  · subst hki
    exact getD_set_true (deps_ready hi d hd)
  · rw [getD_set_ne false (Ne.symm hki)] at hk
    exact getD_set_true (hD k hk d hd)

section
variable (P : Program) (ops : Array Oper) (Q : Exit → Act → World → Prop) (w0 : World) (s : Nat) (Fin : Nat → Array Bool → Act → World → Prop)
def wpS : Nat → Array Bool → Act → World → Prop
  | 0, listed, _, _ => Down ops listed → False
  | n + 1, listed, a, w => Down ops listed → Region.ready .any ops listed ≠ [] ∧
      (s ∈ Region.ready .any ops listed → Region.ready .any ops listed = [s] ∧ ∀ w', Ext w w' → Ext w0 w' → Fin (n + 1) listed a w') ∧
      ∀ i ∈ Region.ready .any ops listed, i ≠ s → ∀ w', Ext w w' → Ext w0 w' → wpOp P ops Q i (fun a2 w2 => Ext w' w2 ∧ wpS n (listed.setIfInBounds i true) a2 w2) a w'
end

section
variable {P : Program} {ops : Array Oper} {Q : Exit → Act → World → Prop} {w0 : World} {s : Nat} {Fin : Nat → Array Bool → Act → World → Prop}
theorem wpS_ext : ∀ (n : Nat) {listed : Array Bool} {a : Act} {w w' : World}, wpS P ops Q w0 s Fin n listed a w → Ext w w' → wpS P ops Q w0 s Fin n listed a w'
  | 0, _, _, _, _, h, _ => h
  | _ + 1, _, _, _, _, h, k => fun hD => ⟨(h hD).1, fun hs => ⟨((h hD).2.1 hs).1, fun w2 h2 h3 => ((h hD).2.1 hs).2 w2 (k.trans h2) h3⟩, fun i hi his w2 h2 h3 => (h hD).2.2 i hi his w2 (k.trans h2) h3⟩

theorem takeS {i : Nat} {oi : Oper} {v : Value} (hi : ops[i]? = some oi) (hsel : ∀ (j : Nat) (o : Oper) cs b, ops[j]? = some o → o.op ≠ .select cs b) (hQ : ∀ c a w, ¬ Q (.panic c) a w)
    (f : Nat) (hanc : i ∈ ancs ops f (depsOf ops s)) :
    ∀ (n : Nat) {listed : Array Bool} {a : Act} {w : World},
      (∀ j oj, ops[j]? = some oj → j ≠ i → listed.getD j true = false → (∀ e ∈ oj.after, Region.binds .any e = true → e.on ≠ i) → oi.apart ops oj = true) →
      i ∈ Region.ready .any ops listed → YieldsIf P ops (Ext w0) oi v a → wpS P ops Q w0 s Fin n (listed.setIfInBounds i true) (a.put oi.dst v) w → wpS P ops Q w0 s Fin (n + 1) listed a w := by
  intro n
  induction n with
  | zero =>
    intro listed a w _ hr _ h hD
    exact absurd (hD.set hr) h
  | succ n ih =>
    intro listed a w hfree hr hy h hD
    have hns : ¬ s ∈ Region.ready .any ops listed := fun hs => by
      have h1 := ancs_all hD f _ (deps_ready hs) i hanc
      have h2 := (mem_ready.1 hr).1
      rcases Nat.lt_or_ge i listed.size with h' | h'
      · simp [h'] at h1 h2; rw [h1] at h2; cases h2
      · simp [Array.getElem?_eq_none h'] at h1
    refine ⟨fun h0 => (by rw [h0] at hr; cases hr), fun hs => absurd hs hns, fun j hj hjs w' h1 h2 => ?_⟩
    by_cases hji : j = i
    · subst hji
      exact hy.wpOp hi h2 ⟨Ext.rfl' _, wpS_ext (n + 1) h h1⟩
    · obtain ⟨hjun, oj, hoj, hall⟩ := mem_ready.1 hj
      have hnot : ∀ e ∈ oj.after, Region.binds .any e = true → e.on ≠ i := fun e he hb heq => by
        have h1 := hall e he hb
        have h0 := (mem_ready.1 hr).1
        rw [heq] at h1
        rcases Nat.lt_or_ge i listed.size with h' | h'
        · simp [h'] at h0 h1; rw [h0] at h1; cases h1
        · simp [Array.getElem?_eq_none h'] at h1
      have hap := hfree j oj hoj hji hjun hnot
      have h3 := (h (hD.set hr)).2.2 j (ready_mono hj hji) hjs w' h1 h2
      have hQ' : ∀ c a w, Q (.panic c) (a.put oi.dst v) w → Q (.panic c) a w := fun c a w h => absurd h (hQ _ _ _)
      have hfree' : ∀ k ok, ops[k]? = some ok → k ≠ i → (listed.setIfInBounds j true).getD k true = false →
          (∀ e ∈ ok.after, Region.binds .any e = true → e.on ≠ i) → oi.apart ops ok = true := fun k ok hk hki hun hno => hfree k ok hk hki (unlisted_set hun).2 hno
      refine wpOp_mono (fun a2 w2 h4 => ?_) (wpOp_putIf hoj hap (fun cs b => hsel i oi cs b hi) (fun cs b => hsel j oj cs b hoj) hQ' hy h3)
      obtain ⟨h5, h6, h7⟩ := h4
      refine ⟨h6, ih hfree' (ready_mono hr (Ne.symm hji)) h5 ?_⟩
      rw [Array.setIfInBounds_comm _ _ hji]; exact h7

theorem wpAny_of_S (hFin : ∀ n listed a w, Fin n listed a w → wpAny P .any ops Q n listed a w) : ∀ (n : Nat) {listed : Array Bool} {a : Act} {w : World}, Down ops listed → Ext w0 w → wpS P ops Q w0 s Fin n listed a w → wpAny P .any ops Q n listed a w
  | 0, _, _, _, hD, _, h => absurd hD h
  | n + 1, listed, a, w, hD, hx, h => by
    obtain ⟨h0, h1, h2⟩ := h hD
    by_cases hs : s ∈ Region.ready .any ops listed
    · exact hFin _ _ _ _ ((h1 hs).2 w (Ext.rfl' _) hx)
    · refine ⟨fun hr => absurd hr h0, fun i hi => ?_⟩
      have his : i ≠ s := fun e => hs (e ▸ hi)
      exact wpOp_mono (fun a2 w2 h4 => wpAny_of_S hFin n (hD.set hi) (hx.trans h4.1) h4.2) (h2 i hi his w (Ext.rfl' _) hx)

/-- The walk up to operation s. L: the blocks that are written from there on. -/
def Xs (L : List Nat) (s : Nat) (w0 : World) (P : Program) (ops : Array Oper) (Q : Exit → Act → World → Prop) (n : Nat) (ls : List Nat) (a : Act) (w : World) : Prop :=
  wpS P ops (NoPanic Q) w0 s (fun n listed a w => ∃ ls, listed = bits ops.size ls ∧ Xr L w P ops Q n [] [] [] ls a w) n (bits ops.size ls) a w

theorem Xs.start {id : Nat} {a : Act} {w : World} (L : List Nat) (s : Nat) (hm : P.follows .mixedOrders = true) (h : Xs L s w P ops Q ops.size [] a w) : (Code.region id ops true).wp P Q a w := by
  refine wp_region_noPanic (wp_region_any hm ?_)
  unfold Xs at h
  rw [bits_nil] at h
  refine wpAny_of_S ?_ _ ?_ (Ext.drew w) (wpS_ext _ h (Ext.drew w))
  · rintro n listed a w ⟨ls, rfl, hX⟩
    exact wpAny_of_X _ (Kp.refl _ _) (hX rfl)
  · intro k hk
    exfalso
    by_cases hkn : k < ops.size
    · simp [hkn] at hk
    · simp [hkn] at hk

variable {n : Nat} {ls : List Nat} {a : Act} {w : World} {L : List Nat}
def okTakeS (ops : Array Oper) (s : Nat) (ls : List Nat) (i : Nat) : Bool :=
  Region.noSelect ops && Region.free .any ops (bits ops.size ls) i && (Region.ready .any ops (bits ops.size ls)).contains i && (ancs ops 8 (depsOf ops s)).contains i

theorem Xs.takeY (i : Nat) (d : Option Tmp) {oi : Oper} {v : Value} (hi : ops[i]? = some oi) (hd : oi.dst = d)
    (hok : okTakeS ops s ls i = true) (hy : YieldsIf P ops (Ext w0) oi v a) (h : Xs L s w0 P ops Q n (i :: ls) (a.put d v) w) : Xs L s w0 P ops Q (n + 1) ls a w := by
  subst hd
  simp only [okTakeS, Bool.and_eq_true] at hok
  obtain ⟨⟨⟨h1, h2⟩, h3⟩, h4⟩ := hok
  refine takeS hi (Region.noSelect_spec h1) (NoPanic.never Q) 8 (by simpa using h4) n (Region.free_spec hi h2) (by simpa using h3) hy ?_
  rw [bits_set]; exact h
theorem Xs.take (i : Nat) (d : Option Tmp) {oi : Oper} {v : Value} (hi : ops[i]? = some oi) (hd : oi.dst = d)
    (hok : okTakeS ops s ls i = true) (hw : Region.wanted oi (yielded ops a.tmps) = true)
    (hrun : ∀ w', Ext w0 w' → (execOp a.eval oi).run P w' = .ok (.value v) w') (h : Xs L s w0 P ops Q n (i :: ls) (a.put d v) w) : Xs L s w0 P ops Q (n + 1) ls a w :=
  Xs.takeY i d hi hd hok (.inl ⟨hw, hrun⟩) h
/-- the one operation that may come up: a call, or what makes new memory -/
theorem Xs.call (i : Nat) {o : Oper} (ho : ops[i]? = some o) (hr : (Region.ready .any ops (bits ops.size ls) == [i] && i != s) = true) (hw : Region.wanted o (yielded ops a.tmps) = true)
    (h : ∀ w', Ext w w' → Ext w0 w' → ∀ K, (∀ a2 w2, Ext w' w2 → Xs L s w0 P ops Q n (i :: ls) a2 w2 → K a2 w2) → o.wp P a w' K (NoPanic Q)) : Xs L s w0 P ops Q (n + 1) ls a w := by
  simp only [Bool.and_eq_true, beq_iff_eq, bne_iff_ne, ne_eq] at hr
  obtain ⟨hr, his⟩ := hr
  intro hD
  refine ⟨by rw [hr]; simp, fun hs => ?_, fun j hj hjs w' x1 x2 => ?_⟩
  · rw [hr] at hs
    exact absurd (List.mem_singleton.1 hs).symm his
  · rw [hr] at hj
    obtain rfl := List.mem_singleton.1 hj
    refine step_of ho hw fun K' hK' => h w' x1 x2 K' fun a2 w2 h3 h5 => hK' a2 w2 ⟨h3, ?_⟩
    rw [bits_set]; exact h5
/-- operation s comes up: the rest is walked anew -/
theorem Xs.stop (hr : Region.ready .any ops (bits ops.size ls) = [s]) (h : ∀ w', Ext w w' → Ext w0 w' → Xr L w' P ops Q (n + 1) [] [] [] ls a w') : Xs L s w0 P ops Q (n + 1) ls a w := by
  intro _
  refine ⟨by rw [hr]; simp, fun _ => ⟨hr, fun w' x1 x2 => ⟨ls, rfl, h w' x1 x2⟩⟩, fun j hj hjs => ?_⟩
  rw [hr] at hj
  exact absurd (List.mem_singleton.1 hj) hjs
end
end Go.Proofs.Ytlbdjnbcoldjhaa
