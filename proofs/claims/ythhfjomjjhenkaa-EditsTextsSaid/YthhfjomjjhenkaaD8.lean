/- What the first loop of EditsOnce keeps in memory: the items, the edits that are wanted, the numbers; how each write keeps it. No walk. -/
import Derived.Test.YthhfjomjjhenkaaD6
import Derived.Test.YthhfjomjjhenkaaD7
namespace Go.Proofs.Ythhfjomjjhenkaa
open Go.RowKit

def flatI (l : List Hv) : List Value := l.flatMap fun h => [.int .i64 h.it.client, .int .i64 h.it.number, .int .i64 h.it.base, .int .i64 h.it.e.at_, .int .i64 h.it.e.del, .slice h.A h.it.e.ins.length h.c]
theorem flatI_append (l m : List Hv) : flatI (l ++ m) = flatI l ++ flatI m := by simp [flatI]
theorem flatI_len (l : List Hv) : (flatI l).length = l.length * 6 := by
  induction l with
  | nil => rfl
  | cons y l ih => simp only [flatI, List.flatMap_cons, List.length_append] at *; simp only [List.length_cons, List.length_nil]; omega
theorem flatI_one (l : List Hv) : ∀ u ∈ flatI l, u.oneCell' = true := by
  intro u hu
  obtain ⟨o, _, hu⟩ := List.mem_flatMap.1 hu
  simp only [List.mem_cons, List.not_mem_nil, or_false] at hu
  rcases hu with rfl | rfl | rfl | rfl | rfl | rfl <;> rfl
theorem flatI_get (l : List Hv) (i : Nat) (h : i < l.length) : (flatI l)[i * 6]? = some (.int .i64 l[i].it.client) ∧ (flatI l)[i * 6 + 1]? = some (.int .i64 l[i].it.number) ∧ (flatI l)[i * 6 + 2]? = some (.int .i64 l[i].it.base) ∧
    (flatI l)[i * 6 + 3]? = some (.int .i64 l[i].it.e.at_) ∧ (flatI l)[i * 6 + 4]? = some (.int .i64 l[i].it.e.del) ∧ (flatI l)[i * 6 + 5]? = some (.slice l[i].A l[i].it.e.ins.length l[i].c) := by
  induction l generalizing i with
  | nil => simp at h
  | cons y l ih =>
    cases i with
    | zero => simp [flatI]
    | succ i =>
      have hi : i < l.length := by simpa using h
      have e : flatI (y :: l) = .int .i64 y.it.client :: .int .i64 y.it.number :: .int .i64 y.it.base :: .int .i64 y.it.e.at_ :: .int .i64 y.it.e.del :: .slice y.A y.it.e.ins.length y.c :: flatI l := by simp [flatI]
      have e1 : (i + 1) * 6 = i * 6 + 6 := by omega
      rw [e, e1]
      exact ih i hi

structure GenM (w : World) (base gN : Nat) (A : Option Addr) (c : Nat) (B : Option Addr) (d : Nat) (l : List Hv) (ws : List Oe) (nb : List Int) : Prop where
  nums : Blk w gN 3 (nb.map (Value.int .i64)).toArray
  its : OwnS w base 39 6 A l.length c (flatI l)
  wts : OwnS w base 25 3 B ws.length d (flatE ws)
  il : ∀ h ∈ l, IL w h.A h.c h.it.e.ins ∧ (h.it.e.ins ≠ [] → ∀ b, h.A.map (·.block) = some b → b ≠ gN ∧ Off A b ∧ Off B b)
  wl : ∀ o ∈ ws, IL w o.A o.c o.e.ins ∧ (o.e.ins ≠ [] → ∀ b, o.A.map (·.block) = some b → b ≠ gN ∧ Off A b ∧ Off B b)
  oA : Off A gN
  oB : Off B gN
  oAB : ∀ b, A.map (·.block) = some b → Off B b

namespace GenM
variable {w w' : World} {base gN c d : Nat} {A B : Option Addr} {l : List Hv} {ws : List Oe} {nb : List Int}
theorem ext (h : GenM w base gN A c B d l ws nb) (x : Ext w w') : GenM w' base gN A c B d l ws nb :=
  ⟨h.nums.ext x, OwnS.ext h.its x, OwnS.ext h.wts x, fun z hz => ⟨(h.il z hz).1.ext x, (h.il z hz).2⟩, fun z hz => ⟨(h.wl z hz).1.ext x, (h.wl z hz).2⟩, h.oA, h.oB, h.oAB⟩

/-- items = append(items, z) -/
theorem addI (h : GenM w base gN A c B d l ws nb) {A' : Option Addr} {c' : Nat} {z : Hv} (hg : w.grownBy w' (A.map (·.block))) (ho : OwnS w' base 39 6 A' (l.length + 1) c' (flatI l ++ flatI [z]))
    (hat : A'.map (·.block) = A.map (·.block) ∨ A'.map (·.block) = some w.heap.size) (hi : IL w z.A z.c z.it.e.ins) (hn : z.it.e.ins ≠ [] → ∀ b, z.A.map (·.block) = some b → b ≠ gN ∧ Off A b ∧ Off B b) :
    GenM w' base gN A' c' B d (l ++ [z]) ws nb := by
  have kk := KpP.of_grown hg
  have ha' : ∀ b, b < w.heap.size → Off A b → Off A' b := fun b hb hoff he => by
    rcases hat with e | e
    · exact hoff (e.symm.trans he)
    · rw [e] at he; injection he with he; omega
  have one : ∀ (X : Option Addr) (k : Nat) (xs : List Int), IL w X k xs ∧ (xs ≠ [] → ∀ b, X.map (·.block) = some b → b ≠ gN ∧ Off A b ∧ Off B b) → IL w' X k xs ∧ (xs ≠ [] → ∀ b, X.map (·.block) = some b → b ≠ gN ∧ Off A' b ∧ Off B b) :=
    fun X k xs hX => ⟨hX.1.kp kk (fun hx b hb => (hX.2 hx b hb).2.1), fun hx b hb => ⟨(hX.2 hx b hb).1, ha' b (hX.1.blt hx hb) (hX.2 hx b hb).2.1, (hX.2 hx b hb).2.2⟩⟩
  refine ⟨kk.blk h.nums h.oA, ?_, OwnS.kp h.wts kk (fun b hb e => h.oAB b e hb), fun y hy => ?_, fun y hy => one _ _ _ (h.wl y hy), ha' gN h.nums.lt h.oA, h.oB, fun b hb => ?_⟩
  · simp only [List.length_append, List.length_cons, List.length_nil, flatI_append]; exact ho
  · rcases List.mem_append.1 hy with hy | hy
    · exact one _ _ _ (h.il y hy)
    · obtain rfl : y = z := by simpa using hy
      exact one _ _ _ ⟨hi, hn⟩
  · rcases hat with e | e
    · exact h.oAB b (e.symm.trans hb)
    · rw [e] at hb; injection hb with hb
      intro e2
      have := (OwnS.blt h.wts e2).1
      omega

/-- want = append(want, o) -/
theorem addW (h : GenM w base gN A c B d l ws nb) {B' : Option Addr} {d' : Nat} {o : Oe} (hg : w.grownBy w' (B.map (·.block))) (ho : OwnS w' base 25 3 B' (ws.length + 1) d' (flatE ws ++ flatE [o]))
    (hat : B'.map (·.block) = B.map (·.block) ∨ B'.map (·.block) = some w.heap.size) (hi : IL w o.A o.c o.e.ins) (hn : o.e.ins ≠ [] → ∀ b, o.A.map (·.block) = some b → b ≠ gN ∧ Off A b ∧ Off B b) :
    GenM w' base gN A c B' d' l (ws ++ [o]) nb := by
  have kk := KpP.of_grown hg
  have ha' : ∀ b, b < w.heap.size → Off B b → Off B' b := fun b hb hoff he => by
    rcases hat with e | e
    · exact hoff (e.symm.trans he)
    · rw [e] at he; injection he with he; omega
  have one : ∀ (X : Option Addr) (k : Nat) (xs : List Int), IL w X k xs ∧ (xs ≠ [] → ∀ b, X.map (·.block) = some b → b ≠ gN ∧ Off A b ∧ Off B b) → IL w' X k xs ∧ (xs ≠ [] → ∀ b, X.map (·.block) = some b → b ≠ gN ∧ Off A b ∧ Off B' b) :=
    fun X k xs hX => ⟨hX.1.kp kk (fun hx b hb => (hX.2 hx b hb).2.2), fun hx b hb => ⟨(hX.2 hx b hb).1, (hX.2 hx b hb).2.1, ha' b (hX.1.blt hx hb) (hX.2 hx b hb).2.2⟩⟩
  refine ⟨kk.blk h.nums h.oB, OwnS.kp h.its kk (fun b hb e => h.oAB b hb e), ?_, fun y hy => one _ _ _ (h.il y hy), fun y hy => ?_, h.oA, ha' gN h.nums.lt h.oB, fun b hb => ?_⟩
  · simp only [List.length_append, List.length_cons, List.length_nil, flatE_append]; exact ho
  · rcases List.mem_append.1 hy with hy | hy
    · exact one _ _ _ (h.wl y hy)
    · obtain rfl : y = o := by simpa using hy
      exact one _ _ _ ⟨hi, hn⟩
  · exact ha' b (OwnS.blt h.its hb).1 (h.oAB b hb)

/-- numbers[i] = v -/
theorem setN (h : GenM w base gN A c B d l ws nb) (i : Nat) (v : Int) : GenM (w.setCell ⟨gN, i, none⟩ (.int .i64 v)) base gN A c B d l ws (nb.set i v) := by
  refine ⟨?_, OwnS.far h.its (p := ⟨gN, i, none⟩) h.oA _, OwnS.far h.wts (p := ⟨gN, i, none⟩) h.oB _, fun z hz => ⟨?_, (h.il z hz).2⟩, fun z hz => ⟨?_, (h.wl z hz).2⟩, h.oA, h.oB, h.oAB⟩
  · have := h.nums.set i (.int .i64 v)
    simp only [List.setIfInBounds_toArray] at this
    rw [List.map_set]; exact this
  · by_cases hx : z.it.e.ins = []
    · have hI := (h.il z hz).1
      exact ⟨hI.le, hI.cap, hI.rng, fun hn => absurd hx hn⟩
    · exact (h.il z hz).1.set (fun e => ((h.il z hz).2 hx gN e).1 rfl) _
  · by_cases hx : z.e.ins = []
    · have hI := (h.wl z hz).1
      exact ⟨hI.le, hI.cap, hI.rng, fun hn => absurd hx hn⟩
    · exact (h.wl z hz).1.set (fun e => ((h.wl z hz).2 hx gN e).1 rfl) _
end GenM
theorem once_snoc {its : List It} (h : OnceL its) {x : It} (hb : x.base = its.length) (hn : x.number = cntC its x.client) : OnceL (its ++ [x]) := by
  intro j hj
  by_cases hlt : j < its.length
  · have := h j hlt
    rw [List.getElem_append_left hlt, List.take_append_of_le_length (by omega)]
    exact this
  · have hje : j = its.length := by simp at hj; omega
    subst hje
    simp only [List.getElem_append_right (Nat.le_refl _), Nat.sub_self, List.getElem_cons_zero, List.take_left]
    exact ⟨hb, hn⟩
end Go.Proofs.Ythhfjomjjhenkaa
