/- The plain law of (Applicable.): items made of texts that there were, each applied at once, moved over what was applied since. No walk. -/
import Derived.Test.YthhfjomjjhenkaaD6
import Derived.Test.YthhfjomjjhenkaaE16
namespace Go.Proofs.Ythhfjomjjhenkaa
open Go.RowKit

def extE (e : Ed) : Int × Int × Int := (e.at_, e.del, (e.ins.length : Int))
theorem overAll_moved : ∀ (l : List Ed) (e : Ed), overAll (e.at_, e.del) (l.map extE) = ((l.foldl movedE e).at_, (l.foldl movedE e).del) ∧ (l.foldl movedE e).ins = e.ins
  | [], _ => ⟨rfl, rfl⟩
  | o :: l, e => by
    have h := overAll_moved l (movedE e o)
    exact ⟨h.1, h.2.trans rfl⟩

theorem getD_lt {α : Type} (l m : List α) (i : Nat) (d : α) (h : i < l.length) : (l ++ m).getD i d = l.getD i d := by
  simp only [List.getD_eq_getElem?_getD, List.getElem?_append_left h]
theorem getD_eq {α : Type} (l : List α) (x d : α) : (l ++ [x]).getD l.length d = x := by
  simp [List.getD_eq_getElem?_getD]
theorem getD_get {α : Type} (l : List α) (i : Nat) (d : α) (h : i < l.length) : l.getD i d = l[i] := by
  simp [List.getD_eq_getElem?_getD, List.getElem?_eq_getElem h]

def it0 : It := ⟨0, 0, 0, ⟨0, 0, []⟩⟩
def ed0 : Ed := ⟨0, 0, []⟩
/-- what was made: the items, the edits that were applied, the texts -/
structure Mk (its : List It) (es : List Ed) (txs : List (List Int)) : Prop where
  le : es.length = its.length
  lt : txs.length = its.length + 1
  sz : ∀ i, i ≤ its.length → (txs.getD i []).length ≤ 20 + 3 * i
  sm : ∀ i, i ≤ its.length → ∀ x ∈ txs.getD i [], 0 ≤ x ∧ x ≤ 1114111
  bs : ∀ i, i < its.length → ∃ b : Nat, (its.getD i it0).base = b ∧ b ≤ i ∧ EdOf (txs.getD b []).length (its.getD i it0).e ∧ es.getD i ed0 = ((es.take i).drop b).foldl movedE (its.getD i it0).e
  cl : ∀ i, i < its.length → 0 ≤ (its.getD i it0).client ∧ (its.getD i it0).client < 3 ∧ (its.getD i it0).number = cntC (its.take i) (its.getD i it0).client ∧ (its.getD i it0).e.ins.length ≤ 3
  ed : ∀ i, i < its.length → EdOf (txs.getD i []).length (es.getD i ed0)
  nx : ∀ i, i < its.length → txs.getD (i + 1) [] = spliceE (txs.getD i []) (es.getD i ed0)

theorem Mk.start {t : List Int} (hl : t.length ≤ 20) (hs : ∀ x ∈ t, 0 ≤ x ∧ x ≤ 1114111) : Mk [] [] [t] :=
  ⟨rfl, rfl, fun i hi => by have : i = 0 := by simpa using hi
                            subst this; simpa using hl, fun i hi => by
      have : i = 0 := by simpa using hi
      subst this; simpa using hs, fun i hi => by simp at hi, fun i hi => by simp at hi, fun i hi => by simp at hi, fun i hi => by simp at hi⟩

/-- an edit of an earlier text, moved over what was applied since, is one of the text now -/
theorem Mk.moved {its : List It} {es : List Ed} {txs : List (List Int)} (h : Mk its es txs) {b : Nat} {f : Ed} (hf : EdOf (txs.getD b []).length f) : ∀ k, b + k ≤ its.length → EdOf (txs.getD (b + k) []).length (((es.take (b + k)).drop b).foldl movedE f)
  | 0, hk => by
    have : ((es.take (b + 0)).drop b) = [] := List.drop_eq_nil_of_le (by rw [List.length_take]; omega)
    rw [this]; exact hf
  | k + 1, hk => by
    have ih := h.moved hf k (by omega)
    have hlt : b + k < es.length := by rw [h.le]; omega
    have e1 : (es.take (b + (k + 1))).drop b = (es.take (b + k)).drop b ++ [es.getD (b + k) ed0] := by
      rw [← Nat.add_assoc, List.take_succ_eq_append_getElem hlt, List.drop_append_of_le_length (by rw [List.length_take]; omega), getD_get _ _ _ hlt]
    rw [e1, List.foldl_append]
    have h2 := h.ed (b + k) (by omega)
    have h3 := h.nx (b + k) (by omega)
    refine moved_of ih h2 ?_
    rw [← Nat.add_assoc, h3]
    exact spliceE_len h2

theorem cntC_take {l m : List It} {i : Nat} (h : i ≤ l.length) (c : Int) : cntC ((l ++ m).take i) c = cntC (l.take i) c := by
  rw [List.take_append_of_le_length h]

theorem Mk.snoc {its : List It} {es : List Ed} {txs : List (List Int)} (h : Mk its es txs) {x : It} {b : Nat} (hb : x.base = b) (hbl : b ≤ its.length) (hx : EdOf (txs.getD b []).length x.e) (hxs : ∀ y ∈ x.e.ins, 0 ≤ y ∧ y ≤ 1114111)
    (hc : 0 ≤ x.client ∧ x.client < 3) (hn : x.number = cntC its x.client) (h3i : x.e.ins.length ≤ 3) :
    Mk (its ++ [x]) (es ++ [(es.drop b).foldl movedE x.e]) (txs ++ [spliceE (txs.getD its.length []) ((es.drop b).foldl movedE x.e)]) ∧ EdOf (txs.getD its.length []).length ((es.drop b).foldl movedE x.e) := by
  have hm := h.moved hx (its.length - b) (by omega)
  have e1 : b + (its.length - b) = its.length := by omega
  rw [e1, List.take_of_length_le (by rw [h.le]; exact Nat.le_refl _)] at hm
  have hins := (overAll_moved (es.drop b) x.e).2
  generalize he' : (es.drop b).foldl movedE x.e = e' at *
  have hsl := spliceE_len hm
  have hlt := h.lt
  have hle := h.le
  have hti : ∀ i, i ≤ its.length → (txs ++ [spliceE (txs.getD its.length []) e']).getD i [] = txs.getD i [] := fun i hi => getD_lt _ _ _ _ (by omega)
  have htn : (txs ++ [spliceE (txs.getD its.length []) e']).getD (its.length + 1) [] = spliceE (txs.getD its.length []) e' := by
    have := getD_eq txs (spliceE (txs.getD its.length []) e') []
    rw [hlt] at this; exact this
  have hii : ∀ i, i < its.length → (its ++ [x]).getD i it0 = its.getD i it0 := fun i hi => getD_lt _ _ _ _ hi
  have hin : (its ++ [x]).getD its.length it0 = x := getD_eq _ _ _
  have hei : ∀ i, i < its.length → (es ++ [e']).getD i ed0 = es.getD i ed0 := fun i hi => getD_lt _ _ _ _ (by omega)
  have hen : (es ++ [e']).getD its.length ed0 = e' := by rw [← hle]; exact getD_eq _ _ _
  have htk : ∀ i, i ≤ its.length → (es ++ [e']).take i = es.take i := fun i hi => List.take_append_of_le_length (by omega)
  refine ⟨⟨by simp [hle], by simp [hlt], fun i hi => ?_, fun i hi y hy => ?_, fun i hi => ?_, fun i hi => ?_, fun i hi => ?_, fun i hi => ?_⟩, hm⟩
  · have hi' : i ≤ its.length + 1 := by simpa using hi
    rcases Nat.lt_or_ge its.length i with h1 | h1
    · have : i = its.length + 1 := by omega
      subst this
      rw [htn]
      have h2 := h.sz its.length (Nat.le_refl _)
      have h3 : e'.ins.length ≤ 3 := by rw [hins]; exact h3i
      have := hm.2.1
      omega
    · rw [hti i h1]; exact h.sz i h1
  · have hi' : i ≤ its.length + 1 := by simpa using hi
    rcases Nat.lt_or_ge its.length i with h1 | h1
    · have : i = its.length + 1 := by omega
      subst this
      rw [htn] at hy
      unfold spliceE spliceL at hy
      rcases List.mem_append.1 hy with hy | hy
      · rcases List.mem_append.1 hy with hy | hy
        · exact h.sm its.length (Nat.le_refl _) y (List.mem_of_mem_take hy)
        · rw [hins] at hy; exact hxs y hy
      · exact h.sm its.length (Nat.le_refl _) y (List.mem_of_mem_drop hy)
    · rw [hti i h1] at hy; exact h.sm i h1 y hy
  · have hi' : i < its.length + 1 := by simpa using hi
    rcases Nat.lt_or_ge i its.length with h1 | h1
    · obtain ⟨b', q1, q2, q3, q4⟩ := h.bs i h1
      refine ⟨b', ?_, q2, ?_, ?_⟩
      · rw [hii i h1]; exact q1
      · rw [hii i h1, hti b' (by omega)]; exact q3
      · rw [hei i h1, htk i (by omega), hii i h1]; exact q4
    · have : i = its.length := by omega
      subst this
      refine ⟨b, ?_, hbl, ?_, ?_⟩
      · rw [hin]; exact hb
      · rw [hin, hti b hbl]; exact hx
      · rw [hen, htk _ (Nat.le_refl _), List.take_of_length_le (by omega), hin]
        exact he'.symm
  · have hi' : i < its.length + 1 := by simpa using hi
    rcases Nat.lt_or_ge i its.length with h1 | h1
    · rw [hii i h1, cntC_take (by omega)]; exact h.cl i h1
    · have : i = its.length := by omega
      subst this
      rw [hin, cntC_take (Nat.le_refl _), List.take_length]
      exact ⟨hc.1, hc.2, hn, h3i⟩
  · have hi' : i < its.length + 1 := by simpa using hi
    rcases Nat.lt_or_ge i its.length with h1 | h1
    · rw [hti i (by omega), hei i h1]; exact h.ed i h1
    · have : i = its.length := by omega
      subst this
      rw [hti _ (Nat.le_refl _), hen]; exact hm
  · have hi' : i < its.length + 1 := by simpa using hi
    rcases Nat.lt_or_ge i its.length with h1 | h1
    · rw [hti (i + 1) (by omega), hti i (by omega), hei i h1]; exact h.nx i h1
    · have : i = its.length := by omega
      subst this
      rw [htn, hti _ (Nat.le_refl _), hen]
end Go.Proofs.Ythhfjomjjhenkaa
