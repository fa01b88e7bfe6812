/- The examples of the section: what Normal, Split and Fold are at them. -/
import Derived.Test.YtlbdjnbcoldjhaaH2
import Derived.Test.YtlbdjnbcoldjhaaG24
namespace Go.Proofs.Ytlbdjnbcoldjhaa
open Go.RowKit

theorem lv_good {l : List Sp} (h : ∀ s ∈ l, goodS s) : AllG l := h
theorem lv_all : AllG [(5, 9), (1, 3), (4, 4)] := fun s hs => by
  simp only [List.mem_cons, List.not_mem_nil, or_false] at hs
  rcases hs with rfl | rfl | rfl <;> (unfold goodS; simp)
theorem lv_canon1 (a b : Int) (h : a ≤ b) : Canon [(a, b)] := ⟨fun s hs => by
  obtain rfl := List.mem_singleton.1 hs
  exact h, List.pairwise_singleton _ _⟩
theorem lv_nrm : nrm [(5, 9), (1, 3), (4, 4)] = [(1, 9)] := by
  have h := nrm_law lv_all
  refine canon_ext h.1 (lv_canon1 1 9 (by omega)) (fun x => ?_)
  rw [h.2.1 x, Bool.eq_iff_iff]
  simp only [has_cons, has_nil, Bool.or_false, Bool.or_eq_true, decide_eq_true_eq]
  omega
theorem lv_classes : classes [[(1, 5)], [(3, 9)]] 9 = [[(0, 0)], [(1, 2)], [(3, 5)], [(6, 9)]] := by decide +kernel
theorem lv_ok1 (a b : Int) (h0 : 0 ≤ a) (h : a ≤ b) (h2 : b ≤ 1114111) : OkL [(a, b)] := canon_okL (lv_canon1 a b h) (fun s hs => by
  obtain rfl := List.mem_singleton.1 hs
  exact ⟨h0, h, h2⟩)
theorem lv_valid (a b : Int) (h0 : 0 ≤ a) (h : a ≤ b) (h2 : b ≤ 1114111) : validE [(a, b)] = 0 := by
  rw [validE_ok (lv_ok1 a b h0 h h2)]; simp
theorem lv_vErr : vErr [[(1, 5)], [(3, 9)]] = 0 := vErr_ok (fun j hj => by
  have : j = 0 ∨ j = 1 := by simp at hj; omega
  rcases this with rfl | rfl
  · exact lv_valid 1 5 (by omega) (by omega) (by omega)
  · exact lv_valid 3 9 (by omega) (by omega) (by omega))
theorem lv_splitE : splitE [[(1, 5)], [(3, 9)]] 9 = 0 := by
  unfold splitE
  rw [if_neg (by simp [lv_vErr]), if_neg (by omega), lv_classes]
  simp
theorem lv_g1 (a b : Int) (h0 : 0 ≤ a) (h : a ≤ b) (h2 : b ≤ 1114111) : ∀ s ∈ [(a, b)], goodS s := fun s hs => by
  obtain rfl := List.mem_singleton.1 hs
  exact ⟨h0, h, h2⟩
theorem lv_g2 (k l : List Sp) (h1 : ∀ s ∈ k, goodS s) (h2 : ∀ s ∈ l, goodS s) : ∀ a ∈ [k, l], ∀ s ∈ a, goodS s := fun a ha s hs => by
  rcases List.mem_cons.1 ha with rfl | ha
  · exact h1 s hs
  · obtain rfl := List.mem_singleton.1 ha
    exact h2 s hs
theorem lv_up : letters [(65, 66)] 65 90 32 = [(97, 98)] := by
  unfold letters
  have h := combo_law (k := kAnd) (ls := [[(65, 66)], [(65, 90)]]) (lv_g2 _ _ (lv_g1 65 66 (by omega) (by omega) (by omega)) (lv_g1 65 90 (by omega) (by omega) (by omega))) rfl
  have e : combo kAnd [[(65, 66)], [(65, 90)]] = [(65, 66)] := by
    refine canon_ext h.1 (lv_canon1 65 66 (by omega)) (fun x => ?_)
    rw [h.2 x, Bool.eq_iff_iff]
    simp only [kAnd, List.map_cons, List.map_nil, List.getD_cons_zero, List.getD_cons_succ, has_cons, has_nil, Bool.or_false, Bool.and_eq_true, decide_eq_true_eq]
    omega
  rw [e]; rfl
theorem lv_low : letters [(65, 66)] 97 122 (-32) = [] := by
  unfold letters
  have h := combo_law (k := kAnd) (ls := [[(65, 66)], [(97, 122)]]) (lv_g2 _ _ (lv_g1 65 66 (by omega) (by omega) (by omega)) (lv_g1 97 122 (by omega) (by omega) (by omega))) rfl
  have e : combo kAnd [[(65, 66)], [(97, 122)]] = [] := by
    refine canon_ext h.1 Canon.nil (fun x => ?_)
    rw [h.2 x, Bool.eq_iff_iff]
    simp only [kAnd, List.map_cons, List.map_nil, List.getD_cons_zero, List.getD_cons_succ, has_cons, has_nil, Bool.or_false, Bool.and_eq_true, decide_eq_true_eq]
    constructor
    · intro h; omega
    · intro h; cases h
  rw [e]; rfl
theorem lv_fold : foldL [(65, 66)] = [(65, 66), (97, 98)] := by
  unfold foldL
  rw [lv_up, lv_low]
  have h := combo_law (k := kOne) (ls := [[(65, 66)], [(97, 98)], []]) (fun a ha s hs => by
    simp only [List.mem_cons, List.not_mem_nil, or_false] at ha
    rcases ha with rfl | rfl | rfl
    · exact lv_g1 65 66 (by omega) (by omega) (by omega) s hs
    · exact lv_g1 97 98 (by omega) (by omega) (by omega) s hs
    · cases hs) rfl
  refine canon_ext h.1 ⟨fun s hs => ?_, ?_⟩ (fun x => ?_)
  · simp only [List.mem_cons, List.not_mem_nil, or_false] at hs
    rcases hs with rfl | rfl <;> simp
  · refine List.pairwise_cons.2 ⟨fun s hs => ?_, List.pairwise_singleton _ _⟩
    obtain rfl := List.mem_singleton.1 hs
    simp
  · rw [h.2 x, Bool.eq_iff_iff]
    simp only [kOne, List.map_cons, List.map_nil, List.getD_cons_zero, List.getD_cons_succ, has_cons, has_nil, Bool.or_false, Bool.or_eq_true, decide_eq_true_eq]

/-- a slice literal of one span, of spans -/
theorem SL.lit {w : World} {g T : Nat} (l : List Sp) (h : Blk w g T (flatS l).toArray) (hs : ∀ s ∈ l, Small s) (hl : l.length ≤ 1000) : SL w (some ⟨g, 0, none⟩) l.length l :=
  ⟨Nat.le_refl _, by unfold maxLen; omega, fun s hx => (hs s hx).s64, fun _ => ⟨g, 0, rfl, fun i hi => by
    obtain ⟨h1, h2⟩ := flatS_get l i hi
    rw [h.cell, h.cell]
    simp only [Nat.zero_add, List.getElem?_toArray]
    exact ⟨h1, h2⟩⟩⟩
end Go.Proofs.Ytlbdjnbcoldjhaa
