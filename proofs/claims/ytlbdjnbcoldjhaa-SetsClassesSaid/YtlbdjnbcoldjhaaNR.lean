/- What Normal, Union, Meet and Minus return, as one law for the walks of the statements: an error and spans. -/
import Derived.Test.YtlbdjnbcoldjhaaH8
import Derived.Test.YtlbdjnbcoldjhaaH6
namespace Go.Proofs.Ytlbdjnbcoldjhaa
open Go.RowKit

/-- appending spans; zs: how the new list is to be written -/
theorem wpList_appSZ {w : World} {ops : Array Oper} {rest : List Oper} {o : Oper} {a : Act} {Q : Exit → Act → World → Prop} (hgd : o.guard = none) (s x : Operand) (t : Nat)
    (ho : o.op = .call { callee := .builtin .append, args := #[s, x], argTypes := #[t, t] }) (ht : Try.prog.underlying t = some (.slice 48))
    (a0 : World) (hext : Ext a0 w) (A : Option Addr) (c : Nat) (xs : List Sp) (hs : a.eval s = .slice A xs.length c) (hown : OwnP w a0.heap.size A c xs)
    (B : Option Addr) (d : Nat) (ys : List Sp) (hx : a.eval x = .slice B ys.length d) (hy : SL w B d ys) (hb : xs.length + ys.length ≤ 1000000) (zs : List Sp) (hz : zs = xs ++ ys)
    (h : ∀ A' c' w', OwnP w' a0.heap.size A' c' zs → Ext a0 w' → wpList Try.prog ops Q rest (a.put o.dst (.slice A' zs.length c')) w') : wpList Try.prog ops Q (o :: rest) a w := by
  subst hz
  exact wpList_appSS hgd s x t ho ht a0 hext A c xs hs hown B d ys hx hy hb h
theorem ownP_lit0 (w : World) : OwnP (w.alloc (.cells #[] 48)) w.heap.size (some ⟨w.heap.size, 0, none⟩) 0 [] :=
  OwnS.of_blk (size := 2) (c := 0) (n := 0) (Blk.new w 48 #[]) (Nat.le_refl _) rfl (Nat.le_refl _) (Nat.zero_le _)
theorem OwnP.sl' {w : World} {base c : Nat} {A : Option Addr} {l : List Sp} (h : OwnP w base A c l) (hg : ∀ s ∈ l, S64 s) : SL w A c l := SL.of_own h hg

theorem LLS.lit {w : World} {g T : Nat} (hs : List Hs) (h : Blk w g T (flatH hs).toArray) (hsl : ∀ h ∈ hs, SL w h.A h.c h.l) (hn : hs.length ≤ 1000) : LLS w (Option.some ⟨g, 0, none⟩) hs.length hs :=
  ⟨Nat.le_refl _, by unfold maxLen; omega, hsl, fun _ => ⟨g, 0, rfl, fun i hi => by
    rw [h.cell]
    simp [flatH, hi]⟩⟩

open Classical in
/-- the error of Normal -/
noncomputable def nE (l : List Sp) : Int := if AllG l then (if 64 < (nrm l).length then 4 else 0) else 1
/-- what Normal returns -/
noncomputable def nO (l : List Sp) : List Sp := if nE l = 0 then nrm l else []
def RetN (o : List Sp) (er : Int) (w : World) (e : Ending) (w' : World) : Prop :=
  ∃ (S : Option Addr) (cS : Nat), e = .returned (.tuple #[.slice S o.length cS, .int .i64 er]) ∧ SL w' S cS o ∧ Ext w w'
theorem RetNm.n {l : List Sp} {w w' : World} {e : Ending} (h : RetNm l w e w') : RetN (nO l) (nE l) w e w' := by
  rcases h with ⟨h1, rfl, x⟩ | ⟨h1, ⟨h64, rfl, x⟩ | ⟨h64, S, cS, rfl, hS, x, _⟩⟩
  · have e1 : nE l = 1 := by unfold nE; rw [if_neg h1]
    have e2 : nO l = [] := by unfold nO; rw [e1, if_neg (by omega)]
    rw [e1, e2]
    exact ⟨none, 0, rfl, SL.nil _, x⟩
  · have e1 : nE l = 4 := by unfold nE; rw [if_pos h1, if_pos h64]
    have e2 : nO l = [] := by unfold nO; rw [e1, if_neg (by omega)]
    rw [e1, e2]
    exact ⟨none, 0, rfl, SL.nil _, x⟩
  · have e1 : nE l = 0 := by unfold nE; rw [if_pos h1, if_neg (by omega)]
    have e2 : nO l = nrm l := by unfold nO; rw [e1, if_pos rfl]
    rw [e1, e2]
    exact ⟨S, cS, rfl, hS, x⟩
theorem sN (A : Option Addr) (c : Nat) (l : List Sp) (w : World) (hl : SL w A c l) (hlen : l.length ≤ 40000) : Calls Try.prog 22 #[.slice A l.length c] w (RetN (nO l) (nE l) w) := (sNormal_any A c l w hl hlen).mono (fun _ _ h => h.n)
theorem gN (A : Option Addr) (c : Nat) (l : List Sp) (w : World) (hl : SL w A c l) (hlen : l.length ≤ 40000) : Calls Try.prog 23 #[.slice A l.length c] w (RetN (nO l) (nE l) w) := (gNormal_any A c l w hl hlen).mono (fun _ _ h => h.n)
/-- Normal of what Normal returned is the same -/
theorem nO_again {l : List Sp} (h : nE l = 0) : nE (nO l) = 0 ∧ nO (nO l) = nO l ∧ validE (nO l) = 0 := by
  have hg : AllG l := by
    unfold nE at h
    split at h
    · assumption
    · omega
  have h64 : (nrm l).length ≤ 64 := by
    unfold nE at h
    rw [if_pos hg] at h
    split at h <;> omega
  have h1 := nrm_law hg
  have h2 := nrm_law h1.2.2.2
  have e : nO l = nrm l := by unfold nO; rw [if_pos h]
  have e2 : nrm (nrm l) = nrm l := canon_ext h2.1 h1.1 h2.2.1
  rw [e]
  have e3 : nE (nrm l) = 0 := by unfold nE; rw [if_pos (show AllG (nrm l) from h1.2.2.2), if_neg (by rw [e2]; omega)]
  refine ⟨e3, by unfold nO; rw [if_pos e3, e2], ?_⟩
  rw [validE_ok (canon_okL h1.1 h1.2.2.2), if_neg (by omega)]
theorem nO_len (l : List Sp) : (nO l).length ≤ 64 := by
  unfold nO
  by_cases h : nE l = 0
  · rw [if_pos h]
    unfold nE at h
    split at h
    · split at h <;> omega
    · omega
  · rw [if_neg h]; simp

/-- the error of a combination, and what it returns -/
noncomputable def cE (va vb : Int) (out : List Sp) : Int := if va ≠ 0 then va else if vb ≠ 0 then vb else if 64 < out.length then 4 else 0
noncomputable def cO (va vb : Int) (out : List Sp) : List Sp := if cE va vb out = 0 then out else []
theorem RetComb.n {va vb : Int} {out : List Sp} {w w' : World} {e : Ending} (h : RetComb va vb out w e w') : RetN (cO va vb out) (cE va vb out) w e w' := by
  rcases h with ⟨h1, rfl, x⟩ | ⟨h1, h2, rfl, x⟩ | ⟨h1, h2, ⟨h64, rfl, x⟩ | ⟨h64, S, cS, rfl, hS, x, _⟩⟩
  · have e1 : cE va vb out = va := by unfold cE; rw [if_pos h1]
    have e2 : cO va vb out = [] := by unfold cO; rw [e1, if_neg h1]
    rw [e1, e2]
    exact ⟨none, 0, rfl, SL.nil _, x⟩
  · have e1 : cE va vb out = vb := by unfold cE; rw [if_neg (by simp [h1]), if_pos h2]
    have e2 : cO va vb out = [] := by unfold cO; rw [e1, if_neg h2]
    rw [e1, e2]
    exact ⟨none, 0, rfl, SL.nil _, x⟩
  · have e1 : cE va vb out = 4 := by unfold cE; rw [if_neg (by simp [h1]), if_neg (by simp [h2]), if_pos h64]
    have e2 : cO va vb out = [] := by unfold cO; rw [e1, if_neg (by omega)]
    rw [e1, e2]
    exact ⟨none, 0, rfl, SL.nil _, x⟩
  · have e1 : cE va vb out = 0 := by unfold cE; rw [if_neg (by simp [h1]), if_neg (by simp [h2]), if_neg (by omega)]
    have e2 : cO va vb out = out := by unfold cO; rw [e1, if_pos rfl]
    rw [e1, e2]
    exact ⟨S, cS, rfl, hS, x⟩
theorem RetComb.cong {va vb : Int} {o1 o2 : List Sp} {w w' : World} {e : Ending} (h : RetComb va vb o1 w e w') (he : va = 0 → vb = 0 → o1 = o2) : RetComb va vb o2 w e w' := by
  rcases h with h | h | ⟨h1, h2, h3⟩
  · exact .inl h
  · exact .inr (.inl h)
  · exact .inr (.inr ⟨h1, h2, he h1 h2 ▸ h3⟩)
theorem two_eq {a b : List Sp} {k : List Bool → Bool} (h0 : k [false, false] = false) (ha : validE a = 0) (hb : validE b = 0) : cls (endsT 1114111 [a, b]) 1114111 (fun x => k [has a x, has b x]) = combo k [a, b] :=
  (combo_eq (k := k) (ls := [a, b]) (lv_g2 a b (validE_good ha).2.1 (validE_good hb).2.1) h0).symm

theorem sC0 (A B : Option Addr) (c d : Nat) (a b : List Sp) (w : World) (ha : SL w A c a) (hb : SL w B d b) :
    Calls Try.prog 25 #[.slice A a.length c, .slice B b.length d] w (RetN (cO (validE a) (validE b) (combo kOr [a, b])) (cE (validE a) (validE b) (combo kOr [a, b])) w) := (union_any A B c d a b w ha hb).mono (fun _ _ h => h.n)
theorem gC0 (A B : Option Addr) (c d : Nat) (a b : List Sp) (w : World) (ha : SL w A c a) (hb : SL w B d b) :
    Calls Try.prog 28 #[.slice A a.length c, .slice B b.length d, .int .i64 0] w (RetN (cO (validE a) (validE b) (combo kOr [a, b])) (cE (validE a) (validE b) (combo kOr [a, b])) w) := (gCombine0_any A B c d a b w ha hb).mono (fun _ _ h => (h.cong (fun h1 h2 => two_eq (k := kOr) rfl h1 h2)).n)

theorem sC1 (A B : Option Addr) (c d : Nat) (a b : List Sp) (w : World) (ha : SL w A c a) (hb : SL w B d b) :
    Calls Try.prog 26 #[.slice A a.length c, .slice B b.length d] w (RetN (cO (validE a) (validE b) (combo kAnd [a, b])) (cE (validE a) (validE b) (combo kAnd [a, b])) w) := (meet_any A B c d a b w ha hb).mono (fun _ _ h => h.n)
theorem gC1 (A B : Option Addr) (c d : Nat) (a b : List Sp) (w : World) (ha : SL w A c a) (hb : SL w B d b) :
    Calls Try.prog 28 #[.slice A a.length c, .slice B b.length d, .int .i64 1] w (RetN (cO (validE a) (validE b) (combo kAnd [a, b])) (cE (validE a) (validE b) (combo kAnd [a, b])) w) := (gCombine1_any A B c d a b w ha hb).mono (fun _ _ h => (h.cong (fun h1 h2 => two_eq (k := kAnd) rfl h1 h2)).n)

theorem sC2 (A B : Option Addr) (c d : Nat) (a b : List Sp) (w : World) (ha : SL w A c a) (hb : SL w B d b) :
    Calls Try.prog 27 #[.slice A a.length c, .slice B b.length d] w (RetN (cO (validE a) (validE b) (combo kMinus [a, b])) (cE (validE a) (validE b) (combo kMinus [a, b])) w) := (sminus_any A B c d a b w ha hb).mono (fun _ _ h => h.n)
theorem gC2 (A B : Option Addr) (c d : Nat) (a b : List Sp) (w : World) (ha : SL w A c a) (hb : SL w B d b) :
    Calls Try.prog 28 #[.slice A a.length c, .slice B b.length d, .int .i64 2] w (RetN (cO (validE a) (validE b) (combo kMinus [a, b])) (cE (validE a) (validE b) (combo kMinus [a, b])) w) := (gCombine2_any A B c d a b w ha hb).mono (fun _ _ h => (h.cong (fun h1 h2 => two_eq (k := kMinus) rfl h1 h2)).n)
theorem cO_len (va vb : Int) (out : List Sp) : (cO va vb out).length ≤ 64 := by
  unfold cO
  by_cases h : cE va vb out = 0
  · rw [if_pos h]
    unfold cE at h
    split at h
    · omega
    · split at h
      · omega
      · split at h <;> omega
  · rw [if_neg h]; simp

end Go.Proofs.Ytlbdjnbcoldjhaa
