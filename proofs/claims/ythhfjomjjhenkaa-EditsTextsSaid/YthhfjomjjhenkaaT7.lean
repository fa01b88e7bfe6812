/- EditsTexts, the plain law: the desk takes the items in their order, each is ready at once. No walk. -/
import Derived.Test.YthhfjomjjhenkaaT1
import Derived.Test.YthhfjomjjhenkaaD4
namespace Go.Proofs.Ythhfjomjjhenkaa
open Go.RowKit

/-- one item that is ready: it comes out, and nothing else -/
theorem steps_lone {s s' : Ds} {out : List Oe} {p : (Int × Int) × Hv} (h : Steps s out s') (hs : s.hd = [p]) : (out = [] ∧ s' = s) ∨ (out = [outOf s p] ∧ s' = stepOf s p) := by
  induction h with
  | refl => exact .inl ⟨rfl, rfl⟩
  | snoc q _ hq _ _ ih =>
    rcases ih with ⟨rfl, rfl⟩ | ⟨rfl, rfl⟩
    · rw [hs] at hq
      obtain rfl := List.mem_singleton.1 hq
      exact .inr ⟨rfl, rfl⟩
    · simp [stepOf, hs, delL] at hq
theorem steps_one {s s' : Ds} {out : List Oe} {p : (Int × Int) × Hv} (h : Steps s out s') (hs : s.hd = [p]) (hr : isRdy s.nx s.ap.length p) (hn : noRdy s') : out = [outOf s p] ∧ s' = stepOf s p := by
  rcases steps_lone h hs with ⟨_, rfl⟩ | h
  · exact absurd hr (hn p (by rw [hs]; simp))
  · exact h

/-- the desk when i items were taken -/
structure TxI (its : List It) (es : List Ed) (i : Nat) (s : Ds) : Prop where
  ap : s.ap = (es.take i).map extE
  nx : ∀ c, nxOf s.nx c = cntC (its.take i) c
  hd : s.hd = []

theorem TxI.start (its : List It) (es : List Ed) : TxI its es 0 ⟨[], [], []⟩ := ⟨by simp, fun c => by simp [nxOf, at?, cntC], rfl⟩

theorem Mk.sized {its : List It} {es : List Ed} {txs : List (List Int)} (h : Mk its es txs) (hl : its.length ≤ 16) {i : Nat} (hi : i < its.length) :
    EdOf (txs.getD i []).length (es.getD i ed0) ∧ (txs.getD i []).length ≤ 68 ∧ (es.getD i ed0).ins = (its.getD i it0).e.ins ∧ (es.getD i ed0).ins.length ≤ 3 := by
  have h2 := h.sz i (by omega)
  obtain ⟨b, _, _, _, h3⟩ := h.bs i hi
  have h4 := (h.cl i hi).2.2.2
  have h5 := (overAll_moved ((es.take i).drop b) (its.getD i it0).e).2
  rw [← h3] at h5
  exact ⟨h.ed i hi, by omega, h5, by rw [h5]; exact h4⟩

theorem Mk.itOk {its : List It} {es : List Ed} {txs : List (List Int)} (h : Mk its es txs) (hl : its.length ≤ 16) {i : Nat} (hi : i < its.length) : ItOk (its.getD i it0) := by
  obtain ⟨b, hb, hbi, he, _⟩ := h.bs i hi
  obtain ⟨c1, c2, c3, c4⟩ := h.cl i hi
  have h2 := h.sz b (by omega)
  have hc : cntC (its.take i) (its.getD i it0).client ≤ i := by
    unfold cntC
    have := List.length_filter_le (fun x : It => x.client == (its.getD i it0).client) (its.take i)
    rw [List.length_take] at this
    omega
  refine ⟨c1, by omega, by omega, by omega, by omega, by omega, formed_of he (by omega) (by omega)⟩

theorem TxI.rdy {its : List It} {es : List Ed} {txs : List (List Int)} (h : Mk its es txs) {i : Nat} {s : Ds} (hs : TxI its es i s) (hi : i < its.length) (B : Option Addr) (d : Nat) :
    isRdy s.nx s.ap.length (((its.getD i it0).client, (its.getD i it0).number), ⟨its.getD i it0, B, d⟩) := by
  obtain ⟨b, hb, hbi, _, _⟩ := h.bs i hi
  have hle := h.le
  refine ⟨?_, ?_⟩
  · simp only
    rw [hs.nx, (h.cl i hi).2.2.1]
  · simp only
    rw [hs.ap, List.length_map, List.length_take, hb]
    omega

theorem TxI.step {its : List It} {es : List Ed} {txs : List (List Int)} (h : Mk its es txs) {i : Nat} {s : Ds} (hs : TxI its es i s) (hi : i < its.length) (B : Option Addr) (d : Nat) :
    TxI its es (i + 1) (stepOf ⟨s.ap, s.nx, [(((its.getD i it0).client, (its.getD i it0).number), ⟨its.getD i it0, B, d⟩)]⟩ (((its.getD i it0).client, (its.getD i it0).number), ⟨its.getD i it0, B, d⟩)) ∧
    outOf ⟨s.ap, s.nx, [(((its.getD i it0).client, (its.getD i it0).number), ⟨its.getD i it0, B, d⟩)]⟩ (((its.getD i it0).client, (its.getD i it0).number), ⟨its.getD i it0, B, d⟩) = ⟨es.getD i ed0, B, d⟩ := by
  obtain ⟨b, hb, hbi, _, he⟩ := h.bs i hi
  have hle := h.le
  have hie : i < es.length := by omega
  have hm : movedOf ⟨s.ap, s.nx, [(((its.getD i it0).client, (its.getD i it0).number), ⟨its.getD i it0, B, d⟩)]⟩ ⟨its.getD i it0, B, d⟩ = ((es.getD i ed0).at_, (es.getD i ed0).del) := by
    unfold movedOf
    simp only
    rw [hs.ap, hb, Int.toNat_natCast, ← List.map_drop, (overAll_moved _ _).1, ← he]
  have hins : (its.getD i it0).e.ins = (es.getD i ed0).ins := by
    rw [he]; exact (overAll_moved _ _).2.symm
  refine ⟨⟨?_, fun c => ?_, ?_⟩, ?_⟩
  · show s.ap ++ [((movedOf _ _).1, (movedOf _ _).2, (((its.getD i it0).e.ins.length : Nat) : Int))] = _
    rw [hm, hins, hs.ap, List.take_succ_eq_append_getElem hie, List.map_append, getD_get _ _ _ hie]
    rfl
  · simp only [stepOf]
    rw [nxOf_put, cntC_succ its c i hi, getD_get _ _ _ hi]
    by_cases hc : c = its[i].client
    · subst hc
      rw [if_pos rfl, if_pos rfl, hs.nx]; simp
    · rw [if_neg hc, if_neg (fun e => hc e.symm), hs.nx]; simp
  · simp [stepOf, delL]
  · simp only [outOf, hm, hins]

theorem TxI.old {its : List It} {es : List Ed} {txs : List (List Int)} (h : Mk its es txs) {i j : Nat} {s : Ds} (hs : TxI its es i s) (hi : i ≤ its.length) (hj : j < i) : (its.getD j it0).number < nxOf s.nx (its.getD j it0).client := by
  have hjl : j < its.length := by omega
  rw [hs.nx, (h.cl j hjl).2.2.1, getD_get _ _ _ hjl]
  have := cntC_lt its hjl hj
  omega
end Go.Proofs.Ythhfjomjjhenkaa
