/- Walks of the reference: Of. -/
import Derived.Test.YtlbdjnbcoldjhaaG7
namespace Go.Proofs.Ytlbdjnbcoldjhaa
open Go.RowKit

/-- The slice '.slice A bs.length c' holds the truth values bs. -/
structure IB (w : World) (A : Option Addr) (c : Nat) (bs : List Bool) : Prop where
  le : bs.length ≤ c
  cap : c ≤ maxLen
  at_ : bs ≠ [] → ∃ b o, A = some ⟨b, o, none⟩ ∧ ∀ i (h : i < bs.length), w.cell? ⟨b, o + i, none⟩ = some (.bool bs[i])
namespace IB
variable {w w' : World} {A : Option Addr} {c : Nat} {bs : List Bool}
theorem ext (h : IB w A c bs) (k : Ext w w') : IB w' A c bs := by
  refine ⟨h.le, h.cap, fun hn => ?_⟩
  obtain ⟨b, o, rfl, hc⟩ := h.at_ hn
  exact ⟨b, o, rfl, fun i hi => k.cell (hc i hi)⟩
theorem nil (w : World) : IB w none 0 [] := ⟨Nat.le_refl _, Nat.zero_le _, fun h => absurd rfl h⟩
theorem len (h : IB w A c bs) : bs.length ≤ c ∧ c ≤ 9223372036854775807 := ⟨h.le, by have := h.cap; unfold maxLen at this; omega⟩
theorem get {k : Nat} (h : IB w A c bs) (hk : k < bs.length) : ∃ b o, A = some ⟨b, o, none⟩ ∧ w.cell? ⟨b, o + k, none⟩ = some (.bool bs[k]) := by
  obtain ⟨b, o, rfl, hc⟩ := h.at_ (by intro h0; subst h0; simp at hk)
  exact ⟨b, o, rfl, hc k hk⟩
theorem of_own {base : Nat} (h : OwnS w base 4 1 A bs.length c (bs.map Value.bool)) : IB w A c bs := by
  have hc := OwnS.caps h
  refine ⟨hc.1, by unfold maxLen; omega, fun hn => ?_⟩
  obtain ⟨b, o, hA, hcell⟩ := OwnS.cells h (by intro e; rw [List.map_eq_nil_iff] at e; exact hn e)
  refine ⟨b, o, hA, fun i hi => ?_⟩
  have := hcell i (by simpa using hi)
  simpa using this
end IB

theorem segsT_get : ∀ {l : List Int} {top : Int} {i : Nat} (hi : i < l.length), (segsT l top)[i]'(by rw [segsT_len]; exact hi) = (l[i], if h : i + 1 < l.length then l[i + 1] - 1 else top)
  | [a], top, i, hi => by
    have : i = 0 := by simpa using hi
    subst this; simp [segsT]
  | a :: b :: r, top, i, hi => by
    rcases i with _ | i
    · simp [segsT_cons]
    · have := segsT_get (l := b :: r) (top := top) (i := i) (by simpa using hi)
      simp only [segsT_cons, List.getElem_cons_succ, this]
      simp

/-- what Of has made of the first i pieces -/
def ofUpto (p : Int → Bool) (l : List Int) (top : Int) (i : Nat) : List Sp × Bool := ofAll p ((segsT l top).take i) ([], false)
theorem ofUpto_zero (p : Int → Bool) (l : List Int) (top : Int) : ofUpto p l top 0 = ([], false) := rfl
theorem ofUpto_succ {p : Int → Bool} {l : List Int} {top : Int} {i : Nat} (hi : i < l.length) : ofUpto p l top (i + 1) = ofStep (ofUpto p l top i) (l[i], if h : i + 1 < l.length then l[i + 1] - 1 else top) (p l[i]) := by
  unfold ofUpto ofAll
  rw [List.take_succ_eq_append_getElem (by rw [segsT_len]; exact hi), List.foldl_append, segsT_get hi]
  rfl
theorem ofUpto_flag {p : Int → Bool} {l : List Int} {top : Int} {i : Nat} (hi : i < l.length) : (ofUpto p l top (i + 1)).2 = p l[i] := by
  rw [ofUpto_succ hi]; rfl
theorem ofUpto_ne {p : Int → Bool} {l : List Int} {top : Int} : ∀ {i : Nat}, i ≤ l.length → (ofUpto p l top i).2 = true → (ofUpto p l top i).1 ≠ []
  | 0, _, h => by rw [ofUpto_zero] at h; cases h
  | i + 1, hi, h => by
    rw [ofUpto_succ (by omega)] at h ⊢
    have hb : p (l[i]'(by omega)) = true := h
    unfold ofStep
    simp only [hb, if_true]
    split <;> simp
theorem ofUpto_all {p : Int → Bool} {l : List Int} {top : Int} (hE : Ends l top) : (ofUpto p l top l.length).1 = cls l top p := by
  unfold ofUpto
  rw [List.take_of_length_le (by rw [segsT_len]; exact Nat.le_refl _)]
  exact of_cls hE p
theorem ofStep_no {st : List Sp × Bool} {s : Sp} : (ofStep st s false).1 = st.1 := rfl
theorem ofStep_new {st : List Sp × Bool} {s : Sp} (h : st.2 = false) : (ofStep st s true).1 = st.1 ++ [s] := by unfold ofStep; simp [h]
theorem ofStep_join {st : List Sp × Bool} {s t : Sp} {l0 : List Sp} (h : st.2 = true) (hl : st.1 = l0 ++ [t]) : (ofStep st s true).1 = l0 ++ [(t.1, s.2)] := by unfold ofStep; simp [h, hl]
theorem ofUpto_len {p : Int → Bool} {l : List Int} {top : Int} : ∀ {i : Nat}, i ≤ l.length → (ofUpto p l top i).1.length ≤ i
  | 0, _ => by rw [ofUpto_zero]; simp
  | i + 1, hi => by
    have ih := ofUpto_len (p := p) (l := l) (top := top) (i := i) (by omega)
    rw [ofUpto_succ (by omega)]
    unfold ofStep
    split
    · split
      · simp; omega
      · simp; omega
    · simp; omega

theorem cls_good {l : List Int} {top : Int} (hE : Ends l top) (h0 : l.head? = some 0) (ht : top ≤ 1114111) (p : Int → Bool) : ∀ s ∈ cls l top p, goodS s := by
  intro s hs
  obtain ⟨h1, h2⟩ := cls_canon hE p
  have h3 := h1.1 s hs
  have h4 := (h2 s.1).1 (has_iff.2 ⟨s, hs, Int.le_refl _, h3⟩)
  have h5 := (h2 s.2).1 (has_iff.2 ⟨s, hs, h3, Int.le_refl _⟩)
  obtain ⟨u, hu, _, h6, _⟩ := h4
  obtain ⟨v, hv, _, _, h7⟩ := h5
  have h8 := segsT_mem hE u hu
  have h9 := segsT_mem hE v hv
  have h10 : 0 ≤ u.1 := by
    rcases l with _ | ⟨a, l⟩
    · simp at h0
    · obtain rfl : a = 0 := by simpa using h0
      rcases List.mem_cons.1 h8.1 with e | e
      · omega
      · have := (List.pairwise_cons.1 hE.inc).1 u.1 e; omega
  unfold goodS
  omega

/-- a set, or the error of too many spans -/
def RetS (out : List Sp) (w : World) (e : Ending) (w' : World) : Prop :=
  (64 < out.length ∧ e = .returned (.tuple #[.slice none 0 0, .int .i64 4]) ∧ Ext w w') ∨
  (out.length ≤ 64 ∧ ∃ (A : Option Addr) (c : Nat), e = .returned (.tuple #[.slice A out.length c, .int .i64 0]) ∧ SL w' A c out ∧ Ext w w' ∧ Fr w A)

set_option maxRecDepth 100000 in
set_option maxHeartbeats 4000000 in
theorem of_any (A B : Option Addr) (c d : Nat) (l : List Int) (p : Int → Bool) (top : Int) (w : World) (hl : IL w A c l) (hb : IB w B d (l.map p)) (hE : Ends l top) (h0 : l.head? = some 0) (ht : top ≤ 1114111) (hlen : l.length ≤ 1000000) :
    Calls Try.prog 42 #[.slice A l.length c, .slice B l.length d, .int .i64 top] w (RetS (cls l top p) w) := by
  obtain ⟨iS, jS0, jS1, jS2, jS3⟩ := info_parts infoS
  have hcap := hl.len
  have hcap2 := hb.len
  rw [List.length_map] at hcap2
  have HALL := Lib.hid (ofUpto_all (p := p) hE)
  have HG := Lib.hid (cls_good hE h0 ht p)
  have hE0 : ∀ x ∈ l, 0 ≤ x ∧ x ≤ 1114111 := fun x hx => by
    have h1 := hE.le x hx
    refine ⟨?_, by omega⟩
    rcases l with _ | ⟨a, l⟩
    · simp at h0
    · obtain rfl : a = 0 := by simpa using h0
      rcases List.mem_cons.1 hx with e | e
      · omega
      · have := (List.pairwise_cons.1 hE.inc).1 x e; omega
  have HE0 := Lib.hid hE0
  generalize cls l top p = out at *
  clear hE0 hE h0
  go_enter Try.func42, Try.ntmps42
  go_wp2
  go_loopw [8, 9] (fun v8 v9 wr => ∃ (i : Nat) (O : Option Addr) (cO : Nat) (xs : List Sp), v9 = .int .i64 i ∧ i ≤ l.length ∧ v8 = .slice O xs.length cO ∧ Hid (xs = (ofUpto p l top i).1 ∧ OwnP wr w.heap.size O cO xs) ∧ Ext w wr) (fun _ v _ => l.length - (intOf v).toNat)
  case atStart => exact ⟨0, none, 0, [], rfl, by omega, rfl, ⟨rfl, OwnP.nil _ _⟩, Ext.rfl' _⟩
  case round =>
    obtain ⟨i, O, cO, xs, rfl, hi, rfl, HX, x1⟩ := hrel
    by_cases hlt : i < l.length
    · have hiI : (i : Int) < l.length := by omega
      obtain ⟨pb, po, hB, g0⟩ := (hb.ext x1).get (k := i) (by rw [List.length_map]; exact hlt)
      subst hB
      simp only [List.getElem_map] at g0
      have HSU := Lib.hid (ofUpto_succ (p := p) (top := top) hlt)
      have HXB := Lib.hid (show xs.length ≤ 1000000 by
        have := ofUpto_len (p := p) (l := l) (top := top) (i := i) hi
        rw [HX.out.1]; omega)
      have hxb := HXB.out
      obtain ⟨pa, qa, hAe, g1⟩ := (hl.ext x1).get hlt
      have hx0 := HE0.out _ (List.getElem_mem hlt)
      by_cases hp : p l[i] = true
      · rw [hp] at g0 HSU
        by_cases hn1 : i + 1 < l.length
        · obtain ⟨pa2, qa2, hAe2, g2⟩ := (hl.ext x1).get hn1
          have hy0 := HE0.out _ (List.getElem_mem hn1)
          rw [hAe] at hAe2
          obtain ⟨rfl, rfl⟩ : pa = pa2 ∧ qa = qa2 := by injection hAe2 with h1; injection h1 with h2 h3 h4; exact ⟨h2, h3⟩
          rw [dif_pos hn1] at HSU
          have hnI : (i : Int) + 1 < l.length := by omega
          have hn0 : (0 : Int) ≤ (i : Int) + 1 := by omega
          have hto : ((i : Int) + 1).toNat = i + 1 := by omega
          have hwi : IntKind.i64.wrap ((i : Int) + 1) = (i : Int) + 1 := by rw [IntKind.wrap_i64]; omega
          have hwy : IntKind.i64.wrap (l[i + 1] - 1) = l[i + 1] - 1 := by rw [IntKind.wrap_i64]; omega
          subst hAe
          clear hAe2
          generalize l[i] = x at *
          generalize l[i + 1] = y at *
          clear hp
          rcases Nat.eq_zero_or_pos i with h0 | h0
          · subst h0
            have HFL := Lib.hid (show (ofUpto p l top 0).2 = false from rfl)
            simp only [Nat.add_zero, Nat.zero_add] at *
            have HSU2 := Lib.hid (show xs ++ [(x, y - 1)] = (ofUpto p l top (0 + 1)).1 by
              rw [HSU.out, ofStep_new HFL.out, HX.out.1])
            have HO := Lib.hid HX.out.2
            have HNB := Lib.hid (Blk.new wr 48 (flatS [(x, y - 1)]).toArray)
            have HL6 := Lib.hid (show xs.length + 1 ≤ maxLen ∧ (xs.length + 1) * 16 ≤ 140737488355328 by unfold maxLen; omega)
            have HBS := Lib.hid (x1.trans (Ext.alloc wr (.cells (flatS [(x, y - 1)]).toArray 48))).size
            have HLN := Lib.hid (show (xs ++ [(x, y - 1)]).length = xs.length + 1 by simp)
            clear HX HSU HFL
            go_wp2_with ((at_builtin; refine wpList_app _ rfl _ _ _ rfl w.heap.size 48 iS _ 2 16 Try.underlying24 jS0 jS1 jS2 jS3 rfl (by omega) O xs.length cO (flatS xs) rfl (OwnS.ext HO.out (Ext.alloc _ _)) _ 1 1 (flatS [(x, y - 1)]) rfl rfl (blk_cells HNB.out) (flatS_one _) HL6.out.1 HL6.out.2 HBS.out ?_; intro O2 cO2 w2 ho2 hg2 hat2))
            have x2 := Ext.app (x1.trans (Ext.alloc _ _)) (OwnS.ext HO.out (Ext.alloc _ _)) hg2
            have HP2 : Hid (xs ++ [(x, y - 1)] = (ofUpto p l top (0 + 1)).1 ∧ OwnP w2 w.heap.size O2 cO2 (xs ++ [(x, y - 1)])) := ⟨HSU2.out, by unfold OwnP; rw [HLN.out, flatS_append]; exact ho2⟩
            clear hg2 ho2 hat2 HNB HO HSU2 HBS HL6
            go_roundw
            case rel => exact ⟨0 + 1, O2, cO2, xs ++ [(x, y - 1)], by go_num, by omega, by rw [HLN.out], HP2, x2⟩
            case measure => simp [intOf]; omega
          · obtain ⟨k, rfl⟩ : ∃ k, i = k + 1 := ⟨i - 1, by omega⟩
            have hkl : k < l.length := by omega
            obtain ⟨pb2, po2, hB2, g3⟩ := (hb.ext x1).get (k := k) (by rw [List.length_map]; exact hkl)
            obtain ⟨rfl, rfl⟩ : pb = pb2 ∧ po = po2 := by injection hB2 with h1; injection h1 with h2 h3 h4; exact ⟨h2, h3⟩
            simp only [List.getElem_map] at g3
            have hflag := ofUpto_flag (p := p) (top := top) hkl
            have hki : (0 : Int) < (k : Int) + 1 := by omega
            have hki0 : (0 : Int) ≤ (k : Int) + 1 := by omega
            have hkto : ((k : Int) + 1).toNat = k + 1 := by omega
            have hk1 : (k : Int) + 1 < l.length := by omega
            have hk2 : (k : Int) < l.length := by omega
            have hwk : IntKind.i64.wrap ((k : Int) + 1 - 1) = (k : Int) := by rw [IntKind.wrap_i64]; omega
            have hwk2 : IntKind.i64.wrap (k : Int) = (k : Int) := by rw [IntKind.wrap_i64]; omega
            have hwk3 : IntKind.i64.wrap ((k : Int) + 1 + 1) = (k : Int) + 1 + 1 := by rw [IntKind.wrap_i64]; omega
            have hkto3 : ((k : Int) + 1 + 1).toNat = k + 1 + 1 := by omega
            have hkn3 : (0 : Int) ≤ (k : Int) + 1 + 1 := by omega
            have hkl3 : (k : Int) + 1 + 1 < (l.length : Int) := by omega
            clear hB2
            by_cases hpk : p l[k] = true
            · rw [hpk] at g3 hflag
              have HFL := Lib.hid hflag
              clear hflag hpk
              obtain ⟨l0, t, hxs⟩ : ∃ l0 t, xs = l0 ++ [t] := by
                have hne : xs ≠ [] := by rw [HX.out.1]; exact ofUpto_ne (by omega) HFL.out
                rcases List.eq_nil_or_concat xs with h | ⟨l0, t, h⟩
                · exact absurd h hne
                · exact ⟨l0, t, by rw [h, List.concat_eq_append]⟩
              have HSU2 := Lib.hid (show l0 ++ [(t.1, y - 1)] = (ofUpto p l top (k + 1 + 1)).1 by
                rw [HSU.out, ofStep_join HFL.out (HX.out.1.symm.trans hxs)])
              obtain ⟨n, hn⟩ : ∃ n, n = l0.length := ⟨_, rfl⟩
              have hxl : xs.length = n + 1 := by rw [hxs]; simp [hn]
              have HOW : OwnS wr w.heap.size 48 2 O (n + 1) cO (flatS (l0 ++ [t])) := by
                have := HX.out.2
                unfold OwnP at this
                rw [hxl, hxs] at this
                exact this
              generalize xs.length = q at *
              subst hxl
              have hfl : n * 2 + 1 < (flatS (l0 ++ [t])).length := by rw [flatS_len, List.length_append, List.length_singleton]; omega
              obtain ⟨go, hOe, hgo, -, -, -, -⟩ := OwnS.store HOW hfl
              subst hOe
              obtain ⟨u1, u2, u3⟩ := lastCell HOW hn.symm
              have HST := Lib.hid (lastStore HOW hn.symm (y - 1))
              have HLN := Lib.hid (show (l0 ++ [(t.1, y - 1)]).length = n + 1 by simp [hn])
              have hn1 : (0 : Int) < (n : Int) + 1 := by omega
              have hn2 : (n : Int) < (n : Int) + 1 := by omega
              have hwn : IntKind.i64.wrap ((n : Int) + 1 - 1) = (n : Int) := by rw [IntKind.wrap_i64]; omega
              have hwn2 : IntKind.i64.wrap (n : Int) = (n : Int) := by rw [IntKind.wrap_i64]; omega
              have x2 := x1.setNew (p := ⟨go, n * 2 + 1, none⟩) hgo (.int .i64 (y - 1))
              clear HX HSU HFL hxs hfl HOW hn
              go_wp2_with fail
              have HP2 : Hid (l0 ++ [(t.1, y - 1)] = (ofUpto p l top (k + 1 + 1)).1 ∧ OwnP (wr.setCell ⟨go, n * 2 + 1, none⟩ (.int .i64 (y - 1))) w.heap.size (some ⟨go, 0, none⟩) cO (l0 ++ [(t.1, y - 1)])) := ⟨HSU2.out, by unfold OwnP; rw [HLN.out]; exact HST.out⟩
              clear HST HSU2
              go_roundw
              case rel => exact ⟨k + 1 + 1, some ⟨go, 0, none⟩, cO, l0 ++ [(t.1, y - 1)], by go_num, by omega, by rw [HLN.out], HP2, x2⟩
              case measure => simp [intOf]; omega
            · have hpk2 : p l[k] = false := by simpa using hpk
              rw [hpk2] at g3 hflag
              have HFL := Lib.hid hflag
              clear hflag hpk hpk2
              have HSU2 := Lib.hid (show xs ++ [(x, y - 1)] = (ofUpto p l top (k + 1 + 1)).1 by
                rw [HSU.out, ofStep_new HFL.out, HX.out.1])
              have HO := Lib.hid HX.out.2
              have HNB := Lib.hid (Blk.new wr 48 (flatS [(x, y - 1)]).toArray)
              have HL6 := Lib.hid (show xs.length + 1 ≤ maxLen ∧ (xs.length + 1) * 16 ≤ 140737488355328 by unfold maxLen; omega)
              have HBS := Lib.hid (x1.trans (Ext.alloc wr (.cells (flatS [(x, y - 1)]).toArray 48))).size
              have HLN := Lib.hid (show (xs ++ [(x, y - 1)]).length = xs.length + 1 by simp)
              clear HX HSU HFL
              go_wp2_with ((at_builtin; refine wpList_app _ rfl _ _ _ rfl w.heap.size 48 iS _ 2 16 Try.underlying24 jS0 jS1 jS2 jS3 rfl (by omega) O xs.length cO (flatS xs) rfl (OwnS.ext HO.out (Ext.alloc _ _)) _ 1 1 (flatS [(x, y - 1)]) rfl rfl (blk_cells HNB.out) (flatS_one _) HL6.out.1 HL6.out.2 HBS.out ?_; intro O2 cO2 w2 ho2 hg2 hat2))
              have x2 := Ext.app (x1.trans (Ext.alloc _ _)) (OwnS.ext HO.out (Ext.alloc _ _)) hg2
              have HP2 : Hid (xs ++ [(x, y - 1)] = (ofUpto p l top (k + 1 + 1)).1 ∧ OwnP w2 w.heap.size O2 cO2 (xs ++ [(x, y - 1)])) := ⟨HSU2.out, by unfold OwnP; rw [HLN.out, flatS_append]; exact ho2⟩
              clear hg2 ho2 hat2 HNB HO HSU2 HBS HL6
              go_roundw
              case rel => exact ⟨k + 1 + 1, O2, cO2, xs ++ [(x, y - 1)], by go_num, by omega, by rw [HLN.out], HP2, x2⟩
              case measure => simp [intOf]; omega
        · rw [dif_neg hn1] at HSU
          have hnI : ¬ (i : Int) + 1 < l.length := by omega
          have hwi : IntKind.i64.wrap ((i : Int) + 1) = (i : Int) + 1 := by rw [IntKind.wrap_i64]; omega
          subst hAe
          generalize l[i] = x at *
          clear hp
          rcases Nat.eq_zero_or_pos i with h0 | h0
          · subst h0
            have HFL := Lib.hid (show (ofUpto p l top 0).2 = false from rfl)
            simp only [Nat.add_zero, Nat.zero_add] at *
            have HSU2 := Lib.hid (show xs ++ [(x, top)] = (ofUpto p l top (0 + 1)).1 by
              rw [HSU.out, ofStep_new HFL.out, HX.out.1])
            have HO := Lib.hid HX.out.2
            have HNB := Lib.hid (Blk.new wr 48 (flatS [(x, top)]).toArray)
            have HL6 := Lib.hid (show xs.length + 1 ≤ maxLen ∧ (xs.length + 1) * 16 ≤ 140737488355328 by unfold maxLen; omega)
            have HBS := Lib.hid (x1.trans (Ext.alloc wr (.cells (flatS [(x, top)]).toArray 48))).size
            have HLN := Lib.hid (show (xs ++ [(x, top)]).length = xs.length + 1 by simp)
            clear HX HSU HFL
            go_wp2_with ((at_builtin; refine wpList_app _ rfl _ _ _ rfl w.heap.size 48 iS _ 2 16 Try.underlying24 jS0 jS1 jS2 jS3 rfl (by omega) O xs.length cO (flatS xs) rfl (OwnS.ext HO.out (Ext.alloc _ _)) _ 1 1 (flatS [(x, top)]) rfl rfl (blk_cells HNB.out) (flatS_one _) HL6.out.1 HL6.out.2 HBS.out ?_; intro O2 cO2 w2 ho2 hg2 hat2))
            have x2 := Ext.app (x1.trans (Ext.alloc _ _)) (OwnS.ext HO.out (Ext.alloc _ _)) hg2
            have HP2 : Hid (xs ++ [(x, top)] = (ofUpto p l top (0 + 1)).1 ∧ OwnP w2 w.heap.size O2 cO2 (xs ++ [(x, top)])) := ⟨HSU2.out, by unfold OwnP; rw [HLN.out, flatS_append]; exact ho2⟩
            clear hg2 ho2 hat2 HNB HO HSU2 HBS HL6
            go_roundw
            case rel => exact ⟨0 + 1, O2, cO2, xs ++ [(x, top)], by go_num, by omega, by rw [HLN.out], HP2, x2⟩
            case measure => simp [intOf]; omega
          · obtain ⟨k, rfl⟩ : ∃ k, i = k + 1 := ⟨i - 1, by omega⟩
            have hkl : k < l.length := by omega
            obtain ⟨pb2, po2, hB2, g3⟩ := (hb.ext x1).get (k := k) (by rw [List.length_map]; exact hkl)
            obtain ⟨rfl, rfl⟩ : pb = pb2 ∧ po = po2 := by injection hB2 with h1; injection h1 with h2 h3 h4; exact ⟨h2, h3⟩
            simp only [List.getElem_map] at g3
            have hflag := ofUpto_flag (p := p) (top := top) hkl
            have hki : (0 : Int) < (k : Int) + 1 := by omega
            have hki0 : (0 : Int) ≤ (k : Int) + 1 := by omega
            have hkto : ((k : Int) + 1).toNat = k + 1 := by omega
            have hk1 : (k : Int) + 1 < l.length := by omega
            have hk2 : (k : Int) < l.length := by omega
            have hwk : IntKind.i64.wrap ((k : Int) + 1 - 1) = (k : Int) := by rw [IntKind.wrap_i64]; omega
            have hwk2 : IntKind.i64.wrap (k : Int) = (k : Int) := by rw [IntKind.wrap_i64]; omega
            have hwk3 : IntKind.i64.wrap ((k : Int) + 1 + 1) = (k : Int) + 1 + 1 := by rw [IntKind.wrap_i64]; omega
            have hkto3 : ((k : Int) + 1 + 1).toNat = k + 1 + 1 := by omega
            have hkn3 : (0 : Int) ≤ (k : Int) + 1 + 1 := by omega
            have hkl3 : ¬ (k : Int) + 1 + 1 < (l.length : Int) := by omega
            clear hB2
            by_cases hpk : p l[k] = true
            · rw [hpk] at g3 hflag
              have HFL := Lib.hid hflag
              clear hflag hpk
              obtain ⟨l0, t, hxs⟩ : ∃ l0 t, xs = l0 ++ [t] := by
                have hne : xs ≠ [] := by rw [HX.out.1]; exact ofUpto_ne (by omega) HFL.out
                rcases List.eq_nil_or_concat xs with h | ⟨l0, t, h⟩
                · exact absurd h hne
                · exact ⟨l0, t, by rw [h, List.concat_eq_append]⟩
              have HSU2 := Lib.hid (show l0 ++ [(t.1, top)] = (ofUpto p l top (k + 1 + 1)).1 by
                rw [HSU.out, ofStep_join HFL.out (HX.out.1.symm.trans hxs)])
              obtain ⟨n, hn⟩ : ∃ n, n = l0.length := ⟨_, rfl⟩
              have hxl : xs.length = n + 1 := by rw [hxs]; simp [hn]
              have HOW : OwnS wr w.heap.size 48 2 O (n + 1) cO (flatS (l0 ++ [t])) := by
                have := HX.out.2
                unfold OwnP at this
                rw [hxl, hxs] at this
                exact this
              generalize xs.length = q at *
              subst hxl
              have hfl : n * 2 + 1 < (flatS (l0 ++ [t])).length := by rw [flatS_len, List.length_append, List.length_singleton]; omega
              obtain ⟨go, hOe, hgo, -, -, -, -⟩ := OwnS.store HOW hfl
              subst hOe
              obtain ⟨u1, u2, u3⟩ := lastCell HOW hn.symm
              have HST := Lib.hid (lastStore HOW hn.symm (top))
              have HLN := Lib.hid (show (l0 ++ [(t.1, top)]).length = n + 1 by simp [hn])
              have hn1 : (0 : Int) < (n : Int) + 1 := by omega
              have hn2 : (n : Int) < (n : Int) + 1 := by omega
              have hwn : IntKind.i64.wrap ((n : Int) + 1 - 1) = (n : Int) := by rw [IntKind.wrap_i64]; omega
              have hwn2 : IntKind.i64.wrap (n : Int) = (n : Int) := by rw [IntKind.wrap_i64]; omega
              have x2 := x1.setNew (p := ⟨go, n * 2 + 1, none⟩) hgo (.int .i64 (top))
              clear HX HSU HFL hxs hfl HOW hn
              go_wp2_with fail
              have HP2 : Hid (l0 ++ [(t.1, top)] = (ofUpto p l top (k + 1 + 1)).1 ∧ OwnP (wr.setCell ⟨go, n * 2 + 1, none⟩ (.int .i64 (top))) w.heap.size (some ⟨go, 0, none⟩) cO (l0 ++ [(t.1, top)])) := ⟨HSU2.out, by unfold OwnP; rw [HLN.out]; exact HST.out⟩
              clear HST HSU2
              go_roundw
              case rel => exact ⟨k + 1 + 1, some ⟨go, 0, none⟩, cO, l0 ++ [(t.1, top)], by go_num, by omega, by rw [HLN.out], HP2, x2⟩
              case measure => simp [intOf]; omega
            · have hpk2 : p l[k] = false := by simpa using hpk
              rw [hpk2] at g3 hflag
              have HFL := Lib.hid hflag
              clear hflag hpk hpk2
              have HSU2 := Lib.hid (show xs ++ [(x, top)] = (ofUpto p l top (k + 1 + 1)).1 by
                rw [HSU.out, ofStep_new HFL.out, HX.out.1])
              have HO := Lib.hid HX.out.2
              have HNB := Lib.hid (Blk.new wr 48 (flatS [(x, top)]).toArray)
              have HL6 := Lib.hid (show xs.length + 1 ≤ maxLen ∧ (xs.length + 1) * 16 ≤ 140737488355328 by unfold maxLen; omega)
              have HBS := Lib.hid (x1.trans (Ext.alloc wr (.cells (flatS [(x, top)]).toArray 48))).size
              have HLN := Lib.hid (show (xs ++ [(x, top)]).length = xs.length + 1 by simp)
              clear HX HSU HFL
              go_wp2_with ((at_builtin; refine wpList_app _ rfl _ _ _ rfl w.heap.size 48 iS _ 2 16 Try.underlying24 jS0 jS1 jS2 jS3 rfl (by omega) O xs.length cO (flatS xs) rfl (OwnS.ext HO.out (Ext.alloc _ _)) _ 1 1 (flatS [(x, top)]) rfl rfl (blk_cells HNB.out) (flatS_one _) HL6.out.1 HL6.out.2 HBS.out ?_; intro O2 cO2 w2 ho2 hg2 hat2))
              have x2 := Ext.app (x1.trans (Ext.alloc _ _)) (OwnS.ext HO.out (Ext.alloc _ _)) hg2
              have HP2 : Hid (xs ++ [(x, top)] = (ofUpto p l top (k + 1 + 1)).1 ∧ OwnP w2 w.heap.size O2 cO2 (xs ++ [(x, top)])) := ⟨HSU2.out, by unfold OwnP; rw [HLN.out, flatS_append]; exact ho2⟩
              clear hg2 ho2 hat2 HNB HO HSU2 HBS HL6
              go_roundw
              case rel => exact ⟨k + 1 + 1, O2, cO2, xs ++ [(x, top)], by go_num, by omega, by rw [HLN.out], HP2, x2⟩
              case measure => simp [intOf]; omega
      · have hpf : p l[i] = false := by simpa using hp
        rw [hpf] at g0 HSU
        have HP2 : Hid (xs = (ofUpto p l top (i + 1)).1 ∧ OwnP wr w.heap.size O cO xs) := ⟨by rw [HSU.out, ofStep_no]; exact HX.out.1, HX.out.2⟩
        clear HX HSU HXB hx0 hp hpf hAe g1
        go_wp2_with fail
        go_roundw
        case rel => exact ⟨i + 1, O, cO, xs, by go_num, by omega, rfl, HP2, x1⟩
        case measure => simp [intOf]; omega
    · have hiI : ¬ (i : Int) < l.length := by omega
      have hix : i = l.length := by omega
      have HXE := Lib.hid (show xs = out by rw [HX.out.1, hix, HALL.out])
      have HO := Lib.hid HX.out.2
      have HSZ : Hid (xs.length ≤ 1000000) := by
        have := ofUpto_len (p := p) (l := l) (top := top) (i := i) hi
        show _ ≤ _
        rw [HX.out.1]; omega
      clear HX hix HALL
      by_cases h64 : 64 < xs.length
      · have hI64 : (64 : Int) < xs.length := by omega
        go_wp2_with fail
        exact bodyPost_ret (v := .tuple #[.slice none 0 0, .int .i64 4]) (by simp [results, Try.results42, go_sem]) rfl (.inl ⟨by rw [← HXE.out]; exact h64, rfl, x1⟩)
      · have hI64 : ¬ (64 : Int) < xs.length := by omega
        go_wp2_with fail
        exact bodyPost_ret (v := .tuple #[.slice O xs.length cO, .int .i64 0]) (by simp [results, Try.results42, go_sem]) rfl (.inr ⟨by rw [← HXE.out]; omega, O, cO, by rw [HXE.out], by
          rw [← HXE.out]
          refine SL.of_own HO.out (fun s hs => ?_)
          have := HG.out s (by rw [← HXE.out]; exact hs)
          unfold goodS at this
          exact ⟨by unfold I64; omega, by unfold I64; omega⟩, x1, fun b hb => OwnP.row HO.out hb⟩)
end Go.Proofs.Ytlbdjnbcoldjhaa
