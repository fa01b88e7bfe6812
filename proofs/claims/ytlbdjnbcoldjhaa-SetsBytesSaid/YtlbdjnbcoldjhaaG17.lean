/- Walks of package sets: the closure of Fold that shifts letters. -/
import Derived.Test.YtlbdjnbcoldjhaaG16
namespace Go.Proofs.Ytlbdjnbcoldjhaa
open Go.RowKit

theorem flatS_cons' (s : Sp) (l : List Sp) : flatS (s :: l) = .int .i64 s.1 :: .int .i64 s.2 :: flatS l := flatS_cons s l
theorem flatS_setLo : ∀ (l : List Sp) (j : Nat) (h : j < l.length) (v : Int), (flatS l).set (j * 2) (.int .i64 v) = flatS (l.set j (v, l[j].2))
  | s :: l, 0, _, v => by simp [flatS_cons]
  | s :: l, j + 1, h, v => by
    have e : (j + 1) * 2 = j * 2 + 2 := by omega
    rw [flatS_cons, e]
    simp only [List.set_cons_succ, List.getElem_cons_succ, flatS_cons]
    rw [flatS_setLo l j (by simpa using h) v]
theorem flatS_setHi : ∀ (l : List Sp) (j : Nat) (h : j < l.length) (v : Int), (flatS l).set (j * 2 + 1) (.int .i64 v) = flatS (l.set j (l[j].1, v))
  | s :: l, 0, _, v => by simp [flatS_cons]
  | s :: l, j + 1, h, v => by
    have e : (j + 1) * 2 + 1 = j * 2 + 1 + 2 := by omega
    rw [flatS_cons, e]
    simp only [List.set_cons_succ, List.getElem_cons_succ, flatS_cons]
    rw [flatS_setHi l j (by simpa using h) v]

theorem OwnP.at {w : World} {base c : Nat} {A : Option Addr} {l : List Sp} (h : OwnP w base A c l) {j : Nat} (hj : j < l.length) :
    ∃ g, A = some ⟨g, 0, none⟩ ∧ base ≤ g ∧ w.cell? ⟨g, j * 2, none⟩ = some (.int .i64 l[j].1) ∧ w.cell? ⟨g, j * 2 + 1, none⟩ = some (.int .i64 l[j].2) ∧ w.frozen? ⟨g, j * 2, none⟩ = false ∧ w.frozen? ⟨g, j * 2 + 1, none⟩ = false ∧
      (∀ v : Int, OwnP (w.setCell ⟨g, j * 2, none⟩ (.int .i64 v)) base A c (l.set j (v, l[j].2))) ∧ (∀ v : Int, OwnP (w.setCell ⟨g, j * 2 + 1, none⟩ (.int .i64 v)) base A c (l.set j (l[j].1, v))) := by
  have f1 : j * 2 < (flatS l).length := by rw [flatS_len]; omega
  have f2 : j * 2 + 1 < (flatS l).length := by rw [flatS_len]; omega
  obtain ⟨g, hA, hb, c1, z1, _, s1⟩ := OwnS.store h f1
  obtain ⟨g2, hA2, _, c2, z2, _, s2⟩ := OwnS.store h f2
  rw [hA] at hA2
  injection hA2 with hA2; injection hA2 with e1 _ _
  subst e1
  obtain ⟨v1, v2⟩ := flatS_get l j hj
  obtain ⟨_, e1⟩ := List.getElem?_eq_some_iff.1 v1
  obtain ⟨_, e2⟩ := List.getElem?_eq_some_iff.1 v2
  rw [e1] at c1
  rw [e2] at c2
  refine ⟨g, hA, hb, c1, c2, z1, z2, fun v => ?_, fun v => ?_⟩
  · have := s1 (.int .i64 v)
    rw [flatS_setLo l j hj v] at this
    unfold OwnP
    rw [List.length_set]; exact this
  · have := s2 (.int .i64 v)
    rw [flatS_setHi l j hj v] at this
    unfold OwnP
    rw [List.length_set]; exact this

def shS (d : Int) (s : Sp) : Sp := (s.1 + d, s.2 + d)
/-- the first i are shifted -/
def ShU (d : Int) (m xs : List Sp) (i : Nat) : Prop := xs.length = m.length ∧ ∀ j (h : j < m.length), xs[j]? = some (if j < i then shS d m[j] else m[j])
theorem ShU.start (d : Int) (m : List Sp) : ShU d m m 0 := ⟨rfl, fun j h => by simp [h]⟩
theorem ShU.step {d : Int} {m xs : List Sp} {i : Nat} (h : ShU d m xs i) (hi : i < m.length) : ShU d m (xs.set i (shS d m[i])) (i + 1) := by
  refine ⟨by rw [List.length_set]; exact h.1, fun j hj => ?_⟩
  by_cases e : j = i
  · subst e
    rw [List.getElem?_set_self (by rw [h.1]; exact hj), if_pos (by omega)]
  · rw [List.getElem?_set_ne (fun x => e x.symm), h.2 j hj]
    by_cases hji : j < i
    · rw [if_pos hji, if_pos (by omega)]
    · rw [if_neg hji, if_neg (by omega)]
theorem ShU.all {d : Int} {m xs : List Sp} (h : ShU d m xs m.length) : xs = m.map (shS d) := by
  refine List.ext_getElem? (fun j => ?_)
  rcases Nat.lt_or_ge j m.length with hj | hj
  · rw [h.2 j hj, if_pos hj]; simp [hj]
  · rw [List.getElem?_eq_none (by rw [h.1]; exact hj), List.getElem?_eq_none (by simpa using hj)]
theorem ShU.now {d : Int} {m xs : List Sp} {i : Nat} (h : ShU d m xs i) (hi : i < m.length) : ∃ h' : i < xs.length, xs[i] = m[i] := by
  refine ⟨by rw [h.1]; exact hi, ?_⟩
  have := h.2 i hi
  rw [if_neg (by omega), List.getElem?_eq_getElem (by rw [h.1]; exact hi)] at this
  injection this

set_option maxRecDepth 100000 in
set_option maxHeartbeats 4000000 in
theorem fold1_any (gA : Nat) (A : Option Addr) (c : Nat) (l : List Sp) (first last d : Int) (w : World) (hc : w.cell? ⟨gA, 0, none⟩ = some (.slice A l.length c)) (hl : SL w A c l) (hok : OkL l) (hlen : l.length ≤ 1000)
    (hg : goodS (first, last)) (hd : -32 ≤ d ∧ d ≤ 32) :
    Calls Try.prog 64 #[.int .i64 first, .int .i64 last, .int .i64 d, .pointer (some ⟨gA, 0, none⟩)] w (fun e w' => ∃ (O : Option Addr) (cO : Nat), e = .returned (.slice O ((combo kAnd [l, [(first, last)]]).map (shS d)).length cO) ∧ OwnP w' w.heap.size O cO ((combo kAnd [l, [(first, last)]]).map (shS d)) ∧ Ext w w') := by
  have hcap := hl.len
  have hcg := (okL_canon hok).2
  have hg' : 0 ≤ first ∧ first ≤ last ∧ last ≤ 1114111 := hg
  have hok2 : OkL [(first, last)] := fun i hi _ => by
    have : i = 0 := by simpa using hi
    subst this
    exact ⟨hg, fun h => absurd h (Nat.lt_irrefl 0)⟩
  have HGD := Lib.hid (combo_good (k := kAnd) (ls := [l, [(first, last)]]) (fun a ha s hs => by
    simp only [List.mem_cons, List.not_mem_nil, or_false] at ha
    rcases ha with rfl | rfl
    · exact hcg s hs
    · obtain rfl := List.mem_singleton.1 hs
      exact hg) rfl)
  obtain ⟨b1, b2, x12⟩ := alloc2 w 48 #[.int .i64 first, .int .i64 last] 24 #[.slice A l.length c, .slice (some ⟨w.heap.size, 0, none⟩) 1 1]
  have HLL : LLS ((w.alloc (.cells #[.int .i64 first, .int .i64 last] 48)).alloc (.cells #[.slice A l.length c, .slice (some ⟨w.heap.size, 0, none⟩) 1 1] 24)) (some ⟨w.heap.size + 1, 0, none⟩) 2 [⟨A, c, l⟩, ⟨some ⟨w.heap.size, 0, none⟩, 1, [(first, last)]⟩] := by
    refine ⟨by simp, by unfold maxLen; omega, fun h hh => ?_, fun _ => ⟨_, 0, rfl, fun j hj => ?_⟩⟩
    · simp only [List.mem_cons, List.not_mem_nil, or_false] at hh
      rcases hh with rfl | rfl
      · exact hl.ext x12
      · refine ⟨by simp, by show 1 ≤ maxLen; unfold maxLen; omega, fun s hs => ?_, fun _ => ⟨_, 0, rfl, fun q hq => ?_⟩⟩
        · obtain rfl := List.mem_singleton.1 hs
          exact ⟨by unfold I64; omega, by unfold I64; omega⟩
        · have : q = 0 := by simpa using hq
          subst this
          exact ⟨by rw [b1.cell]; rfl, by rw [b1.cell]; rfl⟩
    · have hj2 : j < 2 := by simpa using hj
      match j, hj2 with
      | 0, _ => rw [b2.cell]; rfl
      | 1, _ => rw [b2.cell]; rfl
  have eg : ∀ args w, (callFunc 52 args).run Try.prog w = .ok (.enter 52 args) w := enters_of Try.func52 (by kernel_rfl) rfl
  have HCB := Lib.hid (combine_any 52 kAnd _ 2 [⟨A, c, l⟩, ⟨some ⟨w.heap.size, 0, none⟩, 1, [(first, last)]⟩] _ HLL (fun h hh => by
    simp only [List.mem_cons, List.not_mem_nil, or_false] at hh
    rcases hh with rfl | rfl
    · exact hok
    · exact hok2) (by simp; omega) (by simp) eg (fun W B cB bs h hb => both_any W B cB bs h (by simpa using hb)))
  have HLS : Hid (([⟨A, c, l⟩, ⟨some ⟨w.heap.size, 0, none⟩, 1, [(first, last)]⟩] : List Hs).map (·.l) = [l, [(first, last)]]) := rfl
  rw [HLS.out] at HCB
  generalize combo kAnd [l, [(first, last)]] = m at *
  clear HLL HLS b1 b2 hok2 eg
  go_enter Try.func64, Try.ntmps64
  go_wp2_with fail
  refine HCB.out.mono ?_
  rintro e w2 ⟨O, cO, rfl, hO, x2⟩
  have HOW := Lib.hid (hO.down x12.size)
  have X2 := x12.trans x2
  have hoc := OwnS.caps hO
  clear HCB hO
  go_wp2_with fail
  go_loopw [19] (fun v wr => ∃ (i : Nat) (xs : List Sp), v = .int .i64 i ∧ i ≤ m.length ∧ Hid (ShU d m xs i ∧ OwnP wr w.heap.size O cO xs) ∧ Ext w wr) (fun v _ => m.length - (intOf v).toNat)
  case atStart => exact ⟨0, m, rfl, by omega, ⟨ShU.start d m, HOW.out⟩, X2⟩
  case round =>
    clear HOW X2
    obtain ⟨i, xs, rfl, hi, HX, x3⟩ := hrel
    by_cases hlt : i < m.length
    · have hiI : (i : Int) < m.length := by omega
      have hi0 : (0 : Int) ≤ (i : Int) := by omega
      obtain ⟨hxl, hxe⟩ := HX.out.1.now hlt
      obtain ⟨g, hOe, hgb, c1, c2, z1, z2, s1, s2⟩ := HX.out.2.at hxl
      have hgs := HGD.out _ (List.getElem_mem hlt)
      have HST := Lib.hid (HX.out.1.step hlt)
      rw [hxe] at c1 c2 s1 s2
      have hs1 := s1 (m[i].1 + d)
      have hl2 : i < (xs.set i (m[i].1 + d, m[i].2)).length := by rw [List.length_set]; exact hxl
      obtain ⟨g2, hOe2, -, c3, c4, z3, z4, -, s4⟩ := hs1.at hl2
      rw [hOe] at hOe2
      injection hOe2 with hOe2; injection hOe2 with e1 _ _
      subst e1
      have hs4 := s4 (m[i].2 + d)
      simp only [List.getElem_set_self, List.set_set] at c3 c4 hs4
      have HS4 : Hid (OwnP ((wr.setCell ⟨g, i * 2, none⟩ (.int .i64 (m[i].1 + d))).setCell ⟨g, i * 2 + 1, none⟩ (.int .i64 (m[i].2 + d))) w.heap.size O cO (xs.set i (shS d m[i]))) := hs4
      subst hOe
      generalize m[i] = s at *
      obtain ⟨lo, hi2⟩ := s
      have hgs' : 0 ≤ lo ∧ lo ≤ hi2 ∧ hi2 ≤ 1114111 := hgs
      simp only at c1 c2 HS4
      have hw1 : IntKind.i64.wrap (lo + d) = lo + d := by rw [IntKind.wrap_i64]; omega
      have hw2 : IntKind.i64.wrap (hi2 + d) = hi2 + d := by rw [IntKind.wrap_i64]; omega
      have x4 := (x3.setNew (p := ⟨g, i * 2, none⟩) hgb (.int .i64 (lo + d))).setNew (p := ⟨g, i * 2 + 1, none⟩) hgb (.int .i64 (hi2 + d))
      have HX2 := Lib.hid (And.intro HST.out HS4.out)
      clear HX HST HS4 hs4 s4 hs1 s1 s2 c3 c4 z3 z4 hl2 hxe hxl
      go_wp2_with fail
      go_roundw
      case rel => exact ⟨i + 1, xs.set i (shS d (lo, hi2)), by go_num, by omega, HX2, x4⟩
      case measure => simp [intOf]; omega
    · have hiI : ¬ (i : Int) < m.length := by omega
      have hie : i = m.length := by omega
      have HE := Lib.hid (show xs = m.map (shS d) from ShU.all (hie ▸ HX.out.1))
      have HO := Lib.hid HX.out.2
      have HML : Hid ((m.map (shS d)).length = m.length) := List.length_map ..
      clear HX hie
      go_wp2_with fail
      go_ret
      exact ⟨O, cO, by first | rfl | (rw [HML.out]; rfl), by rw [← HE.out]; exact HO.out, x3⟩

theorem canon_okL {l : List Sp} (h : Canon l) (hg : ∀ s ∈ l, goodS s) : OkL l := fun i hi _ => by
  refine ⟨hg _ (List.getElem_mem hi), fun h0 => ?_⟩
  have h1 : i - 1 < l.length := by omega
  rw [List.getD_eq_getElem?_getD, List.getElem?_eq_getElem h1]
  exact List.pairwise_iff_getElem.1 h.2 (i - 1) i h1 hi (by omega)

/-- the letters of a set, shifted -/
def letters (a : List Sp) (first last d : Int) : List Sp := (combo kAnd [a, [(first, last)]]).map (shS d)
theorem letters_ok {a : List Sp} (ha : OkL a) {first last d : Int} (hf : goodS (first, last)) (hd : 0 ≤ first + d ∧ last + d ≤ 1114111) : OkL (letters a first last d) := by
  have hg := (okL_canon ha).2
  have hgg : ∀ b ∈ [a, [(first, last)]], ∀ s ∈ b, goodS s := fun b hb s hs => by
    simp only [List.mem_cons, List.not_mem_nil, or_false] at hb
    rcases hb with rfl | rfl
    · exact hg s hs
    · obtain rfl := List.mem_singleton.1 hs
      exact hf
  obtain ⟨c1, c2⟩ := combo_law (k := kAnd) hgg rfl
  have hin : ∀ s ∈ combo kAnd [a, [(first, last)]], first ≤ s.1 ∧ s.1 ≤ s.2 ∧ s.2 ≤ last := fun s hs => by
    have h1 := c1.1 s hs
    have h2 : ∀ x, s.1 ≤ x → x ≤ s.2 → first ≤ x ∧ x ≤ last := fun x h3 h4 => by
      have h5 : has (combo kAnd [a, [(first, last)]]) x = true := has_iff.2 ⟨s, hs, h3, h4⟩
      rw [c2] at h5
      simp only [kAnd, List.map_cons, List.map_nil, List.getD_cons_zero, List.getD_cons_succ, Bool.and_eq_true] at h5
      obtain ⟨t, ht, h6⟩ := has_iff.1 h5.2
      obtain rfl := List.mem_singleton.1 ht
      exact h6
    have h3 := h2 s.1 (Int.le_refl _) h1
    have h4 := h2 s.2 h1 (Int.le_refl _)
    omega
  unfold letters
  refine canon_okL ⟨fun s hs => ?_, ?_⟩ (fun s hs => ?_)
  · obtain ⟨t, ht, rfl⟩ := List.mem_map.1 hs
    have := hin t ht
    simp only [shS]; omega
  · rw [List.pairwise_map]
    exact c1.2.imp (fun {s t} h => by simp only [shS]; omega)
  · obtain ⟨t, ht, rfl⟩ := List.mem_map.1 hs
    have := hin t ht
    unfold goodS
    simp only [shS]; omega
theorem combo_len (k : List Bool → Bool) (ls : List (List Sp)) : (combo k ls).length ≤ 2 * ls.flatten.length := by
  have h1 := outU_len k ls (incr (ls.flatten.flatMap prE)) ((incr (ls.flatten.flatMap prE)).length - 1)
  rw [outU_all] at h1
  have h2 := (incr_law (ls.flatten.flatMap prE)).2.2
  rw [prE_len] at h2
  show (combo k ls).length ≤ _
  unfold combo
  omega
def foldL (a : List Sp) : List Sp := combo kOne [a, letters a 65 90 32, letters a 97 122 (-32)]
end Go.Proofs.Ytlbdjnbcoldjhaa
