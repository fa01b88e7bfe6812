/- edits.Decode: the plain law of items' bytes, and the walk. -/
import Derived.Test.YthhfjomjjhenkaaW9
import Derived.Test.YthhfjomjjhenkaaW6
namespace Go.Proofs.Ythhfjomjjhenkaa
open Go.RowKit
attribute [local go_sem ↓] Go.wp_at_zero Go.wp_at_succ

def seqI : Nat → Option (List Int) → List Int × Option (List Int)
  | 0, st => ([], st)
  | k + 1, st => ((irun st).1 :: (seqI k (irun st).2).1, (seqI k (irun st).2).2)
theorem seqI_len : ∀ (k : Nat) (st : Option (List Int)), (seqI k st).1.length = k
  | 0, _ => rfl
  | k + 1, st => by simp [seqI, seqI_len k]
theorem seqI_snoc : ∀ (k : Nat) (st : Option (List Int)), seqI (k + 1) st = ((seqI k st).1 ++ [(irun (seqI k st).2).1], (irun (seqI k st).2).2)
  | 0, st => by simp [seqI]
  | k + 1, st => by
    have := seqI_snoc k (irun st).2
    rw [seqI, this]
    simp [seqI]
theorem seqI_none : ∀ (k : Nat), (seqI k none).2 = none
  | 0 => rfl
  | k + 1 => by simp [seqI, irun, urun, seqI_none k]
theorem irun_some (r : List Int) : irun (some r) = match intP r with | none => (0, none) | some p => (p.1, some p.2) := by rw [irun_eq]; rfl
theorem seqI_seqP : ∀ (k : Nat) (r : List Int), match seqP intP k r with
    | some (l, r') => seqI k (some r) = (l, some r')
    | none => (seqI k (some r)).2 = none
  | 0, r => by simp [seqP, seqI]
  | k + 1, r => by
    simp only [seqP, seqI]
    rw [irun_some]
    cases h : intP r with
    | none => simp [seqI_none]
    | some p =>
      have ih := seqI_seqP k p.2
      simp only [Option.bind_some]
      cases h2 : seqP intP k p.2 with
      | none => rw [h2] at ih; simpa using ih
      | some q => rw [h2] at ih; simp only at ih; simp [ih]
theorem lrun_list (r : List Int) : lrun intP (some r) = match listP r with | none => ([], none) | some q => (q.1, some q.2) := by
  cases h : uintP 0 r with
  | none =>
    have hu : urun 0 0 (some r) = (0, none) := by simp [urun, h]
    have hp : listP r = none := by simp [listP, h]
    unfold lrun; rw [hu, hp]
  | some p =>
    have hu : urun 0 0 (some r) = (p.1, some p.2) := by simp [urun, h]
    have hp : listP r = if p.2.length < p.1 then none else intsP p.1 p.2 := by simp [listP, h]
    unfold lrun; rw [hu, hp]
    simp only
    split
    · rfl
    · rw [seqP_int]
      rfl
theorem lrun_none : lrun intP none = ([], none) := rfl
theorem lrun_i64 {w : World} {g : Nat} {A : Option Addr} {c : Nat} {bs : List Int} {st : Option (List Int)} (h : RdAt w g A c bs st) : ∀ x ∈ (lrun intP st).1, I64 x := by
  rcases st with _ | r
  · simp [lrun_none]
  · rw [lrun_list]
    cases hp : listP r with
    | none => simp
    | some q =>
      obtain ⟨l, r'⟩ := q
      exact (listP_inv h.u8 hp).2

/-- what Decode reads -/
def decP (bs : List Int) : Option It := match seqP intP 5 bs with
  | some ([c, n, b, a, d], r) => match listP r with
    | some (l, []) => some ⟨c, n, b, ⟨a, d, l⟩⟩
    | _ => none
  | _ => none
theorem seqP_iencs : ∀ (l r : List Int), (∀ x ∈ l, I64 x) → seqP intP l.length (iencs l ++ r) = some (l, r) := fun l r h => by rw [seqP_int, intsP_iencs l r h]
theorem decP_enc {x : It} (h : It64 x) (hi : ∀ y ∈ x.e.ins, I64 y) (hl : x.e.ins.length ≤ 1099511627776) : decP (encI x) = some x := by
  obtain ⟨xc, xn, xb, ⟨xa, xd, xs⟩⟩ := x
  obtain ⟨r0, r1, r2, r3, r4⟩ := h
  simp only at r0 r1 r2 r3 r4 hi hl
  have e : encI ⟨xc, xn, xb, ⟨xa, xd, xs⟩⟩ = iencs [xc, xn, xb, xa, xd] ++ (lenc xs ++ []) := by simp [encI, iencs]
  have h1 := seqP_iencs [xc, xn, xb, xa, xd] (lenc xs ++ []) (by intro v hv; simp at hv; rcases hv with rfl | rfl | rfl | rfl | rfl <;> assumption)
  simp only [List.length_cons, List.length_nil, Nat.zero_add] at h1
  unfold decP
  rw [e, h1]
  simp only
  rw [listP_lenc hi hl []]
theorem decP_inv {bs : List Int} {x : It} (hu : ∀ b ∈ bs, U8 b) (h : decP bs = some x) : bs = encI x ∧ It64 x ∧ ∀ y ∈ x.e.ins, I64 y := by
  unfold decP at h
  split at h
  · rename_i c n b a d r hs
    split at h
    · rename_i l hl
      injection h with h
      subst h
      rw [seqP_int] at hs
      obtain ⟨h1, _, h2⟩ := intsP_inv 5 bs _ r hu hs
      obtain ⟨h3, h4⟩ := listP_inv (fun b hb => hu b (by rw [h1]; simp [hb])) hl
      refine ⟨?_, ⟨h2 c (by simp), h2 n (by simp), h2 b (by simp), h2 a (by simp), h2 d (by simp)⟩, h4⟩
      rw [h1, h3]
      simp [encI, iencs]
    · cases h
  · cases h
theorem decP_seqI (bs : List Int) : match decP bs with
    | some x => seqI 5 (some bs) = ([x.client, x.number, x.base, x.e.at_, x.e.del], (seqI 5 (some bs)).2) ∧ lrun intP (seqI 5 (some bs)).2 = (x.e.ins, some [])
    | none => (lrun intP (seqI 5 (some bs)).2).2 ≠ some [] := by
  have h := seqI_seqP 5 bs
  unfold decP
  cases hs : seqP intP 5 bs with
  | none =>
    rw [hs] at h
    simp only at h ⊢
    rw [h, lrun_none]; simp
  | some q =>
    obtain ⟨l, r⟩ := q
    rw [hs] at h
    simp only at h
    have hlen : l.length = 5 := by have := seqI_len 5 (some bs); rw [h] at this; exact this
    match l, hlen with
    | [c, n, b, a, d], _ =>
      simp only
      rw [h]
      simp only
      rw [lrun_list]
      cases hl : listP r with
      | none => simp
      | some q =>
        obtain ⟨l2, r2⟩ := q
        rcases r2 with _ | ⟨y, r2⟩
        · simp
        · simp

theorem dec_no {bs : List Int} (h : (lrun intP (seqI 5 (some bs)).2).2 ≠ some []) : decP bs = none := by
  have h1 := decP_seqI bs
  cases hd : decP bs with
  | none => rfl
  | some x =>
    rw [hd] at h1
    exact absurd (by rw [h1.2]) h
theorem dec_yes {bs l : List Int} {f0 f1 f2 f3 f4 : Int} (h : lrun intP (seqI 5 (some bs)).2 = (l, some [])) (hf : (seqI 5 (some bs)).1 = [f0, f1, f2, f3, f4]) : decP bs = some ⟨f0, f1, f2, ⟨f3, f4, l⟩⟩ := by
  have h1 := decP_seqI bs
  cases hd : decP bs with
  | none => rw [hd] at h1; rw [h] at h1; exact absurd rfl h1
  | some x =>
    rw [hd] at h1
    obtain ⟨h2, h3⟩ := h1
    rw [h2] at hf
    rw [h] at h3
    obtain ⟨xc, xn, xb, ⟨xa, xd, xs⟩⟩ := x
    simp only [List.cons.injEq, and_true, Prod.mk.injEq] at hf h3
    obtain ⟨rfl, rfl, rfl, rfl, rfl⟩ := hf
    obtain rfl := h3
    rfl

/-- what Decode leaves -/
def RetDec (bs : List Int) (w : World) (e : Ending) (w' : World) : Prop :=
  ∃ (x : It) (B : Option Addr) (cB : Nat) (err : Int), e = .returned (.tuple #[itV x B cB, .int .i64 err]) ∧ IL w' B cB x.e.ins ∧ Ext w w' ∧ ((err = 0 ∧ decP bs = some x) ∨ (err = 2 ∧ decP bs = none ∧ x.e.ins = []))

theorem set_take {α : Type} (fs : List α) (j : Nat) (v : α) (h : j < fs.length) : (fs.set j v).take (j + 1) = fs.take j ++ [v] := by
  rw [List.take_succ_eq_append_getElem (by rw [List.length_set]; exact h)]
  have e : (fs.set j v).take j = fs.take j := by
    apply List.ext_getElem?
    intro i
    rw [List.getElem?_take, List.getElem?_take]
    split
    · rw [List.getElem?_set_ne (by omega)]
    · rfl
  rw [e]; simp

set_option maxRecDepth 100000 in
set_option maxHeartbeats 8000000 in
theorem eDecode_any (bs : List Int) (B : Option Addr) (cB : Nat) (w : World) (hB : BL w B cB bs) (hl : bs.length ≤ 1099511627776) : Calls Try.prog 40 #[.slice B bs.length cB] w (RetDec bs w) := by
  have b1 := Blk.new w 39 #[.int .i64 0, .int .i64 0, .int .i64 0, .int .i64 0, .int .i64 0, .slice none 0 0]
  have e1 := Ext.alloc w (.cells #[.int .i64 0, .int .i64 0, .int .i64 0, .int .i64 0, .int .i64 0, .slice none 0 0] 39)
  go_enter Try.func40, Try.ntmps40
  go_upto_region 1 with fail
  generalize w.alloc (.cells #[.int .i64 0, .int .i64 0, .int .i64 0, .int .i64 0, .int .i64 0, .slice none 0 0] 39) = w1 at *
  have HR := Lib.hid (wRead_any B cB bs w1 (hB.ext e1) hl)
  go_wp2_with fail
  refine HR.out.mono ?_
  rintro e w2 ⟨g, A, c, rfl, hR, hx2, hg2, hfr⟩
  clear HR
  have hgl := hR.lt
  have hwg : w.heap.size < g := by have := b1.lt; omega
  have HAB := Lib.hid (show bs ≠ [] → ∀ b, A.map (·.block) = some b → b < w2.heap.size from fun hx b hb => hR.bl.blt hx hb)
  replace e1 := e1.trans hx2
  replace b1 := b1.ext hx2
  clear hx2 hfr hB
  go_upto_region 2 with fail
  have b5 := Blk.new w2 39 #[.int .i64 0, .int .i64 0, .int .i64 0, .int .i64 0, .int .i64 0, .slice none 0 0]
  have e5 := Ext.alloc w2 (.cells #[.int .i64 0, .int .i64 0, .int .i64 0, .int .i64 0, .int .i64 0, .slice none 0 0] 39)
  go_upto_region 3 with fail
  obtain ⟨gx, hgx⟩ : ∃ gx, gx = w2.heap.size := ⟨_, rfl⟩
  rw [← hgx] at b5 HAB hgl ⊢
  replace e1 := e1.trans e5
  replace b1 := b1.ext e5
  replace hR := hR.ext e5
  have hb1 := b1.lt
  have h1x : w.heap.size < gx := by omega
  generalize w2.alloc (.cells #[.int .i64 0, .int .i64 0, .int .i64 0, .int .i64 0, .int .i64 0, .slice none 0 0] 39) = w3 at *
  clear e5 hgx
  have b6 := Blk.new w3 111 #[.pointer (some ⟨gx, 0, none⟩), .pointer (some ⟨gx, 1, none⟩), .pointer (some ⟨gx, 2, none⟩), .pointer (some ⟨gx, 3, none⟩), .pointer (some ⟨gx, 4, none⟩)]
  have e6 := Ext.alloc w3 (.cells #[.pointer (some ⟨gx, 0, none⟩), .pointer (some ⟨gx, 1, none⟩), .pointer (some ⟨gx, 2, none⟩), .pointer (some ⟨gx, 3, none⟩), .pointer (some ⟨gx, 4, none⟩)] 111)
  go_wp2_with fail
  obtain ⟨gp, hgp⟩ : ∃ gp, gp = w3.heap.size := ⟨_, rfl⟩
  rw [← hgp] at b6 ⊢
  have hxp : gx < gp := by rw [hgp]; exact b5.lt
  replace e1 := e1.trans e6
  replace b1 := b1.ext e6
  replace b5 := b5.ext e6
  replace hR := hR.ext e6
  generalize w3.alloc (.cells #[.pointer (some ⟨gx, 0, none⟩), .pointer (some ⟨gx, 1, none⟩), .pointer (some ⟨gx, 2, none⟩), .pointer (some ⟨gx, 3, none⟩), .pointer (some ⟨gx, 4, none⟩)] 111) = w4 at *
  clear e6 hgp hb1
  obtain ⟨fin, hfin⟩ : ∃ fin, fin = some bs := ⟨_, rfl⟩
  have HFIN := Lib.hid hfin
  rw [← hfin] at hR
  clear hfin
  go_loopw [19] (fun v19 wr => ∃ (j : Nat) (fs : List Int), v19 = .int .i64 j ∧ j ≤ 5 ∧ Hid (fs.length = 5 ∧ fs.take j = (seqI j fin).1) ∧ RdAt wr g A c bs (seqI j fin).2 ∧ Blk wr gx 39 (fs.map (Value.int .i64) ++ [Value.slice none 0 0]).toArray ∧
    Blk wr gp 111 #[.pointer (some ⟨gx, 0, none⟩), .pointer (some ⟨gx, 1, none⟩), .pointer (some ⟨gx, 2, none⟩), .pointer (some ⟨gx, 3, none⟩), .pointer (some ⟨gx, 4, none⟩)] ∧
    Blk wr w.heap.size 39 #[.int .i64 0, .int .i64 0, .int .i64 0, .int .i64 0, .int .i64 0, .slice none 0 0] ∧ Ext w wr) (fun v _ => 5 - (intOf v).toNat)
  case atStart => exact ⟨0, [0, 0, 0, 0, 0], rfl, by omega, ⟨rfl, rfl⟩, hR, b5, b6, b1, e1⟩
  case round =>
    clear hR b5 b6 b1 e1
    obtain ⟨j, fs, rfl, hj, hfs, hR, b5, b6, b1, e1⟩ := hrel
    by_cases hlt : j < 5
    · have hI : (j : Int) < 5 := by omega
      have q : wr.cell? ⟨gp, j, none⟩ = some (.pointer (some ⟨gx, j, none⟩)) := by
        rw [b6.cell]
        match j, hlt with
        | 0, _ => rfl
        | 1, _ => rfl
        | 2, _ => rfl
        | 3, _ => rfl
        | 4, _ => rfl
      have HI := Lib.hid (rdInt_any g A c bs (seqI j fin).2 wr hR)
      have hs := seqI_snoc j fin
      obtain ⟨v, s2, hv⟩ : ∃ v s2, irun (seqI j fin).2 = (v, s2) := ⟨_, _, rfl⟩
      rw [hv] at HI hs
      simp only at HI hs
      have HS := Lib.hid hs
      clear hs hv
      go_wp2_with fail
      refine HI.out.mono ?_
      rintro e w5 ⟨rfl, hR5, hk5⟩
      clear HI q
      have b5' := hk5.blk b5 (by omega)
      have b6' := hk5.blk b6 (by omega)
      have b1' := hk5.blk b1 (by omega)
      have e5' := e1.thenKp hk5 (fun i hi => by omega)
      have hc : j < (fs.map (Value.int .i64) ++ [Value.slice none 0 0]).length := by rw [List.length_append, List.length_map, hfs.out.1]; simp; omega
      have q5 : w5.cell? ⟨gx, j, none⟩ = some (.int .i64 (fs[j]'(by rw [hfs.out.1]; exact hlt))) := by
        rw [b5'.cell]
        have hjm : j < (fs.map (Value.int .i64)).length := by rw [List.length_map, hfs.out.1]; exact hlt
        rw [List.getElem?_toArray, List.getElem?_append_left hjm]
        simp
      have q5f := b5'.frz j
      have q5z := b5'.lt
      clear b5 b6 b1 e1 hR hk5 hc
      go_wp2_with fail
      have HB := Lib.hid (b5'.set j (.int .i64 v))
      have hkx : KpP (· = gx) w5 (w5.setCell ⟨gx, j, none⟩ (.int .i64 v)) := KpP.set (p := (· = gx)) (KpP.refl _ _) (.inl rfl) _
      have hR6 := hR5.kp hkx (by omega) (fun hx b hb e => by have := HAB.out hx b hb; omega)
      have b6n := hkx.blk b6' (by omega)
      have b1n := hkx.blk b1' (by omega)
      have e5n := e5'.thenKp hkx (fun i hi => by omega)
      have hB : Blk (w5.setCell ⟨gx, j, none⟩ (.int .i64 v)) gx 39 ((fs.set j v).map (Value.int .i64) ++ [Value.slice none 0 0]).toArray := by
        have h1 := HB.out
        have h2 : j < (fs.map (Value.int .i64)).length := by rw [List.length_map, hfs.out.1]; exact hlt
        rw [List.setIfInBounds_toArray, List.set_append_left _ _ h2, ← List.map_set] at h1
        exact h1
      have HFS : Hid ((fs.set j v).length = 5 ∧ (fs.set j v).take (j + 1) = (seqI (j + 1) fin).1) := by
        refine ⟨by rw [List.length_set]; exact hfs.out.1, ?_⟩
        rw [set_take _ _ _ (by rw [hfs.out.1]; exact hlt), hfs.out.2, HS.out]
      have hRn : RdAt (w5.setCell ⟨gx, j, none⟩ (.int .i64 v)) g A c bs (seqI (j + 1) fin).2 := by rw [HS.out]; exact hR6
      clear HB HS q5 q5f q5z b5' b6' b1' e5'
      go_roundw
      case rel => exact ⟨j + 1, fs.set j v, by go_num, by omega, HFS, hRn, hB, b6n, b1n, e5n⟩
      case measure => simp [intOf]; omega
    · have hI : ¬ (j : Int) < 5 := by omega
      have hj5 : j = 5 := by omega
      have hff : fs = (seqI 5 fin).1 := by
        have := hfs.out.2
        rw [hj5, List.take_of_length_le (by rw [hfs.out.1]; omega)] at this
        exact this
      have HFF := Lib.hid hff
      rw [hj5] at hR
      have HI := Lib.hid (rdInts_any g A c bs (seqI 5 fin).2 wr hR hl)
      have hi64 := lrun_i64 hR
      obtain ⟨l, s2, hv⟩ : ∃ l s2, lrun intP (seqI 5 fin).2 = (l, s2) := ⟨_, _, rfl⟩
      rw [hv] at HI hi64
      simp only at HI hi64
      have HV := Lib.hid hv
      have hz := e1.size
      obtain ⟨f0', f1', f2', f3', f4', hf5⟩ : ∃ f0' f1' f2' f3' f4', fs = [f0', f1', f2', f3', f4'] := by
        have h5 := hfs.out.1
        match fs, h5 with
        | [a, b, c, d, e], _ => exact ⟨a, b, c, d, e, rfl⟩
      subst hf5
      clear hj5 hfs hff hv b6
      go_wp2_with fail
      refine HI.out.mono ?_
      rintro e w5 ⟨D, cD, rfl, hOD, hR5, hk5⟩
      clear HI
      have b5' := hk5.blk b5 (by omega)
      have b1' := hk5.blk b1 (by omega)
      have e5' := e1.thenKp hk5 (fun i hi => by omega)
      have hIL : IL w5 D cD l := IL.of_own (c := cD) (xs := l) hOD hi64
      have hDx : ∀ b, D.map (·.block) = some b → b ≠ gx := fun b hb e => by
        have := OwnS.row hOD b hb
        have := b5.lt
        omega
      have HDX := Lib.hid (show ∀ b, D.map (·.block) = some b → w.heap.size < b from fun b hb => by have := OwnS.row hOD b hb; have := b1.lt; omega)
      clear b5 b1 e1 hR hk5 hOD
      simp only [List.map_cons, List.map_nil, List.cons_append, List.nil_append] at b5'
      have q5 := b5'.cell 5
      have q5f := b5'.frz 5
      have q5z := b5'.lt
      simp only [List.getElem?_toArray, List.getElem?_cons_succ, List.getElem?_cons_zero] at q5
      go_upto_region 9 with fail
      have hB := b5'.set 5 (.slice D l.length cD)
      simp only [List.setIfInBounds_toArray, List.set_cons_zero, List.set_cons_succ] at hB
      have hkx : KpP (· = gx) w5 (w5.setCell ⟨gx, 5, none⟩ (.slice D l.length cD)) := KpP.set (p := (· = gx)) (KpP.refl _ _) (.inl rfl) _
      have hR6 := hR5.kp hkx (by omega) (fun hx b hb e => by have := HAB.out hx b hb; omega)
      have b1n := hkx.blk b1' (by omega)
      have e5n := e5'.thenKp hkx (fun i hi => by omega)
      have hILn : IL (w5.setCell ⟨gx, 5, none⟩ (.slice D l.length cD)) D cD l := hIL.kp hkx (fun _ b hb => hDx b hb)
      generalize w5.setCell ⟨gx, 5, none⟩ (.slice D l.length cD) = w6 at *
      clear hkx hR5 b5' b1' e5' hIL hDx q5 q5f q5z
      have HE := Lib.hid (rdEnd_any g A c bs s2 w6 hR6)
      have HYES := Lib.hid (show s2 = some [] → decP bs = some ⟨f0', f1', f2', ⟨f3', f4', l⟩⟩ from fun h => dec_yes (by rw [← HFIN.out, HV.out, h]) (by rw [← HFIN.out]; exact HFF.out.symm))
      have HNO := Lib.hid (show s2 ≠ some [] → decP bs = none from fun h => dec_no (by rw [← HFIN.out, HV.out]; exact h))
      clear hR6
      go_wp2_with fail
      refine HE.out.mono ?_
      rintro e w7 ⟨k, rfl, hk, hx7⟩
      replace hB := hB.ext hx7
      replace b1n := b1n.ext hx7
      replace e5n := e5n.trans hx7
      replace hILn := hILn.ext hx7
      clear HE
      have f0 := hB.cell 0
      have f1 := hB.cell 1
      have f2 := hB.cell 2
      have f3 := hB.cell 3
      have f4 := hB.cell 4
      have f5 := hB.cell 5
      have m0 := b1n.cell 0
      have m1 := b1n.cell 1
      have m2 := b1n.cell 2
      have m3 := b1n.cell 3
      have m4 := b1n.cell 4
      have m5 := b1n.cell 5
      have m0f := b1n.frz 0
      have m1f := b1n.frz 1
      have m2f := b1n.frz 2
      have m3f := b1n.frz 3
      have m4f := b1n.frz 4
      have m5f := b1n.frz 5
      have mz := b1n.lt
      simp only [List.getElem?_toArray, List.getElem?_cons_succ, List.getElem?_cons_zero] at f0 f1 f2 f3 f4 f5 m0 m1 m2 m3 m4 m5
      by_cases hk0 : k = 0
      · subst hk0
        have HS := Lib.hid (hk.1 rfl)
        clear hk
        go_wp2_with fail
        have z := ((((((b1n.set 0 (.int .i64 f0')).set 1 (.int .i64 f1')).set 2 (.int .i64 f2')).set 3 (.int .i64 f3')).set 4 (.int .i64 f4')).set 5 (.slice D l.length cD))
        simp only [List.setIfInBounds_toArray, List.set_cons_zero, List.set_cons_succ] at z
        have r0 := z.cell 0
        have r1 := z.cell 1
        have r2 := z.cell 2
        have r3 := z.cell 3
        have r4 := z.cell 4
        have r5 := z.cell 5
        simp only [List.getElem?_toArray, List.getElem?_cons_succ, List.getElem?_cons_zero] at r0 r1 r2 r3 r4 r5
        have X := ((((((e5n.setNew (p := ⟨w.heap.size, 0, none⟩) (Nat.le_refl _) (.int .i64 f0')).setNew (p := ⟨w.heap.size, 1, none⟩) (Nat.le_refl _) (.int .i64 f1')).setNew (p := ⟨w.heap.size, 2, none⟩) (Nat.le_refl _) (.int .i64 f2')).setNew (p := ⟨w.heap.size, 3, none⟩) (Nat.le_refl _) (.int .i64 f3')).setNew (p := ⟨w.heap.size, 4, none⟩) (Nat.le_refl _) (.int .i64 f4')).setNew (p := ⟨w.heap.size, 5, none⟩) (Nat.le_refl _) (.slice D l.length cD))
        have kk := KpP.set (p := (· = w.heap.size)) (x := ⟨w.heap.size, 5, none⟩) (KpP.set (p := (· = w.heap.size)) (x := ⟨w.heap.size, 4, none⟩) (KpP.set (p := (· = w.heap.size)) (x := ⟨w.heap.size, 3, none⟩) (KpP.set (p := (· = w.heap.size)) (x := ⟨w.heap.size, 2, none⟩) (KpP.set (p := (· = w.heap.size)) (x := ⟨w.heap.size, 1, none⟩) (KpP.set (p := (· = w.heap.size)) (x := ⟨w.heap.size, 0, none⟩) (KpP.refl _ w7) (.inl rfl) (.int .i64 f0')) (.inl rfl) (.int .i64 f1')) (.inl rfl) (.int .i64 f2')) (.inl rfl) (.int .i64 f3')) (.inl rfl) (.int .i64 f4')) (.inl rfl) (.slice D l.length cD)
        have hIf := hILn.kp kk (fun hx b hb e => by
          have h1 := HDX.out b hb
          omega)
        refine bodyPost_ret (v := .tuple #[.agg #[.int .i64 f0', .int .i64 f1', .int .i64 f2', .int .i64 f3', .int .i64 f4', .slice D l.length cD], .int .i64 0]) (by simp [results, Try.results40, go_sem, r0, r1, r2, r3, r4, r5]) rfl ⟨⟨f0', f1', f2', ⟨f3', f4', l⟩⟩, D, cD, 0, rfl, hIf, X, .inl ⟨rfl, ?_⟩⟩
        exact HYES.out HS.out
      · have hb1 : (k != 0) = true := by simpa using hk0
        have hb2 : (k == 0) = false := by simpa using hk0
        have HS : Hid (s2 ≠ some []) := fun e => hk0 (hk.2 e)
        clear hk hk0
        go_wp2_with fail
        have z := ((((((b1n.set 0 (.int .i64 0)).set 1 (.int .i64 0)).set 2 (.int .i64 0)).set 3 (.int .i64 0)).set 4 (.int .i64 0)).set 5 (.slice none 0 0))
        simp only [List.setIfInBounds_toArray, List.set_cons_zero, List.set_cons_succ] at z
        have r0 := z.cell 0
        have r1 := z.cell 1
        have r2 := z.cell 2
        have r3 := z.cell 3
        have r4 := z.cell 4
        have r5 := z.cell 5
        simp only [List.getElem?_toArray, List.getElem?_cons_succ, List.getElem?_cons_zero] at r0 r1 r2 r3 r4 r5
        have X := ((((((e5n.setNew (p := ⟨w.heap.size, 0, none⟩) (Nat.le_refl _) (.int .i64 0)).setNew (p := ⟨w.heap.size, 1, none⟩) (Nat.le_refl _) (.int .i64 0)).setNew (p := ⟨w.heap.size, 2, none⟩) (Nat.le_refl _) (.int .i64 0)).setNew (p := ⟨w.heap.size, 3, none⟩) (Nat.le_refl _) (.int .i64 0)).setNew (p := ⟨w.heap.size, 4, none⟩) (Nat.le_refl _) (.int .i64 0)).setNew (p := ⟨w.heap.size, 5, none⟩) (Nat.le_refl _) (.slice none 0 0))
        refine bodyPost_ret (v := .tuple #[.agg #[.int .i64 0, .int .i64 0, .int .i64 0, .int .i64 0, .int .i64 0, .slice none 0 0], .int .i64 2]) (by simp [results, Try.results40, go_sem, r0, r1, r2, r3, r4, r5]) rfl ⟨⟨0, 0, 0, ⟨0, 0, []⟩⟩, none, 0, 2, rfl, IL.nil _, X, .inr ⟨rfl, ?_, rfl⟩⟩
        exact HNO.out HS.out
end Go.Proofs.Ythhfjomjjhenkaa
