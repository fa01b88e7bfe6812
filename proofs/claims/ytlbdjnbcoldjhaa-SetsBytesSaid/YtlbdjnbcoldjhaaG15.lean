/- Walks of package sets: combine. -/
import Derived.Test.YtlbdjnbcoldjhaaG14
import Derived.Laws.MakeOwn
namespace Go.Proofs.Ytlbdjnbcoldjhaa
open Go.RowKit

theorem OwnP.down {w : World} {b0 b1 c : Nat} {A : Option Addr} {l : List Sp} (h : OwnP w b1 A c l) (hb : b0 ≤ b1) : OwnP w b0 A c l := by
  unfold OwnP at h ⊢
  refine ⟨h.1, ?_⟩
  rcases h.2 with h2 | ⟨g, cap, cur, hv, hg, r⟩
  · exact .inl h2
  · exact .inr ⟨g, cap, cur, hv, Nat.le_trans hb hg, r⟩

/-- combine's memory: what the sets have, where they are read, what was put together -/
structure CM (wr : World) (gB gI base : Nat) (bs : List Bool) (ps : List Int) (O : Option Addr) (cO : Nat) (xs : List Sp) : Prop where
  bB : Blk wr gB 4 (bs.map Value.bool).toArray
  bI : Blk wr gI 3 (ps.map (Value.int .i64)).toArray
  own : OwnP wr base O cO xs
namespace CM
variable {wr w' : World} {gB gI base cO : Nat} {bs : List Bool} {ps : List Int} {O : Option Addr} {xs : List Sp}
theorem ext (h : CM wr gB gI base bs ps O cO xs) (x : Ext wr w') : CM w' gB gI base bs ps O cO xs := ⟨h.bB.ext x, h.bI.ext x, h.own.ext x⟩
theorem ne (h : CM wr gB gI base bs ps O cO xs) : gB ≠ gI := blk_blk h.bB h.bI (by decide)
theorem setB (h : CM wr gB gI base bs ps O cO xs) (j : Nat) (b : Bool) : CM (wr.setCell ⟨gB, j, none⟩ (.bool b)) gB gI base (bs.set j b) ps O cO xs := by
  refine ⟨?_, h.bI.far h.ne.symm _, OwnS.far h.own (own_blk h.own h.bB (by decide)) _⟩
  have := h.bB.set j (.bool b)
  rwa [List.setIfInBounds_toArray, ← List.map_set] at this
theorem setI (h : CM wr gB gI base bs ps O cO xs) (j : Nat) (v : Int) : CM (wr.setCell ⟨gI, j, none⟩ (.int .i64 v)) gB gI base bs (ps.set j v) O cO xs := by
  refine ⟨h.bB.far h.ne _, ?_, OwnS.far h.own (own_blk h.own h.bI (by decide)) _⟩
  have := h.bI.set j (.int .i64 v)
  rwa [List.setIfInBounds_toArray, ← List.map_set] at this
theorem put (h : CM wr gB gI base bs ps O cO xs) {O' : Option Addr} {cO' : Nat} {xs' : List Sp} (k : KpP (fun b => O.map (·.block) = some b) wr w') (ho : OwnP w' base O' cO' xs') : CM w' gB gI base bs ps O' cO' xs' :=
  ⟨k.blk h.bB (own_blk h.own h.bB (by decide)), k.blk h.bI (own_blk h.own h.bI (by decide)), ho⟩
theorem cellB (h : CM wr gB gI base bs ps O cO xs) {j : Nat} (hj : j < bs.length) : wr.cell? ⟨gB, j, none⟩ = some (.bool bs[j]) ∧ wr.frozen? ⟨gB, j, none⟩ = false := by
  refine ⟨?_, h.bB.frz j⟩
  rw [h.bB.cell]; simp [hj]
theorem cellI (h : CM wr gB gI base bs ps O cO xs) {j : Nat} (hj : j < ps.length) : wr.cell? ⟨gI, j, none⟩ = some (.int .i64 ps[j]) ∧ wr.frozen? ⟨gI, j, none⟩ = false := by
  refine ⟨?_, h.bI.frz j⟩
  rw [h.bI.cell]; simp [hj]
theorem ib (h : CM wr gB gI base bs ps O cO xs) (hl : bs.length ≤ maxLen) : IB wr (some ⟨gB, 0, none⟩) bs.length bs :=
  ⟨Nat.le_refl _, hl, fun _ => ⟨gB, 0, rfl, fun i hi => by rw [h.bB.cell]; simp [hi]⟩⟩
end CM

/-- every set is read up to a span that does not end before x -/
def PtrOk (ls : List Hs) (ps : List Int) (x : Int) : Prop :=
  ps.length = ls.length ∧ ∀ j (h : j < ls.length), ∃ p : Nat, ps[j]? = some (p : Int) ∧ p ≤ ls[j].l.length ∧ ∀ i (hi : i < ls[j].l.length), i < p → ls[j].l[i].2 < x
theorem PtrOk.mono {ls : List Hs} {ps : List Int} {x y : Int} (h : PtrOk ls ps x) (hxy : x ≤ y) : PtrOk ls ps y :=
  ⟨h.1, fun j hj => by
    obtain ⟨p, h1, h2, h3⟩ := h.2 j hj
    exact ⟨p, h1, h2, fun i hi hip => by have := h3 i hi hip; omega⟩⟩
theorem PtrOk.zero {ls : List Hs} {ps : List Int} (hl : ps.length = ls.length) (h0 : ∀ x ∈ ps, x = 0) (x : Int) : PtrOk ls ps x :=
  ⟨hl, fun j hj => ⟨0, by
    have hj' : j < ps.length := by omega
    rw [List.getElem?_eq_getElem hj', h0 _ (List.getElem_mem hj')]; rfl, Nat.zero_le _, fun i _ hi => absurd hi (Nat.not_lt_zero _)⟩⟩
theorem PtrOk.set {ls : List Hs} {ps : List Int} {x : Int} (h : PtrOk ls ps x) {j p : Nat} (hj : j < ls.length) (hp : p ≤ ls[j].l.length) (h3 : ∀ i (hi : i < ls[j].l.length), i < p → ls[j].l[i].2 < x) : PtrOk ls (ps.set j p) x := by
  refine ⟨by rw [List.length_set]; exact h.1, fun q hq => ?_⟩
  by_cases hqj : q = j
  · subst hqj
    exact ⟨p, by rw [List.getElem?_set_self (by rw [h.1]; exact hq)], hp, h3⟩
  · obtain ⟨r, h4, h5, h6⟩ := h.2 q hq
    exact ⟨r, by rw [List.getElem?_set_ne (fun e => hqj e.symm)]; exact h4, h5, h6⟩

/-- the pieces between ends -/
def pcs (ns : List Int) : List Sp := segsT ns.dropLast (ns.getLast?.getD 0 - 1)
theorem pcs_len (ns : List Int) : (pcs ns).length = ns.length - 1 := by unfold pcs; rw [segsT_len]; simp
theorem pcs_get {ns : List Int} {i : Nat} (hi : i + 1 < ns.length) : (pcs ns)[i]'(by rw [pcs_len]; omega) = (ns[i], ns[i + 1] - 1) := by
  unfold pcs
  rw [segsT_get (by simp; omega)]
  have e1 : ns.dropLast[i]'(by simp; omega) = ns[i] := by simp
  rw [e1]
  split
  · rename_i h
    simp
  · rename_i h
    have : i + 1 = ns.length - 1 := by simp at h; omega
    have hl : ns.getLast? = some ns[i + 1] := by
      rw [List.getLast?_eq_getElem?]
      simp only [← this]
      exact List.getElem?_eq_getElem hi
    rw [hl]; rfl
/-- what was put together of the first i pieces -/
def outU (k : List Bool → Bool) (ls : List (List Sp)) (ns : List Int) (i : Nat) : List Sp := (((pcs ns).take i).filter (fun s => k (ls.map (fun a => has a s.1)))).foldl addS []
theorem outU_succ {k : List Bool → Bool} {ls : List (List Sp)} {ns : List Int} {i : Nat} (hi : i + 1 < ns.length) :
    outU k ls ns (i + 1) = if k (ls.map (fun a => has a ns[i])) = true then addS (outU k ls ns i) (ns[i], ns[i + 1] - 1) else outU k ls ns i := by
  unfold outU
  rw [List.take_succ_eq_append_getElem (by rw [pcs_len]; omega), pcs_get hi, List.filter_append, List.foldl_append]
  cases h : k (ls.map (fun a => has a ns[i])) <;> simp [h]
theorem outU_all (k : List Bool → Bool) (ls : List (List Sp)) (ns : List Int) : outU k ls ns (ns.length - 1) = cls ns.dropLast (ns.getLast?.getD 0 - 1) (fun x => k (ls.map (fun a => has a x))) := by
  unfold outU
  rw [← pcs_len, List.take_length]
  rfl
theorem outU_len (k : List Bool → Bool) (ls : List (List Sp)) (ns : List Int) (i : Nat) : (outU k ls ns i).length ≤ ns.length := by
  unfold outU
  have h1 := addAll_len (((pcs ns).take i).filter (fun s => k (ls.map (fun a => has a s.1)))) []
  have h2 := List.length_filter_le (fun s => k (ls.map (fun a => has a s.1))) ((pcs ns).take i)
  rw [List.length_take, pcs_len] at h2
  simp only [List.length_nil] at h1
  omega
theorem pcs_good {ns : List Int} (hi : ns.Pairwise (· < ·)) (hr : ∀ x ∈ ns, 0 ≤ x ∧ x ≤ 1114112) {i : Nat} (h : i + 1 < ns.length) : goodS (ns[i], ns[i + 1] - 1) := by
  have h1 := List.pairwise_iff_getElem.1 hi i (i + 1) (by omega) h (by omega)
  have h2 := hr _ (List.getElem_mem (show i < ns.length by omega))
  have h3 := hr _ (List.getElem_mem h)
  unfold goodS
  simp only
  omega
theorem outU_good {k : List Bool → Bool} {ls : List (List Sp)} {ns : List Int} (hi : ns.Pairwise (· < ·)) (hr : ∀ x ∈ ns, 0 ≤ x ∧ x ≤ 1114112) (i : Nat) : ∀ t ∈ outU k ls ns i, goodS t := by
  unfold outU
  refine addAll_good (by simp) (fun t ht => ?_)
  have h1 := List.mem_of_mem_take (List.mem_filter.1 ht).1
  obtain ⟨j, hj, rfl⟩ := List.getElem_of_mem h1
  rw [pcs_len] at hj
  rw [pcs_get (by omega)]
  exact pcs_good hi hr (by omega)

/-- what combine makes: the pieces between the ends, of which those that k picks are put together -/
def combo (k : List Bool → Bool) (ls : List (List Sp)) : List Sp :=
  cls ((incr (ls.flatten.flatMap prE)).dropLast) ((incr (ls.flatten.flatMap prE)).getLast?.getD 0 - 1) (fun x => k (ls.map (fun a => has a x)))

theorem madeCells_one (v : Value) (n : Nat) : madeCells #[v] (n * 1) = ((List.replicate n v)).toArray := by
  unfold madeCells
  refine Array.ext (by simp) (fun i h1 h2 => ?_)
  simp [Nat.mod_one]
theorem mkBools (n : Nat) (h : n ≤ 1000000) (W : World) : (Instr.makeSlice 71 (.int .i64 (n : Int)) (.int .i64 (n : Int))).run Try.prog W = .ok (.slice (some ⟨W.heap.size, 0, none⟩) n n) (W.alloc (.cells ((List.replicate n false).map Value.bool).toArray 4)) := by
  obtain ⟨i0, hi0, hz0, hz1, hz2⟩ := info_parts infoBl
  have := run_make (P := Try.prog) W 71 4 i0 (.bool false) Try.underlying71 hi0 hz0 .i64 .i64 n n (by omega) (Int.le_refl _) (by rw [hz2]; omega) (by omega)
  rw [this, hz1]
  simp only [Int.toNat_natCast, Value.cells]
  rw [madeCells_one, List.map_replicate]
theorem mkInts (n : Nat) (h : n ≤ 1000000) (W : World) : (Instr.makeSlice 26 (.int .i64 (n : Int)) (.int .i64 (n : Int))).run Try.prog W = .ok (.slice (some ⟨W.heap.size, 0, none⟩) n n) (W.alloc (.cells ((List.replicate n (0 : Int)).map (Value.int .i64)).toArray 3)) := by
  obtain ⟨i0, hi0, hz0, hz1, hz2⟩ := info_parts infoInt
  have := run_make (P := Try.prog) W 26 3 i0 (.int .i64 0) Try.underlying26 hi0 hz0 .i64 .i64 n n (by omega) (Int.le_refl _) (by rw [hz2]; omega) (by omega)
  rw [this, hz1]
  simp only [Int.toNat_natCast, Value.cells]
  rw [madeCells_one, List.map_replicate]

set_option maxRecDepth 100000 in
set_option maxHeartbeats 8000000 in
theorem combine_any (nf : Nat) (k : List Bool → Bool) (A : Option Addr) (c : Nat) (ls : List Hs) (w : World) (hl : LLS w A c ls) (hok : ∀ h ∈ ls, OkL h.l) (hlen : (ls.map (·.l)).flatten.length ≤ 100000) (hnl : ls.length ≤ 1000)
    (eg : ∀ args w, (callFunc nf args).run Try.prog w = .ok (.enter nf args) w)
    (hf : ∀ (W : World) (B : Option Addr) (cB : Nat) (bs : List Bool), IB W B cB bs → bs.length = ls.length → Calls Try.prog nf #[.slice B bs.length cB] W (RetV (.bool (k bs)) W)) :
    Calls Try.prog 54 #[.func (.func nf) #[] #[], .slice A ls.length c] w (fun e w' => ∃ (O : Option Addr) (cO : Nat), e = .returned (.slice O (combo k (ls.map (·.l))).length cO) ∧ OwnP w' w.heap.size O cO (combo k (ls.map (·.l))) ∧ Ext w w') := by
  obtain ⟨i0, hi0, hz0, hz1, hz2⟩ := info_parts infoInt
  have hcap := hl.len
  have HOK := Lib.hid hok
  have HF := Lib.hid hf
  have HEA := Lib.hid (eUpto_all ls)
  have HE0 := Lib.hid (eUpto_zero ls 0)
  have HCO : Hid (combo k (ls.map (·.l)) = cls ((incr ((ls.map (·.l)).flatten.flatMap prE)).dropLast) ((incr ((ls.map (·.l)).flatten.flatMap prE)).getLast?.getD 0 - 1) (fun x => k ((ls.map (·.l)).map (fun a => has a x)))) := rfl
  clear hf hok
  go_enter Try.func54, Try.ntmps54
  go_wp2_with fail
  go_loopw [5, 19] (fun v5 v19 wr => ∃ (i : Nat) (E : Option Addr) (cE : Nat) (xs : List Int), v19 = .int .i64 i ∧ i ≤ ls.length ∧ v5 = .slice E xs.length cE ∧ Hid (xs = eUpto ls i 0 ∧ OwnI wr w.heap.size 3 E cE xs) ∧ Ext w wr) (fun _ v _ => ls.length - (intOf v).toNat)
  case atStart => exact ⟨0, none, 0, [], rfl, by omega, rfl, ⟨by rw [HE0.out]; rfl, OwnS.nil _ _ _ _⟩, Ext.rfl' _⟩
  case round =>
    obtain ⟨i, E, cE, xs, rfl, hi, rfl, HX, x1⟩ := hrel
    by_cases hlt : i < ls.length
    · have hiI : (i : Int) < ls.length := by omega
      obtain ⟨pb, po, rfl, g0⟩ := (hl.ext x1).get hlt
      have hsl := hl.sl _ (List.getElem_mem hlt)
      have hgg := (okL_canon (HOK.out _ (List.getElem_mem hlt))).2
      have hsll := hsl.len
      have HNX := Lib.hid (eUpto_next hlt)
      have HSTP := fun (k : Nat) (hk : k < ls[i].l.length) => Lib.hid (eUpto_step hlt hk)
      have HSB := Lib.hid (show ls[i].l.length ≤ 100000 from by
        have e1 : ls[i].l.length ≤ (ls.map (·.l)).flatten.length := List.Sublist.length_le (List.sublist_flatten_of_mem (List.mem_map_of_mem (List.getElem_mem hlt)))
        omega)
      have HLN := fun (k : Nat) => Lib.hid (eUpto_len (ls := ls) (i := i) (k := k))
      generalize ls[i] = hh at *
      obtain ⟨hA, hc, hl2⟩ := hh
      simp only at g0 hsl hgg hsll HNX HSTP HSB
      go_wp2_with fail
      go_loopw [5, 25] (fun v5 v25 wk => ∃ (q : Nat) (E : Option Addr) (cE : Nat) (xs : List Int), v25 = .int .i64 q ∧ q ≤ hl2.length ∧ v5 = .slice E xs.length cE ∧ Hid (xs = eUpto ls i q ∧ OwnI wk w.heap.size 3 E cE xs) ∧ Ext w wk) (fun _ v _ => hl2.length - (intOf v).toNat)
      case atStart => exact ⟨0, E, cE, xs, rfl, by omega, rfl, HX, x1⟩
      case round =>
        clear HX x1
        obtain ⟨q, E, cE, xs, rfl, hq, rfl, HX, xk⟩ := hrel
        by_cases hkl : q < hl2.length
        · have hkI : (q : Int) < hl2.length := by omega
          obtain ⟨sb, so, rfl, g1, g2⟩ := (hsl.ext xk).get hkl
          have hgs := hgg _ (List.getElem_mem hkl)
          have HS2 := HSTP q hkl
          generalize hl2[q] = s at *
          obtain ⟨lo, hi2⟩ := s
          have hgs' : 0 ≤ lo ∧ lo ≤ hi2 ∧ hi2 ≤ 1114111 := hgs
          simp only at g1 g2 HS2
          have hw1 : IntKind.i64.wrap (hi2 + 1) = hi2 + 1 := by rw [IntKind.wrap_i64]; omega
          obtain ⟨b1, xa⟩ := alloc1 wr 48 #[.int .i64 lo, .int .i64 hi2]
          obtain ⟨p0, p1, _, _, pz⟩ := b1.c2
          go_upto_region 8 with fail
          obtain ⟨gs, hgs2⟩ : ∃ gs, gs = wr.heap.size := ⟨_, rfl⟩
          rw [← hgs2] at b1 p0 p1 pz ⊢
          generalize wr.alloc (.cells #[.int .i64 lo, .int .i64 hi2] 48) = wa at *
          have HXB := Lib.hid (show xs.length ≤ 200000 by have := (HLN q).out; rw [← HX.out.1] at this; omega)
          have hxb := HXB.out
          have HO := Lib.hid (OwnS.ext HX.out.2 xa)
          have HNB := Lib.hid (Blk.new wa 3 #[.int .i64 lo, .int .i64 (hi2 + 1)])
          have HXT := Lib.hid ((xk.trans xa).trans (Ext.alloc wa (.cells #[.int .i64 lo, .int .i64 (hi2 + 1)] 3)))
          have HSE := Lib.hid (show xs ++ [lo, hi2 + 1] = eUpto ls i (q + 1) by rw [HS2.out, HX.out.1])
          have HLL := Lib.hid (show (xs ++ [lo, hi2 + 1]).length = xs.length + 2 by simp)
          clear HX HS2 HSTP HLN hgs hgg hgs2 xa xk
          go_wp2_with ((at_builtin; refine wpList_app _ rfl _ _ _ rfl w.heap.size 3 i0 (.int .i64 0) 1 8 Try.underlying26 hi0 hz0 hz1 hz2 rfl (by omega) E xs.length cE (xs.map (Value.int .i64)) rfl (OwnS.ext HO.out (Ext.alloc _ _)) _ 2 2 [.int .i64 lo, .int .i64 (hi2 + 1)] rfl rfl (blk_cells HNB.out) (ints_one [lo, hi2 + 1]) (by unfold maxLen; omega) (by omega) HXT.out.size ?_; intro E2 cE2 w4 ho4 hg4 hat4))
          have x5 := Ext.app HXT.out (OwnS.ext HO.out (Ext.alloc _ _)) hg4
          have HX2 : Hid (xs ++ [lo, hi2 + 1] = eUpto ls i (q + 1) ∧ OwnI w4 w.heap.size 3 E2 cE2 (xs ++ [lo, hi2 + 1])) := ⟨HSE.out, by unfold OwnI; rw [HLL.out, List.map_append]; exact ho4⟩
          clear ho4 hg4 hat4 HNB HO HXT HSE p0 p1 b1 g1 g2
          go_roundw
          case rel => exact ⟨q + 1, E2, cE2, xs ++ [lo, hi2 + 1], by go_num, by omega, by rw [HLL.out], HX2, x5⟩
          case measure => simp [intOf]; omega
        · have hkI : ¬ (q : Int) < hl2.length := by omega
          have hke : q = hl2.length := by omega
          have HX4 := Lib.hid (show xs = eUpto ls (i + 1) 0 ∧ OwnI wr w.heap.size 3 E cE xs from ⟨by rw [HX.out.1, hke]; exact HNX.out, HX.out.2⟩)
          clear hke HX HSTP HLN hgg
          go_wp2_with fail
          go_roundw
          case rel => exact ⟨i + 1, E, cE, xs, by go_num, by omega, rfl, HX4, xk⟩
          case measure => simp [intOf]; omega
    · have hiI : ¬ (i : Int) < ls.length := by omega
      have hie : i = ls.length := by omega
      have hxe : xs = (ls.map (·.l)).flatten.flatMap prE := by rw [HX.out.1, hie, HEA.out]
      have hxl : xs.length ≤ 200000 := by
        rw [hxe, prE_len]; omega
      rw [← hxe] at HCO
      have hil := incr_law xs
      have HSO := Lib.hid (sortI_any w.heap.size 3 cE E xs wr HX.out.2 (by omega))
      have hml : (xs.mergeSort fun x y => decide (x ≤ y)).length = xs.length := by simp
      have HEB := Lib.hid (show ∀ b, E.map (·.block) = some b → w.heap.size ≤ b from fun b hb => OwnS.row HX.out.2 b hb)
      have HCM := fun (W' : World) (h : OwnI W' w.heap.size 3 E cE (xs.mergeSort fun x y => decide (x ≤ y))) => Lib.hid (compactI_any w.heap.size 3 cE E (xs.mergeSort fun x y => decide (x ≤ y)) W' h (by omega) (by have := hil.2.2; unfold incr at this; omega))
      rw [hml] at HCM
      have HIL := Lib.hid hil
      have HXE := Lib.hid hxe
      change Hid (_ = cls (incr xs).dropLast _ _) at HCO
      have HCM2 : ∀ W', OwnI W' w.heap.size 3 E cE (xs.mergeSort fun x y => decide (x ≤ y)) → Hid (Calls Try.prog 69 #[.slice E xs.length cE] W' (fun r w' => r = .returned (.slice E (incr xs).length cE) ∧ OwnI w' w.heap.size 3 E cE (incr xs) ∧ KpP (fun b => E.map (·.block) = some b) W' w')) := HCM
      generalize incr xs = ns at *
      clear HCM hie hxe hml hil HX HEA
      go_wp2_with fail
      refine HSO.out.mono ?_
      rintro e w2 ⟨rfl, hm2, hk2⟩
      have x2 : Ext w w2 := x1.kp hk2 (fun b hb => HEB.out b hb)
      have HC := HCM2 w2 hm2
      clear HSO HCM2 hm2 hk2
      go_wp2_with fail
      refine HC.out.mono ?_
      rintro e w3 ⟨rfl, hn3, hk3⟩
      have x3 : Ext w w3 := x2.kp hk3 (fun b hb => HEB.out b hb)
      clear HC hk3 x2 x1 hi hiI hlt
      have hnsl : ns.length ≤ 200000 := by have := HIL.out.2.2; omega
      have HNR := Lib.hid (show ∀ x ∈ ns, 0 ≤ x ∧ x ≤ 1114112 from fun x hx => by
        have h1 := (HIL.out.2.1 x).1 hx
        rw [HXE.out] at h1
        obtain ⟨s, hs, h2⟩ := List.mem_flatMap.1 h1
        obtain ⟨a, ha, hs⟩ := List.mem_flatten.1 hs
        obtain ⟨h, hh, rfl⟩ := List.mem_map.1 ha
        have := (okL_canon (HOK.out h hh)).2 s hs
        unfold goodS at this
        simp only [prE, List.mem_cons, List.not_mem_nil, or_false] at h2
        omega)
      have HNI := Lib.hid (IL.of_own hn3 (fun x hx => by have := HNR.out x hx; unfold I64; omega))
      clear hn3 hxl
      have hmB := mkBools ls.length (by omega)
      have hmI := mkInts ls.length (by omega)
      have bB := Blk.new w3 4 ((List.replicate ls.length false).map Value.bool).toArray
      have eB := Ext.alloc w3 (.cells ((List.replicate ls.length false).map Value.bool).toArray 4)
      have HB0 : Hid ((List.replicate ls.length false).length = ls.length ∧ (List.replicate ls.length (0 : Int)).length = ls.length) := ⟨by simp, by simp⟩
      have HI0 : Hid (∀ x ∈ List.replicate ls.length (0 : Int), x = 0) := fun x hx => (List.mem_replicate.1 hx).2
      generalize List.replicate ls.length false = bs0 at *
      generalize List.replicate ls.length (0 : Int) = ps0 at *
      go_upto_region 14 with fail
      obtain ⟨gB, hgB⟩ : ∃ gB, gB = w3.heap.size := ⟨_, rfl⟩
      rw [← hgB] at bB ⊢
      have hgB3 : w3.heap.size ≤ gB := Nat.le_of_eq hgB.symm
      have HGB := Lib.hid hgB3
      generalize w3.alloc (.cells (bs0.map Value.bool).toArray 4) = w4 at *
      have bI := Blk.new w4 3 (ps0.map (Value.int .i64)).toArray
      have eI := Ext.alloc w4 (.cells (ps0.map (Value.int .i64)).toArray 3)
      clear hgB hgB3 hmB
      go_upto_region 15 with fail
      obtain ⟨gI, hgI⟩ : ∃ gI, gI = w4.heap.size := ⟨_, rfl⟩
      rw [← hgI] at bI ⊢
      have HGI := Lib.hid (show w3.heap.size ≤ gI from Nat.le_trans eB.size (Nat.le_of_eq hgI.symm))
      replace bB := bB.ext eI
      have e35 := eB.trans eI
      generalize w4.alloc (.cells (ps0.map (Value.int .i64)).toArray 3) = w5 at *
      clear hgI hmI eB eI
      have HP0 := Lib.hid (show ∀ t (h : t < ns.length), PtrOk ls ps0 ns[t] from fun t h => PtrOk.zero HB0.out.2 HI0.out _)
      clear HXE HEB HE0
      go_wp2_with fail
      go_loopw [12, 13] (fun v12 v13 wr => ∃ (i : Nat) (O : Option Addr) (cO : Nat) (xs : List Sp) (bs : List Bool) (ps : List Int), v13 = .int .i64 i ∧ i ≤ ns.length - 1 ∧ v12 = .slice O xs.length cO ∧
        Hid (bs.length = ls.length ∧ (∀ t (h : t < ns.length), i ≤ t → PtrOk ls ps ns[t]) ∧ xs = outU k (ls.map (·.l)) ns i ∧ CM wr gB gI w3.heap.size bs ps O cO xs) ∧ Ext w3 wr) (fun _ v _ => ns.length - (intOf v).toNat)
      case atStart => exact ⟨0, none, 0, [], bs0, ps0, rfl, by omega, rfl, ⟨HB0.out.1, fun t h _ => HP0.out t h, rfl, bB, bI, OwnP.nil _ _⟩, e35⟩
      case round =>
        clear HP0 HB0 HI0 bB bI e35
        obtain ⟨i, O, cO, xs, bs, ps, rfl, hi, rfl, HX, x4⟩ := hrel
        by_cases hlt : i + 1 < ns.length
        · have hiI : (i : Int) + 1 < ns.length := by omega
          have hwi : IntKind.i64.wrap ((i : Int) + 1) = (i : Int) + 1 := by rw [IntKind.wrap_i64]; omega
          obtain ⟨pe, qe, rfl, g0⟩ := (HNI.out.ext x4).get (show i < ns.length by omega)
          have hi0' : (i : Int) < ns.length := by omega
          have HPT := Lib.hid (HX.out.2.1 i (by omega) (Nat.le_refl _))
          have hii : i < ns.length := by omega
          have HMN := Lib.hid (show ∀ t (h : t < ns.length), i ≤ t → ns[i]'hii ≤ ns[t] from fun t h hit => by
            rcases Nat.lt_or_ge i t with hh | hh
            · have := List.pairwise_iff_getElem.1 HIL.out.1 i t (by omega) h hh
              omega
            · have : i = t := by omega
              subst this; exact Int.le_refl _)
          have HSU := Lib.hid (outU_succ (k := k) (ls := ls.map (·.l)) hlt)
          have HGP := Lib.hid (pcs_good HIL.out.1 HNR.out hlt)
          have hat0 := HNR.out _ (List.getElem_mem (show i < ns.length by omega))
          have HN1 := HNI.out.get hlt
          have hnx0 := HNR.out _ (List.getElem_mem hlt)
          generalize ns[i] = at0 at *
          generalize ns[i + 1] = nx at *
          have HBL := Lib.hid HX.out.1
          have HXU := Lib.hid HX.out.2.2.1
          have HCM0 := Lib.hid HX.out.2.2.2
          clear HX
          go_wp2_with fail
          go_loopw [62] (fun v62 wk => ∃ (j : Nat) (bs : List Bool) (ps : List Int), v62 = .int .i64 j ∧ j ≤ ls.length ∧ Hid (bs.length = ls.length ∧ PtrOk ls ps at0 ∧ (∀ q (h : q < ls.length), q < j → bs[q]? = some (has ls[q].l at0)) ∧ CM wk gB gI w3.heap.size bs ps O cO xs) ∧ Ext w3 wk) (fun v _ => ls.length - (intOf v).toNat)
          case atStart => exact ⟨0, bs, ps, rfl, by omega, ⟨HBL.out, HPT.out, fun q _ hq => absurd hq (Nat.not_lt_zero _), HCM0.out⟩, x4⟩
          case round =>
            clear HPT HBL HCM0 x4 g0
            obtain ⟨j, bs, ps, rfl, hj, HY, x5⟩ := hrel
            by_cases hjl : j < ls.length
            · have hjI : (j : Int) < ls.length := by omega
              obtain ⟨pb, po, rfl, g1⟩ := ((hl.ext x3).ext x5).get hjl
              have hsl := (hl.sl _ (List.getElem_mem hjl)).ext x3
              have hcn := (okL_canon (HOK.out _ (List.getElem_mem hjl))).1
              have hgd := (okL_canon (HOK.out _ (List.getElem_mem hjl))).2
              have HSET := fun (ps : List Int) (h : PtrOk ls ps at0) (p : Nat) (hp : p ≤ ls[j].l.length) (h3 : ∀ i (hi : i < ls[j].l.length), i < p → ls[j].l[i].2 < at0) => Lib.hid (h.set hjl hp h3)
              have HGET := fun (ps : List Int) (h : PtrOk ls ps at0) => Lib.hid (h.2 j hjl)
              have HBS := fun (bs : List Bool) (h : ∀ q (h : q < ls.length), q < j → bs[q]? = some (has ls[q].l at0)) (hb : bs.length = ls.length) => Lib.hid (show ∀ q (h : q < ls.length), q < j + 1 → (bs.set j (has ls[j].l at0))[q]? = some (has ls[q].l at0) from fun q hq hqj => by
                by_cases e : q = j
                · subst e
                  rw [List.getElem?_set_self (by omega)]
                · rw [List.getElem?_set_ne (fun h => e h.symm)]
                  exact h q hq (by omega))
              have HSB9 := Lib.hid (show ls[j].l.length ≤ 100000 from by
                have e1 : ls[j].l.length ≤ (ls.map (·.l)).flatten.length := List.Sublist.length_le (List.sublist_flatten_of_mem (List.mem_map_of_mem (List.getElem_mem hjl)))
                omega)
              have HPTR := fun (p : Nat) (h1 : ∀ i (hi : i < ls[j].l.length), i < p → ls[j].l[i].2 < at0) (h2 : ∀ h : p < ls[j].l.length, ¬ ls[j].l[p].2 < at0) => Lib.hid (has_ptr hcn h1 h2)
              generalize ls[j] = hh at *
              obtain ⟨hA, hc, hl2⟩ := hh
              simp only at g1 hsl hcn hgd HSET HGET HBS HPTR HSB9
              generalize has hl2 at0 = hb at *
              have hslc := hsl.len
              have HL9 := Lib.hid HSB9.out
              go_wp2_with fail
              go_loopw [67] (fun _ wm => ∃ (p : Nat) (ps : List Int), Hid (PtrOk ls ps at0 ∧ ps[j]? = some (p : Int) ∧ p ≤ hl2.length ∧ (∀ i (hi : i < hl2.length), i < p → hl2[i].2 < at0) ∧ CM wm gB gI w3.heap.size bs ps O cO xs) ∧ Ext w3 wm) (fun _ wm => hl2.length - (intOf ((wm.cell? ⟨gI, j, none⟩).getD undef)).toNat)
              case atStart =>
                obtain ⟨p, hp1, hp2, hp3⟩ := (HGET ps HY.out.2.1).out
                exact ⟨p, ps, ⟨HY.out.2.1, hp1, hp2, hp3, HY.out.2.2.2⟩, x5⟩
              case round =>
                obtain ⟨p, ps2, HZ, x6⟩ := hrel
                have hjp : j < ps2.length := by rw [HZ.out.1.1]; exact hjl
                have hjb : j < bs.length := by rw [HY.out.1]; exact hjl
                have hpe : ps2[j] = (p : Int) := by
                  have := HZ.out.2.1
                  rw [List.getElem?_eq_getElem hjp] at this
                  injection this
                obtain ⟨c1, c1f⟩ := HZ.out.2.2.2.2.cellI hjp
                rw [hpe] at c1
                obtain ⟨c2, c2f⟩ := HZ.out.2.2.2.2.cellB hjb
                generalize bs[j] = bj at *
                have hple := HZ.out.2.2.1
                have hp63 : (p : Int) ≤ 9223372036854775000 := by have := hslc; have := HL9.out; omega
                clear HGET hpe hjp hjb
                by_cases hpl : p < hl2.length
                · obtain ⟨sb, so, rfl, g2, g3⟩ := (hsl.ext x6).get hpl
                  have hpI : (p : Int) < hl2.length := by omega
                  have hp0 : (0 : Int) ≤ (p : Int) := by omega
                  by_cases hx : hl2[p].2 < at0
                  · have HZ2 := Lib.hid (show PtrOk ls (ps2.set j ((p : Int) + 1)) at0 ∧ (ps2.set j ((p : Int) + 1))[j]? = some ((p + 1 : Nat) : Int) ∧ p + 1 ≤ hl2.length ∧ (∀ i (hi : i < hl2.length), i < p + 1 → hl2[i].2 < at0) ∧ CM (wr.setCell ⟨gI, j, none⟩ (.int .i64 ((p : Int) + 1))) gB gI w3.heap.size bs (ps2.set j ((p : Int) + 1)) O cO xs from by
                      have h3 : ∀ i (hi : i < hl2.length), i < p + 1 → hl2[i].2 < at0 := fun i hi hip => by
                        rcases Nat.lt_or_ge i p with hh | hh
                        · exact HZ.out.2.2.2.1 i hi hh
                        · have : i = p := by omega
                          subst this; exact hx
                      refine ⟨?_, ?_, by omega, h3, HZ.out.2.2.2.2.setI j _⟩
                      · exact (HSET ps2 HZ.out.1 (p + 1) (by omega) h3).out
                      · rw [List.getElem?_set_self (by rw [HZ.out.1.1]; exact hjl)]; rfl)
                    have x7 := x6.setNew (p := ⟨gI, j, none⟩) HGI.out (.int .i64 ((p : Int) + 1))
                    have hcn2 := HZ2.out.2.2.2.2.cellI (j := j) (by rw [List.length_set, HZ.out.1.1]; exact hjl)
                    have hcv : (wr.setCell ⟨gI, j, none⟩ (.int .i64 ((p : Int) + 1))).cell? ⟨gI, j, none⟩ = some (.int .i64 ((p : Int) + 1)) := by
                      rw [hcn2.1]; simp
                    have hw1 : IntKind.i64.wrap ((p : Int) + 1) = (p : Int) + 1 := by rw [IntKind.wrap_i64]; omega
                    have HCV := Lib.hid hcv
                    generalize hl2[p] = s at *
                    obtain ⟨lo, hi2⟩ := s
                    simp only at g2 g3 hx
                    clear HSET HBS HPTR hcv hcn2 HZ x6
                    go_wp2_with fail
                    go_roundw
                    case rel => exact ⟨p + 1, ps2.set j ((p : Int) + 1), HZ2, x7⟩
                    case measure =>
                      rw [HCV.out, c1]
                      simp [intOf]; omega
                  · have HPP := (HPTR p HZ.out.2.2.2.1 (fun _ => by omega)).out
                    by_cases hlo : hl2[p].1 ≤ at0
                    · have hbe : hb = true := HPP.2 ⟨hpl, hlo⟩
                      clear HPP
                      generalize hl2[p] = s at *
                      obtain ⟨lo, hi2⟩ := s
                      simp only at g2 g3 hx hlo
                      have HFN := Lib.hid (show (bs.set j true).length = ls.length ∧ PtrOk ls ps2 at0 ∧ (∀ q (h : q < ls.length), q < j + 1 → (bs.set j true)[q]? = some (has ls[q].l at0)) ∧ CM (wr.setCell ⟨gB, j, none⟩ (.bool true)) gB gI w3.heap.size (bs.set j true) ps2 O cO xs from
                        ⟨by rw [List.length_set]; exact HY.out.1, HZ.out.1, by have := (HBS bs HY.out.2.2.1 HY.out.1).out; rw [hbe] at this; exact this, HZ.out.2.2.2.2.setB j true⟩)
                      have x7 := x6.setNew (p := ⟨gB, j, none⟩) HGB.out (.bool true)
                      clear HZ HSET HBS HPTR x6 hbe
                      go_wp2_with fail
                      go_roundw
                      case rel => exact ⟨j + 1, bs.set j true, ps2, by go_num, by omega, HFN, x7⟩
                      case measure => simp [intOf]; omega
                    · have hbe : hb = false := by
                        cases hh : hb
                        · rfl
                        · exact absurd (HPP.1 hh).2 hlo
                      clear HPP
                      generalize hl2[p] = s at *
                      obtain ⟨lo, hi2⟩ := s
                      simp only at g2 g3 hx hlo
                      have HFN := Lib.hid (show (bs.set j false).length = ls.length ∧ PtrOk ls ps2 at0 ∧ (∀ q (h : q < ls.length), q < j + 1 → (bs.set j false)[q]? = some (has ls[q].l at0)) ∧ CM (wr.setCell ⟨gB, j, none⟩ (.bool false)) gB gI w3.heap.size (bs.set j false) ps2 O cO xs from
                        ⟨by rw [List.length_set]; exact HY.out.1, HZ.out.1, by have := (HBS bs HY.out.2.2.1 HY.out.1).out; rw [hbe] at this; exact this, HZ.out.2.2.2.2.setB j false⟩)
                      have x7 := x6.setNew (p := ⟨gB, j, none⟩) HGB.out (.bool false)
                      clear HZ HSET HBS HPTR x6 hbe
                      go_wp2_with fail
                      go_roundw
                      case rel => exact ⟨j + 1, bs.set j false, ps2, by go_num, by omega, HFN, x7⟩
                      case measure => simp [intOf]; omega
                · have hpI : ¬ (p : Int) < hl2.length := by omega
                  have HPP := (HPTR p HZ.out.2.2.2.1 (fun h => absurd h hpl)).out
                  have hbe : hb = false := by
                    cases hh : hb
                    · rfl
                    · exact absurd (HPP.1 hh).1 hpl
                  clear HPP
                  have HFN := Lib.hid (show (bs.set j false).length = ls.length ∧ PtrOk ls ps2 at0 ∧ (∀ q (h : q < ls.length), q < j + 1 → (bs.set j false)[q]? = some (has ls[q].l at0)) ∧ CM (wr.setCell ⟨gB, j, none⟩ (.bool false)) gB gI w3.heap.size (bs.set j false) ps2 O cO xs from
                    ⟨by rw [List.length_set]; exact HY.out.1, HZ.out.1, by have := (HBS bs HY.out.2.2.1 HY.out.1).out; rw [hbe] at this; exact this, HZ.out.2.2.2.2.setB j false⟩)
                  have x7 := x6.setNew (p := ⟨gB, j, none⟩) HGB.out (.bool false)
                  clear HZ HSET HBS HPTR x6 hbe
                  go_wp2_with fail
                  go_roundw
                  case rel => exact ⟨j + 1, bs.set j false, ps2, by go_num, by omega, HFN, x7⟩
                  case measure => simp [intOf]; omega
            · have hjI : ¬ (j : Int) < ls.length := by omega
              have hje : j = ls.length := by omega
              have hbf : bs = (ls.map (·.l)).map (fun a => has a at0) := by
                refine List.ext_getElem? (fun q => ?_)
                rcases Nat.lt_or_ge q ls.length with hq | hq
                · rw [HY.out.2.2.1 q hq (by omega)]
                  simp [hq]
                · rw [List.getElem?_eq_none (by rw [HY.out.1]; exact hq), List.getElem?_eq_none (by simpa using hq)]
              have HFC := HF.out wr (some ⟨gB, 0, none⟩) bs.length bs (HY.out.2.2.2.ib (by rw [HY.out.1]; unfold maxLen; omega)) HY.out.1
              rw [HY.out.1] at HFC
              have HSU2 := Lib.hid (show outU k (ls.map (·.l)) ns (i + 1) = if k bs = true then addS (outU k (ls.map (·.l)) ns i) (at0, nx - 1) else outU k (ls.map (·.l)) ns i by rw [hbf]; exact HSU.out)
              have HPN := Lib.hid (show ∀ t (h : t < ns.length), i + 1 ≤ t → PtrOk ls ps ns[t] from fun t h hit => HY.out.2.1.mono (HMN.out t h (by omega)))
              have HBL := Lib.hid HY.out.1
              have HCM := Lib.hid HY.out.2.2.2
              clear HY hbf hje HMN HSU
              obtain ⟨pe2, qe2, hEe, g2⟩ := HN1
              obtain ⟨rfl, rfl⟩ : pe = pe2 ∧ qe = qe2 := by injection hEe with h1; injection h1 with h2 h3 h4; exact ⟨h2, h3⟩
              have hwn : IntKind.i64.wrap (nx - 1) = nx - 1 := by rw [IntKind.wrap_i64]; omega
              have hi10 : (0 : Int) ≤ (i : Int) + 1 := by omega
              have hi1t : ((i : Int) + 1).toNat = i + 1 := by omega
              clear hEe
              by_cases hkb : k bs = true
              · rw [hkb] at HFC
                have HSU3 := Lib.hid (show outU k (ls.map (·.l)) ns (i + 1) = addS xs (at0, nx - 1) by rw [HSU2.out, if_pos hkb, HXU.out])
                have HADD := fun (W' : World) (x : Ext wr W') => Lib.hid (add_any w3.heap.size O cO xs (at0, nx - 1) W' (HCM.out.own.ext x) (x5.trans x).size (by rw [HXU.out]; exact outU_good HIL.out.1 HNR.out i) HGP.out (by rw [HXU.out]; have := outU_len k (ls.map (·.l)) ns i; omega))
                unfold spV at HADD
                simp only at HADD
                generalize addS xs (at0, nx - 1) = ys at *
                have HFCH := Lib.hid HFC
                have HOR := Lib.hid (show ∀ b, O.map (·.block) = some b → w3.heap.size ≤ b from fun b hb => OwnP.row HCM.out.own hb)
                clear HFC HSU2 hkb HXU HGP
                go_wp2_with (go_at_fn nf; refine HFCH.out.mono ?_; rintro e w7 ⟨rfl, x7⟩; have g3 := (x5.trans x7).cell g2)
                refine (HADD _ x7).out.mono ?_
                rintro e w8 ⟨O2, cO2, rfl, hO2, hk8, hat8⟩
                have x8 : Ext w3 w8 := (x5.trans x7).kp hk8 (fun b hb => HOR.out b hb)
                have HN := Lib.hid (show bs.length = ls.length ∧ (∀ t (h : t < ns.length), i + 1 ≤ t → PtrOk ls ps ns[t]) ∧ ys = outU k (ls.map (·.l)) ns (i + 1) ∧ CM w8 gB gI w3.heap.size bs ps O2 cO2 ys from ⟨HBL.out, HPN.out, HSU3.out.symm, (HCM.out.ext x7).put hk8 hO2⟩)
                clear HADD HCM HFCH hO2 hk8 hat8 g2 g3 x5 x7 HSU3
                go_wp2_with fail
                go_roundw
                case rel => exact ⟨i + 1, O2, cO2, ys, bs, ps, by go_num, by omega, rfl, HN, x8⟩
                case measure => simp [intOf]; omega
              · have hkf : k bs = false := by simpa using hkb
                rw [hkf] at HFC
                have HSU3 := Lib.hid (show outU k (ls.map (·.l)) ns (i + 1) = xs by rw [HSU2.out, if_neg hkb, HXU.out])
                have HFCH := Lib.hid HFC
                clear HFC HSU2 hkb hkf HXU HGP
                go_wp2_with (go_at_fn nf; refine HFCH.out.mono ?_; rintro e w7 ⟨rfl, x7⟩)
                have HN := Lib.hid (show bs.length = ls.length ∧ (∀ t (h : t < ns.length), i + 1 ≤ t → PtrOk ls ps ns[t]) ∧ xs = outU k (ls.map (·.l)) ns (i + 1) ∧ CM w7 gB gI w3.heap.size bs ps O cO xs from ⟨HBL.out, HPN.out, HSU3.out.symm, HCM.out.ext x7⟩)
                go_roundw
                case rel => exact ⟨i + 1, O, cO, xs, bs, ps, by go_num, by omega, rfl, HN, x5.trans x7⟩
                case measure => simp [intOf]; omega
        · have hiI : ¬ (i : Int) + 1 < ns.length := by omega
          have hwi : IntKind.i64.wrap ((i : Int) + 1) = (i : Int) + 1 := by rw [IntKind.wrap_i64]; omega
          have hie : i = ns.length - 1 := by omega
          have HE := Lib.hid (show xs = combo k (ls.map (·.l)) by rw [HX.out.2.2.1, hie, outU_all, HCO.out])
          have HO := Lib.hid HX.out.2.2.2.own
          clear HX hie HCO
          go_wp2_with fail
          go_ret
          exact ⟨O, cO, by rw [← HE.out]; rfl, by rw [← HE.out]; exact HO.out.down x3.size, x3.trans x4⟩
end Go.Proofs.Ytlbdjnbcoldjhaa
