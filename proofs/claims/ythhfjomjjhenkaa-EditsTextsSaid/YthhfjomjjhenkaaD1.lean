/- The walk of (*Desk).ready. -/
import Derived.Test.YthhfjomjjhenkaaDk
import Derived.Outline
namespace Go.Proofs.Ythhfjomjjhenkaa
open Go.RowKit
attribute [local go_sem ↓] Go.wp_at_zero Go.wp_at_succ

/-- the next number of a client -/
def nxOf (nx : List (Int × Int)) (c : Int) : Int := (at? nx c).getD 0
def isRdy (nx : List (Int × Int)) (n : Nat) (p : (Int × Int) × Hv) : Prop := p.1.2 = nxOf nx p.1.1 ∧ p.2.it.base ≤ n

theorem nx_look (nx : List (Int × Int)) (c : Int) : ((at? nx c).map (Value.int .i64)).getD (.int .i64 0) = .int .i64 (nxOf nx c) := by
  unfold nxOf; cases at? nx c <;> rfl

def RetRdy (nx : List (Int × Int)) (n : Nat) (hd : List ((Int × Int) × Hv)) (w : World) (e : Ending) (w' : World) : Prop :=
  ∃ (h : Hv) (f : Bool), e = .returned (.tuple #[hvV h, .bool f]) ∧ Ext w w' ∧ (f = true → ∃ p ∈ hd, p.2 = h ∧ isRdy nx n p ∧ ∀ q ∈ hd, isRdy nx n q → p.1.1 ≤ q.1.1) ∧ (f = false → ∀ q ∈ hd, ¬ isRdy nx n q)

/-- what the loop knows: of those that have been handed out, the best -/
structure BestOf (nx : List (Int × Int)) (n : Nat) (hd left : List ((Int × Int) × Hv)) (f : Bool) (bc bn : Int) : Prop where
  no : f = false → ∀ q ∈ hd, q ∉ left → ¬ isRdy nx n q
  yes : f = true → ∃ p ∈ hd, p.1 = (bc, bn) ∧ isRdy nx n p ∧ ∀ q ∈ hd, q ∉ left → isRdy nx n q → p.1.1 ≤ q.1.1

theorem zItem : ∀ W : World, (zeroValue 39).run Try.prog W = .ok (hvV ⟨⟨0, 0, 0, ⟨0, 0, []⟩⟩, none, 0⟩) W := fun W => by
  go_simp
  rfl

theorem zInt : ∀ W : World, (zeroValue 3).run Try.prog W = .ok (.int .i64 0) W := fun W => by
  go_simp
theorem Ext.kp {p : Nat → Prop} {a b c : World} (h : Ext a b) (k : KpP p b c) (hp : ∀ i, p i → a.heap.size ≤ i) : Ext a c :=
  ⟨k.os.trans h.os, k.tape.trans h.tape, k.output.trans h.output, Nat.le_trans h.size k.size, fun i hi => (k.block i (Nat.lt_of_lt_of_le hi h.size) (fun hq => by have := hp i hq; omega)).trans (h.block i hi)⟩
theorem MapAt.kpL {α β : Type} {w w' : World} {b : Nat} {kv : α → Value} {vv : β → Value} {l : List (α × β)} {L : List Nat} (h : MapAt w b kv vv l) (x : Kp L w w') (hn : b ∉ L) : MapAt w' b kv vv l := by
  have hl := h.lt
  obtain ⟨es, clock, h, r⟩ := h
  exact ⟨es, clock, (x.block b hl hn).trans h, r⟩
theorem at_of_mem {α β : Type} [DecidableEq α] {l : List (α × β)} (hn : (l.map (·.1)).Nodup) {p : α × β} (hp : p ∈ l) : at? l p.1 = some p.2 := by
  unfold at?
  induction l with
  | nil => cases hp
  | cons q l ih =>
    simp only [List.map_cons, List.nodup_cons] at hn
    rcases List.mem_cons.1 hp with rfl | hp
    · simp
    · have hne : q.1 ≠ p.1 := fun e => hn.1 (by rw [e]; exact List.mem_map.2 ⟨p, hp, rfl⟩)
      rw [List.find?_cons]
      have : (q.1 == p.1) = false := by simp [hne]
      rw [this]
      exact ih hn.2 hp
theorem eq_of_key {α β : Type} [DecidableEq α] {l : List (α × β)} (hn : (l.map (·.1)).Nodup) {p q : α × β} (hp : p ∈ l) (hq : q ∈ l) (h : p.1 = q.1) : p = q := by
  have h1 := at_of_mem hn hp
  have h2 := at_of_mem hn hq
  rw [h, h2] at h1
  injection h1 with h1
  exact Prod.ext h h1.symm
theorem not_left {α β : Type} [DecidableEq α] {hd left : List (α × β)} (hn : (hd.map (·.1)).Nodup) (hs : ∀ q ∈ left, q ∈ hd) {p q : α × β} (hp : p ∈ left) (hq : q ∈ hd) (h : q ∉ delL left p.1) : q ∉ left ∨ q = p := by
  by_cases hl : q ∈ left
  · right
    refine eq_of_key hn hq (hs p hp) ?_
    by_cases hk : q.1 = p.1
    · exact hk
    · exact absurd (show q ∈ delL left p.1 from List.mem_filter.2 ⟨hl, by simp [hk]⟩) h
  · exact .inl hl
theorem RngAt.facts {α β : Type} {w : World} {r b : Nat} {kv : α → Value} {vv : β → Value} {l left : List (α × β)} (h : RngAt w r b kv vv l left) : (l.map (·.1)).Nodup ∧ ∀ q ∈ left, q ∈ l := by
  obtain ⟨_, _, _, _, _, _, _, h1, _, _, _, _, _, h2⟩ := h
  exact ⟨h1, fun q hq => h2.subset hq⟩
section
variable {nx : List (Int × Int)} {n : Nat} {hd left : List ((Int × Int) × Hv)} {f : Bool} {bc bn : Int} {p : (Int × Int) × Hv}
theorem BestOf.skip (h : BestOf nx n hd left f bc bn) (hn : (hd.map (·.1)).Nodup) (hs : ∀ q ∈ left, q ∈ hd) (hp : p ∈ left) (hr : ¬ isRdy nx n p) : BestOf nx n hd (delL left p.1) f bc bn where
  no := fun hf q hq hl => by
    rcases not_left hn hs hp hq hl with h1 | rfl
    · exact h.no hf q hq h1
    · exact hr
  yes := fun hf => by
    obtain ⟨b, hb, h1, h2, h3⟩ := h.yes hf
    refine ⟨b, hb, h1, h2, fun q hq hl hqr => ?_⟩
    rcases not_left hn hs hp hq hl with h4 | rfl
    · exact h3 q hq h4 hqr
    · exact absurd hqr hr
theorem BestOf.first (h : BestOf nx n hd left false bc bn) (hn : (hd.map (·.1)).Nodup) (hs : ∀ q ∈ left, q ∈ hd) (hp : p ∈ left) (hr : isRdy nx n p) : BestOf nx n hd (delL left p.1) true p.1.1 p.1.2 where
  no := fun hf => by cases hf
  yes := fun _ => by
    refine ⟨p, hs p hp, rfl, hr, fun q hq hl hqr => ?_⟩
    rcases not_left hn hs hp hq hl with h4 | rfl
    · exact absurd hqr (h.no rfl q hq h4)
    · exact Int.le_refl _
theorem BestOf.better (h : BestOf nx n hd left true bc bn) (hn : (hd.map (·.1)).Nodup) (hs : ∀ q ∈ left, q ∈ hd) (hp : p ∈ left) (hr : isRdy nx n p) (hlt : p.1.1 < bc) : BestOf nx n hd (delL left p.1) true p.1.1 p.1.2 where
  no := fun hf => by cases hf
  yes := fun _ => by
    obtain ⟨b, hb, h1, h2, h3⟩ := h.yes rfl
    refine ⟨p, hs p hp, rfl, hr, fun q hq hl hqr => ?_⟩
    rcases not_left hn hs hp hq hl with h4 | rfl
    · have := h3 q hq h4 hqr
      rw [h1] at this
      simp only at this
      omega
    · exact Int.le_refl _
theorem BestOf.keep (h : BestOf nx n hd left true bc bn) (hn : (hd.map (·.1)).Nodup) (hs : ∀ q ∈ left, q ∈ hd) (hp : p ∈ left) (hlt : ¬ p.1.1 < bc) : BestOf nx n hd (delL left p.1) true bc bn where
  no := fun hf => by cases hf
  yes := fun _ => by
    obtain ⟨b, hb, h1, h2, h3⟩ := h.yes rfl
    refine ⟨b, hb, h1, h2, fun q hq hl hqr => ?_⟩
    rcases not_left hn hs hp hq hl with h4 | rfl
    · exact h3 q hq h4 hqr
    · rw [h1]; simp only; omega
end
theorem filter_less {α β : Type} [DecidableEq α] {left : List (α × β)} {p : α × β} (hp : p ∈ left) {k : Nat} (hk : left.length ≤ k) : (delL left p.1).length ≤ k - 1 ∧ 0 < k := by
  have h1 : (delL left p.1).length < left.length := by
    unfold delL
    rw [List.length_filter_lt_length_iff_exists]
    exact ⟨p, hp, by simp⟩
  omega

theorem RngAt.far {α β : Type} {w : World} {r b : Nat} {kv : α → Value} {vv : β → Value} {l left : List (α × β)} (h : RngAt w r b kv vv l left) {p : Addr} (h1 : r ≠ p.block) (h2 : b ≠ p.block) (u : Value) : RngAt (w.setCell p u) r b kv vv l left := by
  obtain ⟨es, clock, since, seen, g1, g2, rest⟩ := h
  exact ⟨es, clock, since, seen, (Below.heap_setCell w p u r h1).trans g1, (Below.heap_setCell w p u b h2).trans g2, rest⟩
theorem rdy_end {nx : List (Int × Int)} {n : Nat} {hd : List ((Int × Int) × Hv)} {fb : Bool} {bc bn : Int} {h z : Hv} (HB : BestOf nx n hd [] fb bc bn) (hn : (hd.map (·.1)).Nodup) (hh : h = (at? hd (bc, bn)).getD z) :
    (fb = true → ∃ p ∈ hd, p.2 = h ∧ isRdy nx n p ∧ ∀ q ∈ hd, isRdy nx n q → p.1.1 ≤ q.1.1) ∧ (fb = false → ∀ q ∈ hd, ¬ isRdy nx n q) := by
  refine ⟨fun hf => ?_, fun hf q hq => HB.no hf q hq (by simp)⟩
  obtain ⟨p, hp, h1, h2, h3⟩ := HB.yes hf
  refine ⟨p, hp, ?_, h2, fun q hq hr => h3 q hq (by simp) hr⟩
  have := at_of_mem hn hp
  rw [h1] at this
  rw [hh, this]; rfl

set_option maxHeartbeats 4000000 in
theorem ready_any (base g m1 m2 : Nat) (A : Option Addr) (c : Nat) (ap : List (Int × Int × Int)) (nx : List (Int × Int)) (hd : List ((Int × Int) × Hv)) (w : World) (hD : DeskAt w base g m1 m2 A c ap nx hd) :
    Calls Try.prog 49 #[.pointer (some ⟨g, 0, none⟩)] w (RetRdy nx ap.length hd w) := by
  obtain ⟨B2, B4, X⟩ := alloc2 w 39 #[.int .i64 0, .int .i64 0, .int .i64 0, .int .i64 0, .int .i64 0, .slice none 0 0] 92 #[.int .i64 0, .int .i64 0]
  have hD2 := hD.ext X
  obtain ⟨d0, d1, d2, d0f, d1f, d2f, dz⟩ := hD2.blk.c3
  have hcap := OwnS.caps hD.own
  go_enter Try.func49, Try.ntmps49
  go_wp2_with (at_range; refine wpList_range rfl _ rfl Try.underlying87 rfl hD2.held ?_; intro w1 x1 hr1)
  go_frame
  replace X := X.trans x1
  replace hD2 := hD2.ext x1
  replace B2 := B2.ext x1
  replace B4 := B4.ext x1
  have hg2 : w.heap.size + 1 < ((w.alloc (.cells #[.int .i64 0, .int .i64 0, .int .i64 0, .int .i64 0, .int .i64 0, .slice none 0 0] 39)).alloc (.cells #[.int .i64 0, .int .i64 0] 92)).heap.size := by simp
  generalize hW : (w.alloc (.cells #[.int .i64 0, .int .i64 0, .int .i64 0, .int .i64 0, .int .i64 0, .slice none 0 0] 39)).alloc (.cells #[.int .i64 0, .int .i64 0] 92) = W at *
  have hgr := x1.size
  generalize hrr : W.heap.size = r at *
  clear hW d0 d1 d2 d0f d1f d2f dz
  go_loopg [5] hd.length (fun k f wr => ∃ (left : List ((Int × Int) × Hv)) (fb : Bool) (bc bn : Int), left.length ≤ k ∧ f = .bool fb ∧ RngAt wr r m2 keyV hvV hd left ∧ BestOf nx ap.length hd left fb bc bn ∧
    Ext w wr ∧ Blk wr w.heap.size 39 #[.int .i64 0, .int .i64 0, .int .i64 0, .int .i64 0, .int .i64 0, .slice none 0 0] ∧ Blk wr (w.heap.size + 1) 92 #[.int .i64 bc, .int .i64 bn])
  case atStart => exact ⟨hd, false, 0, 0, Nat.le_refl _, rfl, hr1, ⟨fun _ q hq hn => absurd hq hn, fun h => by cases h⟩, X, B2, B4⟩
  case round =>
    obtain ⟨left, fb, bc, bn, hlk, rfl, hrg, hbest, hX, hB2, hB4⟩ := hrel
    have hfc := hrg.facts
    have hm2 := hD.held.lt
    go_wp2_with (at_next; refine wpList_next rfl _ rfl rfl hrg ?_ ?_)
    · intro hle
      subst hle
      have HB := Lib.hid hbest
      have hDw := hD.ext hX
      have hnd := hfc.1
      clear hbest hfc hlk hrg
      obtain ⟨d0, d1, d2, d0f, d1f, d2f, dz⟩ := hDw.blk.c3
      obtain ⟨k0, k1, k0f, k1f, kz⟩ := hB4.c2
      obtain ⟨h, hh⟩ : ∃ h : Hv, h = (at? hd (bc, bn)).getD ⟨⟨0, 0, 0, ⟨0, 0, []⟩⟩, none, 0⟩ := ⟨_, rfl⟩
      have hlk : ∀ W', Kp [w.heap.size] wr W' → (Instr.lookup 87 (.map (some m2)) (.agg #[.int .i64 bc, .int .i64 bn]) false).run Try.prog W' = .ok (hvV h) W' := fun W' hk => by
        have hm := hDw.held.kpL hk (by have := hDw.held.ne hB2; simpa using this)
        have := (hm.look klawKey Try.underlying87 (zItem _) (bc, bn)).1
        rw [hh]
        refine this.trans ?_
        cases at? hd (bc, bn) <;> rfl
      have HH := Lib.hid hh
      have HND := Lib.hid hnd
      clear hh hnd
      obtain ⟨⟨hc, hn, hb, ⟨ha, hdl, hs⟩⟩, hA, hk⟩ := h
      simp only [hvV, itV] at hlk
      have hgs : g ∉ [w.heap.size] := by
        have := hD.blk.lt
        simp; omega
      have kd0 := fun (w' : World) (h : Kp [w.heap.size] wr w') => h.cell d0 hgs
      have kd2 := fun (w' : World) (h : Kp [w.heap.size] wr w') => h.cell d2 hgs
      have kk0 := fun (w' : World) (h : Kp [w.heap.size] wr w') => h.cell k0 (by simp)
      have kk1 := fun (w' : World) (h : Kp [w.heap.size] wr w') => h.cell k1 (by simp)
      go_wp2_with fail
      refine Xr.start [w.heap.size] (by kernel_rfl) ?_
      repeat (first | (refine Xr.take 0 (some 51) (v := ?_) rfl rfl (by decide +kernel) (by rfl) ?_ ?_; rotate_left; (focus (intro w' hk; go_simp; (try with_reducible rfl); done)); (try simp only [Act.put, List.setIfInBounds_toArray, List.set_cons_zero, List.set_cons_succ])) | (refine Xr.take 1 (some 52) (v := ?_) rfl rfl (by decide +kernel) (by rfl) ?_ ?_; rotate_left; (focus (intro w' hk; go_simp; (try with_reducible rfl); done)); (try simp only [Act.put, List.setIfInBounds_toArray, List.set_cons_zero, List.set_cons_succ])) | (refine Xr.take 2 (some 53) (v := ?_) rfl rfl (by decide +kernel) (by rfl) ?_ ?_; rotate_left; (focus (intro w' hk; go_simp; (try with_reducible rfl); done)); (try simp only [Act.put, List.setIfInBounds_toArray, List.set_cons_zero, List.set_cons_succ])) | (refine Xr.take 3 (some 54) (v := ?_) rfl rfl (by decide +kernel) (by rfl) ?_ ?_; rotate_left; (focus (intro w' hk; go_simp; (try with_reducible rfl); done)); (try simp only [Act.put, List.setIfInBounds_toArray, List.set_cons_zero, List.set_cons_succ])) | (refine Xr.take 4 (some 55) (v := ?_) rfl rfl (by decide +kernel) (by rfl) ?_ ?_; rotate_left; (focus (intro w' hk; go_simp; (try with_reducible rfl); done)); (try simp only [Act.put, List.setIfInBounds_toArray, List.set_cons_zero, List.set_cons_succ])) | (refine Xr.take 5 (some 56) (v := ?_) rfl rfl (by decide +kernel) (by rfl) ?_ ?_; rotate_left; (focus (intro w' hk; go_simp; (try with_reducible rfl); done)); (try simp only [Act.put, List.setIfInBounds_toArray, List.set_cons_zero, List.set_cons_succ])) | (refine Xr.take 6 (some 57) (v := ?_) rfl rfl (by decide +kernel) (by rfl) ?_ ?_; rotate_left; (focus (intro w' hk; go_simp; (try with_reducible rfl); done)); (try simp only [Act.put, List.setIfInBounds_toArray, List.set_cons_zero, List.set_cons_succ])) | (refine Xr.take 8 (some 3) (v := ?_) rfl rfl (by decide +kernel) (by rfl) ?_ ?_; rotate_left; (focus (intro w' hk; go_simp; (try with_reducible rfl); done)); (try simp only [Act.put, List.setIfInBounds_toArray, List.set_cons_zero, List.set_cons_succ])))
      refine Xr.step 7 rfl (by decide +kernel) (by rfl) (fun w5 hE5 hK5 K hKK => ?_)
      replace hB2 := hB2.ext hE5
      have hbz := hB2.lt
      have s0 := hB2.frz 0
      have s1 := hB2.frz 1
      have s2 := hB2.frz 2
      have s3 := hB2.frz 3
      have s4 := hB2.frz 4
      have s5 := hB2.frz 5
      have t0 := hB2.cell 0
      have t1 := hB2.cell 1
      have t2 := hB2.cell 2
      have t3 := hB2.cell 3
      have t4 := hB2.cell 4
      have t5 := hB2.cell 5
      simp only [List.getElem?_toArray, List.getElem?_cons_succ, List.getElem?_cons_zero] at t0 t1 t2 t3 t4 t5
      go_simp
      have hmem : w.heap.size ∈ [w.heap.size] := List.mem_cons_self
      refine hKK _ _ (WI_setL (WI_setL (WI_setL (WI_setL (WI_setL (WI_setL (WI_refl _ _ _) hmem _ _) hmem _ _) hmem _ _) hmem _ _) hmem _ _) hmem _ _) ((((((hK5.setL hmem _ _).setL hmem _ _).setL hmem _ _).setL hmem _ _).setL hmem _ _).setL hmem _ _) ?_
      clear hKK
      (try simp only [Act.put, List.setIfInBounds_toArray, List.set_cons_zero, List.set_cons_succ])
      repeat (first | (refine Xr.take 0 (some 51) (v := ?_) rfl rfl (by decide +kernel) (by rfl) ?_ ?_; rotate_left; (focus (intro w' hk; go_simp; (try with_reducible rfl); done)); (try simp only [Act.put, List.setIfInBounds_toArray, List.set_cons_zero, List.set_cons_succ])) | (refine Xr.take 1 (some 52) (v := ?_) rfl rfl (by decide +kernel) (by rfl) ?_ ?_; rotate_left; (focus (intro w' hk; go_simp; (try with_reducible rfl); done)); (try simp only [Act.put, List.setIfInBounds_toArray, List.set_cons_zero, List.set_cons_succ])) | (refine Xr.take 2 (some 53) (v := ?_) rfl rfl (by decide +kernel) (by rfl) ?_ ?_; rotate_left; (focus (intro w' hk; go_simp; (try with_reducible rfl); done)); (try simp only [Act.put, List.setIfInBounds_toArray, List.set_cons_zero, List.set_cons_succ])) | (refine Xr.take 3 (some 54) (v := ?_) rfl rfl (by decide +kernel) (by rfl) ?_ ?_; rotate_left; (focus (intro w' hk; go_simp; (try with_reducible rfl); done)); (try simp only [Act.put, List.setIfInBounds_toArray, List.set_cons_zero, List.set_cons_succ])) | (refine Xr.take 4 (some 55) (v := ?_) rfl rfl (by decide +kernel) (by rfl) ?_ ?_; rotate_left; (focus (intro w' hk; go_simp; (try with_reducible rfl); done)); (try simp only [Act.put, List.setIfInBounds_toArray, List.set_cons_zero, List.set_cons_succ])) | (refine Xr.take 5 (some 56) (v := ?_) rfl rfl (by decide +kernel) (by rfl) ?_ ?_; rotate_left; (focus (intro w' hk; go_simp; (try with_reducible rfl); done)); (try simp only [Act.put, List.setIfInBounds_toArray, List.set_cons_zero, List.set_cons_succ])) | (refine Xr.take 6 (some 57) (v := ?_) rfl rfl (by decide +kernel) (by rfl) ?_ ?_; rotate_left; (focus (intro w' hk; go_simp; (try with_reducible rfl); done)); (try simp only [Act.put, List.setIfInBounds_toArray, List.set_cons_zero, List.set_cons_succ])) | (refine Xr.take 8 (some 3) (v := ?_) rfl rfl (by decide +kernel) (by rfl) ?_ ?_; rotate_left; (focus (intro w' hk; go_simp; (try with_reducible rfl); done)); (try simp only [Act.put, List.setIfInBounds_toArray, List.set_cons_zero, List.set_cons_succ])))
      refine Xr.done (by decide +kernel) (fun w6 hE6 hK6 => ?_)
      have hres := (((((((hB2.set 0 (.int .i64 hc)).set 1 (.int .i64 hn)).set 2 (.int .i64 hb)).set 3 (.int .i64 ha)).set 4 (.int .i64 hdl)).set 5 (.slice hA hs.length hk))).ext hE6
      simp only [List.setIfInBounds_toArray, List.set_cons_zero, List.set_cons_succ] at hres
      have r0 := hres.cell 0
      have r1 := hres.cell 1
      have r2 := hres.cell 2
      have r3 := hres.cell 3
      have r4 := hres.cell 4
      have r5 := hres.cell 5
      simp only [List.getElem?_toArray, List.getElem?_cons_succ, List.getElem?_cons_zero] at r0 r1 r2 r3 r4 r5
      have hXX := ((((((hX.trans hE5).setNew (p := ⟨w.heap.size, 0, none⟩) (Nat.le_refl _) (.int .i64 hc)).setNew (p := ⟨w.heap.size, 1, none⟩) (Nat.le_refl _) (.int .i64 hn)).setNew (p := ⟨w.heap.size, 2, none⟩) (Nat.le_refl _) (.int .i64 hb)).setNew (p := ⟨w.heap.size, 3, none⟩) (Nat.le_refl _) (.int .i64 ha)).setNew (p := ⟨w.heap.size, 4, none⟩) (Nat.le_refl _) (.int .i64 hdl)).setNew (p := ⟨w.heap.size, 5, none⟩) (Nat.le_refl _) (.slice hA hs.length hk)
      have hend := rdy_end HB.out HND.out HH.out
      have HEND := Lib.hid hend
      clear hend kd0 kd2 kk0 kk1 hlk
      go_wp2
      exact bodyPost_ret (v := .tuple #[.agg #[.int .i64 hc, .int .i64 hn, .int .i64 hb, .int .i64 ha, .int .i64 hdl, .slice hA hs.length hk], .bool fb]) (by simp [results, Try.results49, go_sem, r0, r1, r2, r3, r4, r5]) rfl
        ⟨⟨⟨hc, hn, hb, ⟨ha, hdl, hs⟩⟩, hA, hk⟩, fb, rfl, hXX.trans hE6, HEND.out.1, HEND.out.2⟩
    · intro pc pn h hp w2 hk2 hrg2 hent
      obtain ⟨⟨qc, qn, qb, ⟨qa, qd, qs⟩⟩, qA, qk⟩ := h
      have hen := hent w2 (Ext.rfl' _)
      clear hent
      simp only [keyV, hvV, itV] at hen
      have hX2 := hX.kp hk2 (fun i hi => by omega)
      replace hB2 := hk2.blk hB2 (by omega)
      replace hB4 := hk2.blk hB4 (by omega)
      clear hk2 hX hrg
      have hfl := filter_less hp hlk
      obtain ⟨b6, b7, x2⟩ := alloc2 w2 92 #[.int .i64 pc, .int .i64 pn] 39 #[.int .i64 qc, .int .i64 qn, .int .i64 qb, .int .i64 qa, .int .i64 qd, .slice qA qs.length qk]
      have hDw := hD.ext (hX2.trans x2)
      replace hB2 := hB2.ext x2
      replace hB4 := hB4.ext x2
      replace hrg2 := hrg2.ext x2
      replace hX2 := hX2.trans x2
      have HB := Lib.hid hbest
      have HF := Lib.hid hfc
      have HP := Lib.hid hp
      have HL := Lib.hid hfl
      clear x2 hbest hfc hp hfl hlk
      go_wp2_with fail
      generalize (w2.alloc (.cells #[.int .i64 pc, .int .i64 pn] 92)).alloc (.cells #[.int .i64 qc, .int .i64 qn, .int .i64 qb, .int .i64 qa, .int .i64 qd, .slice qA qs.length qk] 39) = W2 at *
      have hz2 : W2.heap.size = W2.heap.size := rfl
      have hek := eqKey
      have hlk : ∀ W', Kp [] W2 W' → (Instr.lookup 86 (.map (some m1)) (.int .i64 pc) false).run Try.prog W' = .ok (.int .i64 (nxOf nx pc)) W' := fun W' h => by
        have := ((hDw.next.ext h.nil).look klawInt Try.underlying86 (zInt _) pc).1
        rw [nx_look] at this; exact this
      obtain ⟨d0, d1, d2, d0f, d1f, d2f, dz⟩ := hDw.blk.c3
      obtain ⟨k0, k1, k0f, k1f, kz⟩ := b6.c2
      have i2 := b7.cell 2
      simp only [List.getElem?_toArray, List.getElem?_cons_succ, List.getElem?_cons_zero] at i2
      have kd0 := fun (w' : World) (h : Kp [] W2 w') => h.cell d0 (by simp)
      have kd1 := fun (w' : World) (h : Kp [] W2 w') => h.cell d1 (by simp)
      have kk0 := fun (w' : World) (h : Kp [] W2 w') => h.cell k0 (by simp)
      have kk1 := fun (w' : World) (h : Kp [] W2 w') => h.cell k1 (by simp)
      have ki2 := fun (w' : World) (h : Kp [] W2 w') => h.cell i2 (by simp)
      by_cases hm : pn = nxOf nx pc
      · have hmB : (pn == nxOf nx pc) = true := by simpa using hm
        by_cases hb : (ap.length : Int) < qb
        · have HS := Lib.hid (HB.out.skip HF.out.1 HF.out.2 HP.out (fun h => by have := h.2; simp only at this; omega))
          clear hm
          refine Xr.start [] (by kernel_rfl) ?_
          repeat (first | (refine Xr.take 0 (some 19) (v := ?_) rfl rfl (by decide +kernel) (by rfl) ?_ ?_; rotate_left; (focus (intro w' hk; go_simp; (try with_reducible rfl); done)); (try simp only [Act.put, List.setIfInBounds_toArray, List.set_cons_zero, List.set_cons_succ])) | (refine Xr.take 1 (some 20) (v := ?_) rfl rfl (by decide +kernel) (by rfl) ?_ ?_; rotate_left; (focus (intro w' hk; go_simp; (try with_reducible rfl); done)); (try simp only [Act.put, List.setIfInBounds_toArray, List.set_cons_zero, List.set_cons_succ])) | (refine Xr.take 2 (some 21) (v := ?_) rfl rfl (by decide +kernel) (by rfl) ?_ ?_; rotate_left; (focus (intro w' hk; go_simp; (try with_reducible rfl); done)); (try simp only [Act.put, List.setIfInBounds_toArray, List.set_cons_zero, List.set_cons_succ])) | (refine Xr.take 3 (some 22) (v := ?_) rfl rfl (by decide +kernel) (by rfl) ?_ ?_; rotate_left; (focus (intro w' hk; go_simp; (try with_reducible rfl); done)); (try simp only [Act.put, List.setIfInBounds_toArray, List.set_cons_zero, List.set_cons_succ])) | (refine Xr.take 4 (some 23) (v := ?_) rfl rfl (by decide +kernel) (by rfl) ?_ ?_; rotate_left; (focus (intro w' hk; go_simp; (try with_reducible rfl); done)); (try simp only [Act.put, List.setIfInBounds_toArray, List.set_cons_zero, List.set_cons_succ])) | (refine Xr.take 5 (some 24) (v := ?_) rfl rfl (by decide +kernel) (by rfl) ?_ ?_; rotate_left; (focus (intro w' hk; go_simp; (try with_reducible rfl); done)); (try simp only [Act.put, List.setIfInBounds_toArray, List.set_cons_zero, List.set_cons_succ])) | (refine Xr.take 6 (some 25) (v := ?_) rfl rfl (by decide +kernel) (by rfl) ?_ ?_; rotate_left; (focus (intro w' hk; go_simp; (try with_reducible rfl); done)); (try simp only [Act.put, List.setIfInBounds_toArray, List.set_cons_zero, List.set_cons_succ])) | (refine Xr.take 7 (some 26) (v := ?_) rfl rfl (by decide +kernel) (by rfl) ?_ ?_; rotate_left; (focus (intro w' hk; go_simp; (try with_reducible rfl); done)); (try simp only [Act.put, List.setIfInBounds_toArray, List.set_cons_zero, List.set_cons_succ])) | (refine Xr.take 8 (some 27) (v := ?_) rfl rfl (by decide +kernel) (by rfl) ?_ ?_; rotate_left; (focus (intro w' hk; go_simp; (try with_reducible rfl); done)); (try simp only [Act.put, List.setIfInBounds_toArray, List.set_cons_zero, List.set_cons_succ])) | (refine Xr.take 9 (some 28) (v := ?_) rfl rfl (by decide +kernel) (by rfl) ?_ ?_; rotate_left; (focus (intro w' hk; go_simp; (try with_reducible rfl); done)); (try simp only [Act.put, List.setIfInBounds_toArray, List.set_cons_zero, List.set_cons_succ])) | (refine Xr.take 10 (some 29) (v := ?_) rfl rfl (by decide +kernel) (by rfl) ?_ ?_; rotate_left; (focus (intro w' hk; go_simp; (try with_reducible rfl); done)); (try simp only [Act.put, List.setIfInBounds_toArray, List.set_cons_zero, List.set_cons_succ])) | (refine Xr.take 11 (some 30) (v := ?_) rfl rfl (by decide +kernel) (by rfl) ?_ ?_; rotate_left; (focus (intro w' hk; go_simp; (try with_reducible rfl); done)); (try simp only [Act.put, List.setIfInBounds_toArray, List.set_cons_zero, List.set_cons_succ])) | (refine Xr.take 12 (some 31) (v := ?_) rfl rfl (by decide +kernel) (by rfl) ?_ ?_; rotate_left; (focus (intro w' hk; go_simp; (try with_reducible rfl); done)); (try simp only [Act.put, List.setIfInBounds_toArray, List.set_cons_zero, List.set_cons_succ])) | (refine Xr.take 13 (some 32) (v := ?_) rfl rfl (by decide +kernel) (by rfl) ?_ ?_; rotate_left; (focus (intro w' hk; go_simp; (try with_reducible rfl); done)); (try simp only [Act.put, List.setIfInBounds_toArray, List.set_cons_zero, List.set_cons_succ])) | (refine Xr.skip 13 (some 32) rfl rfl (by decide +kernel) (by rfl) ?_; (try simp only [Act.put, List.setIfInBounds_toArray, List.set_cons_zero, List.set_cons_succ])) | (refine Xr.take 14 (some 33) (v := ?_) rfl rfl (by decide +kernel) (by rfl) ?_ ?_; rotate_left; (focus (intro w' hk; go_simp; (try with_reducible rfl); done)); (try simp only [Act.put, List.setIfInBounds_toArray, List.set_cons_zero, List.set_cons_succ])) | (refine Xr.skip 14 (some 33) rfl rfl (by decide +kernel) (by rfl) ?_; (try simp only [Act.put, List.setIfInBounds_toArray, List.set_cons_zero, List.set_cons_succ])) | (refine Xr.take 15 (some 34) (v := ?_) rfl rfl (by decide +kernel) (by rfl) ?_ ?_; rotate_left; (focus (intro w' hk; go_simp; (try with_reducible rfl); done)); (try simp only [Act.put, List.setIfInBounds_toArray, List.set_cons_zero, List.set_cons_succ])) | (refine Xr.skip 15 (some 34) rfl rfl (by decide +kernel) (by rfl) ?_; (try simp only [Act.put, List.setIfInBounds_toArray, List.set_cons_zero, List.set_cons_succ])) | (refine Xr.take 16 (some 35) (v := ?_) rfl rfl (by decide +kernel) (by rfl) ?_ ?_; rotate_left; (focus (intro w' hk; go_simp; (try with_reducible rfl); done)); (try simp only [Act.put, List.setIfInBounds_toArray, List.set_cons_zero, List.set_cons_succ])) | (refine Xr.skip 16 (some 35) rfl rfl (by decide +kernel) (by rfl) ?_; (try simp only [Act.put, List.setIfInBounds_toArray, List.set_cons_zero, List.set_cons_succ])) | (refine Xr.take 17 (some 36) (v := ?_) rfl rfl (by decide +kernel) (by rfl) ?_ ?_; rotate_left; (focus (intro w' hk; go_simp; (try with_reducible rfl); done)); (try simp only [Act.put, List.setIfInBounds_toArray, List.set_cons_zero, List.set_cons_succ])) | (refine Xr.skip 17 (some 36) rfl rfl (by decide +kernel) (by rfl) ?_; (try simp only [Act.put, List.setIfInBounds_toArray, List.set_cons_zero, List.set_cons_succ])) | (refine Xr.take 18 (some 37) (v := ?_) rfl rfl (by decide +kernel) (by rfl) ?_ ?_; rotate_left; (focus (intro w' hk; go_simp; (try with_reducible rfl); done)); (try simp only [Act.put, List.setIfInBounds_toArray, List.set_cons_zero, List.set_cons_succ])) | (refine Xr.skip 18 (some 37) rfl rfl (by decide +kernel) (by rfl) ?_; (try simp only [Act.put, List.setIfInBounds_toArray, List.set_cons_zero, List.set_cons_succ])) | (refine Xr.take 19 (some 38) (v := ?_) rfl rfl (by decide +kernel) (by rfl) ?_ ?_; rotate_left; (focus (intro w' hk; go_simp; (try with_reducible rfl); done)); (try simp only [Act.put, List.setIfInBounds_toArray, List.set_cons_zero, List.set_cons_succ])) | (refine Xr.skip 19 (some 38) rfl rfl (by decide +kernel) (by rfl) ?_; (try simp only [Act.put, List.setIfInBounds_toArray, List.set_cons_zero, List.set_cons_succ])) | (refine Xr.take 20 (some 39) (v := ?_) rfl rfl (by decide +kernel) (by rfl) ?_ ?_; rotate_left; (focus (intro w' hk; go_simp; (try with_reducible rfl); done)); (try simp only [Act.put, List.setIfInBounds_toArray, List.set_cons_zero, List.set_cons_succ])) | (refine Xr.skip 20 (some 39) rfl rfl (by decide +kernel) (by rfl) ?_; (try simp only [Act.put, List.setIfInBounds_toArray, List.set_cons_zero, List.set_cons_succ])) | (refine Xr.take 21 (some 40) (v := ?_) rfl rfl (by decide +kernel) (by rfl) ?_ ?_; rotate_left; (focus (intro w' hk; go_simp; (try with_reducible rfl); done)); (try simp only [Act.put, List.setIfInBounds_toArray, List.set_cons_zero, List.set_cons_succ])))
          refine Xr.done (by decide +kernel) (fun w3 hE3 hK3 => ?_)
          have X3 := hK3.nil
          clear kd0 kd1 kk0 kk1 ki2 d0 d1 d2 d0f d1f d2f dz k0 k1 k0f k1f kz i2 hlk
          go_wp2_with fail
          go_roundg (gk - 1)
          case measure => have := HL.out; omega
          case rel => exact ⟨delL left (pc, pn), fb, bc, bn, HL.out.1, rfl, hrg2.ext X3, HS.out, hX2.trans X3, hB2.ext X3, hB4.ext X3⟩
        · have hr : isRdy nx ap.length ((pc, pn), ⟨⟨qc, qn, qb, ⟨qa, qd, qs⟩⟩, qA, qk⟩) := ⟨hm, by simp only; omega⟩
          have HR := Lib.hid hr
          clear hm hr
          have hnb : decide ((ap.length : Int) < qb) = false := by simpa using hb
          refine Xr.start [] (by kernel_rfl) ?_
          repeat (first | (refine Xr.take 0 (some 19) (v := ?_) rfl rfl (by decide +kernel) (by rfl) ?_ ?_; rotate_left; (focus (intro w' hk; go_simp; (try with_reducible rfl); done)); (try simp only [Act.put, List.setIfInBounds_toArray, List.set_cons_zero, List.set_cons_succ])) | (refine Xr.take 1 (some 20) (v := ?_) rfl rfl (by decide +kernel) (by rfl) ?_ ?_; rotate_left; (focus (intro w' hk; go_simp; (try with_reducible rfl); done)); (try simp only [Act.put, List.setIfInBounds_toArray, List.set_cons_zero, List.set_cons_succ])) | (refine Xr.take 2 (some 21) (v := ?_) rfl rfl (by decide +kernel) (by rfl) ?_ ?_; rotate_left; (focus (intro w' hk; go_simp; (try with_reducible rfl); done)); (try simp only [Act.put, List.setIfInBounds_toArray, List.set_cons_zero, List.set_cons_succ])) | (refine Xr.take 3 (some 22) (v := ?_) rfl rfl (by decide +kernel) (by rfl) ?_ ?_; rotate_left; (focus (intro w' hk; go_simp; (try with_reducible rfl); done)); (try simp only [Act.put, List.setIfInBounds_toArray, List.set_cons_zero, List.set_cons_succ])) | (refine Xr.take 4 (some 23) (v := ?_) rfl rfl (by decide +kernel) (by rfl) ?_ ?_; rotate_left; (focus (intro w' hk; go_simp; (try with_reducible rfl); done)); (try simp only [Act.put, List.setIfInBounds_toArray, List.set_cons_zero, List.set_cons_succ])) | (refine Xr.take 5 (some 24) (v := ?_) rfl rfl (by decide +kernel) (by rfl) ?_ ?_; rotate_left; (focus (intro w' hk; go_simp; (try with_reducible rfl); done)); (try simp only [Act.put, List.setIfInBounds_toArray, List.set_cons_zero, List.set_cons_succ])) | (refine Xr.take 6 (some 25) (v := ?_) rfl rfl (by decide +kernel) (by rfl) ?_ ?_; rotate_left; (focus (intro w' hk; go_simp; (try with_reducible rfl); done)); (try simp only [Act.put, List.setIfInBounds_toArray, List.set_cons_zero, List.set_cons_succ])) | (refine Xr.take 7 (some 26) (v := ?_) rfl rfl (by decide +kernel) (by rfl) ?_ ?_; rotate_left; (focus (intro w' hk; go_simp; (try with_reducible rfl); done)); (try simp only [Act.put, List.setIfInBounds_toArray, List.set_cons_zero, List.set_cons_succ])) | (refine Xr.take 8 (some 27) (v := ?_) rfl rfl (by decide +kernel) (by rfl) ?_ ?_; rotate_left; (focus (intro w' hk; go_simp; (try with_reducible rfl); done)); (try simp only [Act.put, List.setIfInBounds_toArray, List.set_cons_zero, List.set_cons_succ])) | (refine Xr.take 9 (some 28) (v := ?_) rfl rfl (by decide +kernel) (by rfl) ?_ ?_; rotate_left; (focus (intro w' hk; go_simp; (try with_reducible rfl); done)); (try simp only [Act.put, List.setIfInBounds_toArray, List.set_cons_zero, List.set_cons_succ])) | (refine Xr.take 10 (some 29) (v := ?_) rfl rfl (by decide +kernel) (by rfl) ?_ ?_; rotate_left; (focus (intro w' hk; go_simp; (try with_reducible rfl); done)); (try simp only [Act.put, List.setIfInBounds_toArray, List.set_cons_zero, List.set_cons_succ])) | (refine Xr.take 11 (some 30) (v := ?_) rfl rfl (by decide +kernel) (by rfl) ?_ ?_; rotate_left; (focus (intro w' hk; go_simp; (try with_reducible rfl); done)); (try simp only [Act.put, List.setIfInBounds_toArray, List.set_cons_zero, List.set_cons_succ])) | (refine Xr.take 12 (some 31) (v := ?_) rfl rfl (by decide +kernel) (by rfl) ?_ ?_; rotate_left; (focus (intro w' hk; go_simp; (try with_reducible rfl); done)); (try simp only [Act.put, List.setIfInBounds_toArray, List.set_cons_zero, List.set_cons_succ])) | (refine Xr.take 13 (some 32) (v := ?_) rfl rfl (by decide +kernel) (by rfl) ?_ ?_; rotate_left; (focus (intro w' hk; go_simp; (try with_reducible rfl); done)); (try simp only [Act.put, List.setIfInBounds_toArray, List.set_cons_zero, List.set_cons_succ])) | (refine Xr.skip 13 (some 32) rfl rfl (by decide +kernel) (by rfl) ?_; (try simp only [Act.put, List.setIfInBounds_toArray, List.set_cons_zero, List.set_cons_succ])) | (refine Xr.take 14 (some 33) (v := ?_) rfl rfl (by decide +kernel) (by rfl) ?_ ?_; rotate_left; (focus (intro w' hk; go_simp; (try with_reducible rfl); done)); (try simp only [Act.put, List.setIfInBounds_toArray, List.set_cons_zero, List.set_cons_succ])) | (refine Xr.skip 14 (some 33) rfl rfl (by decide +kernel) (by rfl) ?_; (try simp only [Act.put, List.setIfInBounds_toArray, List.set_cons_zero, List.set_cons_succ])) | (refine Xr.take 15 (some 34) (v := ?_) rfl rfl (by decide +kernel) (by rfl) ?_ ?_; rotate_left; (focus (intro w' hk; go_simp; (try with_reducible rfl); done)); (try simp only [Act.put, List.setIfInBounds_toArray, List.set_cons_zero, List.set_cons_succ])) | (refine Xr.skip 15 (some 34) rfl rfl (by decide +kernel) (by rfl) ?_; (try simp only [Act.put, List.setIfInBounds_toArray, List.set_cons_zero, List.set_cons_succ])) | (refine Xr.take 16 (some 35) (v := ?_) rfl rfl (by decide +kernel) (by rfl) ?_ ?_; rotate_left; (focus (intro w' hk; go_simp; (try with_reducible rfl); done)); (try simp only [Act.put, List.setIfInBounds_toArray, List.set_cons_zero, List.set_cons_succ])) | (refine Xr.skip 16 (some 35) rfl rfl (by decide +kernel) (by rfl) ?_; (try simp only [Act.put, List.setIfInBounds_toArray, List.set_cons_zero, List.set_cons_succ])) | (refine Xr.take 17 (some 36) (v := ?_) rfl rfl (by decide +kernel) (by rfl) ?_ ?_; rotate_left; (focus (intro w' hk; go_simp; (try with_reducible rfl); done)); (try simp only [Act.put, List.setIfInBounds_toArray, List.set_cons_zero, List.set_cons_succ])) | (refine Xr.skip 17 (some 36) rfl rfl (by decide +kernel) (by rfl) ?_; (try simp only [Act.put, List.setIfInBounds_toArray, List.set_cons_zero, List.set_cons_succ])) | (refine Xr.take 18 (some 37) (v := ?_) rfl rfl (by decide +kernel) (by rfl) ?_ ?_; rotate_left; (focus (intro w' hk; go_simp; (try with_reducible rfl); done)); (try simp only [Act.put, List.setIfInBounds_toArray, List.set_cons_zero, List.set_cons_succ])) | (refine Xr.skip 18 (some 37) rfl rfl (by decide +kernel) (by rfl) ?_; (try simp only [Act.put, List.setIfInBounds_toArray, List.set_cons_zero, List.set_cons_succ])) | (refine Xr.take 19 (some 38) (v := ?_) rfl rfl (by decide +kernel) (by rfl) ?_ ?_; rotate_left; (focus (intro w' hk; go_simp; (try with_reducible rfl); done)); (try simp only [Act.put, List.setIfInBounds_toArray, List.set_cons_zero, List.set_cons_succ])) | (refine Xr.skip 19 (some 38) rfl rfl (by decide +kernel) (by rfl) ?_; (try simp only [Act.put, List.setIfInBounds_toArray, List.set_cons_zero, List.set_cons_succ])) | (refine Xr.take 20 (some 39) (v := ?_) rfl rfl (by decide +kernel) (by rfl) ?_ ?_; rotate_left; (focus (intro w' hk; go_simp; (try with_reducible rfl); done)); (try simp only [Act.put, List.setIfInBounds_toArray, List.set_cons_zero, List.set_cons_succ])) | (refine Xr.skip 20 (some 39) rfl rfl (by decide +kernel) (by rfl) ?_; (try simp only [Act.put, List.setIfInBounds_toArray, List.set_cons_zero, List.set_cons_succ])) | (refine Xr.take 21 (some 40) (v := ?_) rfl rfl (by decide +kernel) (by rfl) ?_ ?_; rotate_left; (focus (intro w' hk; go_simp; (try with_reducible rfl); done)); (try simp only [Act.put, List.setIfInBounds_toArray, List.set_cons_zero, List.set_cons_succ])))
          refine Xr.done (by decide +kernel) (fun w3 hE3 hK3 => ?_)
          have X3 := hK3.nil
          clear kd0 kd1 kk0 kk1 ki2 d0 d1 d2 d0f d1f d2f dz i2 hlk
          replace hX2 := hX2.trans X3
          replace hB2 := hB2.ext X3
          replace hB4 := hB4.ext X3
          replace b6 := b6.ext X3
          replace hrg2 := hrg2.ext X3
          clear k0 k1 k0f k1f kz X3 hE3 hK3
          obtain ⟨k0, k1, k0f, k1f, kz⟩ := b6.c2
          obtain ⟨c0, c1, c0f, c1f, cz⟩ := hB4.c2
          cases fb with
          | false =>
            have HS := Lib.hid (HB.out.first HF.out.1 HF.out.2 HP.out HR.out)
            go_wp2_with fail
            have hB5 := (hB4.set 0 (.int .i64 pc)).set 1 (.int .i64 pn)
            simp only [List.setIfInBounds_toArray, List.set_cons_zero, List.set_cons_succ] at hB5
            have hne : w.heap.size ≠ w.heap.size + 1 := by omega
            go_roundg (gk - 1)
            case measure => have := HL.out; omega
            case rel => exact ⟨delL left (pc, pn), true, pc, pn, HL.out.1, rfl, (hrg2.far (by simp; omega) (by simp; omega) _).far (by simp; omega) (by simp; omega) _, HS.out, (hX2.setNew (by simp) _).setNew (by simp) _, (hB2.far (by simp) _).far (by simp) _, hB5⟩
          | true =>
            by_cases hlt : pc < bc
            · have HS := Lib.hid (HB.out.better HF.out.1 HF.out.2 HP.out HR.out hlt)
              go_wp2_with fail
              have hB5 := (hB4.set 0 (.int .i64 pc)).set 1 (.int .i64 pn)
              simp only [List.setIfInBounds_toArray, List.set_cons_zero, List.set_cons_succ] at hB5
              go_roundg (gk - 1)
              case measure => have := HL.out; omega
              case rel => exact ⟨delL left (pc, pn), true, pc, pn, HL.out.1, rfl, (hrg2.far (by simp; omega) (by simp; omega) _).far (by simp; omega) (by simp; omega) _, HS.out, (hX2.setNew (by simp) _).setNew (by simp) _, (hB2.far (by simp) _).far (by simp) _, hB5⟩
            · have HS := Lib.hid (HB.out.keep HF.out.1 HF.out.2 HP.out hlt)
              go_wp2_with fail
              go_roundg (gk - 1)
              case measure => have := HL.out; omega
              case rel => exact ⟨delL left (pc, pn), true, bc, bn, HL.out.1, rfl, hrg2, HS.out, hX2, hB2, hB4⟩
      · have hmB : (pn == nxOf nx pc) = false := by simpa using hm
        have HS := Lib.hid (HB.out.skip HF.out.1 HF.out.2 HP.out (fun h => hm h.1))
        clear hm
        refine Xr.start [] (by kernel_rfl) ?_
        repeat (first | (refine Xr.take 0 (some 19) (v := ?_) rfl rfl (by decide +kernel) (by rfl) ?_ ?_; rotate_left; (focus (intro w' hk; go_simp; (try with_reducible rfl); done)); (try simp only [Act.put, List.setIfInBounds_toArray, List.set_cons_zero, List.set_cons_succ])) | (refine Xr.take 1 (some 20) (v := ?_) rfl rfl (by decide +kernel) (by rfl) ?_ ?_; rotate_left; (focus (intro w' hk; go_simp; (try with_reducible rfl); done)); (try simp only [Act.put, List.setIfInBounds_toArray, List.set_cons_zero, List.set_cons_succ])) | (refine Xr.take 2 (some 21) (v := ?_) rfl rfl (by decide +kernel) (by rfl) ?_ ?_; rotate_left; (focus (intro w' hk; go_simp; (try with_reducible rfl); done)); (try simp only [Act.put, List.setIfInBounds_toArray, List.set_cons_zero, List.set_cons_succ])) | (refine Xr.take 3 (some 22) (v := ?_) rfl rfl (by decide +kernel) (by rfl) ?_ ?_; rotate_left; (focus (intro w' hk; go_simp; (try with_reducible rfl); done)); (try simp only [Act.put, List.setIfInBounds_toArray, List.set_cons_zero, List.set_cons_succ])) | (refine Xr.take 4 (some 23) (v := ?_) rfl rfl (by decide +kernel) (by rfl) ?_ ?_; rotate_left; (focus (intro w' hk; go_simp; (try with_reducible rfl); done)); (try simp only [Act.put, List.setIfInBounds_toArray, List.set_cons_zero, List.set_cons_succ])) | (refine Xr.take 5 (some 24) (v := ?_) rfl rfl (by decide +kernel) (by rfl) ?_ ?_; rotate_left; (focus (intro w' hk; go_simp; (try with_reducible rfl); done)); (try simp only [Act.put, List.setIfInBounds_toArray, List.set_cons_zero, List.set_cons_succ])) | (refine Xr.take 6 (some 25) (v := ?_) rfl rfl (by decide +kernel) (by rfl) ?_ ?_; rotate_left; (focus (intro w' hk; go_simp; (try with_reducible rfl); done)); (try simp only [Act.put, List.setIfInBounds_toArray, List.set_cons_zero, List.set_cons_succ])) | (refine Xr.take 7 (some 26) (v := ?_) rfl rfl (by decide +kernel) (by rfl) ?_ ?_; rotate_left; (focus (intro w' hk; go_simp; (try with_reducible rfl); done)); (try simp only [Act.put, List.setIfInBounds_toArray, List.set_cons_zero, List.set_cons_succ])) | (refine Xr.take 8 (some 27) (v := ?_) rfl rfl (by decide +kernel) (by rfl) ?_ ?_; rotate_left; (focus (intro w' hk; go_simp; (try with_reducible rfl); done)); (try simp only [Act.put, List.setIfInBounds_toArray, List.set_cons_zero, List.set_cons_succ])) | (refine Xr.take 9 (some 28) (v := ?_) rfl rfl (by decide +kernel) (by rfl) ?_ ?_; rotate_left; (focus (intro w' hk; go_simp; (try with_reducible rfl); done)); (try simp only [Act.put, List.setIfInBounds_toArray, List.set_cons_zero, List.set_cons_succ])) | (refine Xr.take 10 (some 29) (v := ?_) rfl rfl (by decide +kernel) (by rfl) ?_ ?_; rotate_left; (focus (intro w' hk; go_simp; (try with_reducible rfl); done)); (try simp only [Act.put, List.setIfInBounds_toArray, List.set_cons_zero, List.set_cons_succ])) | (refine Xr.take 11 (some 30) (v := ?_) rfl rfl (by decide +kernel) (by rfl) ?_ ?_; rotate_left; (focus (intro w' hk; go_simp; (try with_reducible rfl); done)); (try simp only [Act.put, List.setIfInBounds_toArray, List.set_cons_zero, List.set_cons_succ])) | (refine Xr.take 12 (some 31) (v := ?_) rfl rfl (by decide +kernel) (by rfl) ?_ ?_; rotate_left; (focus (intro w' hk; go_simp; (try with_reducible rfl); done)); (try simp only [Act.put, List.setIfInBounds_toArray, List.set_cons_zero, List.set_cons_succ])) | (refine Xr.take 13 (some 32) (v := ?_) rfl rfl (by decide +kernel) (by rfl) ?_ ?_; rotate_left; (focus (intro w' hk; go_simp; (try with_reducible rfl); done)); (try simp only [Act.put, List.setIfInBounds_toArray, List.set_cons_zero, List.set_cons_succ])) | (refine Xr.skip 13 (some 32) rfl rfl (by decide +kernel) (by rfl) ?_; (try simp only [Act.put, List.setIfInBounds_toArray, List.set_cons_zero, List.set_cons_succ])) | (refine Xr.take 14 (some 33) (v := ?_) rfl rfl (by decide +kernel) (by rfl) ?_ ?_; rotate_left; (focus (intro w' hk; go_simp; (try with_reducible rfl); done)); (try simp only [Act.put, List.setIfInBounds_toArray, List.set_cons_zero, List.set_cons_succ])) | (refine Xr.skip 14 (some 33) rfl rfl (by decide +kernel) (by rfl) ?_; (try simp only [Act.put, List.setIfInBounds_toArray, List.set_cons_zero, List.set_cons_succ])) | (refine Xr.take 15 (some 34) (v := ?_) rfl rfl (by decide +kernel) (by rfl) ?_ ?_; rotate_left; (focus (intro w' hk; go_simp; (try with_reducible rfl); done)); (try simp only [Act.put, List.setIfInBounds_toArray, List.set_cons_zero, List.set_cons_succ])) | (refine Xr.skip 15 (some 34) rfl rfl (by decide +kernel) (by rfl) ?_; (try simp only [Act.put, List.setIfInBounds_toArray, List.set_cons_zero, List.set_cons_succ])) | (refine Xr.take 16 (some 35) (v := ?_) rfl rfl (by decide +kernel) (by rfl) ?_ ?_; rotate_left; (focus (intro w' hk; go_simp; (try with_reducible rfl); done)); (try simp only [Act.put, List.setIfInBounds_toArray, List.set_cons_zero, List.set_cons_succ])) | (refine Xr.skip 16 (some 35) rfl rfl (by decide +kernel) (by rfl) ?_; (try simp only [Act.put, List.setIfInBounds_toArray, List.set_cons_zero, List.set_cons_succ])) | (refine Xr.take 17 (some 36) (v := ?_) rfl rfl (by decide +kernel) (by rfl) ?_ ?_; rotate_left; (focus (intro w' hk; go_simp; (try with_reducible rfl); done)); (try simp only [Act.put, List.setIfInBounds_toArray, List.set_cons_zero, List.set_cons_succ])) | (refine Xr.skip 17 (some 36) rfl rfl (by decide +kernel) (by rfl) ?_; (try simp only [Act.put, List.setIfInBounds_toArray, List.set_cons_zero, List.set_cons_succ])) | (refine Xr.take 18 (some 37) (v := ?_) rfl rfl (by decide +kernel) (by rfl) ?_ ?_; rotate_left; (focus (intro w' hk; go_simp; (try with_reducible rfl); done)); (try simp only [Act.put, List.setIfInBounds_toArray, List.set_cons_zero, List.set_cons_succ])) | (refine Xr.skip 18 (some 37) rfl rfl (by decide +kernel) (by rfl) ?_; (try simp only [Act.put, List.setIfInBounds_toArray, List.set_cons_zero, List.set_cons_succ])) | (refine Xr.take 19 (some 38) (v := ?_) rfl rfl (by decide +kernel) (by rfl) ?_ ?_; rotate_left; (focus (intro w' hk; go_simp; (try with_reducible rfl); done)); (try simp only [Act.put, List.setIfInBounds_toArray, List.set_cons_zero, List.set_cons_succ])) | (refine Xr.skip 19 (some 38) rfl rfl (by decide +kernel) (by rfl) ?_; (try simp only [Act.put, List.setIfInBounds_toArray, List.set_cons_zero, List.set_cons_succ])) | (refine Xr.take 20 (some 39) (v := ?_) rfl rfl (by decide +kernel) (by rfl) ?_ ?_; rotate_left; (focus (intro w' hk; go_simp; (try with_reducible rfl); done)); (try simp only [Act.put, List.setIfInBounds_toArray, List.set_cons_zero, List.set_cons_succ])) | (refine Xr.skip 20 (some 39) rfl rfl (by decide +kernel) (by rfl) ?_; (try simp only [Act.put, List.setIfInBounds_toArray, List.set_cons_zero, List.set_cons_succ])) | (refine Xr.take 21 (some 40) (v := ?_) rfl rfl (by decide +kernel) (by rfl) ?_ ?_; rotate_left; (focus (intro w' hk; go_simp; (try with_reducible rfl); done)); (try simp only [Act.put, List.setIfInBounds_toArray, List.set_cons_zero, List.set_cons_succ])))
        refine Xr.done (by decide +kernel) (fun w3 hE3 hK3 => ?_)
        have X3 := hK3.nil
        clear kd0 kd1 kk0 kk1 ki2 d0 d1 d2 d0f d1f d2f dz k0 k1 k0f k1f kz i2 hlk
        go_wp2_with fail
        go_roundg (gk - 1)
        case measure => have := HL.out; omega
        case rel => exact ⟨delL left (pc, pn), fb, bc, bn, HL.out.1, rfl, hrg2.ext X3, HS.out, hX2.trans X3, hB2.ext X3, hB4.ext X3⟩
end Go.Proofs.Ythhfjomjjhenkaa
