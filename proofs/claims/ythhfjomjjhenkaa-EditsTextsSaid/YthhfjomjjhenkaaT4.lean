/- The reference's Take of an item that is ready at once, where nothing is held: the walk. -/
import Derived.Test.YthhfjomjjhenkaaT3
import Derived.Test.YthhfjomjjhenkaaD5
import Derived.Test.YthhfjomjjhenkaaE8
namespace Go.Proofs.Ythhfjomjjhenkaa
open Go.RowKit
attribute [local go_sem ↓] Go.wp_at_zero Go.wp_at_succ

/-- what the reference's Take leaves -/
def RetRT (base g : Nat) (A C : Option Addr) (ap : List Oe) (cl : List Int) (c : Int) (o : Oe) (w : World) (e : Ending) (w' : World) : Prop :=
  ∃ (A' : Option Addr) (cA' : Nat) (C' : Option Addr) (cC' : Nat) (L : Option Addr) (cL : Nat), e = .returned (.tuple #[.slice L 1 cL, .int .i64 0]) ∧ RdK w' base g A' cA' (ap ++ [o]) C' cC' (cl ++ [c]) (.slice none 0 0) ∧
    OwnS w' w.heap.size 25 3 L 1 cL (flatE [o]) ∧ KpP (deskB g A C) w w' ∧ Later (deskB g A C) (deskB g A' C') w.heap.size

def SmE (S : Int) (e : Ed) : Prop := 0 ≤ e.at_ ∧ 0 ≤ e.del ∧ e.at_ + e.del ≤ S ∧ (e.ins.length : Int) ≤ 1000
theorem moved_bd {S : Int} (hS : 0 ≤ S) (l : List Ed) (e : Ed) (he : SmE S e) (hl : ∀ o ∈ l, SmE S o) : 0 ≤ (l.foldl movedE e).at_ ∧ 0 ≤ (l.foldl movedE e).del ∧ (l.foldl movedE e).at_ + (l.foldl movedE e).del ≤ S + l.length * 1000 ∧ (l.foldl movedE e).ins = e.ins := by
  have h := overAll_bd (B := 1000) (by omega) (l.map extE) (e.at_, e.del) S ⟨he.1, he.2.1⟩ he.2.2.1 (fun y hy => by
    obtain ⟨o, ho, rfl⟩ := List.mem_map.1 hy
    have := hl o ho
    exact ⟨this.1, this.2.1, by simp [extE], this.2.2.2⟩)
  obtain ⟨h1, h2⟩ := overAll_moved l e
  rw [h1, List.length_map] at h
  exact ⟨h.1, h.2.1, h.2.2, h2⟩

set_option maxRecDepth 100000 in
set_option maxHeartbeats 16000000 in
theorem rTake_one (base g cA cC : Nat) (A C : Option Addr) (ap : List Oe) (cl : List Int) (x : It) (b : Nat) (B : Option Addr) (cB : Nat) (w : World) (hD : RdK w base g A cA ap C cC cl (.slice none 0 0)) (hx : ItOk x) (hL : IL w B cB x.e.ins)
    (hn : x.e.ins ≠ [] → ∀ b', B.map (·.block) = some b' → ¬ deskB g A C b') (hnum : x.number = cntL cl x.client) (hb : x.base = b) (hbl : b ≤ ap.length) (hal : ap.length ≤ 100) (hcl : cl.length ≤ 100) (hbd : ∀ o ∈ ap, SmE 1000 o.e) (hxb : SmE 1000 x.e) :
    Calls Try.prog 54 #[.pointer (some ⟨g, 0, none⟩), itV x B cB] w (RetRT base g A C ap cl x.client ⟨((ap.map (·.e)).drop b).foldl movedE x.e, B, cB⟩ w) := by
  obtain ⟨iE, jE0, jE1, jE2, jE3⟩ := info_parts infoE
  obtain ⟨iI, jI0, jI1, jI2, jI3⟩ := info_parts infoRI
  obtain ⟨iN, jN0, jN1, jN2, jN3⟩ := info_parts infoRN
  obtain ⟨xc, xn, xb, ⟨xa, xd, xs⟩⟩ := x
  obtain ⟨h1, h2, h3, h4, h5, h6, h7⟩ := hx
  simp only at h1 h2 h3 h4 h5 h6 h7 hL hn hnum hb
  subst hb
  obtain ⟨m, hm⟩ : ∃ m, m = cntL cl xc := ⟨_, rfl⟩
  rw [← hm] at hnum
  subst hnum
  have HNX := fun W' v2 h h2 => Lib.hid (rNext_any g (.slice A ap.length cA) v2 C cC cl xc W' h h2 (by omega))
  rw [← hm] at HNX
  have HF := Lib.hid h7
  have HM := Lib.hid hm
  have HBD := Lib.hid hbd
  have HXB := Lib.hid hxb
  clear h7 hm hbd hxb
  have b1 := Blk.new w 63 #[.int .i64 xc, .int .i64 m, .int .i64 b, .int .i64 xa, .int .i64 xd, .slice B xs.length cB]
  have e1 := Ext.alloc w (.cells #[.int .i64 xc, .int .i64 m, .int .i64 b, .int .i64 xa, .int .i64 xd, .slice B xs.length cB] 63)
  unfold itV
  simp only
  go_enter Try.func54, Try.ntmps54
  go_upto_region 1 with fail
  have hgw := hD.blk.lt
  generalize w.alloc (.cells #[.int .i64 xc, .int .i64 m, .int .i64 b, .int .i64 xa, .int .i64 xd, .slice B xs.length cB] 63) = w1 at *
  have p0 := b1.cell 0
  have p1 := b1.cell 1
  have p2 := b1.cell 2
  have p3 := b1.cell 3
  have p4 := b1.cell 4
  have p5 := b1.cell 5
  simp only [List.getElem?_toArray, List.getElem?_cons_succ, List.getElem?_cons_zero] at p0 p1 p2 p3 p4 p5
  go_wp2_with fail
  refine (rFormed_any _ _ _ _ _ _ (hL.ext e1)).mono ?_
  rw [HF.out]
  rintro e w2 ⟨rfl, x2⟩
  replace b1 := b1.ext x2
  replace e1 := e1.trans x2
  clear x2 p0 p1 p2 p3 p4 p5
  have p0 := b1.cell 0
  have p1 := b1.cell 1
  have p2 := b1.cell 2
  simp only [List.getElem?_toArray, List.getElem?_cons_succ, List.getElem?_cons_zero] at p0 p1 p2
  have k0 := fun (w' : World) (h : Kp [] w2 w') => h.cell p0 (by simp)
  have k1 := fun (w' : World) (h : Kp [] w2 w') => h.cell p1 (by simp)
  go_upto_region 4 with fail
  refine Xr.start [] (by kernel_rfl) ?_
  repeat (first | (refine Xr.take 0 (some 49) (v := ?_) rfl rfl (by decide +kernel) (by rfl) ?_ ?_; rotate_left; (focus (intro w' hk; go_simp; (try with_reducible rfl); done)); (try simp only [Act.put, List.setIfInBounds_toArray, List.set_cons_zero, List.set_cons_succ])) | (refine Xr.take 1 (some 50) (v := ?_) rfl rfl (by decide +kernel) (by rfl) ?_ ?_; rotate_left; (focus (intro w' hk; go_simp; (try with_reducible rfl); done)); (try simp only [Act.put, List.setIfInBounds_toArray, List.set_cons_zero, List.set_cons_succ])) | (refine Xr.take 2 (some 51) (v := ?_) rfl rfl (by decide +kernel) (by rfl) ?_ ?_; rotate_left; (focus (intro w' hk; go_simp; (try with_reducible rfl); done)); (try simp only [Act.put, List.setIfInBounds_toArray, List.set_cons_zero, List.set_cons_succ])) | (refine Xr.take 3 (some 52) (v := ?_) rfl rfl (by decide +kernel) (by rfl) ?_ ?_; rotate_left; (focus (intro w' hk; go_simp; (try with_reducible rfl); done)); (try simp only [Act.put, List.setIfInBounds_toArray, List.set_cons_zero, List.set_cons_succ])) | (refine Xr.take 4 (some 53) (v := ?_) rfl rfl (by decide +kernel) (by rfl) ?_ ?_; rotate_left; (focus (intro w' hk; go_simp; (try with_reducible rfl); done)); (try simp only [Act.put, List.setIfInBounds_toArray, List.set_cons_zero, List.set_cons_succ])) | (refine Xr.take 6 (some 55) (v := ?_) rfl rfl (by decide +kernel) (by rfl) ?_ ?_; rotate_left; (focus (intro w' hk; go_simp; (try with_reducible rfl); done)); (try simp only [Act.put, List.setIfInBounds_toArray, List.set_cons_zero, List.set_cons_succ])))
  refine Xr.call 5 rfl (by decide +kernel) (by rfl) (fun w3 hE3 hK3 K hKK => ?_)
  go_simp
  refine (HNX w3 _ (hD.blk.ext (e1.trans hE3)) ((IL.of_own hD.clo hD.clr).ext (e1.trans hE3))).out.mono ?_
  rintro e w4 ⟨rfl, x4⟩
  refine hKK _ _ x4 ?_
  clear hKK
  (try simp only [Act.put, List.setIfInBounds_toArray, List.set_cons_zero, List.set_cons_succ])
  repeat (first | (refine Xr.take 0 (some 49) (v := ?_) rfl rfl (by decide +kernel) (by rfl) ?_ ?_; rotate_left; (focus (intro w' hk; go_simp; (try with_reducible rfl); done)); (try simp only [Act.put, List.setIfInBounds_toArray, List.set_cons_zero, List.set_cons_succ])) | (refine Xr.take 1 (some 50) (v := ?_) rfl rfl (by decide +kernel) (by rfl) ?_ ?_; rotate_left; (focus (intro w' hk; go_simp; (try with_reducible rfl); done)); (try simp only [Act.put, List.setIfInBounds_toArray, List.set_cons_zero, List.set_cons_succ])) | (refine Xr.take 2 (some 51) (v := ?_) rfl rfl (by decide +kernel) (by rfl) ?_ ?_; rotate_left; (focus (intro w' hk; go_simp; (try with_reducible rfl); done)); (try simp only [Act.put, List.setIfInBounds_toArray, List.set_cons_zero, List.set_cons_succ])) | (refine Xr.take 3 (some 52) (v := ?_) rfl rfl (by decide +kernel) (by rfl) ?_ ?_; rotate_left; (focus (intro w' hk; go_simp; (try with_reducible rfl); done)); (try simp only [Act.put, List.setIfInBounds_toArray, List.set_cons_zero, List.set_cons_succ])) | (refine Xr.take 4 (some 53) (v := ?_) rfl rfl (by decide +kernel) (by rfl) ?_ ?_; rotate_left; (focus (intro w' hk; go_simp; (try with_reducible rfl); done)); (try simp only [Act.put, List.setIfInBounds_toArray, List.set_cons_zero, List.set_cons_succ])) | (refine Xr.take 6 (some 55) (v := ?_) rfl rfl (by decide +kernel) (by rfl) ?_ ?_; rotate_left; (focus (intro w' hk; go_simp; (try with_reducible rfl); done)); (try simp only [Act.put, List.setIfInBounds_toArray, List.set_cons_zero, List.set_cons_succ])))
  refine Xr.done (by decide +kernel) (fun w5 hE5 hK5 => ?_)
  have x5 := hK5.nil
  replace b1 := b1.ext x5
  replace e1 := e1.trans x5
  clear k0 k1 p0 p1 p2 hE3 hK3 hE5 hK5 x4 x5 HNX
  go_wp2_with fail
  go_loopw [7] (fun v7 wr => v7 = .int .i64 0 ∧ Ext w wr ∧ Blk wr w.heap.size 63 #[.int .i64 xc, .int .i64 m, .int .i64 b, .int .i64 xa, .int .i64 xd, .slice B xs.length cB]) (fun _ _ => 0)
  case atStart => exact ⟨rfl, e1, b1⟩
  case round =>
    clear e1 b1
    obtain ⟨rfl, e1, b1⟩ := hrel
    have hD1 := hD.ext e1
    have q0 := hD1.blk.c3.1
    have q2 := hD1.blk.c3.2.2.1
    have qz := hD1.blk.lt
    have hal2 : ¬ (ap.length : Int) ≥ 4096 := by omega
    go_upto_region 13 with fail
    have hng : w.heap.size ∉ [g] := by simp; omega
    have hLlt : ∀ i ∈ [g], i < wr.heap.size := fun i hi => by simp at hi; omega
    have p0 := b1.cell 0
    have p1 := b1.cell 1
    have p2 := b1.cell 2
    have p3 := b1.cell 3
    have p4 := b1.cell 4
    have p5 := b1.cell 5
    simp only [List.getElem?_toArray, List.getElem?_cons_succ, List.getElem?_cons_zero] at p0 p1 p2 p3 p4 p5
    have k0 := fun (w' : World) (h : Kp [g] wr w') => h.cell p0 hng
    have k1 := fun (w' : World) (h : Kp [g] wr w') => h.cell p1 hng
    have k2 := fun (w' : World) (h : Kp [g] wr w') => h.cell p2 hng
    have k3 := fun (w' : World) (h : Kp [g] wr w') => h.cell p3 hng
    have k4 := fun (w' : World) (h : Kp [g] wr w') => h.cell p4 hng
    have k5 := fun (w' : World) (h : Kp [g] wr w') => h.cell p5 hng
    refine Xr.start [g] (by kernel_rfl) ?_
    repeat (first | (refine Xr.take 0 (some 103) (v := ?_) rfl rfl (by decide +kernel) (by rfl) ?_ ?_; rotate_left; (focus (intro w' hk; go_simp; (try with_reducible rfl); done)); (try simp only [Act.put, List.setIfInBounds_toArray, List.set_cons_zero, List.set_cons_succ])) | (refine Xr.take 1 (some 104) (v := ?_) rfl rfl (by decide +kernel) (by rfl) ?_ ?_; rotate_left; (focus (intro w' hk; go_simp; (try with_reducible rfl); done)); (try simp only [Act.put, List.setIfInBounds_toArray, List.set_cons_zero, List.set_cons_succ])) | (refine Xr.take 2 (some 105) (v := ?_) rfl rfl (by decide +kernel) (by rfl) ?_ ?_; rotate_left; (focus (intro w' hk; go_simp; (try with_reducible rfl); done)); (try simp only [Act.put, List.setIfInBounds_toArray, List.set_cons_zero, List.set_cons_succ])) | (refine Xr.take 3 (some 106) (v := ?_) rfl rfl (by decide +kernel) (by rfl) ?_ ?_; rotate_left; (focus (intro w' hk; go_simp; (try with_reducible rfl); done)); (try simp only [Act.put, List.setIfInBounds_toArray, List.set_cons_zero, List.set_cons_succ])) | (refine Xr.take 4 (some 107) (v := ?_) rfl rfl (by decide +kernel) (by rfl) ?_ ?_; rotate_left; (focus (intro w' hk; go_simp; (try with_reducible rfl); done)); (try simp only [Act.put, List.setIfInBounds_toArray, List.set_cons_zero, List.set_cons_succ])) | (refine Xr.take 5 (some 108) (v := ?_) rfl rfl (by decide +kernel) (by rfl) ?_ ?_; rotate_left; (focus (intro w' hk; go_simp; (try with_reducible rfl); done)); (try simp only [Act.put, List.setIfInBounds_toArray, List.set_cons_zero, List.set_cons_succ])) | (refine Xr.take 8 (some 111) (v := ?_) rfl rfl (by decide +kernel) (by rfl) ?_ ?_; rotate_left; (focus (intro w' hk; go_simp; (try with_reducible rfl); done)); (try simp only [Act.put, List.setIfInBounds_toArray, List.set_cons_zero, List.set_cons_succ])) | (refine Xr.take 9 (some 112) (v := ?_) rfl rfl (by decide +kernel) (by rfl) ?_ ?_; rotate_left; (focus (intro w' hk; go_simp; (try with_reducible rfl); done)); (try simp only [Act.put, List.setIfInBounds_toArray, List.set_cons_zero, List.set_cons_succ])))
    refine Xr.lazy 6 109 7 (fun g => .slice (some ⟨g, 0, none⟩) 1 1) 63 #[.int .i64 xc, .int .i64 m, .int .i64 b, .int .i64 xa, .int .i64 xd, .slice B xs.length cB] rfl hLlt (by decide +kernel) (by simp) (fun w' => by go_simp) ?_
    refine Xr.step 4 rfl (by decide +kernel) (by rfl) (fun w6 hE6 hK6 K hKK => ?_)
    have q26 := hE6.cell q2
    go_simp
    refine hKK _ _ (WI_refl _ _ _) hK6 ?_
    clear hKK
    (try simp only [Act.put, List.setIfInBounds_toArray, List.set_cons_zero, List.set_cons_succ])
    repeat (first | (refine Xr.take 0 (some 103) (v := ?_) rfl rfl (by decide +kernel) (by rfl) ?_ ?_; rotate_left; (focus (intro w' hk; go_simp; (try with_reducible rfl); done)); (try simp only [Act.put, List.setIfInBounds_toArray, List.set_cons_zero, List.set_cons_succ])) | (refine Xr.take 1 (some 104) (v := ?_) rfl rfl (by decide +kernel) (by rfl) ?_ ?_; rotate_left; (focus (intro w' hk; go_simp; (try with_reducible rfl); done)); (try simp only [Act.put, List.setIfInBounds_toArray, List.set_cons_zero, List.set_cons_succ])) | (refine Xr.take 2 (some 105) (v := ?_) rfl rfl (by decide +kernel) (by rfl) ?_ ?_; rotate_left; (focus (intro w' hk; go_simp; (try with_reducible rfl); done)); (try simp only [Act.put, List.setIfInBounds_toArray, List.set_cons_zero, List.set_cons_succ])) | (refine Xr.take 3 (some 106) (v := ?_) rfl rfl (by decide +kernel) (by rfl) ?_ ?_; rotate_left; (focus (intro w' hk; go_simp; (try with_reducible rfl); done)); (try simp only [Act.put, List.setIfInBounds_toArray, List.set_cons_zero, List.set_cons_succ])) | (refine Xr.take 4 (some 107) (v := ?_) rfl rfl (by decide +kernel) (by rfl) ?_ ?_; rotate_left; (focus (intro w' hk; go_simp; (try with_reducible rfl); done)); (try simp only [Act.put, List.setIfInBounds_toArray, List.set_cons_zero, List.set_cons_succ])) | (refine Xr.take 5 (some 108) (v := ?_) rfl rfl (by decide +kernel) (by rfl) ?_ ?_; rotate_left; (focus (intro w' hk; go_simp; (try with_reducible rfl); done)); (try simp only [Act.put, List.setIfInBounds_toArray, List.set_cons_zero, List.set_cons_succ])) | (refine Xr.take 8 (some 111) (v := ?_) rfl rfl (by decide +kernel) (by rfl) ?_ ?_; rotate_left; (focus (intro w' hk; go_simp; (try with_reducible rfl); done)); (try simp only [Act.put, List.setIfInBounds_toArray, List.set_cons_zero, List.set_cons_succ])) | (refine Xr.take 9 (some 112) (v := ?_) rfl rfl (by decide +kernel) (by rfl) ?_ ?_; rotate_left; (focus (intro w' hk; go_simp; (try with_reducible rfl); done)); (try simp only [Act.put, List.setIfInBounds_toArray, List.set_cons_zero, List.set_cons_succ])))
    refine Xr.stepZ rfl (by decide +kernel) (fun _ => by rfl) (fun w7 gb hE7 hK7 hgb hB _ K hKK => ?_)
    (try simp only [Act.put, List.setIfInBounds_toArray, List.set_cons_zero, List.set_cons_succ])
    have hB' : Blk w7 gb 63 (flatI [⟨⟨xc, m, b, ⟨xa, xd, xs⟩⟩, B, cB⟩]).toArray := hB
    refine wp_app _ _ _ _ rfl w.heap.size 63 iI _ 6 64 Try.underlying58 jI0 jI1 jI2 jI3 rfl (by omega) none 0 0 [] rfl (OwnS.nil _ _ _ _) _ 1 1 (flatI [⟨⟨xc, m, b, ⟨xa, xd, xs⟩⟩, B, cB⟩]) rfl rfl (blk_cells hB') (flatI_one _) (by unfold maxLen; omega) (by omega) (by have := e1.size; have := hE6.size; have := hE7.size; omega) ?_
    intro H8 c8 w8 ho8 hg8 hat8
    refine hKK _ _ (WI_grown (A := none) hg8 (fun i hi => by cases hi)) (hK7.grownL (A := none) hg8 (fun i hi => by cases hi)) ?_
    clear hKK
    (try simp only [Act.put, List.setIfInBounds_toArray, List.set_cons_zero, List.set_cons_succ])
    repeat (first | (refine Xr.take 0 (some 103) (v := ?_) rfl rfl (by decide +kernel) (by rfl) ?_ ?_; rotate_left; (focus (intro w' hk; go_simp; (try with_reducible rfl); done)); (try simp only [Act.put, List.setIfInBounds_toArray, List.set_cons_zero, List.set_cons_succ])) | (refine Xr.take 1 (some 104) (v := ?_) rfl rfl (by decide +kernel) (by rfl) ?_ ?_; rotate_left; (focus (intro w' hk; go_simp; (try with_reducible rfl); done)); (try simp only [Act.put, List.setIfInBounds_toArray, List.set_cons_zero, List.set_cons_succ])) | (refine Xr.take 2 (some 105) (v := ?_) rfl rfl (by decide +kernel) (by rfl) ?_ ?_; rotate_left; (focus (intro w' hk; go_simp; (try with_reducible rfl); done)); (try simp only [Act.put, List.setIfInBounds_toArray, List.set_cons_zero, List.set_cons_succ])) | (refine Xr.take 3 (some 106) (v := ?_) rfl rfl (by decide +kernel) (by rfl) ?_ ?_; rotate_left; (focus (intro w' hk; go_simp; (try with_reducible rfl); done)); (try simp only [Act.put, List.setIfInBounds_toArray, List.set_cons_zero, List.set_cons_succ])) | (refine Xr.take 4 (some 107) (v := ?_) rfl rfl (by decide +kernel) (by rfl) ?_ ?_; rotate_left; (focus (intro w' hk; go_simp; (try with_reducible rfl); done)); (try simp only [Act.put, List.setIfInBounds_toArray, List.set_cons_zero, List.set_cons_succ])) | (refine Xr.take 5 (some 108) (v := ?_) rfl rfl (by decide +kernel) (by rfl) ?_ ?_; rotate_left; (focus (intro w' hk; go_simp; (try with_reducible rfl); done)); (try simp only [Act.put, List.setIfInBounds_toArray, List.set_cons_zero, List.set_cons_succ])) | (refine Xr.take 8 (some 111) (v := ?_) rfl rfl (by decide +kernel) (by rfl) ?_ ?_; rotate_left; (focus (intro w' hk; go_simp; (try with_reducible rfl); done)); (try simp only [Act.put, List.setIfInBounds_toArray, List.set_cons_zero, List.set_cons_succ])) | (refine Xr.take 9 (some 112) (v := ?_) rfl rfl (by decide +kernel) (by rfl) ?_ ?_; rotate_left; (focus (intro w' hk; go_simp; (try with_reducible rfl); done)); (try simp only [Act.put, List.setIfInBounds_toArray, List.set_cons_zero, List.set_cons_succ])))
    have x8 : Ext w w8 := ((e1.trans hE6).trans hE7).grown hg8 (fun k hk => by cases hk)
    refine Xr.step 10 rfl (by decide +kernel) (by rfl) (fun w9 hE9 hK9 K hKK => ?_)
    have x9 := x8.trans hE9
    have hD9 := hD.ext x9
    have f2 := hD9.blk.c3.2.2.1
    have f2f := hD9.blk.c3.2.2.2.2.2.1
    have f2z := hD9.blk.lt
    go_simp
    refine hKK _ _ (WI_setL (WI_refl _ _ _) List.mem_cons_self _ _) (hK9.setL List.mem_cons_self _ _) ?_
    clear hKK
    (try simp only [Act.put, List.setIfInBounds_toArray, List.set_cons_zero, List.set_cons_succ])
    repeat (first | (refine Xr.take 0 (some 103) (v := ?_) rfl rfl (by decide +kernel) (by rfl) ?_ ?_; rotate_left; (focus (intro w' hk; go_simp; (try with_reducible rfl); done)); (try simp only [Act.put, List.setIfInBounds_toArray, List.set_cons_zero, List.set_cons_succ])) | (refine Xr.take 1 (some 104) (v := ?_) rfl rfl (by decide +kernel) (by rfl) ?_ ?_; rotate_left; (focus (intro w' hk; go_simp; (try with_reducible rfl); done)); (try simp only [Act.put, List.setIfInBounds_toArray, List.set_cons_zero, List.set_cons_succ])) | (refine Xr.take 2 (some 105) (v := ?_) rfl rfl (by decide +kernel) (by rfl) ?_ ?_; rotate_left; (focus (intro w' hk; go_simp; (try with_reducible rfl); done)); (try simp only [Act.put, List.setIfInBounds_toArray, List.set_cons_zero, List.set_cons_succ])) | (refine Xr.take 3 (some 106) (v := ?_) rfl rfl (by decide +kernel) (by rfl) ?_ ?_; rotate_left; (focus (intro w' hk; go_simp; (try with_reducible rfl); done)); (try simp only [Act.put, List.setIfInBounds_toArray, List.set_cons_zero, List.set_cons_succ])) | (refine Xr.take 4 (some 107) (v := ?_) rfl rfl (by decide +kernel) (by rfl) ?_ ?_; rotate_left; (focus (intro w' hk; go_simp; (try with_reducible rfl); done)); (try simp only [Act.put, List.setIfInBounds_toArray, List.set_cons_zero, List.set_cons_succ])) | (refine Xr.take 5 (some 108) (v := ?_) rfl rfl (by decide +kernel) (by rfl) ?_ ?_; rotate_left; (focus (intro w' hk; go_simp; (try with_reducible rfl); done)); (try simp only [Act.put, List.setIfInBounds_toArray, List.set_cons_zero, List.set_cons_succ])) | (refine Xr.take 8 (some 111) (v := ?_) rfl rfl (by decide +kernel) (by rfl) ?_ ?_; rotate_left; (focus (intro w' hk; go_simp; (try with_reducible rfl); done)); (try simp only [Act.put, List.setIfInBounds_toArray, List.set_cons_zero, List.set_cons_succ])) | (refine Xr.take 9 (some 112) (v := ?_) rfl rfl (by decide +kernel) (by rfl) ?_ ?_; rotate_left; (focus (intro w' hk; go_simp; (try with_reducible rfl); done)); (try simp only [Act.put, List.setIfInBounds_toArray, List.set_cons_zero, List.set_cons_succ])))
    refine Xr.done (by decide +kernel) (fun w10 hE10 hK10 => ?_)
    simp only [List.nil_append, Nat.zero_add] at ho8
    obtain ⟨gh, rfl⟩ : ∃ gh, H8 = some ⟨gh, 0, none⟩ := by
      rcases ho8.form with ⟨_, h0, _⟩ | ⟨gh, _, rfl, _⟩
      · omega
      · exact ⟨gh, rfl⟩
    have hSH := hD9.setH (.slice (some ⟨gh, 0, none⟩) 1 c8)
    have hD10 := hSH.1.ext hE10
    have hghg : gh ≠ g := fun e => by
      have := OwnS.row ho8 gh rfl
      omega
    have hk10 : KpP (deskB g A C) w w10 := ((KpP.of_ext x9).trans (hSH.2.mono (fun b hb => .inl hb))).trans (KpP.of_ext hE10)
    have hcells := OwnS.cells (OwnS.ext (OwnS.far (OwnS.ext ho8 hE9) (p := ⟨g, 2, none⟩) (by simp; exact hghg) (.slice (some ⟨gh, 0, none⟩) 1 c8)) hE10)
    have hc8 := (OwnS.caps ho8).1
    have hH10 : ∀ k, k < 6 → w10.cell? ⟨gh, k, none⟩ = (flatI [⟨⟨xc, m, b, ⟨xa, xd, xs⟩⟩, B, cB⟩])[k]? := fun k hk => by
      obtain ⟨b', o', he, hc⟩ := hcells (by intro e; have := congrArg List.length e; simp [flatI] at this)
      injection he with he; injection he with e1' e2' _
      subst e1' e2'
      have hl6 : k < (flatI [⟨⟨xc, m, b, ⟨xa, xd, xs⟩⟩, B, cB⟩]).length := by rw [flatI_len]; simpa using hk
      have := hc k hl6
      rw [Nat.zero_add] at this
      rw [this, List.getElem?_eq_getElem hl6]
    have HH := Lib.hid hH10
    clear hH10 hcells hSH k0 k1 k2 k3 k4 k5 p0 p1 p2 p3 p4 p5 q0 q2 q26 f2 f2f f2z hD9 hE6 hE7 hE9 hE10 hK6 hK7 hK9 hK10 hB hB' ho8 hg8 hat8 x8 x9 e1 b1 hD1 qz hLlt
    have HR1 := Lib.hid (rready_one g gh c8 ap.length cA A C cC cl ⟨xc, m, b, ⟨xa, xd, xs⟩⟩ B cB w10 hD10.blk (IL.of_own hD10.clo hD10.clr) (by omega) HH.out (by simp only; rw [HM.out]) (by simp only; omega))
    go_wp2_with fail
    refine HR1.out.mono ?_
    rintro e w11 ⟨rfl, x11⟩
    clear HR1
    have hk11 := hk10.trans (KpP.of_ext x11)
    have hD11 := hD10.ext x11
    have HH11 : Hid (∀ k, k < 6 → w11.cell? ⟨gh, k, none⟩ = (flatI [⟨⟨xc, m, b, ⟨xa, xd, xs⟩⟩, B, cB⟩])[k]?) := fun k hk => by
      have h1 := HH.out k hk
      have hl6 : k < (flatI [⟨⟨xc, m, b, ⟨xa, xd, xs⟩⟩, B, cB⟩]).length := by rw [flatI_len]; simpa using hk
      rw [List.getElem?_eq_getElem hl6] at h1 ⊢
      exact x11.cell h1
    clear HH hk10 hD10 x11
    go_wp2_with fail
    go_loopw [8, 9] (fun v8 v9 wr => (v9 = .int .i64 0 ∧ v8 = .slice none 0 0 ∧ RdK wr base g A cA ap C cC cl (.slice (some ⟨gh, 0, none⟩) 1 c8) ∧ KpP (deskB g A C) w wr ∧ Hid (∀ k, k < 6 → wr.cell? ⟨gh, k, none⟩ = (flatI [⟨⟨xc, m, b, ⟨xa, xd, xs⟩⟩, B, cB⟩])[k]?)) ∨
      (v9 = .int .i64 (-1) ∧ ∃ (A' : Option Addr) (cA' : Nat) (C' : Option Addr) (cC' : Nat) (L : Option Addr) (cL : Nat), v8 = .slice L 1 cL ∧ RdK wr base g A' cA' (ap ++ [⟨((ap.map (·.e)).drop b).foldl movedE ⟨xa, xd, xs⟩, B, cB⟩]) C' cC' (cl ++ [xc]) (.slice none 0 0) ∧
        OwnS wr w.heap.size 25 3 L 1 cL (flatE [⟨((ap.map (·.e)).drop b).foldl movedE ⟨xa, xd, xs⟩, B, cB⟩]) ∧ KpP (deskB g A C) w wr ∧ Hid (Later (deskB g A C) (deskB g A' C') w.heap.size))) (fun _ v _ => (intOf v + 1).toNat)
    case atStart => exact .inl ⟨rfl, rfl, hD11, hk11, HH11⟩
    case round =>
      clear hD11 hk11 HH11
      rcases hrel with ⟨rfl, rfl, hD2, hk2, HH2⟩ | ⟨rfl, A', cA', C', cC', L, cL, rfl, hD2, hoL, hk2, hla⟩
      · have g0 := HH2.out 0 (by omega)
        have g1 := HH2.out 1 (by omega)
        have g2 := HH2.out 2 (by omega)
        have g3 := HH2.out 3 (by omega)
        have g4 := HH2.out 4 (by omega)
        have g5 := HH2.out 5 (by omega)
        change wr.cell? ⟨gh, 0, none⟩ = some (.int .i64 xc) at g0
        change wr.cell? ⟨gh, 1, none⟩ = some (.int .i64 m) at g1
        change wr.cell? ⟨gh, 2, none⟩ = some (.int .i64 b) at g2
        change wr.cell? ⟨gh, 3, none⟩ = some (.int .i64 xa) at g3
        change wr.cell? ⟨gh, 4, none⟩ = some (.int .i64 xd) at g4
        change wr.cell? ⟨gh, 5, none⟩ = some (.slice B xs.length cB) at g5
        have q2 := hD2.blk.c3.2.2.1
        have qz := hD2.blk.lt
        have hwz := hk2.size
        have HLY := Lib.hid (show ∀ i, deskB g A C i → i < wr.heap.size from fun i hi => by
          rcases hi with rfl | hi | hi
          · exact hD2.blk.lt
          · exact (OwnS.blt hD2.apo hi).1
          · exact (OwnS.blt hD2.clo hi).1)
        have by0 := Blk.new wr 63 #[.int .i64 xc, .int .i64 m, .int .i64 b, .int .i64 xa, .int .i64 xd, .slice B xs.length cB]
        have ey := Ext.alloc wr (.cells #[.int .i64 xc, .int .i64 m, .int .i64 b, .int .i64 xa, .int .i64 xd, .slice B xs.length cB] 63)
        go_upto_region 19 with fail
        obtain ⟨gy, hgy⟩ : ∃ gy, gy = wr.heap.size := ⟨_, rfl⟩
        rw [← hgy] at by0 HLY ⊢
        replace hD2 := hD2.ext ey
        replace hk2 := hk2.trans (KpP.of_ext ey)
        generalize wr.alloc (.cells #[.int .i64 xc, .int .i64 m, .int .i64 b, .int .i64 xa, .int .i64 xd, .slice B xs.length cB] 63) = y1 at *
        have hgyw : w.heap.size ≤ gy := by omega
        clear g0 g1 g2 g3 g4 g5 q2 qz ey hgy
        have m0 := by0.cell 0
        have m1 := by0.cell 1
        have m2 := by0.cell 2
        have m3 := by0.cell 3
        have m4 := by0.cell 4
        have m5 := by0.cell 5
        simp only [List.getElem?_toArray, List.getElem?_cons_succ, List.getElem?_cons_zero] at m0 m1 m2 m3 m4 m5
        have be := Blk.new y1 25 #[.int .i64 xa, .int .i64 xd, .slice B xs.length cB]
        have ee := Ext.alloc y1 (.cells #[.int .i64 xa, .int .i64 xd, .slice B xs.length cB] 25)
        go_upto_region 20 with fail
        obtain ⟨ge, hge⟩ : ∃ ge, ge = y1.heap.size := ⟨_, rfl⟩
        rw [← hge] at be ⊢
        have hgye : gy < ge := by rw [hge]; exact by0.lt
        have HLT := Lib.hid (show ∀ i, deskB g A C i → i < ge from fun i hi => by
          rw [hge]
          rcases hi with rfl | hi | hi
          · exact hD2.blk.lt
          · exact (OwnS.blt hD2.apo hi).1
          · exact (OwnS.blt hD2.clo hi).1)
        have hgy1 : ge = y1.heap.size := hge
        have HGE := Lib.hid hge
        generalize y1.alloc (.cells #[.int .i64 xa, .int .i64 xd, .slice B xs.length cB] 25) = y2 at *
        clear m0 m1 m2 m3 m4 m5 hge hgy1
        have m2 := (by0.ext ee).cell 2
        simp only [List.getElem?_toArray, List.getElem?_cons_succ, List.getElem?_cons_zero] at m2
        obtain ⟨es, hes⟩ : ∃ es, es = ap.map (·.e) := ⟨_, rfl⟩
        have hel : es.length = ap.length := by rw [hes, List.length_map]
        have HES := Lib.hid hes
        have HEL := Lib.hid hel
        have HMB := fun (l : List Ed) (hl : ∀ o ∈ l, o ∈ es) => Lib.hid (moved_bd (S := 1000) (by omega) l ⟨xa, xd, xs⟩ HXB.out (fun o ho => by
          have h1 := hl o ho
          rw [hes] at h1
          obtain ⟨z, hz, rfl⟩ := List.mem_map.1 h1
          exact HBD.out z hz))
        clear hes hel
        go_wp2_with fail
        go_loopw [12] (fun v12 wr => ∃ (k : Nat) (a d : Int), v12 = .int .i64 k ∧ b ≤ k ∧ k ≤ ap.length ∧ Hid ((((es.take k).drop b).foldl movedE ⟨xa, xd, xs⟩).at_ = a ∧ (((es.take k).drop b).foldl movedE ⟨xa, xd, xs⟩).del = d) ∧ Ext y1 wr ∧
          Blk wr ge 25 #[.int .i64 a, .int .i64 d, .slice B xs.length cB]) (fun v _ => ap.length - (intOf v).toNat)
        case atStart =>
          have : (es.take b).drop b = [] := List.drop_eq_nil_of_le (by rw [List.length_take]; omega)
          exact ⟨b, xa, xd, rfl, Nat.le_refl _, hbl, by rw [this]; exact ⟨rfl, rfl⟩, ee, be⟩
        case round =>
          clear be m2 ee
          obtain ⟨k, a, d, rfl, hbk, hkl, had, xe, be⟩ := hrel
          have hD3 := hD2.ext xe
          have q0 := hD3.blk.c3.1
          have qz := hD3.blk.lt
          by_cases hlt : k < ap.length
          · have hI : (k : Int) < ap.length := by omega
            obtain ⟨ab, ao, hA, a0, a1, a2⟩ : ∃ ab ao, A = some ⟨ab, ao, none⟩ ∧ wr.cell? ⟨ab, ao + k * 3, none⟩ = some (.int .i64 ap[k].e.at_) ∧ wr.cell? ⟨ab, ao + k * 3 + 1, none⟩ = some (.int .i64 ap[k].e.del) ∧ wr.cell? ⟨ab, ao + k * 3 + 2, none⟩ = some (.slice ap[k].A ap[k].e.ins.length ap[k].c) := by
              obtain ⟨ab, ao, hA, hc⟩ := OwnS.cells hD3.apo (by intro e; have := flatE_len ap; rw [e] at this; simp at this; omega)
              obtain ⟨f0, f1, f2⟩ := flatE_get ap k hlt
              have one : ∀ (i : Nat) (v : Value), (flatE ap)[i]? = some v → wr.cell? ⟨ab, ao + i, none⟩ = some v := fun i v hv => by
                obtain ⟨l1, e1⟩ := List.getElem?_eq_some_iff.1 hv
                rw [hc i l1, e1]
              exact ⟨ab, ao, hA, one _ _ f0, by rw [Nat.add_assoc]; exact one _ _ f1, by rw [Nat.add_assoc]; exact one _ _ f2⟩
            have hsm := HBD.out _ (List.getElem_mem hlt)
            have HNXT : Hid (((es.take (k + 1)).drop b).foldl movedE ⟨xa, xd, xs⟩ = movedE (((es.take k).drop b).foldl movedE ⟨xa, xd, xs⟩) ap[k].e) := by
              have hlt2 : k < es.length := by rw [HEL.out]; exact hlt
              have e1 : (es.take (k + 1)).drop b = (es.take k).drop b ++ [ap[k].e] := by
                rw [List.take_succ_eq_append_getElem hlt2, List.drop_append_of_le_length (by rw [List.length_take]; omega)]
                simp [HES.out]
              show _ = _
              rw [e1, List.foldl_append]; rfl
            have hmb := (HMB ((es.take k).drop b) (fun o ho => List.mem_of_mem_take (List.mem_of_mem_drop ho))).out
            have hml : ((es.take k).drop b).length ≤ 100 := by rw [List.length_drop, List.length_take]; omega
            generalize ((es.take k).drop b).foldl movedE ⟨xa, xd, xs⟩ = ek at *
            generalize ap[k] = o at *
            obtain ⟨⟨oa, od, os⟩, oA, oc⟩ := o
            obtain ⟨ha, hd⟩ := had.out
            subst ha hd
            simp only at a0 a1 a2 hsm
            obtain ⟨s1, s2, s3, s4⟩ := hsm
            simp only at s1 s2 s3 s4
            obtain ⟨u1, u2, u3, _⟩ := hmb
            subst hA
            have hngA : ge ≠ ab := fun e => by have := HLT.out ab (.inr (.inl rfl)); omega
            have hngg : g ∉ [ge] := by have := HLT.out g (.inl rfl); simp; omega
            have kq := fun (w' : World) (h : Kp [ge] wr w') => h.cell q0 hngg
            have ka0 := fun (w' : World) (h : Kp [ge] wr w') => h.cell a0 (by simp; exact fun e => hngA e.symm)
            have ka1 := fun (w' : World) (h : Kp [ge] wr w') => h.cell a1 (by simp; exact fun e => hngA e.symm)
            have ka2 := fun (w' : World) (h : Kp [ge] wr w') => h.cell a2 (by simp; exact fun e => hngA e.symm)
            go_wp2_with fail
            refine Xr.start [ge] (by kernel_rfl) ?_
            repeat (first | (refine Xr.take 0 (some 139) (v := ?_) rfl rfl (by decide +kernel) (by rfl) ?_ ?_; rotate_left; (focus (intro w' hk; go_simp; (try with_reducible rfl); done)); (try simp only [Act.put, List.setIfInBounds_toArray, List.set_cons_zero, List.set_cons_succ])) | (refine Xr.take 1 (some 140) (v := ?_) rfl rfl (by decide +kernel) (by rfl) ?_ ?_; rotate_left; (focus (intro w' hk; go_simp; (try with_reducible rfl); done)); (try simp only [Act.put, List.setIfInBounds_toArray, List.set_cons_zero, List.set_cons_succ])) | (refine Xr.take 2 (some 141) (v := ?_) rfl rfl (by decide +kernel) (by rfl) ?_ ?_; rotate_left; (focus (intro w' hk; go_simp; (try with_reducible rfl); done)); (try simp only [Act.put, List.setIfInBounds_toArray, List.set_cons_zero, List.set_cons_succ])) | (refine Xr.take 3 (some 142) (v := ?_) rfl rfl (by decide +kernel) (by rfl) ?_ ?_; rotate_left; (focus (intro w' hk; go_simp; (try with_reducible rfl); done)); (try simp only [Act.put, List.setIfInBounds_toArray, List.set_cons_zero, List.set_cons_succ])) | (refine Xr.take 4 (some 143) (v := ?_) rfl rfl (by decide +kernel) (by rfl) ?_ ?_; rotate_left; (focus (intro w' hk; go_simp; (try with_reducible rfl); done)); (try simp only [Act.put, List.setIfInBounds_toArray, List.set_cons_zero, List.set_cons_succ])) | (refine Xr.take 5 (some 144) (v := ?_) rfl rfl (by decide +kernel) (by rfl) ?_ ?_; rotate_left; (focus (intro w' hk; go_simp; (try with_reducible rfl); done)); (try simp only [Act.put, List.setIfInBounds_toArray, List.set_cons_zero, List.set_cons_succ])) | (refine Xr.take 6 (some 145) (v := ?_) rfl rfl (by decide +kernel) (by rfl) ?_ ?_; rotate_left; (focus (intro w' hk; go_simp; (try with_reducible rfl); done)); (try simp only [Act.put, List.setIfInBounds_toArray, List.set_cons_zero, List.set_cons_succ])) | (refine Xr.take 7 (some 146) (v := ?_) rfl rfl (by decide +kernel) (by rfl) ?_ ?_; rotate_left; (focus (intro w' hk; go_simp; (try with_reducible rfl); done)); (try simp only [Act.put, List.setIfInBounds_toArray, List.set_cons_zero, List.set_cons_succ])))
            refine Xr.step 0 rfl (by decide +kernel) (by rfl) (fun z1 hE1 hK1 K hKK => ?_)
            have t0 := (be.ext hE1).c3.1
            have t1 := (be.ext hE1).c3.2.1
            have t2 := (be.ext hE1).c3.2.2.1
            go_simp
            refine hKK _ _ (WI_refl _ _ _) hK1 ?_
            clear hKK
            (try simp only [Act.put, List.setIfInBounds_toArray, List.set_cons_zero, List.set_cons_succ])
            refine Xr.call 8 rfl (by decide +kernel) (by rfl) (fun z2 hE2 hK2 K hKK => ?_)
            go_simp
            refine (rMove_any ek.at_ ek.del oa od B oA cB xs.length oc os.length z2 ⟨u1, u2, by omega⟩ ⟨s1, s2, by omega⟩ (by omega)).mono ?_
            rintro e z3 ⟨rfl, x3⟩
            refine hKK _ _ x3 ?_
            clear hKK
            (try simp only [Act.put, List.setIfInBounds_toArray, List.set_cons_zero, List.set_cons_succ])
            refine Xr.step 9 rfl (by decide +kernel) (by rfl) (fun z4 hE4 hK4 K hKK => ?_)
            have be4 := be.ext (((hE1.trans hE2).trans x3).trans hE4)
            have x4 := xe.trans (((hE1.trans hE2).trans x3).trans hE4)
            have w0 := be4.c3.1
            have w1 := be4.c3.2.1
            have w2 := be4.c3.2.2.1
            have w0f := be4.c3.2.2.2.1
            have w1f := be4.c3.2.2.2.2.1
            have w2f := be4.c3.2.2.2.2.2.1
            have wz := be4.lt
            go_simp
            refine hKK _ _ (WI_setL (WI_setL (WI_setL (WI_refl _ _ _) List.mem_cons_self _ _) List.mem_cons_self _ _) List.mem_cons_self _ _) (((hK4.setL List.mem_cons_self _ _).setL List.mem_cons_self _ _).setL List.mem_cons_self _ _) ?_
            clear hKK
            (try simp only [Act.put, List.setIfInBounds_toArray, List.set_cons_zero, List.set_cons_succ])
            refine Xr.done (by decide +kernel) (fun z5 hE5 hK5 => ?_)
            have be5 := (((be4.set 0 (.int .i64 (movedE ek ⟨oa, od, os⟩).at_)).set 1 (.int .i64 (movedE ek ⟨oa, od, os⟩).del)).set 2 (.slice B xs.length cB)).ext hE5
            simp only [List.setIfInBounds_toArray, List.set_cons_zero, List.set_cons_succ] at be5
            have hge0 : y1.heap.size ≤ ge := Nat.le_of_eq HGE.out.symm
            have x5 := (((x4.setNew (p := ⟨ge, 0, none⟩) hge0 (.int .i64 (movedE ek ⟨oa, od, os⟩).at_)).setNew (p := ⟨ge, 1, none⟩) hge0 (.int .i64 (movedE ek ⟨oa, od, os⟩).del)).setNew (p := ⟨ge, 2, none⟩) hge0 (.slice B xs.length cB)).trans hE5
            clear kq ka0 ka1 ka2 a0 a1 a2 q0 t0 t1 t2 w0 w1 w2 w0f w1f w2f wz hE1 hE2 hE4 hE5 hK1 hK2 hK4 hK5 x3 x4 be4 be hge0
            go_wp2_with fail
            go_roundw
            case rel => exact ⟨k + 1, (movedE ek ⟨oa, od, os⟩).at_, (movedE ek ⟨oa, od, os⟩).del, by go_num, by omega, by omega, by rw [HNXT.out]; exact ⟨rfl, rfl⟩, x5, be5⟩
            case measure => simp [intOf]; omega
          · have hI : ¬ (k : Int) < ap.length := by omega
            have hkk : k = ap.length := by omega
            have HFIN : Hid ((es.drop b).foldl movedE ⟨xa, xd, xs⟩ = ⟨a, d, xs⟩) := by
              have h1 := had.out
              rw [hkk, List.take_of_length_le (by rw [HEL.out]; exact Nat.le_refl _)] at h1
              have h2 := (HMB (es.drop b) (fun o ho => List.mem_of_mem_drop ho)).out.2.2.2
              show _ = _
              generalize (es.drop b).foldl movedE ⟨xa, xd, xs⟩ = ef at *
              obtain ⟨fa, fd, fs⟩ := ef
              simp only at h1 h2
              obtain ⟨rfl, rfl⟩ := h1
              rw [h2]
            have hmb := (HMB (es.drop b) (fun o ho => List.mem_of_mem_drop ho)).out
            rw [HFIN.out] at hmb
            subst hkk
            clear hlt
            have q2 := hD3.blk.c3.2.2.1
            have q2f := hD3.blk.c3.2.2.2.2.2.1
            go_upto_region 26 with fail
            have hSH := hD3.setH (.slice none 0 0)
            go_cut [13] from 119 to 167 (fun v13 wx => v13 = .slice none 0 0 ∧ wx = wr.setCell ⟨g, 2, none⟩ (.slice none 0 0))
            case first =>
              by_cases hc1 : c8 = 1
              · subst hc1
                go_wp2_with fail
                go_meet
                exact ⟨rfl, rfl⟩
              · have hc2 : ¬ 1 = c8 := fun e => hc1 e.symm
                go_wp2_with fail
                go_meet
                exact ⟨rfl, rfl⟩
            case rest =>
              obtain ⟨rfl, rfl⟩ := hcut
              have hgn : g ≠ ge := by have := HLT.out g (.inl rfl); omega
              have be3 := be.far (p := ⟨g, 2, none⟩) (fun e => hgn e.symm) (.slice none 0 0)
              have hgyg : gy ≠ g := fun e => by omega
              have by3 := (by0.ext xe).far (p := ⟨g, 2, none⟩) hgyg (.slice none 0 0)
              obtain ⟨hD4, hk4⟩ := hSH
              have hk5 : KpP (deskB g A C) w (wr.setCell ⟨g, 2, none⟩ (.slice none 0 0)) := (hk2.trans (KpP.of_ext xe)).trans (hk4.mono (fun i hi => .inl hi))
              have hsz4 : wr.heap.size ≤ (wr.setCell ⟨g, 2, none⟩ (.slice none 0 0)).heap.size := hk4.size
              generalize wr.setCell ⟨g, 2, none⟩ (.slice none 0 0) = y4 at *
              clear hD3 q0 q2 q2f qz be hk4
              have iB4 := hL.kp hk5 hn
              have hae := hmb.2.2.1
              have hLlt : ∀ i ∈ g :: blkL A, i < y4.heap.size := fun i hi => by
                have h1 : i < ge := by
                  rcases List.mem_cons.1 hi with rfl | hi
                  · exact HLT.out _ (.inl rfl)
                  · exact HLT.out _ (.inr (.inl (mem_blkL.1 hi)))
                have := be3.lt
                omega
              have nge : ge ∉ g :: blkL A := fun hi => by
                have h1 : ge < ge := by
                  rcases List.mem_cons.1 hi with e | hi
                  · exact absurd e.symm hgn
                  · exact HLT.out _ (.inr (.inl (mem_blkL.1 hi)))
                omega
              have ngy : gy ∉ g :: blkL A := fun hi => by
                have h1 : gy < gy := by
                  rcases List.mem_cons.1 hi with e | hi
                  · exact absurd e hgyg
                  · exact HLY.out _ (.inr (.inl (mem_blkL.1 hi)))
                omega
              have d0 := hD4.blk.c3.1
              have s0 := be3.c3.1
              have s1 := be3.c3.2.1
              have s2 := be3.c3.2.2.1
              have k0 := fun (w' : World) (h : Kp (g :: blkL A) y4 w') => h.cell s0 nge
              have k1 := fun (w' : World) (h : Kp (g :: blkL A) y4 w') => h.cell s1 nge
              have k2 := fun (w' : World) (h : Kp (g :: blkL A) y4 w') => h.cell s2 nge
              go_upto_region 27 with fail
              refine Xr.start (g :: blkL A) (by kernel_rfl) ?_
              repeat (first | (refine Xr.take 0 (some 168) (v := ?_) rfl rfl (by decide +kernel) (by rfl) ?_ ?_; rotate_left; (focus (intro w' hk; go_simp; (try with_reducible rfl); done)); (try simp only [Act.put, List.setIfInBounds_toArray, List.set_cons_zero, List.set_cons_succ])) | (refine Xr.take 1 (some 169) (v := ?_) rfl rfl (by decide +kernel) (by rfl) ?_ ?_; rotate_left; (focus (intro w' hk; go_simp; (try with_reducible rfl); done)); (try simp only [Act.put, List.setIfInBounds_toArray, List.set_cons_zero, List.set_cons_succ])) | (refine Xr.take 2 (some 170) (v := ?_) rfl rfl (by decide +kernel) (by rfl) ?_ ?_; rotate_left; (focus (intro w' hk; go_simp; (try with_reducible rfl); done)); (try simp only [Act.put, List.setIfInBounds_toArray, List.set_cons_zero, List.set_cons_succ])) | (refine Xr.take 3 (some 171) (v := ?_) rfl rfl (by decide +kernel) (by rfl) ?_ ?_; rotate_left; (focus (intro w' hk; go_simp; (try with_reducible rfl); done)); (try simp only [Act.put, List.setIfInBounds_toArray, List.set_cons_zero, List.set_cons_succ])) | (refine Xr.take 4 (some 172) (v := ?_) rfl rfl (by decide +kernel) (by rfl) ?_ ?_; rotate_left; (focus (intro w' hk; go_simp; (try with_reducible rfl); done)); (try simp only [Act.put, List.setIfInBounds_toArray, List.set_cons_zero, List.set_cons_succ])) | (refine Xr.take 5 (some 173) (v := ?_) rfl rfl (by decide +kernel) (by rfl) ?_ ?_; rotate_left; (focus (intro w' hk; go_simp; (try with_reducible rfl); done)); (try simp only [Act.put, List.setIfInBounds_toArray, List.set_cons_zero, List.set_cons_succ])) | (refine Xr.take 8 (some 176) (v := ?_) rfl rfl (by decide +kernel) (by rfl) ?_ ?_; rotate_left; (focus (intro w' hk; go_simp; (try with_reducible rfl); done)); (try simp only [Act.put, List.setIfInBounds_toArray, List.set_cons_zero, List.set_cons_succ])) | (refine Xr.take 9 (some 177) (v := ?_) rfl rfl (by decide +kernel) (by rfl) ?_ ?_; rotate_left; (focus (intro w' hk; go_simp; (try with_reducible rfl); done)); (try simp only [Act.put, List.setIfInBounds_toArray, List.set_cons_zero, List.set_cons_succ])))
              refine Xr.lazy 6 174 7 (fun g => .slice (some ⟨g, 0, none⟩) 1 1) 25 #[.int .i64 a, .int .i64 d, .slice B xs.length cB] rfl hLlt (by decide +kernel) (by simp) (fun w' => by go_simp) ?_
              refine Xr.step 4 rfl (by decide +kernel) (by rfl) (fun z1 hE1 hK1 K hKK => ?_)
              have d01 := hE1.cell d0
              go_simp
              refine hKK _ _ (WI_refl _ _ _) hK1 ?_
              clear hKK
              (try simp only [Act.put, List.setIfInBounds_toArray, List.set_cons_zero, List.set_cons_succ])
              repeat (first | (refine Xr.take 0 (some 168) (v := ?_) rfl rfl (by decide +kernel) (by rfl) ?_ ?_; rotate_left; (focus (intro w' hk; go_simp; (try with_reducible rfl); done)); (try simp only [Act.put, List.setIfInBounds_toArray, List.set_cons_zero, List.set_cons_succ])) | (refine Xr.take 1 (some 169) (v := ?_) rfl rfl (by decide +kernel) (by rfl) ?_ ?_; rotate_left; (focus (intro w' hk; go_simp; (try with_reducible rfl); done)); (try simp only [Act.put, List.setIfInBounds_toArray, List.set_cons_zero, List.set_cons_succ])) | (refine Xr.take 2 (some 170) (v := ?_) rfl rfl (by decide +kernel) (by rfl) ?_ ?_; rotate_left; (focus (intro w' hk; go_simp; (try with_reducible rfl); done)); (try simp only [Act.put, List.setIfInBounds_toArray, List.set_cons_zero, List.set_cons_succ])) | (refine Xr.take 3 (some 171) (v := ?_) rfl rfl (by decide +kernel) (by rfl) ?_ ?_; rotate_left; (focus (intro w' hk; go_simp; (try with_reducible rfl); done)); (try simp only [Act.put, List.setIfInBounds_toArray, List.set_cons_zero, List.set_cons_succ])) | (refine Xr.take 4 (some 172) (v := ?_) rfl rfl (by decide +kernel) (by rfl) ?_ ?_; rotate_left; (focus (intro w' hk; go_simp; (try with_reducible rfl); done)); (try simp only [Act.put, List.setIfInBounds_toArray, List.set_cons_zero, List.set_cons_succ])) | (refine Xr.take 5 (some 173) (v := ?_) rfl rfl (by decide +kernel) (by rfl) ?_ ?_; rotate_left; (focus (intro w' hk; go_simp; (try with_reducible rfl); done)); (try simp only [Act.put, List.setIfInBounds_toArray, List.set_cons_zero, List.set_cons_succ])) | (refine Xr.take 8 (some 176) (v := ?_) rfl rfl (by decide +kernel) (by rfl) ?_ ?_; rotate_left; (focus (intro w' hk; go_simp; (try with_reducible rfl); done)); (try simp only [Act.put, List.setIfInBounds_toArray, List.set_cons_zero, List.set_cons_succ])) | (refine Xr.take 9 (some 177) (v := ?_) rfl rfl (by decide +kernel) (by rfl) ?_ ?_; rotate_left; (focus (intro w' hk; go_simp; (try with_reducible rfl); done)); (try simp only [Act.put, List.setIfInBounds_toArray, List.set_cons_zero, List.set_cons_succ])))
              refine Xr.stepZ rfl (by decide +kernel) (fun _ => by rfl) (fun z2 gb hE2 hK2 hgb hB _ K hKK => ?_)
              (try simp only [Act.put, List.setIfInBounds_toArray, List.set_cons_zero, List.set_cons_succ])
              have hB' : Blk z2 gb 25 (flatE [⟨⟨a, d, xs⟩, B, cB⟩]).toArray := hB
              have hD42 := hD4.ext (hE1.trans hE2)
              refine wp_app _ _ _ _ rfl base 25 iE _ 3 40 Try.underlying28 jE0 jE1 jE2 jE3 rfl (by omega) A ap.length cA (flatE ap) rfl hD42.apo _ 1 1 (flatE [⟨⟨a, d, xs⟩, B, cB⟩]) rfl rfl (blk_cells hB') (flatE_one _) (by unfold maxLen; omega) (by omega) (by have := hD42.lo; have := hD42.blk.lt; omega) ?_
              intro A2 cA2 z3 ho3 hg3 hat3
              refine hKK _ _ (WI_kp (KpP.of_grown hg3) (fun i hi => List.mem_cons_of_mem _ (mem_blkL.2 hi))) (hK2.kpP (KpP.of_grown hg3) (fun i hi => List.mem_cons_of_mem _ (mem_blkL.2 hi))) ?_
              clear hKK
              (try simp only [Act.put, List.setIfInBounds_toArray, List.set_cons_zero, List.set_cons_succ])
              repeat (first | (refine Xr.take 0 (some 168) (v := ?_) rfl rfl (by decide +kernel) (by rfl) ?_ ?_; rotate_left; (focus (intro w' hk; go_simp; (try with_reducible rfl); done)); (try simp only [Act.put, List.setIfInBounds_toArray, List.set_cons_zero, List.set_cons_succ])) | (refine Xr.take 1 (some 169) (v := ?_) rfl rfl (by decide +kernel) (by rfl) ?_ ?_; rotate_left; (focus (intro w' hk; go_simp; (try with_reducible rfl); done)); (try simp only [Act.put, List.setIfInBounds_toArray, List.set_cons_zero, List.set_cons_succ])) | (refine Xr.take 2 (some 170) (v := ?_) rfl rfl (by decide +kernel) (by rfl) ?_ ?_; rotate_left; (focus (intro w' hk; go_simp; (try with_reducible rfl); done)); (try simp only [Act.put, List.setIfInBounds_toArray, List.set_cons_zero, List.set_cons_succ])) | (refine Xr.take 3 (some 171) (v := ?_) rfl rfl (by decide +kernel) (by rfl) ?_ ?_; rotate_left; (focus (intro w' hk; go_simp; (try with_reducible rfl); done)); (try simp only [Act.put, List.setIfInBounds_toArray, List.set_cons_zero, List.set_cons_succ])) | (refine Xr.take 4 (some 172) (v := ?_) rfl rfl (by decide +kernel) (by rfl) ?_ ?_; rotate_left; (focus (intro w' hk; go_simp; (try with_reducible rfl); done)); (try simp only [Act.put, List.setIfInBounds_toArray, List.set_cons_zero, List.set_cons_succ])) | (refine Xr.take 5 (some 173) (v := ?_) rfl rfl (by decide +kernel) (by rfl) ?_ ?_; rotate_left; (focus (intro w' hk; go_simp; (try with_reducible rfl); done)); (try simp only [Act.put, List.setIfInBounds_toArray, List.set_cons_zero, List.set_cons_succ])) | (refine Xr.take 8 (some 176) (v := ?_) rfl rfl (by decide +kernel) (by rfl) ?_ ?_; rotate_left; (focus (intro w' hk; go_simp; (try with_reducible rfl); done)); (try simp only [Act.put, List.setIfInBounds_toArray, List.set_cons_zero, List.set_cons_succ])) | (refine Xr.take 9 (some 177) (v := ?_) rfl rfl (by decide +kernel) (by rfl) ?_ ?_; rotate_left; (focus (intro w' hk; go_simp; (try with_reducible rfl); done)); (try simp only [Act.put, List.setIfInBounds_toArray, List.set_cons_zero, List.set_cons_succ])))
              refine Xr.step 10 rfl (by decide +kernel) (by rfl) (fun z4 hE4 hK4 K hKK => ?_)
              have hbg := ((KpP.of_grown hg3).blk hD42.blk (fun e => hD42.nA e)).ext hE4
              have f0 := hbg.c3.1
              have f0f := hbg.c3.2.2.2.1
              have fz := hbg.lt
              go_simp
              refine hKK _ _ (WI_setL (WI_refl _ _ _) List.mem_cons_self _ _) (hK4.setL List.mem_cons_self _ _) ?_
              clear hKK
              (try simp only [Act.put, List.setIfInBounds_toArray, List.set_cons_zero, List.set_cons_succ])
              repeat (first | (refine Xr.take 0 (some 168) (v := ?_) rfl rfl (by decide +kernel) (by rfl) ?_ ?_; rotate_left; (focus (intro w' hk; go_simp; (try with_reducible rfl); done)); (try simp only [Act.put, List.setIfInBounds_toArray, List.set_cons_zero, List.set_cons_succ])) | (refine Xr.take 1 (some 169) (v := ?_) rfl rfl (by decide +kernel) (by rfl) ?_ ?_; rotate_left; (focus (intro w' hk; go_simp; (try with_reducible rfl); done)); (try simp only [Act.put, List.setIfInBounds_toArray, List.set_cons_zero, List.set_cons_succ])) | (refine Xr.take 2 (some 170) (v := ?_) rfl rfl (by decide +kernel) (by rfl) ?_ ?_; rotate_left; (focus (intro w' hk; go_simp; (try with_reducible rfl); done)); (try simp only [Act.put, List.setIfInBounds_toArray, List.set_cons_zero, List.set_cons_succ])) | (refine Xr.take 3 (some 171) (v := ?_) rfl rfl (by decide +kernel) (by rfl) ?_ ?_; rotate_left; (focus (intro w' hk; go_simp; (try with_reducible rfl); done)); (try simp only [Act.put, List.setIfInBounds_toArray, List.set_cons_zero, List.set_cons_succ])) | (refine Xr.take 4 (some 172) (v := ?_) rfl rfl (by decide +kernel) (by rfl) ?_ ?_; rotate_left; (focus (intro w' hk; go_simp; (try with_reducible rfl); done)); (try simp only [Act.put, List.setIfInBounds_toArray, List.set_cons_zero, List.set_cons_succ])) | (refine Xr.take 5 (some 173) (v := ?_) rfl rfl (by decide +kernel) (by rfl) ?_ ?_; rotate_left; (focus (intro w' hk; go_simp; (try with_reducible rfl); done)); (try simp only [Act.put, List.setIfInBounds_toArray, List.set_cons_zero, List.set_cons_succ])) | (refine Xr.take 8 (some 176) (v := ?_) rfl rfl (by decide +kernel) (by rfl) ?_ ?_; rotate_left; (focus (intro w' hk; go_simp; (try with_reducible rfl); done)); (try simp only [Act.put, List.setIfInBounds_toArray, List.set_cons_zero, List.set_cons_succ])) | (refine Xr.take 9 (some 177) (v := ?_) rfl rfl (by decide +kernel) (by rfl) ?_ ?_; rotate_left; (focus (intro w' hk; go_simp; (try with_reducible rfl); done)); (try simp only [Act.put, List.setIfInBounds_toArray, List.set_cons_zero, List.set_cons_succ])))
              refine Xr.done (by decide +kernel) (fun z5 hE5 hK5 => ?_)
              obtain ⟨hD5, hkA, hlaA⟩ := hD42.app (o := ⟨⟨a, d, xs⟩, B, cB⟩) hg3 ho3 hat3 hE4 (iB4.ext (hE1.trans hE2)) hn
              replace hD5 := hD5.ext hE5
              have hk6 : KpP (deskB g A C) w z5 := ((hk5.trans (KpP.of_ext (hE1.trans hE2))).trans hkA).trans (KpP.of_ext hE5)
              have HLA : Hid (Later (deskB g A C) (deskB g A2 C) w.heap.size) := fun i hi => by
                rcases hlaA i hi with h | h
                · exact .inl h
                · right
                  have h1 := hk5.size
                  have h2 := hE1.size
                  have h3 := hE2.size
                  omega
              replace be3 := Kp.blk be3 hK5 nge
              replace by3 := Kp.blk by3 hK5 ngy
              clear k0 k1 k2 s0 s1 s2 d0 d01 hE1 hE2 hE4 hE5 hK1 hK2 hK4 hK5 hB hB' f0 f0f fz hbg hD42 hD4 ho3 hg3 hat3 hkA hlaA iB4 nge ngy hLlt
              go_upto_region 28 with fail
              have hix : I64 xc := by unfold I64; omega
              have hLlt : ∀ i ∈ g :: blkL C, i < z5.heap.size := fun i hi => by
                have h1 : i < ge := by
                  rcases List.mem_cons.1 hi with rfl | hi
                  · exact HLT.out _ (.inl rfl)
                  · exact HLT.out _ (.inr (.inr (mem_blkL.1 hi)))
                have := be3.lt
                omega
              have nge : ge ∉ g :: blkL C := fun hi => by
                have h1 : ge < ge := by
                  rcases List.mem_cons.1 hi with e | hi
                  · exact absurd e.symm hgn
                  · exact HLT.out _ (.inr (.inr (mem_blkL.1 hi)))
                omega
              have ngy : gy ∉ g :: blkL C := fun hi => by
                have h1 : gy < gy := by
                  rcases List.mem_cons.1 hi with e | hi
                  · exact absurd e hgyg
                  · exact HLY.out _ (.inr (.inr (mem_blkL.1 hi)))
                omega
              have d1 := hD5.blk.c3.2.1
              have s0 := by3.cell 0
              simp only [List.getElem?_toArray, List.getElem?_cons_succ, List.getElem?_cons_zero] at s0
              have k0 := fun (w' : World) (h : Kp (g :: blkL C) z5 w') => h.cell s0 ngy
              refine Xr.start (g :: blkL C) (by kernel_rfl) ?_
              repeat (first | (refine Xr.take 0 (some 178) (v := ?_) rfl rfl (by decide +kernel) (by rfl) ?_ ?_; rotate_left; (focus (intro w' hk; go_simp; (try with_reducible rfl); done)); (try simp only [Act.put, List.setIfInBounds_toArray, List.set_cons_zero, List.set_cons_succ])) | (refine Xr.take 1 (some 179) (v := ?_) rfl rfl (by decide +kernel) (by rfl) ?_ ?_; rotate_left; (focus (intro w' hk; go_simp; (try with_reducible rfl); done)); (try simp only [Act.put, List.setIfInBounds_toArray, List.set_cons_zero, List.set_cons_succ])) | (refine Xr.take 2 (some 180) (v := ?_) rfl rfl (by decide +kernel) (by rfl) ?_ ?_; rotate_left; (focus (intro w' hk; go_simp; (try with_reducible rfl); done)); (try simp only [Act.put, List.setIfInBounds_toArray, List.set_cons_zero, List.set_cons_succ])) | (refine Xr.take 3 (some 181) (v := ?_) rfl rfl (by decide +kernel) (by rfl) ?_ ?_; rotate_left; (focus (intro w' hk; go_simp; (try with_reducible rfl); done)); (try simp only [Act.put, List.setIfInBounds_toArray, List.set_cons_zero, List.set_cons_succ])) | (refine Xr.take 4 (some 182) (v := ?_) rfl rfl (by decide +kernel) (by rfl) ?_ ?_; rotate_left; (focus (intro w' hk; go_simp; (try with_reducible rfl); done)); (try simp only [Act.put, List.setIfInBounds_toArray, List.set_cons_zero, List.set_cons_succ])) | (refine Xr.take 5 (some 183) (v := ?_) rfl rfl (by decide +kernel) (by rfl) ?_ ?_; rotate_left; (focus (intro w' hk; go_simp; (try with_reducible rfl); done)); (try simp only [Act.put, List.setIfInBounds_toArray, List.set_cons_zero, List.set_cons_succ])) | (refine Xr.take 6 (some 184) (v := ?_) rfl rfl (by decide +kernel) (by rfl) ?_ ?_; rotate_left; (focus (intro w' hk; go_simp; (try with_reducible rfl); done)); (try simp only [Act.put, List.setIfInBounds_toArray, List.set_cons_zero, List.set_cons_succ])) | (refine Xr.take 9 (some 187) (v := ?_) rfl rfl (by decide +kernel) (by rfl) ?_ ?_; rotate_left; (focus (intro w' hk; go_simp; (try with_reducible rfl); done)); (try simp only [Act.put, List.setIfInBounds_toArray, List.set_cons_zero, List.set_cons_succ])) | (refine Xr.take 10 (some 188) (v := ?_) rfl rfl (by decide +kernel) (by rfl) ?_ ?_; rotate_left; (focus (intro w' hk; go_simp; (try with_reducible rfl); done)); (try simp only [Act.put, List.setIfInBounds_toArray, List.set_cons_zero, List.set_cons_succ])))
              refine Xr.lazy 7 185 8 (fun g => .slice (some ⟨g, 0, none⟩) 1 1) 3 #[.int .i64 xc] rfl hLlt (by decide +kernel) (by simp) (fun w' => by go_simp) ?_
              refine Xr.step 4 rfl (by decide +kernel) (by rfl) (fun z6 hE6 hK6 K hKK => ?_)
              have d16 := hE6.cell d1
              go_simp
              refine hKK _ _ (WI_refl _ _ _) hK6 ?_
              clear hKK
              (try simp only [Act.put, List.setIfInBounds_toArray, List.set_cons_zero, List.set_cons_succ])
              repeat (first | (refine Xr.take 0 (some 178) (v := ?_) rfl rfl (by decide +kernel) (by rfl) ?_ ?_; rotate_left; (focus (intro w' hk; go_simp; (try with_reducible rfl); done)); (try simp only [Act.put, List.setIfInBounds_toArray, List.set_cons_zero, List.set_cons_succ])) | (refine Xr.take 1 (some 179) (v := ?_) rfl rfl (by decide +kernel) (by rfl) ?_ ?_; rotate_left; (focus (intro w' hk; go_simp; (try with_reducible rfl); done)); (try simp only [Act.put, List.setIfInBounds_toArray, List.set_cons_zero, List.set_cons_succ])) | (refine Xr.take 2 (some 180) (v := ?_) rfl rfl (by decide +kernel) (by rfl) ?_ ?_; rotate_left; (focus (intro w' hk; go_simp; (try with_reducible rfl); done)); (try simp only [Act.put, List.setIfInBounds_toArray, List.set_cons_zero, List.set_cons_succ])) | (refine Xr.take 3 (some 181) (v := ?_) rfl rfl (by decide +kernel) (by rfl) ?_ ?_; rotate_left; (focus (intro w' hk; go_simp; (try with_reducible rfl); done)); (try simp only [Act.put, List.setIfInBounds_toArray, List.set_cons_zero, List.set_cons_succ])) | (refine Xr.take 4 (some 182) (v := ?_) rfl rfl (by decide +kernel) (by rfl) ?_ ?_; rotate_left; (focus (intro w' hk; go_simp; (try with_reducible rfl); done)); (try simp only [Act.put, List.setIfInBounds_toArray, List.set_cons_zero, List.set_cons_succ])) | (refine Xr.take 5 (some 183) (v := ?_) rfl rfl (by decide +kernel) (by rfl) ?_ ?_; rotate_left; (focus (intro w' hk; go_simp; (try with_reducible rfl); done)); (try simp only [Act.put, List.setIfInBounds_toArray, List.set_cons_zero, List.set_cons_succ])) | (refine Xr.take 6 (some 184) (v := ?_) rfl rfl (by decide +kernel) (by rfl) ?_ ?_; rotate_left; (focus (intro w' hk; go_simp; (try with_reducible rfl); done)); (try simp only [Act.put, List.setIfInBounds_toArray, List.set_cons_zero, List.set_cons_succ])) | (refine Xr.take 9 (some 187) (v := ?_) rfl rfl (by decide +kernel) (by rfl) ?_ ?_; rotate_left; (focus (intro w' hk; go_simp; (try with_reducible rfl); done)); (try simp only [Act.put, List.setIfInBounds_toArray, List.set_cons_zero, List.set_cons_succ])) | (refine Xr.take 10 (some 188) (v := ?_) rfl rfl (by decide +kernel) (by rfl) ?_ ?_; rotate_left; (focus (intro w' hk; go_simp; (try with_reducible rfl); done)); (try simp only [Act.put, List.setIfInBounds_toArray, List.set_cons_zero, List.set_cons_succ])))
              refine Xr.stepZ rfl (by decide +kernel) (fun _ => by rfl) (fun z7 gb hE7 hK7 hgb hB _ K hKK => ?_)
              (try simp only [Act.put, List.setIfInBounds_toArray, List.set_cons_zero, List.set_cons_succ])
              have hB' : Blk z7 gb 3 [Value.int .i64 xc].toArray := hB
              have hD57 := hD5.ext (hE6.trans hE7)
              refine wp_app _ _ _ _ rfl base 3 iN _ 1 8 Try.underlying22 jN0 jN1 jN2 jN3 rfl (by omega) C cl.length cC (cl.map (Value.int .i64)) rfl hD57.clo _ 1 1 [.int .i64 xc] rfl rfl (blk_cells hB') (by simp [Value.oneCell']) (by unfold maxLen; omega) (by omega) (by have := hD57.lo; have := hD57.blk.lt; omega) ?_
              intro C2 cC2 z8 ho8 hg8 hat8
              refine hKK _ _ (WI_kp (KpP.of_grown hg8) (fun i hi => List.mem_cons_of_mem _ (mem_blkL.2 hi))) (hK7.kpP (KpP.of_grown hg8) (fun i hi => List.mem_cons_of_mem _ (mem_blkL.2 hi))) ?_
              clear hKK
              (try simp only [Act.put, List.setIfInBounds_toArray, List.set_cons_zero, List.set_cons_succ])
              repeat (first | (refine Xr.take 0 (some 178) (v := ?_) rfl rfl (by decide +kernel) (by rfl) ?_ ?_; rotate_left; (focus (intro w' hk; go_simp; (try with_reducible rfl); done)); (try simp only [Act.put, List.setIfInBounds_toArray, List.set_cons_zero, List.set_cons_succ])) | (refine Xr.take 1 (some 179) (v := ?_) rfl rfl (by decide +kernel) (by rfl) ?_ ?_; rotate_left; (focus (intro w' hk; go_simp; (try with_reducible rfl); done)); (try simp only [Act.put, List.setIfInBounds_toArray, List.set_cons_zero, List.set_cons_succ])) | (refine Xr.take 2 (some 180) (v := ?_) rfl rfl (by decide +kernel) (by rfl) ?_ ?_; rotate_left; (focus (intro w' hk; go_simp; (try with_reducible rfl); done)); (try simp only [Act.put, List.setIfInBounds_toArray, List.set_cons_zero, List.set_cons_succ])) | (refine Xr.take 3 (some 181) (v := ?_) rfl rfl (by decide +kernel) (by rfl) ?_ ?_; rotate_left; (focus (intro w' hk; go_simp; (try with_reducible rfl); done)); (try simp only [Act.put, List.setIfInBounds_toArray, List.set_cons_zero, List.set_cons_succ])) | (refine Xr.take 4 (some 182) (v := ?_) rfl rfl (by decide +kernel) (by rfl) ?_ ?_; rotate_left; (focus (intro w' hk; go_simp; (try with_reducible rfl); done)); (try simp only [Act.put, List.setIfInBounds_toArray, List.set_cons_zero, List.set_cons_succ])) | (refine Xr.take 5 (some 183) (v := ?_) rfl rfl (by decide +kernel) (by rfl) ?_ ?_; rotate_left; (focus (intro w' hk; go_simp; (try with_reducible rfl); done)); (try simp only [Act.put, List.setIfInBounds_toArray, List.set_cons_zero, List.set_cons_succ])) | (refine Xr.take 6 (some 184) (v := ?_) rfl rfl (by decide +kernel) (by rfl) ?_ ?_; rotate_left; (focus (intro w' hk; go_simp; (try with_reducible rfl); done)); (try simp only [Act.put, List.setIfInBounds_toArray, List.set_cons_zero, List.set_cons_succ])) | (refine Xr.take 9 (some 187) (v := ?_) rfl rfl (by decide +kernel) (by rfl) ?_ ?_; rotate_left; (focus (intro w' hk; go_simp; (try with_reducible rfl); done)); (try simp only [Act.put, List.setIfInBounds_toArray, List.set_cons_zero, List.set_cons_succ])) | (refine Xr.take 10 (some 188) (v := ?_) rfl rfl (by decide +kernel) (by rfl) ?_ ?_; rotate_left; (focus (intro w' hk; go_simp; (try with_reducible rfl); done)); (try simp only [Act.put, List.setIfInBounds_toArray, List.set_cons_zero, List.set_cons_succ])))
              refine Xr.step 11 rfl (by decide +kernel) (by rfl) (fun z9 hE9 hK9 K hKK => ?_)
              have hbg := ((KpP.of_grown hg8).blk hD57.blk (fun e => hD57.nC e)).ext hE9
              have f1 := hbg.c3.2.1
              have f1f := hbg.c3.2.2.2.2.1
              have fz := hbg.lt
              go_simp
              refine hKK _ _ (WI_setL (WI_refl _ _ _) List.mem_cons_self _ _) (hK9.setL List.mem_cons_self _ _) ?_
              clear hKK
              (try simp only [Act.put, List.setIfInBounds_toArray, List.set_cons_zero, List.set_cons_succ])
              repeat (first | (refine Xr.take 0 (some 178) (v := ?_) rfl rfl (by decide +kernel) (by rfl) ?_ ?_; rotate_left; (focus (intro w' hk; go_simp; (try with_reducible rfl); done)); (try simp only [Act.put, List.setIfInBounds_toArray, List.set_cons_zero, List.set_cons_succ])) | (refine Xr.take 1 (some 179) (v := ?_) rfl rfl (by decide +kernel) (by rfl) ?_ ?_; rotate_left; (focus (intro w' hk; go_simp; (try with_reducible rfl); done)); (try simp only [Act.put, List.setIfInBounds_toArray, List.set_cons_zero, List.set_cons_succ])) | (refine Xr.take 2 (some 180) (v := ?_) rfl rfl (by decide +kernel) (by rfl) ?_ ?_; rotate_left; (focus (intro w' hk; go_simp; (try with_reducible rfl); done)); (try simp only [Act.put, List.setIfInBounds_toArray, List.set_cons_zero, List.set_cons_succ])) | (refine Xr.take 3 (some 181) (v := ?_) rfl rfl (by decide +kernel) (by rfl) ?_ ?_; rotate_left; (focus (intro w' hk; go_simp; (try with_reducible rfl); done)); (try simp only [Act.put, List.setIfInBounds_toArray, List.set_cons_zero, List.set_cons_succ])) | (refine Xr.take 4 (some 182) (v := ?_) rfl rfl (by decide +kernel) (by rfl) ?_ ?_; rotate_left; (focus (intro w' hk; go_simp; (try with_reducible rfl); done)); (try simp only [Act.put, List.setIfInBounds_toArray, List.set_cons_zero, List.set_cons_succ])) | (refine Xr.take 5 (some 183) (v := ?_) rfl rfl (by decide +kernel) (by rfl) ?_ ?_; rotate_left; (focus (intro w' hk; go_simp; (try with_reducible rfl); done)); (try simp only [Act.put, List.setIfInBounds_toArray, List.set_cons_zero, List.set_cons_succ])) | (refine Xr.take 6 (some 184) (v := ?_) rfl rfl (by decide +kernel) (by rfl) ?_ ?_; rotate_left; (focus (intro w' hk; go_simp; (try with_reducible rfl); done)); (try simp only [Act.put, List.setIfInBounds_toArray, List.set_cons_zero, List.set_cons_succ])) | (refine Xr.take 9 (some 187) (v := ?_) rfl rfl (by decide +kernel) (by rfl) ?_ ?_; rotate_left; (focus (intro w' hk; go_simp; (try with_reducible rfl); done)); (try simp only [Act.put, List.setIfInBounds_toArray, List.set_cons_zero, List.set_cons_succ])) | (refine Xr.take 10 (some 188) (v := ?_) rfl rfl (by decide +kernel) (by rfl) ?_ ?_; rotate_left; (focus (intro w' hk; go_simp; (try with_reducible rfl); done)); (try simp only [Act.put, List.setIfInBounds_toArray, List.set_cons_zero, List.set_cons_succ])))
              refine Xr.done (by decide +kernel) (fun z10 hE10 hK10 => ?_)
              obtain ⟨hD6, hkC, hlaC⟩ := hD57.cli hg8 ho8 (hat8.imp id (fun e => ⟨_, Nat.le_refl _, e⟩)) hE9 hix
              replace hD6 := hD6.ext hE10
              have hsz6 : w.heap.size ≤ z7.heap.size := by
                have h1 := hk6.size; have h2 := hE6.size; have h3 := hE7.size; omega
              have hk7 : KpP (deskB g A C) w z10 := by
                refine KpP.trans ?_ (KpP.of_ext hE10)
                have h0 : KpP (deskB g A C) w z7 := hk6.trans (KpP.of_ext (hE6.trans hE7))
                exact ⟨hkC.os.trans h0.os, hkC.tape.trans h0.tape, hkC.output.trans h0.output, Nat.le_trans h0.size hkC.size, fun i hi hn2 => (hkC.block i (Nat.lt_of_lt_of_le hi h0.size) (fun hb2 => by
                  rcases hb2 with e | e | e
                  · exact hn2 (.inl e)
                  · rcases HLA.out i (.inr (.inl e)) with h | h
                    · exact hn2 h
                    · omega
                  · exact hn2 (.inr (.inr e)))).trans (h0.block i hi hn2)⟩
              have HLAC : Hid (Later (deskB g A C) (deskB g A2 C2) w.heap.size) := fun i hi => by
                rcases hlaC i hi with h | h
                · exact HLA.out i h
                · right; omega
              replace be3 := Kp.blk be3 hK10 nge
              clear k0 s0 d1 d16 hE6 hE7 hE9 hE10 hK6 hK7 hK9 hK10 hB hB' f1 f1f fz hbg hD57 hD5 ho8 hg8 hat8 hkC hlaC nge ngy hLlt hk6
              have s0 := be3.c3.1
              have s1 := be3.c3.2.1
              have s2 := be3.c3.2.2.1
              have hbase : w.heap.size ≤ (z10.alloc (.cells (flatE [⟨⟨a, d, xs⟩, B, cB⟩]).toArray 25)).heap.size := by have := hk7.size; simp; omega
              go_upto_region 17 with ((at_builtin; refine wpList_app _ rfl _ _ _ rfl w.heap.size 25 iE _ 3 40 Try.underlying28 jE0 jE1 jE2 jE3 rfl (by omega) none 0 0 [] rfl (OwnS.nil _ _ _ _) _ 1 1 (flatE [⟨⟨a, d, xs⟩, B, cB⟩]) rfl rfl (blk_cells (Blk.new z10 25 (flatE [⟨⟨a, d, xs⟩, B, cB⟩]).toArray)) (flatE_one _) (by unfold maxLen; omega) (by omega) hbase ?_; intro L2 cL2 z11 ho11 hg11 hat11))
              have x11 : Ext z10 z11 := (Ext.alloc z10 (.cells (flatE [⟨⟨a, d, xs⟩, B, cB⟩]).toArray 25)).grown hg11 (fun k hk => by cases hk)
              simp only [List.nil_append, Nat.zero_add] at ho11
              have hD7 := hD6.ext x11
              have hk8 := hk7.trans (KpP.of_ext x11)
              have HRN := Lib.hid (rready_none g _ _ none 0 z11 hD7.blk)
              clear s0 s1 s2 hbase be3 hD6 hk7 x11 hg11 hat11
              go_wp2_with fail
              refine HRN.out.mono ?_
              rintro e z12 ⟨rfl, x12⟩
              replace hD7 := hD7.ext x12
              replace hk8 := hk8.trans (KpP.of_ext x12)
              replace ho11 := OwnS.ext ho11 x12
              rw [← HFIN.out, HES.out] at hD7 ho11
              clear HRN
              go_wp2_with fail
              go_roundw
              case rel => exact .inr ⟨rfl, A2, cA2, C2, cC2, L2, cL2, rfl, hD7, ho11, hk8, HLAC⟩
              case measure => simp [intOf]
      · have hI : ¬ (-1 : Int) ≥ 0 := by omega
        go_wp2_with fail
        exact bodyPost_ret (v := .tuple #[.slice L 1 cL, .int .i64 0]) (by simp [results, Try.results54, go_sem]) rfl ⟨A', cA', C', cC', L, cL, rfl, hD2, hoL, hk2, hla.out⟩
end Go.Proofs.Ythhfjomjjhenkaa
