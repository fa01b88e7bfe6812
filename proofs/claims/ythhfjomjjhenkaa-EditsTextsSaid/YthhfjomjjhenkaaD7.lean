/- Lists of edits in memory; the walk of the reference's SameEdits on two lists of the same edits. -/
import Derived.Test.YthhfjomjjhenkaaD4
import Derived.Test.YthhfjomjjhenkaaE13
namespace Go.Proofs.Ythhfjomjjhenkaa
open Go.RowKit
attribute [local go_sem ↓] Go.wp_at_zero Go.wp_at_succ

/-- a slice of edits: three cells each -/
def EsAt (w : World) (A : Option Addr) (l : List Ed) : Prop :=
  ∀ i (h : i < l.length), ∃ b o X c, A = some ⟨b, o, none⟩ ∧ w.cell? ⟨b, o + i * 3, none⟩ = some (.int .i64 l[i].at_) ∧ w.cell? ⟨b, o + i * 3 + 1, none⟩ = some (.int .i64 l[i].del) ∧
    w.cell? ⟨b, o + i * 3 + 2, none⟩ = some (.slice X l[i].ins.length c) ∧ IL w X c l[i].ins
theorem EsAt.ext {w w' : World} {A : Option Addr} {l : List Ed} (h : EsAt w A l) (k : Ext w w') : EsAt w' A l := fun i hi => by
  obtain ⟨b, o, X, c, h0, h1, h2, h3, h4⟩ := h i hi
  exact ⟨b, o, X, c, h0, k.cell h1, k.cell h2, k.cell h3, h4.ext k⟩
theorem flatE_get (l : List Oe) (i : Nat) (h : i < l.length) : (flatE l)[i * 3]? = some (.int .i64 l[i].e.at_) ∧ (flatE l)[i * 3 + 1]? = some (.int .i64 l[i].e.del) ∧ (flatE l)[i * 3 + 2]? = some (.slice l[i].A l[i].e.ins.length l[i].c) := by
  induction l generalizing i with
  | nil => simp at h
  | cons y l ih =>
    cases i with
    | zero => simp [flatE]
    | succ i =>
      have hi : i < l.length := by simpa using h
      have e : flatE (y :: l) = .int .i64 y.e.at_ :: .int .i64 y.e.del :: .slice y.A y.e.ins.length y.c :: flatE l := by simp [flatE]
      have e1 : (i + 1) * 3 = i * 3 + 3 := by omega
      rw [e, e1]
      exact ih i hi
theorem EsAt.of_own {w : World} {base c : Nat} {A : Option Addr} {l : List Oe} (h : OwnS w base 25 3 A l.length c (flatE l)) (hi : ∀ o ∈ l, IL w o.A o.c o.e.ins) : EsAt w A (l.map (·.e)) := by
  intro i hl
  have hl' : i < l.length := by simpa using hl
  obtain ⟨b, o, rfl, hcell⟩ := OwnS.cells h (by intro e; have := flatE_len l; rw [e] at this; simp at this; omega)
  obtain ⟨h1, h2, h3⟩ := flatE_get l i hl'
  obtain ⟨l1, e1⟩ := List.getElem?_eq_some_iff.1 h1
  obtain ⟨l2, e2⟩ := List.getElem?_eq_some_iff.1 h2
  obtain ⟨l3, e3⟩ := List.getElem?_eq_some_iff.1 h3
  have q1 := hcell _ l1
  have q2 := hcell _ l2
  have q3 := hcell _ l3
  rw [e1] at q1
  rw [e2] at q2
  rw [e3] at q3
  refine ⟨b, o, l[i].A, l[i].c, rfl, ?_, ?_, ?_, ?_⟩
  · simpa using q1
  · rw [Nat.add_assoc]; simpa using q2
  · rw [Nat.add_assoc]; simpa using q3
  · simpa using hi l[i] (List.getElem_mem hl')

set_option maxHeartbeats 2000000 in
theorem sameEdits_yes (A B : Option Addr) (c c' : Nat) (l : List Ed) (w : World) (hA : EsAt w A l) (hB : EsAt w B l) (hl : l.length ≤ 1000000000) :
    Calls Try.prog 21 #[.slice A l.length c, .slice B l.length c'] w (RetV (.bool true) w) := by
  have hlI : (l.length : Int) ≤ 1000000000 := by omega
  go_enter Try.func21, Try.ntmps21
  go_wp2_with fail
  go_loopw [5] (fun i wr => ∃ k : Nat, k ≤ l.length ∧ i = .int .i64 k ∧ Ext w wr) (fun i _ => l.length - (intOf i).toNat)
  case atStart => exact ⟨0, Nat.zero_le _, rfl, Ext.rfl' _⟩
  case round =>
    obtain ⟨k, hk, rfl, hext⟩ := hrel
    by_cases hlt : k < l.length
    · obtain ⟨b1, o1, X1, c1, rfl, p0, p1, p2, i1⟩ := (hA.ext hext) k hlt
      obtain ⟨b2, o2, X2, c2, rfl, q0, q1, q2, i2⟩ := (hB.ext hext) k hlt
      generalize l[k] = e at *
      have hlt2 : (k : Int) < l.length := by omega
      have kp0 := fun (w' : World) (h : Kp [] wr w') => h.cell p0 (by simp)
      have kp1 := fun (w' : World) (h : Kp [] wr w') => h.cell p1 (by simp)
      have kp2 := fun (w' : World) (h : Kp [] wr w') => h.cell p2 (by simp)
      have kq0 := fun (w' : World) (h : Kp [] wr w') => h.cell q0 (by simp)
      have kq1 := fun (w' : World) (h : Kp [] wr w') => h.cell q1 (by simp)
      have kq2 := fun (w' : World) (h : Kp [] wr w') => h.cell q2 (by simp)
      go_wp2_with fail
      refine Xr.start [] (by kernel_rfl) ?_
      repeat (first | (refine Xr.take 0 (some 17) (v := ?_) rfl rfl (by decide +kernel) (by rfl) ?_ ?_; rotate_left; (focus (intro w' hk; go_simp; (try with_reducible rfl); done)); (try simp only [Act.put, List.setIfInBounds_toArray, List.set_cons_zero, List.set_cons_succ])) | (refine Xr.take 1 (some 18) (v := ?_) rfl rfl (by decide +kernel) (by rfl) ?_ ?_; rotate_left; (focus (intro w' hk; go_simp; (try with_reducible rfl); done)); (try simp only [Act.put, List.setIfInBounds_toArray, List.set_cons_zero, List.set_cons_succ])) | (refine Xr.take 2 (some 19) (v := ?_) rfl rfl (by decide +kernel) (by rfl) ?_ ?_; rotate_left; (focus (intro w' hk; go_simp; (try with_reducible rfl); done)); (try simp only [Act.put, List.setIfInBounds_toArray, List.set_cons_zero, List.set_cons_succ])) | (refine Xr.take 3 (some 20) (v := ?_) rfl rfl (by decide +kernel) (by rfl) ?_ ?_; rotate_left; (focus (intro w' hk; go_simp; (try with_reducible rfl); done)); (try simp only [Act.put, List.setIfInBounds_toArray, List.set_cons_zero, List.set_cons_succ])) | (refine Xr.take 4 (some 21) (v := ?_) rfl rfl (by decide +kernel) (by rfl) ?_ ?_; rotate_left; (focus (intro w' hk; go_simp; (try with_reducible rfl); done)); (try simp only [Act.put, List.setIfInBounds_toArray, List.set_cons_zero, List.set_cons_succ])) | (refine Xr.take 5 (some 22) (v := ?_) rfl rfl (by decide +kernel) (by rfl) ?_ ?_; rotate_left; (focus (intro w' hk; go_simp; (try with_reducible rfl); done)); (try simp only [Act.put, List.setIfInBounds_toArray, List.set_cons_zero, List.set_cons_succ])) | (refine Xr.take 6 (some 23) (v := ?_) rfl rfl (by decide +kernel) (by rfl) ?_ ?_; rotate_left; (focus (intro w' hk; go_simp; (try with_reducible rfl); done)); (try simp only [Act.put, List.setIfInBounds_toArray, List.set_cons_zero, List.set_cons_succ])) | (refine Xr.take 7 (some 24) (v := ?_) rfl rfl (by decide +kernel) (by rfl) ?_ ?_; rotate_left; (focus (intro w' hk; go_simp; (try with_reducible rfl); done)); (try simp only [Act.put, List.setIfInBounds_toArray, List.set_cons_zero, List.set_cons_succ])) | (refine Xr.take 9 (some 26) (v := ?_) rfl rfl (by decide +kernel) (by rfl) ?_ ?_; rotate_left; (focus (intro w' hk; go_simp; (try with_reducible rfl); done)); (try simp only [Act.put, List.setIfInBounds_toArray, List.set_cons_zero, List.set_cons_succ])))
      refine Xr.call 8 rfl (by decide +kernel) (by rfl) (fun w2 hE2 hK2 K hKK => ?_)
      go_simp
      refine (sameEdit_any _ _ _ _ _ _ _ _ _ _ _ (i1.ext hE2) (i2.ext hE2)).mono ?_
      rw [decide_eq_true (show _ by exact ⟨rfl, rfl, rfl⟩)]
      rintro e w3 ⟨rfl, hx3⟩
      refine hKK _ _ hx3 ?_
      clear hKK
      (try simp only [Act.put, List.setIfInBounds_toArray, List.set_cons_zero, List.set_cons_succ])
      repeat (first | (refine Xr.take 0 (some 17) (v := ?_) rfl rfl (by decide +kernel) (by rfl) ?_ ?_; rotate_left; (focus (intro w' hk; go_simp; (try with_reducible rfl); done)); (try simp only [Act.put, List.setIfInBounds_toArray, List.set_cons_zero, List.set_cons_succ])) | (refine Xr.take 1 (some 18) (v := ?_) rfl rfl (by decide +kernel) (by rfl) ?_ ?_; rotate_left; (focus (intro w' hk; go_simp; (try with_reducible rfl); done)); (try simp only [Act.put, List.setIfInBounds_toArray, List.set_cons_zero, List.set_cons_succ])) | (refine Xr.take 2 (some 19) (v := ?_) rfl rfl (by decide +kernel) (by rfl) ?_ ?_; rotate_left; (focus (intro w' hk; go_simp; (try with_reducible rfl); done)); (try simp only [Act.put, List.setIfInBounds_toArray, List.set_cons_zero, List.set_cons_succ])) | (refine Xr.take 3 (some 20) (v := ?_) rfl rfl (by decide +kernel) (by rfl) ?_ ?_; rotate_left; (focus (intro w' hk; go_simp; (try with_reducible rfl); done)); (try simp only [Act.put, List.setIfInBounds_toArray, List.set_cons_zero, List.set_cons_succ])) | (refine Xr.take 4 (some 21) (v := ?_) rfl rfl (by decide +kernel) (by rfl) ?_ ?_; rotate_left; (focus (intro w' hk; go_simp; (try with_reducible rfl); done)); (try simp only [Act.put, List.setIfInBounds_toArray, List.set_cons_zero, List.set_cons_succ])) | (refine Xr.take 5 (some 22) (v := ?_) rfl rfl (by decide +kernel) (by rfl) ?_ ?_; rotate_left; (focus (intro w' hk; go_simp; (try with_reducible rfl); done)); (try simp only [Act.put, List.setIfInBounds_toArray, List.set_cons_zero, List.set_cons_succ])) | (refine Xr.take 6 (some 23) (v := ?_) rfl rfl (by decide +kernel) (by rfl) ?_ ?_; rotate_left; (focus (intro w' hk; go_simp; (try with_reducible rfl); done)); (try simp only [Act.put, List.setIfInBounds_toArray, List.set_cons_zero, List.set_cons_succ])) | (refine Xr.take 7 (some 24) (v := ?_) rfl rfl (by decide +kernel) (by rfl) ?_ ?_; rotate_left; (focus (intro w' hk; go_simp; (try with_reducible rfl); done)); (try simp only [Act.put, List.setIfInBounds_toArray, List.set_cons_zero, List.set_cons_succ])) | (refine Xr.take 9 (some 26) (v := ?_) rfl rfl (by decide +kernel) (by rfl) ?_ ?_; rotate_left; (focus (intro w' hk; go_simp; (try with_reducible rfl); done)); (try simp only [Act.put, List.setIfInBounds_toArray, List.set_cons_zero, List.set_cons_succ])))
      refine Xr.done (by decide +kernel) (fun w4 hE4 hK4 => ?_)
      have X4 := hK4.nil
      clear kp0 kp1 kp2 kq0 kq1 kq2 p0 p1 p2 q0 q1 q2
      go_wp2_with fail
      go_roundw
      case rel => exact ⟨k + 1, by omega, by go_num, hext.trans X4⟩
      case measure => simp [intOf]; omega
    · have hn : ¬ (k : Int) < l.length := by omega
      go_wp2_with fail
      go_ret
      exact ⟨rfl, hext⟩
end Go.Proofs.Ythhfjomjjhenkaa
