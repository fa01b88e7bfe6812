/- The reference's desk: the walks of Next and ready where at most one item is held. -/
import Derived.Test.YthhfjomjjhenkaaT1
import Derived.Test.YthhfjomjjhenkaaD8
import Derived.Test.YthhfjomjjhenkaaE7
namespace Go.Proofs.Ythhfjomjjhenkaa
open Go.RowKit
attribute [local go_sem ↓] Go.wp_at_zero Go.wp_at_succ

def cntL (l : List Int) (c : Int) : Nat := (l.filter (fun x => x == c)).length
theorem cntL_succ (l : List Int) (c : Int) (k : Nat) (h : k < l.length) : cntL (l.take (k + 1)) c = cntL (l.take k) c + if l[k] = c then 1 else 0 := by
  unfold cntL
  rw [List.take_succ_eq_append_getElem h, List.filter_append, List.length_append]
  by_cases hc : l[k] = c <;> simp [List.filter_cons, hc]
theorem cntL_le (l : List Int) (c : Int) : cntL l c ≤ l.length := List.length_filter_le _ _

set_option maxHeartbeats 2000000 in
theorem rNext_any (g : Nat) (v0 v2 : Value) (C : Option Addr) (cC : Nat) (cl : List Int) (c : Int) (w : World) (hB : Blk w g 99 #[v0, .slice C cl.length cC, v2]) (hC : IL w C cC cl) (hl : cl.length ≤ 1000000) :
    Calls Try.prog 53 #[.pointer (some ⟨g, 0, none⟩), .int .i64 c] w (RetV (.int .i64 (cntL cl c)) w) := by
  have hlen := hC.len
  have HCL := Lib.hid (cntL_le cl c)
  go_enter Try.func53, Try.ntmps53
  go_wp2_with fail
  go_loopw [5, 6] (fun v5 v6 wr => ∃ k : Nat, v6 = .int .i64 k ∧ v5 = .int .i64 (cntL (cl.take k) c) ∧ k ≤ cl.length ∧ Ext w wr) (fun _ v _ => cl.length - (intOf v).toNat)
  case atStart => exact ⟨0, rfl, by simp [cntL], Nat.zero_le _, Ext.rfl' _⟩
  case round =>
    obtain ⟨k, rfl, rfl, hk, hx⟩ := hrel
    have q1 := (hB.ext hx).c3.2.1
    have qz := (hB.ext hx).lt
    have hb1 := cntL_le (cl.take k) c
    rw [List.length_take] at hb1
    by_cases hlt : k < cl.length
    · have hI : (k : Int) < cl.length := by omega
      obtain ⟨b, o, rfl, p0⟩ := (hC.ext hx).get hlt
      have HS := Lib.hid (cntL_succ cl c k hlt)
      generalize hn : cntL (cl.take k) c = n at *
      clear hn
      generalize cl[k] = v at *
      by_cases hv : v = c
      · subst hv
        have HS2 : Hid (cntL (cl.take (k + 1)) v = n + 1) := by rw [HS.out, if_pos rfl]; exact Lib.hid rfl
        clear HS
        go_wp2_with fail
        go_roundw
        case rel => exact ⟨k + 1, by go_num, by rw [HS2.out]; go_num, by omega, hx⟩
        case measure => simp [intOf]; omega
      · have hv2 : (v == c) = false := by simpa using hv
        have HS2 : Hid (cntL (cl.take (k + 1)) c = n) := by rw [HS.out, if_neg hv]; exact Lib.hid rfl
        clear HS hv
        go_wp2_with fail
        go_roundw
        case rel => exact ⟨k + 1, by go_num, by rw [HS2.out], by omega, hx⟩
        case measure => simp [intOf]; omega
    · have hI : ¬ (k : Int) < cl.length := by omega
      have hkl : cl.take k = cl := List.take_of_length_le (by omega)
      have HK := Lib.hid hkl
      clear hkl
      go_wp2_with fail
      go_ret
      exact ⟨by rw [HK.out]; rfl, hx⟩

set_option maxHeartbeats 2000000 in
theorem rready_none (g : Nat) (v0 v1 : Value) (H : Option Addr) (cH : Nat) (w : World) (hB : Blk w g 99 #[v0, v1, .slice H 0 cH]) :
    Calls Try.prog 70 #[.pointer (some ⟨g, 0, none⟩)] w (RetV (.int .i64 (-1)) w) := by
  go_enter Try.func70, Try.ntmps70
  go_wp2_with fail
  go_loopw [3, 4] (fun v3 v4 wr => v3 = .int .i64 (-1) ∧ v4 = .int .i64 0 ∧ Ext w wr) (fun _ _ _ => 0)
  case atStart => exact ⟨rfl, rfl, Ext.rfl' _⟩
  case round =>
    obtain ⟨rfl, rfl, hx⟩ := hrel
    have q2 := (hB.ext hx).c3.2.2.1
    have qz := (hB.ext hx).lt
    go_wp2_with fail
    go_ret
    exact ⟨rfl, hx⟩

set_option maxRecDepth 100000 in
set_option maxHeartbeats 8000000 in
theorem rready_one (g gh cH n0 c0 : Nat) (A0 : Option Addr) (C : Option Addr) (cC : Nat) (cl : List Int) (x : It) (B : Option Addr) (cB : Nat) (w : World)
    (hB : Blk w g 99 #[.slice A0 n0 c0, .slice C cl.length cC, .slice (some ⟨gh, 0, none⟩) 1 cH]) (hC : IL w C cC cl) (hl : cl.length ≤ 1000000)
    (hh : ∀ k, k < 6 → w.cell? ⟨gh, k, none⟩ = (flatI [⟨x, B, cB⟩])[k]?) (hn : x.number = cntL cl x.client) (hb : x.base ≤ n0) :
    Calls Try.prog 70 #[.pointer (some ⟨g, 0, none⟩)] w (RetV (.int .i64 0) w) := by
  obtain ⟨xc, xn, xb, ⟨xa, xd, xs⟩⟩ := x
  simp only at hn hb
  have h0 := hh 0 (by omega)
  have h1 := hh 1 (by omega)
  have h2 := hh 2 (by omega)
  have h3 := hh 3 (by omega)
  have h4 := hh 4 (by omega)
  have h5 := hh 5 (by omega)
  change w.cell? ⟨gh, 0, none⟩ = some (.int .i64 xc) at h0
  change w.cell? ⟨gh, 1, none⟩ = some (.int .i64 xn) at h1
  change w.cell? ⟨gh, 2, none⟩ = some (.int .i64 xb) at h2
  change w.cell? ⟨gh, 3, none⟩ = some (.int .i64 xa) at h3
  change w.cell? ⟨gh, 4, none⟩ = some (.int .i64 xd) at h4
  change w.cell? ⟨gh, 5, none⟩ = some (.slice B xs.length cB) at h5
  have HNX := fun W' h1 h2 => Lib.hid (rNext_any g (.slice A0 n0 c0) (.slice (some ⟨gh, 0, none⟩) 1 cH) C cC cl xc W' h1 h2 hl)
  rw [← hn] at HNX
  have HN := Lib.hid hn
  clear hn hh
  go_enter Try.func70, Try.ntmps70
  go_wp2_with fail
  go_loopw [3, 4] (fun v3 v4 wr => ((v3 = .int .i64 (-1) ∧ v4 = .int .i64 0) ∨ (v3 = .int .i64 0 ∧ v4 = .int .i64 1)) ∧ Ext w wr) (fun _ v _ => 1 - (intOf v).toNat)
  case atStart => exact ⟨.inl ⟨rfl, rfl⟩, Ext.rfl' _⟩
  case round =>
    obtain ⟨hor, hx⟩ := hrel
    have hBw := hB.ext hx
    have q0 := hBw.c3.1
    have q1 := hBw.c3.2.1
    have q2 := hBw.c3.2.2.1
    have qz := hBw.lt
    rcases hor with ⟨rfl, rfl⟩ | ⟨rfl, rfl⟩
    · have g0 := hx.cell h0
      have g1 := hx.cell h1
      have g2 := hx.cell h2
      have g3 := hx.cell h3
      have g4 := hx.cell h4
      have g5 := hx.cell h5
      have bx := Blk.new wr 63 #[.int .i64 xc, .int .i64 xn, .int .i64 xb, .int .i64 xa, .int .i64 xd, .slice B xs.length cB]
      have ex := Ext.alloc wr (.cells #[.int .i64 xc, .int .i64 xn, .int .i64 xb, .int .i64 xa, .int .i64 xd, .slice B xs.length cB] 63)
      go_upto_region 6 with fail
      obtain ⟨gx, hgx⟩ : ∃ gx, gx = wr.heap.size := ⟨_, rfl⟩
      rw [← hgx] at bx ⊢
      replace hx := hx.trans ex
      generalize wr.alloc (.cells #[.int .i64 xc, .int .i64 xn, .int .i64 xb, .int .i64 xa, .int .i64 xd, .slice B xs.length cB] 63) = W at *
      clear ex hgx g0 g1 g2 g3 g4 g5 q0 q1 q2 qz hBw
      have hBW := hB.ext hx
      have q0 := hBW.c3.1
      have q2 := hBW.c3.2.2.1
      have m0 := bx.cell 0
      have m1 := bx.cell 1
      have m2 := bx.cell 2
      simp only [List.getElem?_toArray, List.getElem?_cons_succ, List.getElem?_cons_zero] at m0 m1 m2
      have k0 := fun (w' : World) (h : Kp [] W w') => h.cell q0 (by simp)
      have k2 := fun (w' : World) (h : Kp [] W w') => h.cell q2 (by simp)
      have l0 := fun (w' : World) (h : Kp [] W w') => h.cell m0 (by simp)
      have l1 := fun (w' : World) (h : Kp [] W w') => h.cell m1 (by simp)
      have l2 := fun (w' : World) (h : Kp [] W w') => h.cell m2 (by simp)
      have hb2 : ¬ xb > n0 := by omega
      refine Xr.start [] (by kernel_rfl) ?_
      (refine Xr.take 0 (some 22) (v := ?_) rfl rfl (by decide +kernel) (by rfl) ?_ ?_; rotate_left; (focus (intro w' hk; go_simp; (try with_reducible rfl); done)); (try simp only [Act.put, List.setIfInBounds_toArray, List.set_cons_zero, List.set_cons_succ]))
      (refine Xr.take 1 (some 23) (v := ?_) rfl rfl (by decide +kernel) (by rfl) ?_ ?_; rotate_left; (focus (intro w' hk; go_simp; (try with_reducible rfl); done)); (try simp only [Act.put, List.setIfInBounds_toArray, List.set_cons_zero, List.set_cons_succ]))
      (refine Xr.take 2 (some 24) (v := ?_) rfl rfl (by decide +kernel) (by rfl) ?_ ?_; rotate_left; (focus (intro w' hk; go_simp; (try with_reducible rfl); done)); (try simp only [Act.put, List.setIfInBounds_toArray, List.set_cons_zero, List.set_cons_succ]))
      (refine Xr.take 3 (some 25) (v := ?_) rfl rfl (by decide +kernel) (by rfl) ?_ ?_; rotate_left; (focus (intro w' hk; go_simp; (try with_reducible rfl); done)); (try simp only [Act.put, List.setIfInBounds_toArray, List.set_cons_zero, List.set_cons_succ]))
      (refine Xr.take 4 (some 26) (v := ?_) rfl rfl (by decide +kernel) (by rfl) ?_ ?_; rotate_left; (focus (intro w' hk; go_simp; (try with_reducible rfl); done)); (try simp only [Act.put, List.setIfInBounds_toArray, List.set_cons_zero, List.set_cons_succ]))
      refine Xr.call 5 rfl (by decide +kernel) (by rfl) (fun w2 hE2 hK2 K hKK => ?_)
      go_simp
      refine (HNX _ (hB.ext (hx.trans hE2)) (hC.ext (hx.trans hE2))).out.mono ?_
      rintro e w3 ⟨rfl, x3⟩
      refine hKK _ _ x3 ?_
      clear hKK
      (try simp only [Act.put, List.setIfInBounds_toArray, List.set_cons_zero, List.set_cons_succ])
      (refine Xr.take 6 (some 28) (v := ?_) rfl rfl (by decide +kernel) (by rfl) ?_ ?_; rotate_left; (focus (intro w' hk; go_simp; (try with_reducible rfl); done)); (try simp only [Act.put, List.setIfInBounds_toArray, List.set_cons_zero, List.set_cons_succ]))
      (refine Xr.take 7 (some 29) (v := ?_) rfl rfl (by decide +kernel) (by rfl) ?_ ?_; rotate_left; (focus (intro w' hk; go_simp; (try with_reducible rfl); done)); (try simp only [Act.put, List.setIfInBounds_toArray, List.set_cons_zero, List.set_cons_succ]))
      first | (refine Xr.take 8 (some 30) (v := ?_) rfl rfl (by decide +kernel) (by rfl) ?_ ?_; rotate_left; (focus (intro w' hk; go_simp; (try with_reducible rfl); done)); (try simp only [Act.put, List.setIfInBounds_toArray, List.set_cons_zero, List.set_cons_succ])) | (refine Xr.skip 8 (some 30) rfl rfl (by decide +kernel) (by rfl) ?_; (try simp only [Act.put, List.setIfInBounds_toArray, List.set_cons_zero, List.set_cons_succ]))
      first | (refine Xr.take 9 (some 31) (v := ?_) rfl rfl (by decide +kernel) (by rfl) ?_ ?_; rotate_left; (focus (intro w' hk; go_simp; (try with_reducible rfl); done)); (try simp only [Act.put, List.setIfInBounds_toArray, List.set_cons_zero, List.set_cons_succ])) | (refine Xr.skip 9 (some 31) rfl rfl (by decide +kernel) (by rfl) ?_; (try simp only [Act.put, List.setIfInBounds_toArray, List.set_cons_zero, List.set_cons_succ]))
      first | (refine Xr.take 10 (some 32) (v := ?_) rfl rfl (by decide +kernel) (by rfl) ?_ ?_; rotate_left; (focus (intro w' hk; go_simp; (try with_reducible rfl); done)); (try simp only [Act.put, List.setIfInBounds_toArray, List.set_cons_zero, List.set_cons_succ])) | (refine Xr.skip 10 (some 32) rfl rfl (by decide +kernel) (by rfl) ?_; (try simp only [Act.put, List.setIfInBounds_toArray, List.set_cons_zero, List.set_cons_succ]))
      first | (refine Xr.take 11 (some 33) (v := ?_) rfl rfl (by decide +kernel) (by rfl) ?_ ?_; rotate_left; (focus (intro w' hk; go_simp; (try with_reducible rfl); done)); (try simp only [Act.put, List.setIfInBounds_toArray, List.set_cons_zero, List.set_cons_succ])) | (refine Xr.skip 11 (some 33) rfl rfl (by decide +kernel) (by rfl) ?_; (try simp only [Act.put, List.setIfInBounds_toArray, List.set_cons_zero, List.set_cons_succ]))
      first | (refine Xr.take 12 (some 34) (v := ?_) rfl rfl (by decide +kernel) (by rfl) ?_ ?_; rotate_left; (focus (intro w' hk; go_simp; (try with_reducible rfl); done)); (try simp only [Act.put, List.setIfInBounds_toArray, List.set_cons_zero, List.set_cons_succ])) | (refine Xr.skip 12 (some 34) rfl rfl (by decide +kernel) (by rfl) ?_; (try simp only [Act.put, List.setIfInBounds_toArray, List.set_cons_zero, List.set_cons_succ]))
      first | (refine Xr.take 13 (some 35) (v := ?_) rfl rfl (by decide +kernel) (by rfl) ?_ ?_; rotate_left; (focus (intro w' hk; go_simp; (try with_reducible rfl); done)); (try simp only [Act.put, List.setIfInBounds_toArray, List.set_cons_zero, List.set_cons_succ])) | (refine Xr.skip 13 (some 35) rfl rfl (by decide +kernel) (by rfl) ?_; (try simp only [Act.put, List.setIfInBounds_toArray, List.set_cons_zero, List.set_cons_succ]))
      first | (refine Xr.take 14 (some 36) (v := ?_) rfl rfl (by decide +kernel) (by rfl) ?_ ?_; rotate_left; (focus (intro w' hk; go_simp; (try with_reducible rfl); done)); (try simp only [Act.put, List.setIfInBounds_toArray, List.set_cons_zero, List.set_cons_succ])) | (refine Xr.skip 14 (some 36) rfl rfl (by decide +kernel) (by rfl) ?_; (try simp only [Act.put, List.setIfInBounds_toArray, List.set_cons_zero, List.set_cons_succ]))
      first | (refine Xr.take 15 (some 37) (v := ?_) rfl rfl (by decide +kernel) (by rfl) ?_ ?_; rotate_left; (focus (intro w' hk; go_simp; (try with_reducible rfl); done)); (try simp only [Act.put, List.setIfInBounds_toArray, List.set_cons_zero, List.set_cons_succ])) | (refine Xr.skip 15 (some 37) rfl rfl (by decide +kernel) (by rfl) ?_; (try simp only [Act.put, List.setIfInBounds_toArray, List.set_cons_zero, List.set_cons_succ]))
      (refine Xr.take 16 (some 38) (v := ?_) rfl rfl (by decide +kernel) (by rfl) ?_ ?_; rotate_left; (focus (intro w' hk; go_simp; (try with_reducible rfl); done)); (try simp only [Act.put, List.setIfInBounds_toArray, List.set_cons_zero, List.set_cons_succ]))
      refine Xr.done (by decide +kernel) (fun w4 hE4 hK4 => ?_)
      have x4 := hx.trans hK4.nil
      clear k0 k2 l0 l1 l2 m0 m1 m2 q0 q2 hE2 hK2 hE4 hK4 x3
      go_upto_region 7 with fail
      refine Xr.start [] (by kernel_rfl) ?_
      (refine Xr.take 0 (some 39) (v := ?_) rfl rfl (by decide +kernel) (by rfl) ?_ ?_; rotate_left; (focus (intro w' hk; go_simp; (try with_reducible rfl); done)); (try simp only [Act.put, List.setIfInBounds_toArray, List.set_cons_zero, List.set_cons_succ]))
      (refine Xr.take 1 (some 40) (v := ?_) rfl rfl (by decide +kernel) (by rfl) ?_ ?_; rotate_left; (focus (intro w' hk; go_simp; (try with_reducible rfl); done)); (try simp only [Act.put, List.setIfInBounds_toArray, List.set_cons_zero, List.set_cons_succ]))
      (refine Xr.take 2 (some 41) (v := ?_) rfl rfl (by decide +kernel) (by rfl) ?_ ?_; rotate_left; (focus (intro w' hk; go_simp; (try with_reducible rfl); done)); (try simp only [Act.put, List.setIfInBounds_toArray, List.set_cons_zero, List.set_cons_succ]))
      first | (refine Xr.take 3 (some 42) (v := ?_) rfl rfl (by decide +kernel) (by rfl) ?_ ?_; rotate_left; (focus (intro w' hk; go_simp; (try with_reducible rfl); done)); (try simp only [Act.put, List.setIfInBounds_toArray, List.set_cons_zero, List.set_cons_succ])) | (refine Xr.skip 3 (some 42) rfl rfl (by decide +kernel) (by rfl) ?_; (try simp only [Act.put, List.setIfInBounds_toArray, List.set_cons_zero, List.set_cons_succ]))
      first | (refine Xr.take 4 (some 43) (v := ?_) rfl rfl (by decide +kernel) (by rfl) ?_ ?_; rotate_left; (focus (intro w' hk; go_simp; (try with_reducible rfl); done)); (try simp only [Act.put, List.setIfInBounds_toArray, List.set_cons_zero, List.set_cons_succ])) | (refine Xr.skip 4 (some 43) rfl rfl (by decide +kernel) (by rfl) ?_; (try simp only [Act.put, List.setIfInBounds_toArray, List.set_cons_zero, List.set_cons_succ]))
      first | (refine Xr.take 5 (some 44) (v := ?_) rfl rfl (by decide +kernel) (by rfl) ?_ ?_; rotate_left; (focus (intro w' hk; go_simp; (try with_reducible rfl); done)); (try simp only [Act.put, List.setIfInBounds_toArray, List.set_cons_zero, List.set_cons_succ])) | (refine Xr.skip 5 (some 44) rfl rfl (by decide +kernel) (by rfl) ?_; (try simp only [Act.put, List.setIfInBounds_toArray, List.set_cons_zero, List.set_cons_succ]))
      first | (refine Xr.take 6 (some 45) (v := ?_) rfl rfl (by decide +kernel) (by rfl) ?_ ?_; rotate_left; (focus (intro w' hk; go_simp; (try with_reducible rfl); done)); (try simp only [Act.put, List.setIfInBounds_toArray, List.set_cons_zero, List.set_cons_succ])) | (refine Xr.skip 6 (some 45) rfl rfl (by decide +kernel) (by rfl) ?_; (try simp only [Act.put, List.setIfInBounds_toArray, List.set_cons_zero, List.set_cons_succ]))
      first | (refine Xr.take 7 (some 46) (v := ?_) rfl rfl (by decide +kernel) (by rfl) ?_ ?_; rotate_left; (focus (intro w' hk; go_simp; (try with_reducible rfl); done)); (try simp only [Act.put, List.setIfInBounds_toArray, List.set_cons_zero, List.set_cons_succ])) | (refine Xr.skip 7 (some 46) rfl rfl (by decide +kernel) (by rfl) ?_; (try simp only [Act.put, List.setIfInBounds_toArray, List.set_cons_zero, List.set_cons_succ]))
      first | (refine Xr.take 8 (some 47) (v := ?_) rfl rfl (by decide +kernel) (by rfl) ?_ ?_; rotate_left; (focus (intro w' hk; go_simp; (try with_reducible rfl); done)); (try simp only [Act.put, List.setIfInBounds_toArray, List.set_cons_zero, List.set_cons_succ])) | (refine Xr.skip 8 (some 47) rfl rfl (by decide +kernel) (by rfl) ?_; (try simp only [Act.put, List.setIfInBounds_toArray, List.set_cons_zero, List.set_cons_succ]))
      first | (refine Xr.take 9 (some 48) (v := ?_) rfl rfl (by decide +kernel) (by rfl) ?_ ?_; rotate_left; (focus (intro w' hk; go_simp; (try with_reducible rfl); done)); (try simp only [Act.put, List.setIfInBounds_toArray, List.set_cons_zero, List.set_cons_succ])) | (refine Xr.skip 9 (some 48) rfl rfl (by decide +kernel) (by rfl) ?_; (try simp only [Act.put, List.setIfInBounds_toArray, List.set_cons_zero, List.set_cons_succ]))
      first | (refine Xr.take 10 (some 49) (v := ?_) rfl rfl (by decide +kernel) (by rfl) ?_ ?_; rotate_left; (focus (intro w' hk; go_simp; (try with_reducible rfl); done)); (try simp only [Act.put, List.setIfInBounds_toArray, List.set_cons_zero, List.set_cons_succ])) | (refine Xr.skip 10 (some 49) rfl rfl (by decide +kernel) (by rfl) ?_; (try simp only [Act.put, List.setIfInBounds_toArray, List.set_cons_zero, List.set_cons_succ]))
      first | (refine Xr.take 11 (some 50) (v := ?_) rfl rfl (by decide +kernel) (by rfl) ?_ ?_; rotate_left; (focus (intro w' hk; go_simp; (try with_reducible rfl); done)); (try simp only [Act.put, List.setIfInBounds_toArray, List.set_cons_zero, List.set_cons_succ])) | (refine Xr.skip 11 (some 50) rfl rfl (by decide +kernel) (by rfl) ?_; (try simp only [Act.put, List.setIfInBounds_toArray, List.set_cons_zero, List.set_cons_succ]))
      first | (refine Xr.take 12 (some 51) (v := ?_) rfl rfl (by decide +kernel) (by rfl) ?_ ?_; rotate_left; (focus (intro w' hk; go_simp; (try with_reducible rfl); done)); (try simp only [Act.put, List.setIfInBounds_toArray, List.set_cons_zero, List.set_cons_succ])) | (refine Xr.skip 12 (some 51) rfl rfl (by decide +kernel) (by rfl) ?_; (try simp only [Act.put, List.setIfInBounds_toArray, List.set_cons_zero, List.set_cons_succ]))
      first | (refine Xr.take 13 (some 52) (v := ?_) rfl rfl (by decide +kernel) (by rfl) ?_ ?_; rotate_left; (focus (intro w' hk; go_simp; (try with_reducible rfl); done)); (try simp only [Act.put, List.setIfInBounds_toArray, List.set_cons_zero, List.set_cons_succ])) | (refine Xr.skip 13 (some 52) rfl rfl (by decide +kernel) (by rfl) ?_; (try simp only [Act.put, List.setIfInBounds_toArray, List.set_cons_zero, List.set_cons_succ]))
      (refine Xr.take 14 (some 53) (v := ?_) rfl rfl (by decide +kernel) (by rfl) ?_ ?_; rotate_left; (focus (intro w' hk; go_simp; (try with_reducible rfl); done)); (try simp only [Act.put, List.setIfInBounds_toArray, List.set_cons_zero, List.set_cons_succ]))
      refine Xr.done (by decide +kernel) (fun w5 hE5 hK5 => ?_)
      have x5 := x4.trans hK5.nil
      clear hE5 hK5
      go_wp2_with fail
      go_roundw
      case rel => exact ⟨.inr ⟨rfl, by go_num⟩, x5⟩
      case measure => simp [intOf]
    · go_wp2_with fail
      go_ret
      exact ⟨rfl, hx⟩
end Go.Proofs.Ythhfjomjjhenkaa
