/- The reference's encoders: the walks of Uint, Zigzag, Int, Ints. -/
import Derived.Test.YthhfjomjjhenkaaW3
namespace Go.Proofs.Ythhfjomjjhenkaa
open Go.RowKit
attribute [local go_sem ↓] Go.wp_at_zero Go.wp_at_succ

/-- a new slice of bytes -/
def RetOB (bs : List Int) (w : World) (e : Ending) (w' : World) : Prop := ∃ B c, e = .returned (.slice B bs.length c) ∧ OwnB w' w.heap.size B c bs ∧ Ext w w'

set_option maxRecDepth 100000 in
set_option maxHeartbeats 4000000 in
theorem r2Uint_any (n : Nat) (w : World) (hn : n < 18446744073709551616) : Calls Try.prog 71 #[.int .u64 n] w (RetOB (venc n) w) := by
  obtain ⟨iB, jB0, jB1, jB2, jB3⟩ := info_parts infoB
  have hv10 := venc_len10 hn
  go_enter Try.func71, Try.ntmps71
  go_wp2_with fail
  go_loopw [0, 3] (fun v0 v3 wr => ∃ (m : Nat) (pre : List Int) (A1 : Option Addr) (c1 : Nat), v0 = .int .u64 m ∧ v3 = .slice A1 pre.length c1 ∧ m < 18446744073709551616 ∧ Hid (venc n = pre ++ venc m) ∧ OwnB wr w.heap.size A1 c1 pre ∧ Ext w wr) (fun v _ _ => (intOf v).toNat)
  case atStart => exact ⟨n, [], none, 0, rfl, rfl, hn, rfl, OwnS.nil _ _ _ _, Ext.rfl' _⟩
  case round =>
    obtain ⟨m, pre, A1, c1, rfl, rfl, hm, he, ho, hx⟩ := hrel
    have hpl : pre.length ≤ 1099511627776 := by
      have := congrArg List.length he.out
      simp only [List.length_append] at *; omega
    have hsz := hx.size
    by_cases hlt : m < 128
    · have hI : ¬ (m : Int) > 127 := by omega
      have hcv := u8_low m
      have hcv2 : m % 256 = m := by omega
      rw [hcv2] at hcv
      clear hcv2
      go_wp2_with ((at_builtin; refine wpList_app1V rfl _ _ _ rfl 5 iB _ 1 Try.underlying64 jB0 jB1 jB2 jB3 (by omega) rfl w.heap.size (.int .u8 m) rfl rfl A1 pre.length c1 _ rfl ho rfl hpl hsz ?_; intro A2 c2 w2 ho2 hg2 hat2))
      have hE : Hid (venc n = pre ++ [(m : Int)]) := by rw [he.out, venc_small hlt]; exact Lib.hid rfl
      go_ret
      rw [hE.out]
      refine ⟨A2, c2, by simp, ?_, hx.app ho hg2⟩
      unfold OwnB
      rw [List.length_append, List.map_append]; exact ho2
    · have hI : (m : Int) > 127 := by omega
      have HV := Lib.hid (show (128 : Int) + (m : Int) % 128 = ((m % 128 + 128 : Nat) : Int) by omega)
      go_wp2_with ((at_builtin; refine wpList_app1V rfl _ _ _ rfl 5 iB _ 1 Try.underlying64 jB0 jB1 jB2 jB3 (by omega) rfl w.heap.size (.int .u8 (128 + (m : Int) % 128)) rfl rfl A1 pre.length c1 _ rfl ho rfl hpl hsz ?_; intro A2 c2 w2 ho2 hg2 hat2))
      rw [HV.out] at ho2
      have hE : Hid (venc n = (pre ++ [((m % 128 + 128 : Nat) : Int)]) ++ venc (m / 128)) := by rw [he.out, venc_big hlt]; exact Lib.hid (by simp)
      have HP : OwnB w2 w.heap.size A2 c2 (pre ++ [((m % 128 + 128 : Nat) : Int)]) := by
        unfold OwnB
        rw [List.length_append, List.map_append]; exact ho2
      have hx2 := hx.app ho hg2
      go_roundw
      case rel => exact ⟨m / 128, pre ++ [((m % 128 + 128 : Nat) : Int)], A2, c2, by go_num, by simp, by omega, hE, HP, hx2⟩
      case measure => simp [intOf]; omega

theorem r2Zig_any (x : Int) (w : World) (hx : I64 x) : Calls Try.prog 72 #[.int .i64 x] w (RetQ (.int .u64 (Lib.zigzag x)) w) := by
  obtain ⟨h1, h2⟩ := hx
  by_cases h0 : x < 0
  · have HV := Lib.hid (show (2 : Int) * -(x + 1) + 1 = ((Lib.zigzag x : Nat) : Int) by unfold Lib.zigzag; rw [if_neg (by omega)]; omega)
    go_enter Try.func72, Try.ntmps72
    go_wp2_with fail
    go_ret
    exact ⟨by rw [← HV.out]; rfl, 0, rfl⟩
  · have HV := Lib.hid (show (2 : Int) * x = ((Lib.zigzag x : Nat) : Int) by unfold Lib.zigzag; rw [if_pos (by omega)]; omega)
    go_enter Try.func72, Try.ntmps72
    go_wp2_with fail
    go_ret
    exact ⟨by rw [← HV.out]; rfl, 0, rfl⟩

theorem r2Int_any (x : Int) (w : World) (hx : I64 x) : Calls Try.prog 58 #[.int .i64 x] w (RetOB (ienc x) w) := by
  have HZ := Lib.hid (r2Zig_any x w hx)
  have HU := fun W' => Lib.hid (r2Uint_any (Lib.zigzag x) W' (Lib.zigzag_lt hx.1 hx.2))
  have HE : Hid (ienc x = venc (Lib.zigzag x)) := Lib.hid rfl
  rw [← HE.out] at HU
  clear HE
  go_enter Try.func58, Try.ntmps58
  go_wp2_with fail
  refine HZ.out.mono ?_
  rintro e w1 ⟨rfl, n, rfl⟩
  go_wp2_with fail
  refine (HU _).out.mono ?_
  rintro e w2 ⟨B, c, rfl, h1, h2⟩
  go_wp2_with fail
  go_ret
  exact ⟨B, c, rfl, h1, (Ext.drewN w n).trans h2⟩

set_option maxRecDepth 100000 in
set_option maxHeartbeats 4000000 in
theorem r2Ints_any (l : List Int) (B : Option Addr) (cB : Nat) (w : World) (hL : IL w B cB l) (hll : l.length ≤ 17179869184) : Calls Try.prog 59 #[.slice B l.length cB] w (RetOB (lenc l) w) := by
  obtain ⟨iB, jB0, jB1, jB2, jB3⟩ := info_parts infoB
  have HU := Lib.hid (r2Uint_any l.length w (by omega))
  have hv10 := venc_len10 (n := l.length) (by omega)
  have hrng := hL.rng
  have hlen := hL.len
  have hcv : IntKind.u64.wrap (l.length : Int) = (l.length : Int) := by rw [IntKind.wrap_u64]; omega
  go_enter Try.func59, Try.ntmps59
  go_wp2_with fail
  refine HU.out.mono ?_
  rintro e w1 ⟨A, c, rfl, hO, hx⟩
  have HC := Lib.hid (show venc l.length = venc l.length ++ iencs (l.take 0) by simp [iencs])
  obtain ⟨v0, hv0⟩ : ∃ v0, v0 = venc l.length := ⟨_, rfl⟩
  have HV0 := Lib.hid hv0
  rw [← hv0] at hO hv10 ⊢
  clear HU hv0
  go_wp2_with fail
  go_loopw [3, 4] (fun v3 v4 wr => ∃ (j : Nat) (A1 : Option Addr) (c1 : Nat) (cur : List Int), v3 = .slice A1 cur.length c1 ∧ v4 = .int .i64 j ∧ j ≤ l.length ∧ Hid (cur = v0 ++ iencs (l.take j)) ∧ OwnB wr w.heap.size A1 c1 cur ∧ Ext w wr) (fun _ v _ => l.length - (intOf v).toNat)
  case atStart => exact ⟨0, A, c, v0, rfl, rfl, Nat.zero_le _, (show _ = _ by simp [iencs]), hO, hx⟩
  case round =>
    clear hO hx
    obtain ⟨j, A1, c1, cur, rfl, rfl, hj, hcur, ho, hx⟩ := hrel
    by_cases hlt : j < l.length
    · have hI : (j : Int) < l.length := by omega
      obtain ⟨b, o, rfl, p0⟩ := (hL.ext hx).get hlt
      have r0 := hrng _ (List.getElem_mem hlt)
      have HT : Hid (cur ++ ienc l[j] = v0 ++ iencs (l.take (j + 1))) := by
        show _ = _
        rw [hcur.out, List.take_succ_eq_append_getElem hlt, iencs_append]; simp [iencs]
      have hcl : cur.length ≤ 549755813888 := by
        have h1 := iencs_len10 (l := l.take j) (fun x hx => hrng x (List.mem_of_mem_take hx))
        rw [hcur.out]
        simp only [List.length_append, List.length_take] at *
        omega
      generalize l[j] = x at *
      have HI := fun W' => Lib.hid (r2Int_any x W' r0)
      have hys := ienc_len10 r0
      have hyu := ienc_u8 x
      generalize ienc x = ys at *
      have HN : Hid (j + 1 ≤ l.length ∧ l.length - (j + 1) < l.length - j) := ⟨by omega, by omega⟩
      have HB8 := Lib.hid (show cur.length + ys.length ≤ maxLen ∧ (cur.length + ys.length) * 1 ≤ 140737488355328 by unfold maxLen; omega)
      go_wp2_with fail
      refine (HI _).out.mono ?_
      rintro e w3 ⟨D, cD, rfl, hD, hx3⟩
      have hcells := (BL.of_own hD hyu).cells
      have ho3 := OwnS.ext ho hx3
      have hx3' := hx.trans hx3
      have hbase := hx3'.size
      clear hys hcl
      go_wp2_with ((at_builtin; refine wpList_app _ rfl _ _ _ rfl w.heap.size 5 iB _ 1 1 Try.underlying64 jB0 jB1 jB2 jB3 rfl (by omega) A1 cur.length c1 (cur.map (Value.int .u8)) rfl ho3 D ys.length cD (ys.map (Value.int .u8)) rfl (by simp) hcells (bytes_one _) HB8.out.1 HB8.out.2 hbase ?_; intro A4 c4 w4 ho4 hg4 hat4))
      have HP : OwnB w4 w.heap.size A4 c4 (cur ++ ys) := by
        unfold OwnB
        rw [List.length_append, List.map_append]; exact ho4
      have hx4 := hx3'.app ho3 hg4
      have HLL := Lib.hid (show cur.length + ys.length = (cur ++ ys).length by simp)
      go_roundw
      case rel => exact ⟨j + 1, A4, c4, cur ++ ys, by rw [HLL.out], by go_num, HN.out.1, HT, HP, hx4⟩
      case measure => simp [intOf]; omega
    · have hI : ¬ (j : Int) < l.length := by omega
      have hjl : j = l.length := by omega
      have HF : Hid (lenc l = cur) := by
        show _ = _
        rw [hcur.out, HV0.out, hjl, List.take_length]; rfl
      go_wp2_with fail
      go_ret
      rw [HF.out]
      exact ⟨A1, c1, rfl, ho, hx⟩

end Go.Proofs.Ythhfjomjjhenkaa
