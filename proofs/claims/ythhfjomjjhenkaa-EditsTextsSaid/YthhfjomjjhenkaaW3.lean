/- Package wire's Writer: the walks of Uint, Int, Ints, Raw, Done. -/
import Derived.Test.YthhfjomjjhenkaaW2
namespace Go.Proofs.Ythhfjomjjhenkaa
open Go.RowKit
attribute [local go_sem ↓] Go.wp_at_zero Go.wp_at_succ

theorem u8_low (m : Nat) : IntKind.u8.wrap (m : Int) = ((m % 256 : Nat) : Int) := by rw [IntKind.wrap_u8']; omega
theorem u8_or128 (m : Nat) : Go.bits .or .u8 ((m : Int) % 256) 128 = ((m % 128 + 128 : Nat) : Int) := by
  rw [Lib.u8_or128_any _ (by omega) (by omega)]; omega

set_option maxRecDepth 100000 in
set_option maxHeartbeats 4000000 in
theorem wUint_any (n : Nat) (base g : Nat) (A : Option Addr) (c : Nat) (bs : List Int) (w : World) (hn : n < 18446744073709551616) (hW : WrAt w base g A c bs) (hl : bs.length ≤ 549755813888) :
    Calls Try.prog 57 #[.pointer (some ⟨g, 0, none⟩), .int .u64 n] w (RetWr base g A bs (venc n) w) := by
  obtain ⟨iB, jB0, jB1, jB2, jB3⟩ := info_parts infoB
  have hv10 := venc_len10 hn
  go_enter Try.func57, Try.ntmps57
  go_wp2_with fail
  go_loopw [1] (fun v1 wr => ∃ (m : Nat) (pre : List Int) (A1 : Option Addr) (c1 : Nat), v1 = .int .u64 m ∧ m < 18446744073709551616 ∧ Hid (venc n = pre ++ venc m) ∧ WrAt wr base g A1 c1 (bs ++ pre) ∧ Hid (KpP (wrB g A) w wr ∧ ∀ b, A1.map (·.block) = some b → A.map (·.block) = some b ∨ w.heap.size ≤ b)) (fun v _ => (intOf v).toNat)
  case atStart => exact ⟨n, [], A, c, rfl, hn, rfl, by rw [List.append_nil]; exact hW, KpP.refl _ _, fun b hb => .inl hb⟩
  case round =>
    clear hW
    obtain ⟨m, pre, A1, c1, rfl, hm, he, hW, hk⟩ := hrel
    have hpl : (bs ++ pre).length ≤ 1099511627776 := by
      have := congrArg List.length he.out
      simp only [List.length_append] at *; omega
    have HPL := Lib.hid hpl
    clear hpl
    have HWO := fun (new : List Int) (w2 : World) (hnew : venc n = pre ++ new) (h : WrOut base g A1 (bs ++ pre) new wr w2) => WrOut.trans hW hk.out.1 hk.out.2 h
    have HWP := fun (A2 : Option Addr) (c2 : Nat) (w2 : World) (new : List Int) (hn : ∀ b ∈ new, U8 b) (hg : wr.grownBy w2 (A1.map (·.block))) (ho : OwnS w2 base 5 1 A2 ((bs ++ pre).length + new.length) c2 ((bs ++ pre).map (Value.int .u8) ++ new.map (Value.int .u8)))
      (hat : A2.map (·.block) = A1.map (·.block) ∨ (A2.map (·.block) = some (wr.heap.size + 1))) => Lib.hid (WrOut.trans hW hk.out.1 hk.out.2 (hW.put hg ho (hat.imp id (fun e => ⟨_, Nat.le_succ _, e⟩)) hn))
    generalize bs ++ pre = cur at *
    have hlo := hW.lo
    have p0 := hW.blk.c1.1
    have p0f := hW.blk.c1.2.1
    have p0z := hW.blk.c1.2.2
    have hbase : base ≤ wr.heap.size := by omega
    by_cases hlt : m < 128
    · have hI : ¬ (m : Int) ≥ 128 := by omega
      have hcv := u8_low m
      have hcv2 : m % 256 = m := by omega
      rw [hcv2] at hcv
      clear hcv2
      go_wp2_with ((at_builtin; refine wpList_app1V rfl _ _ _ rfl 5 iB _ 1 Try.underlying64 jB0 jB1 jB2 jB3 (by omega) rfl base (.int .u8 m) rfl rfl A1 cur.length c1 _ rfl hW.own rfl HPL.out hbase ?_; intro A2 c2 w2 ho2 hg2 hat2; have q2 := (KpP.of_grown hg2).blk hW.blk hW.off; have q20 := q2.c1.1; have q21 := q2.c1.2.1; have q22 := q2.c1.2.2))
      have hP := HWP A2 c2 w2 [(m : Int)] (fun b hb => by obtain rfl := List.mem_singleton.1 hb; unfold U8; omega) hg2 ho2 hat2
      have hE : Hid (venc n = pre ++ [(m : Int)]) := by rw [he.out, venc_small hlt]; exact Lib.hid rfl
      clear HWO HWP
      go_end0
      refine ⟨rfl, ?_⟩
      rw [hE.out]; exact hP.out
    · have hI : (m : Int) ≥ 128 := by omega
      have HCV := Lib.hid (u8_or128 m)
      go_wp2_with ((at_builtin; refine wpList_app1V rfl _ _ _ rfl 5 iB _ 1 Try.underlying64 jB0 jB1 jB2 jB3 (by omega) rfl base (.int .u8 (Go.bits .or .u8 ((m : Int) % 256) 128)) rfl rfl A1 cur.length c1 _ rfl hW.own rfl HPL.out hbase ?_; intro A2 c2 w2 ho2 hg2 hat2; have q2 := (KpP.of_grown hg2).blk hW.blk hW.off; have q20 := q2.c1.1; have q21 := q2.c1.2.1; have q22 := q2.c1.2.2))
      rw [HCV.out] at ho2
      have hP := HWP A2 c2 w2 [((m % 128 + 128 : Nat) : Int)] (fun b hb => by obtain rfl := List.mem_singleton.1 hb; unfold U8; omega) hg2 ho2 hat2
      have hE : Hid (venc n = (pre ++ [((m % 128 + 128 : Nat) : Int)]) ++ venc (m / 128)) := by rw [he.out, venc_big hlt]; exact Lib.hid (by simp)
      clear HWO HWP
      obtain ⟨A3, c3, r1, r2, r3⟩ := hP.out
      go_wp2_with fail
      go_roundw
      case rel => exact ⟨m / 128, pre ++ [((m % 128 + 128 : Nat) : Int)], A3, c3, by go_num, by omega, hE, r1, r2, r3⟩
      case measure => simp [intOf]; omega

theorem IL.kpw {w w' : World} {A B : Option Addr} {c g : Nat} {xs : List Int} (h : IL w B c xs) (k : KpP (wrB g A) w w') (hn : xs ≠ [] → ∀ b, B.map (·.block) = some b → b ≠ g ∧ Off A b) : IL w' B c xs :=
  h.kp k (fun hx b hb hor => hor.elim (hn hx b hb).1 (hn hx b hb).2)

theorem zig_code (x : Int) (h : I64 x) : Go.bits .xor .u64 (IntKind.u64.wrap (IntKind.u64.wrap x * 2)) (IntKind.u64.wrap (x / 9223372036854775808)) = ((Lib.zigzag x : Nat) : Int) := by
  obtain ⟨h1, h2⟩ := h
  by_cases h0 : 0 ≤ x
  · have e1 : IntKind.u64.wrap (IntKind.u64.wrap x * 2) = (((2 * x).toNat : Nat) : Int) := by rw [IntKind.wrap_u64, IntKind.wrap_u64]; omega
    have e2 : IntKind.u64.wrap (x / 9223372036854775808) = ((0 : Nat) : Int) := by rw [IntKind.wrap_u64]; omega
    rw [e1, e2, bits_xor_u64_nat _ _ (by omega) (by omega), Nat.xor_zero]
    unfold Lib.zigzag; rw [if_pos h0]
  · have e1 : IntKind.u64.wrap (IntKind.u64.wrap x * 2) = (((2 * x + 18446744073709551616).toNat : Nat) : Int) := by rw [IntKind.wrap_u64, IntKind.wrap_u64]; omega
    have e2 : IntKind.u64.wrap (x / 9223372036854775808) = ((2 ^ 64 - 1 : Nat) : Int) := by rw [IntKind.wrap_u64]; omega
    have e3 := Lib.zigzag_neg h1 (by omega)
    have e4 : IntKind.u64.max = ((2 ^ 64 - 1 : Nat) : Int) := by decide
    rw [e1, e4, bits_xor_u64_nat _ _ (by decide) (by omega)] at e3
    rw [e1, e2, bits_xor_u64_nat _ _ (by omega) (by decide), Nat.xor_comm]
    exact e3

set_option maxRecDepth 100000 in
set_option maxHeartbeats 2000000 in
theorem wInt_any (x : Int) (base g : Nat) (A : Option Addr) (c : Nat) (bs : List Int) (w : World) (hx : I64 x) (hW : WrAt w base g A c bs) (hl : bs.length ≤ 549755813888) :
    Calls Try.prog 55 #[.pointer (some ⟨g, 0, none⟩), .int .i64 x] w (RetWr base g A bs (ienc x) w) := by
  have HU := fun W' h => Lib.hid (wUint_any (Lib.zigzag x) base g A c bs W' (Lib.zigzag_lt hx.1 hx.2) h hl)
  have HZ := Lib.hid (zig_code x hx)
  obtain ⟨h1, h2⟩ := hx
  go_enter Try.func55, Try.ntmps55
  go_wp2_with fail
  rw [HZ.out]
  refine (HU _ hW).out.mono ?_
  rintro e w1 ⟨rfl, hO⟩
  go_wp2
  go_end0
  exact ⟨rfl, hO⟩

set_option maxRecDepth 100000 in
set_option maxHeartbeats 2000000 in
theorem wInts_any (l : List Int) (B : Option Addr) (cB : Nat) (base g : Nat) (A : Option Addr) (c : Nat) (bs : List Int) (w : World) (hL : IL w B cB l) (hn : l ≠ [] → ∀ b, B.map (·.block) = some b → b ≠ g ∧ Off A b) (hW : WrAt w base g A c bs)
    (hl : bs.length ≤ 274877906944) (hll : l.length ≤ 17179869184) :
    Calls Try.prog 56 #[.pointer (some ⟨g, 0, none⟩), .slice B l.length cB] w (RetWr base g A bs (lenc l) w) := by
  have HU := Lib.hid (wUint_any l.length base g A c bs w (by omega) hW (by omega))
  have hlen := hL.len
  have hcv : IntKind.u64.wrap (l.length : Int) = (l.length : Int) := by rw [IntKind.wrap_u64]; omega
  go_enter Try.func56, Try.ntmps56
  go_wp2_with fail
  refine HU.out.mono ?_
  rintro e w1 ⟨rfl, hW1⟩
  have HW1 := Lib.hid hW1
  have hv10 := venc_len10 (n := l.length) (by omega)
  have hrng := hL.rng
  clear HU hW hW1
  go_wp2_with fail
  go_loopw [13] (fun v13 wr => ∃ (j : Nat), v13 = .int .i64 j ∧ j ≤ l.length ∧ Hid (WrOut base g A bs (venc l.length ++ iencs (l.take j)) w wr)) (fun v _ => l.length - (intOf v).toNat)
  case atStart => exact ⟨0, rfl, Nat.zero_le _, by simpa [iencs] using HW1⟩
  case round =>
    clear HW1
    obtain ⟨j, rfl, hj, hO⟩ := hrel
    by_cases hlt : j < l.length
    · have hI : (j : Int) < l.length := by omega
      obtain ⟨A2, c2, hW2, hk2, ha2⟩ := hO.out
      have hL2 := hL.kpw hk2 hn
      obtain ⟨b, o, rfl, p0⟩ := hL2.get hlt
      have r0 := hrng _ (List.getElem_mem hlt)
      have HT : Hid (iencs (l.take (j + 1)) = iencs (l.take j) ++ ienc l[j]) := by
        show _ = _
        rw [List.take_succ_eq_append_getElem hlt, iencs_append]; simp [iencs]
      have HLN : Hid ((bs ++ (venc l.length ++ iencs (l.take j))).length ≤ 549755813888) := by
        have h1 := iencs_len10 (l := l.take j) (fun x hx => hrng x (List.mem_of_mem_take hx))
        simp only [List.length_append, List.length_take] at *
        show _ ≤ _
        omega
      have HN : Hid (j + 1 ≤ l.length ∧ l.length - (j + 1) < l.length - j) := ⟨by omega, by omega⟩
      generalize l[j] = x at *
      have HI := Lib.hid (wInt_any x base g A2 c2 (bs ++ (venc l.length ++ iencs (l.take j))) wr r0 hW2 HLN.out)
      have HF := fun (w3 : World) (h : WrOut base g A2 (bs ++ (venc l.length ++ iencs (l.take j))) (ienc x) wr w3) => Lib.hid (WrOut.trans hW2 hk2 ha2 h)
      clear hk2 ha2 hW2 hL2
      go_wp2_with fail
      refine HI.out.mono ?_
      rintro e w3 ⟨rfl, hO3⟩
      have HO3 := HF w3 hO3
      rw [List.append_assoc, ← HT.out] at HO3
      clear HF hO3
      go_wp2_with fail
      go_roundw
      case rel => exact ⟨j + 1, by go_num, HN.out.1, HO3⟩
      case measure => simp [intOf]; omega
    · have hI : ¬ (j : Int) < l.length := by omega
      have hjl : j = l.length := by omega
      go_wp2_with fail
      go_end0
      refine ⟨rfl, ?_⟩
      have := hO.out
      rw [hjl, List.take_length] at this
      exact this

set_option maxRecDepth 100000 in
set_option maxHeartbeats 2000000 in
theorem wRaw_any (m : List Int) (B : Option Addr) (cB : Nat) (base g : Nat) (A : Option Addr) (c : Nat) (bs : List Int) (w : World) (hB : BL w B cB m) (hn : m ≠ [] → ∀ b, B.map (·.block) = some b → b ≠ g ∧ Off A b) (hW : WrAt w base g A c bs)
    (hl : bs.length ≤ 274877906944) (hm : m.length ≤ 274877906944) :
    Calls Try.prog 35 #[.pointer (some ⟨g, 0, none⟩), .slice B m.length cB] w (RetWr base g A bs (venc m.length ++ m) w) := by
  obtain ⟨iB, jB0, jB1, jB2, jB3⟩ := info_parts infoB
  have HU := Lib.hid (wUint_any m.length base g A c bs w (by omega) hW (by omega))
  have hlen := hB.len
  have hcv : IntKind.u64.wrap (m.length : Int) = (m.length : Int) := by rw [IntKind.wrap_u64]; omega
  have hv10 := venc_len10 (n := m.length) (by omega)
  have HB8 := Lib.hid (show (bs ++ venc m.length).length + m.length ≤ maxLen ∧ ((bs ++ venc m.length).length + m.length) * 1 ≤ 140737488355328 by simp only [List.length_append]; unfold maxLen; omega)
  clear hv10
  go_enter Try.func35, Try.ntmps35
  go_wp2_with fail
  refine HU.out.mono ?_
  rintro e w1 ⟨rfl, A1, c1, hW1, hk1, ha1⟩
  clear HU
  have hB1 : BL w1 B cB m := hB.kp hk1 (fun hx b hb hor => hor.elim (hn hx b hb).1 (hn hx b hb).2)
  have hcl := hB1.cells
  have hrng := hB.rng
  have p0 := hW1.blk.c1.1
  have p0f := hW1.blk.c1.2.1
  have p0z := hW1.blk.c1.2.2
  have hlo := hW1.lo
  have hbase : base ≤ w1.heap.size := by omega
  have HF := fun (w3 : World) (h : WrOut base g A1 (bs ++ venc m.length) m w1 w3) => Lib.hid (WrOut.trans hW1 hk1 ha1 h)
  clear hk1 ha1 hn hB hB1 hW
  generalize bs ++ venc m.length = cur at *
  go_wp2_with ((at_builtin; refine wpList_app _ rfl _ _ _ rfl base 5 iB _ 1 1 Try.underlying64 jB0 jB1 jB2 jB3 rfl (by omega) A1 cur.length c1 (cur.map (Value.int .u8)) rfl hW1.own B m.length cB (m.map (Value.int .u8)) rfl (by simp) hcl (bytes_one _) HB8.out.1 HB8.out.2 hbase ?_; intro A2 c2 w2 ho2 hg2 hat2; have q2 := (KpP.of_grown hg2).blk hW1.blk hW1.off; have q20 := q2.c1.1; have q21 := q2.c1.2.1; have q22 := q2.c1.2.2))
  have hP := HF _ (hW1.put (new := m) hg2 ho2 (hat2.imp id (fun e => ⟨_, Nat.le_refl _, e⟩)) hrng)
  clear HF
  go_end0
  exact ⟨rfl, hP.out⟩

set_option maxRecDepth 100000 in
set_option maxHeartbeats 2000000 in
theorem wDone_any (base g : Nat) (A : Option Addr) (c : Nat) (bs : List Int) (w : World) (hW : WrAt w base g A c bs) (hl : bs.length ≤ 1099511627776) :
    Calls Try.prog 37 #[.pointer (some ⟨g, 0, none⟩)] w (fun e w' => ∃ A' c', e = .returned (.slice A' bs.length c') ∧ OwnB w' w.heap.size A' c' bs ∧ Ext w w') := by
  obtain ⟨iB, jB0, jB1, jB2, jB3⟩ := info_parts infoB
  have HB8 := Lib.hid (show 0 + bs.length ≤ maxLen ∧ (0 + bs.length) * 1 ≤ 140737488355328 by unfold maxLen; omega)
  have e1 := Ext.alloc w (.cells #[] 5)
  have hown : OwnS (w.alloc (.cells #[] 5)) w.heap.size 5 1 (some ⟨w.heap.size, 0, none⟩) 0 0 [] :=
    OwnS.of_blk (Blk.new w 5 #[]) (Nat.le_refl _) rfl (Nat.le_refl _) (Nat.zero_le _)
  have hW1 := hW.ext e1
  have hcl := (BL.of_own hW1.own hW.rng).cells
  have q := hW1.blk.c1.1
  have p0 := hW.blk.c1.1
  go_enter Try.func37, Try.ntmps37
  go_wp2_with ((at_builtin; refine wpList_app _ rfl _ _ _ rfl w.heap.size 5 iB _ 1 1 Try.underlying64 jB0 jB1 jB2 jB3 rfl (by omega) _ 0 0 [] rfl hown A bs.length c (bs.map (Value.int .u8)) rfl (by simp) hcl (bytes_one _) HB8.out.1 HB8.out.2 (by simp) ?_; intro A' c' w' ho' hg' hat'))
  go_ret
  simp only [List.nil_append, Nat.zero_add] at ho'
  exact ⟨A', c', by simp, ho', e1.grown hg' (by simp)⟩

end Go.Proofs.Ythhfjomjjhenkaa
