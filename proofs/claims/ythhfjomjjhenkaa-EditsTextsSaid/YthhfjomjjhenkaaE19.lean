/- The walk of the reference's Splice. -/
import Derived.Test.YthhfjomjjhenkaaE16
namespace Go.Proofs.Ythhfjomjjhenkaa
open Go.RowKit

theorem take_one (t : List Int) (k : Nat) (h : k < t.length) : t.take (k + 1) = t.take k ++ [t[k]] := List.take_succ_eq_append_getElem h
theorem drop_take_one (t : List Int) (m k : Nat) (hm : m ≤ k) (h : k < t.length) : (t.drop m).take (k + 1 - m) = (t.drop m).take (k - m) ++ [t[k]] := by
  have e : k + 1 - m = (k - m) + 1 := by omega
  rw [e, List.take_succ_eq_append_getElem (by simp; omega)]
  congr 2
  rw [List.getElem_drop]
  congr 1; omega

set_option maxHeartbeats 2000000 in
theorem rSplice_any (T : Option Addr) (tc : Nat) (t : List Int) (a d : Int) (A : Option Addr) (c : Nat) (l : List Int) (w : World) (ht : IL w T tc t) (hl : IL w A c l)
    (hlen : t.length ≤ 1000000000) (hlen2 : l.length ≤ 1000000000) (h1 : 0 ≤ a) (h2 : 0 ≤ d) (h3 : a + d ≤ t.length) :
    Calls Try.prog 25 #[.slice T t.length tc, .agg #[.int .i64 a, .int .i64 d, .slice A l.length c]] w (RetIL (spliceL t a d l) w) := by
  obtain ⟨i0, hi0, hz0, hz1, hz2⟩ := info_parts infoInt
  obtain ⟨an, rfl⟩ : ∃ n : Nat, a = n := ⟨a.toNat, by omega⟩
  obtain ⟨dn, rfl⟩ : ∃ n : Nat, d = n := ⟨d.toNat, by omega⟩
  obtain ⟨m, hm⟩ : ∃ m : Nat, (an : Int) + (dn : Int) = (m : Int) := ⟨an + dn, by omega⟩
  have HSL := Lib.hid (show spliceL t an dn l = (t.take an ++ l) ++ (t.drop m).take (t.length - m) by
    have e : (t.drop m).take (t.length - m) = t.drop m := List.take_of_length_le (by simp)
    rw [e]; simp [spliceL, hm])
  obtain ⟨a1, a2⟩ := ht.len
  obtain ⟨B0, X0⟩ := alloc1 w 25 #[.int .i64 an, .int .i64 dn, .slice A l.length c]
  have hrt := ht.rng
  have hrl := hl.rng
  have hm1 : an ≤ m := by omega
  have hm2 : m ≤ t.length := by omega
  go_enter Try.func25, Try.ntmps25
  go_wp2
  generalize hW : w.alloc (.cells #[.int .i64 an, .int .i64 dn, .slice A l.length c] 25) = W at *
  have hg0 : w.heap.size < W.heap.size := by rw [← hW]; simp
  clear hW
  replace ht := ht.ext X0
  replace hl := hl.ext X0
  generalize hg : w.heap.size = g at *
  go_loopw [5, 6] (fun v i wr => ∃ (k : Nat) (A' : Option Addr) (c' : Nat) (xs : List Int), k ≤ an ∧ i = .int .i64 k ∧ Hid (xs = t.take k) ∧ v = .slice A' xs.length c' ∧ OwnI wr W.heap.size 3 A' c' xs ∧ Ext W wr) (fun _ i _ => an - (intOf i).toNat)
  case atStart => exact ⟨0, none, 0, [], Nat.zero_le _, rfl, rfl, rfl, OwnS.nil _ _ _ _, Ext.rfl' _⟩
  case round =>
    obtain ⟨k, A', c', xs, hk, rfl, hxs, rfl, hown, hext⟩ := hrel
    obtain ⟨p0, p1, p2, _, _, _, pz⟩ := (B0.ext hext).c3
    have hxl : xs.length ≤ 1000000000 := by rw [hxs.out]; simp; omega
    by_cases hlt : k < an
    · obtain ⟨pb, po, rfl, g1⟩ := (ht.ext hext).get (show k < t.length by omega)
      have hb1 := World.block_lt_of_cell? _ _ g1
      have hlt2 : (k : Int) < an := by omega
      have hlt3 : k < t.length := by omega
      have hlt4 : (k : Int) < t.length := by omega
      have HS := Lib.hid (show t.take (k + 1) = xs ++ [t[k]] by rw [hxs.out]; exact take_one t k hlt3)
      clear hxs
      generalize t[k] = x at *
      obtain ⟨ys, hys⟩ : ∃ ys, ys = t.take (k + 1) := ⟨_, rfl⟩
      have HY := Lib.hid hys
      have HY2 := Lib.hid (hys.trans HS.out)
      clear hys HS
      go_wp2_with ((at_builtin; refine wpList_app1I (w1 := wr) rfl _ _ _ rfl 3 infoInt Try.underlying22 W hext x rfl A' c' xs rfl hown rfl (by omega) ys HY2.out ?_; intro A2 c2 w2 hown2 hext2 _ _))
      go_roundw
      case rel => exact ⟨k + 1, A2, c2, ys, by omega, by go_num, HY, rfl, hown2, hext2⟩
      case measure => simp [intOf]; omega
    · have hk' : k = an := by omega
      subst hk'
      have H63 := Lib.hid (show xs.length + l.length ≤ maxLen by unfold maxLen; omega)
      have H8 := Lib.hid (show (xs.length + l.length) * 8 ≤ 140737488355328 by omega)
      have HCL := Lib.hid (hl.ext hext).cells
      have H1 := Lib.hid (ints_one l)
      have HSZ := Lib.hid hext.size
      have HO := Lib.hid hown
      have hzz : g < wr.heap.size := pz
      unfold OwnI at HO
      clear hown
      go_wp2_with ((at_builtin; refine wpList_app _ rfl _ _ _ rfl W.heap.size 3 i0 (.int .i64 0) 1 8 Try.underlying22 hi0 hz0 hz1 hz2 rfl (by omega) _ xs.length c' (xs.map (Value.int .i64)) rfl HO.out _ l.length c (l.map (Value.int .i64)) rfl (by simp) HCL.out H1.out H63.out H8.out HSZ.out ?_; intro A2 c2 w2 hown2 hg2 _; have hext2 := hext.app HO.out hg2; have B2 := B0.ext hext2; obtain ⟨q0, q1, q2, _, _, _, qz⟩ := B2.c3))
      obtain ⟨zs, hzs⟩ : ∃ zs, zs = xs ++ l := ⟨_, rfl⟩
      have hzl : zs.length = xs.length + l.length := by rw [hzs]; simp
      have hzl2 : zs.length ≤ 2000000000 := by omega
      have HZ := Lib.hid (show zs = t.take k ++ l by rw [hzs, hxs.out])
      replace hown2 : OwnI w2 W.heap.size 3 A2 c2 zs := by unfold OwnI; rw [hzl, hzs, List.map_append]; exact hown2
      have HZL := Lib.hid hzl.symm
      rw [HZL.out]
      clear hzs hzl H63 H8 HCL H1 HSZ HO hg2 p0 p1 p2 hext hxs hzz HZL
      go_loopw [5, 7] (fun v i wr => ∃ (j : Nat) (A' : Option Addr) (c' : Nat) (xs : List Int), m ≤ j ∧ j ≤ t.length ∧ i = .int .i64 j ∧ Hid (xs = zs ++ (t.drop m).take (j - m)) ∧ v = .slice A' xs.length c' ∧ OwnI wr W.heap.size 3 A' c' xs ∧ Ext W wr) (fun _ i _ => t.length - (intOf i).toNat)
      case atStart => exact ⟨m, A2, c2, zs, Nat.le_refl _, hm2, by (first | rw [hm] | rfl), Lib.hid (by simp), rfl, hown2, hext2⟩
      case round =>
        clear hown2 hext2
        obtain ⟨j, A', c', ys, hj1, hj2, rfl, hys, rfl, hown, hext⟩ := hrel
        have hyl : ys.length ≤ 4000000000 := by rw [hys.out]; simp; omega
        by_cases hlt' : j < t.length
        · obtain ⟨pb, po, rfl, g1⟩ := (ht.ext hext).get hlt'
          have hb1 := World.block_lt_of_cell? _ _ g1
          have hlt2 : (j : Int) < t.length := by omega
          have HS := Lib.hid (show zs ++ (t.drop m).take (j + 1 - m) = ys ++ [t[j]] by rw [hys.out, drop_take_one t m j hj1 hlt', List.append_assoc])
          clear hys
          generalize t[j] = x at *
          obtain ⟨us, hus⟩ : ∃ us, us = zs ++ (t.drop m).take (j + 1 - m) := ⟨_, rfl⟩
          have HY := Lib.hid hus
          have HY2 := Lib.hid (hus.trans HS.out)
          clear hus HS
          go_wp2_with ((at_builtin; refine wpList_app1I (w1 := wr) rfl _ _ _ rfl 3 infoInt Try.underlying22 W hext x rfl A' c' ys rfl hown rfl (by omega) us HY2.out ?_; intro A2 c2 w2 hown2 hext2 _ _))
          go_roundw
          case rel => exact ⟨j + 1, A2, c2, us, by omega, by omega, by go_num, HY, rfl, hown2, hext2⟩
          case measure => simp [intOf]; omega
        · have hj' : j = t.length := by omega
          subst hj'
          have HF := Lib.hid (show ys = spliceL t k dn l by rw [hys.out, HZ.out, HSL.out])
          have hrng : ∀ x ∈ ys, I64 x := by
            intro x hx
            rw [HF.out] at hx
            simp only [spliceL, List.mem_append] at hx
            rcases hx with (hx | hx) | hx
            · exact hrt x (List.mem_of_mem_take hx)
            · exact hrl x hx
            · exact hrt x (List.mem_of_mem_drop hx)
          have HR := Lib.hid hrng
          clear hrng hys HZ HSL
          go_wp2
          go_ret
          exact ⟨A', c', by rw [← HF.out]; rfl, by rw [← HF.out]; exact IL.of_own hown HR.out, X0.trans hext, fun b hb => Nat.le_trans X0.size (OwnS.row hown b hb)⟩
end Go.Proofs.Ythhfjomjjhenkaa
