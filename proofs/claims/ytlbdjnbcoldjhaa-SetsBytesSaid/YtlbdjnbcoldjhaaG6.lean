/- Walks of the reference: put. -/
import Derived.Test.YtlbdjnbcoldjhaaG5
namespace Go.Proofs.Ytlbdjnbcoldjhaa
open Go.RowKit

theorem infoInt : (Try.prog.info? 3).map (fun i => (i.zero, i.size, i.bytes)) = some (some (.int .i64 0), 1, 8) := by kernel_rfl

/-- a slice of ints, new or old -/
def RetI (out : List Int) (w : World) (e : Ending) (w' : World) : Prop := ∃ (A' : Option Addr) (c' : Nat), e = .returned (.slice A' out.length c') ∧ IL w' A' c' out ∧ Ext w w'

theorem IL.takeK {w : World} {A : Option Addr} {c : Nat} {xs : List Int} (h : IL w A c xs) (k : Nat) : IL w A c (xs.take k) := by
  refine ⟨by have := h.le; rw [List.length_take]; omega, h.cap, fun x hx => h.rng x (List.mem_of_mem_take hx), fun hn => ?_⟩
  obtain ⟨b, o, rfl, hc⟩ := h.at_ (by rintro rfl; simp at hn)
  refine ⟨b, o, rfl, fun i hi => ?_⟩
  rw [List.length_take] at hi
  rw [List.getElem_take]
  exact hc i (by omega)

set_option maxRecDepth 100000 in
set_option maxHeartbeats 4000000 in
theorem put_any (A : Option Addr) (c : Nat) (l : List Int) (n top : Int) (w : World) (hl : IL w A c l) (hne : l ≠ []) (hn : I64 n) (hlen : l.length ≤ 1000000) :
    Calls Try.prog 63 #[.slice A l.length c, .int .i64 n, .int .i64 top] w (RetI (putE l n top) w) := by
  obtain ⟨i0, hi0, hz0, hz1, hz2⟩ := info_parts infoInt
  have hcap := hl.len
  obtain ⟨pb, po, rfl, hcl⟩ := hl.at_ hne
  have HCL := Lib.hid hcl
  clear hcl
  go_enter Try.func63, Try.ntmps63
  go_wp2
  go_loopw [7] (fun v wr => ∃ k : Nat, v = .int .i64 k ∧ k ≤ l.length ∧ Hid (∀ i (h : i < l.length), i < k → l[i] < n) ∧ wr = w) (fun v _ => l.length - (intOf v).toNat)
  case atStart => exact ⟨0, rfl, by omega, fun i _ hi => absurd hi (Nat.not_lt_zero _), rfl⟩
  case round =>
    obtain ⟨k, rfl, hk, HK, rfl⟩ := hrel
    by_cases hlt : k < l.length
    · have hkI : (k : Int) < l.length := by omega
      have g1 := HCL.out k hlt
      have HK2 := Lib.hid (show l[k] < n → ∀ i (h : i < l.length), i < k + 1 → l[i] < n from fun hx i h hi => by
        rcases Nat.lt_or_ge i k with h1 | h1
        · exact HK.out i h h1
        · have : i = k := by omega
          subst this; exact hx)
      by_cases hx : l[k] < n
      · have HK3 := Lib.hid (HK2.out hx)
        generalize l[k] = x at *
        clear HK HK2
        go_wp2
        go_roundw
        case rel => exact ⟨k + 1, by go_num, by omega, HK3, by first | rfl | trivial⟩
        case measure => simp [intOf]; omega
      · have HU := Lib.hid (upto_eq HK.out hk (fun _ => hx))
        have HP := Lib.hid (show putE l n top = if top < n ∨ l[k]? = some n then l else l.take k ++ n :: l.drop k by unfold putE; rw [HU.out])
        have HGE := Lib.hid (List.getElem?_eq_getElem hlt)
        generalize l[k] = x at *
        clear HK HK2 HU
        by_cases ht : top < n
        · have HR := Lib.hid (show putE l n top = l by rw [HP.out, if_pos (.inl ht)])
          clear HP HGE
          generalize putE l n top = out at *
          go_wp2
          go_ret
          exact ⟨some ⟨pb, po, none⟩, c, by rw [HR.out]; rfl, by rw [HR.out]; exact hl, Ext.rfl' _⟩
        · by_cases hxn : x = n
          · have HR := Lib.hid (show putE l n top = l by rw [HP.out, if_pos (.inr (by rw [HGE.out, hxn]))])
            clear HP HGE
            generalize putE l n top = out at *
            go_wp2
            go_ret
            exact ⟨some ⟨pb, po, none⟩, c, by rw [HR.out]; rfl, by rw [HR.out]; exact hl, Ext.rfl' _⟩
          · have HR := Lib.hid (show putE l n top = l.take k ++ n :: l.drop k by
              rw [HP.out, if_neg]
              rintro (h | h)
              · exact ht h
              · rw [HGE.out] at h; injection h with h; exact hxn h)
            clear HP HGE
            generalize putE l n top = out at *
            have HIN := Lib.hid (hl.takeK k)
            have HRNG := Lib.hid (show ∀ y ∈ l.take k ++ n :: l.drop k, I64 y from fun y hy => by
              rcases List.mem_append.1 hy with hy | hy
              · exact hl.rng y (List.mem_of_mem_take hy)
              · rcases List.mem_cons.1 hy with rfl | hy
                · exact hn
                · exact hl.rng y (List.mem_of_mem_drop hy))
            have HKL := Lib.hid (show (l.take k).length = k by simp; omega)
            have HDL := Lib.hid (show ((l.drop k).map (Value.int .i64)).length = (l.length - k) * 1 by simp)
            have HLEN := Lib.hid (show (l.take k ++ n :: l.drop k).length = k + 1 + (l.length - k) by simp; omega)
            have HDR := fun (W' : World) (x : Ext wr W') => Lib.hid (show CellsAt W' (some ⟨pb, po + k, none⟩) ((l.drop k).map (Value.int .i64)) by
              have := ((hl.ext x).cut_in (k := k) (j := l.length) (by omega) (Nat.le_refl _)).cells
              rw [List.take_of_length_le (by simp)] at this
              simpa [Addr.add_lit] using this)
            go_wp2_with (first | (at_builtin; refine wpList_app _ rfl _ _ _ rfl wr.heap.size 3 i0 (.int .i64 0) 1 8 Try.underlying26 hi0 hz0 hz1 hz2 rfl (by omega) A2 (k + 1) c2 ((l.take k).map (Value.int .i64) ++ [.int .i64 n]) rfl ho2 (some ⟨pb, po + k, none⟩) (l.length - k) (c - k) ((l.drop k).map (Value.int .i64)) rfl HDL.out (HDR _ X2).out (ints_one _) (by unfold maxLen; omega) (by omega) X2.size ?_; intro A3 c3 w3 ho3 hg3 hat3; have X3 := Ext.app X2 ho2 hg3) | (at_builtin; refine wpList_app _ rfl _ _ _ rfl wr.heap.size 3 i0 (.int .i64 0) 1 8 Try.underlying26 hi0 hz0 hz1 hz2 rfl (by omega) A1 k c1 ((l.take k).map (Value.int .i64)) rfl (OwnS.ext ho1 (Ext.alloc _ _)) _ 1 1 [.int .i64 n] rfl rfl (blk_cells (Blk.new _ _ _)) (ints_one [n]) (by unfold maxLen; omega) (by omega) (X1.trans (Ext.alloc _ _)).size ?_; intro A2 c2 w2 ho2 hg2 hat2; have X2 := Ext.app (X1.trans (Ext.alloc _ _)) (OwnS.ext ho1 (Ext.alloc _ _)) hg2) | (at_builtin; refine wpList_app _ rfl _ _ _ rfl wr.heap.size 3 i0 (.int .i64 0) 1 8 Try.underlying26 hi0 hz0 hz1 hz2 rfl (by omega) none 0 0 [] rfl (OwnS.nil _ _ _ _) (some ⟨pb, po, none⟩) k c ((l.take k).map (Value.int .i64)) rfl (by rw [List.length_map, HKL.out, Nat.mul_one]) HIN.out.cells (ints_one _) (by unfold maxLen; omega) (by omega) (Nat.le_refl _) ?_; intro A1 c1 w1 ho1 hg1 hat1; rw [Nat.zero_add, List.nil_append] at ho1; have X1 := Ext.app (Ext.rfl' wr) (OwnS.nil wr wr.heap.size 3 1) hg1))
            go_ret
            refine ⟨A3, c3, by rw [HR.out, HLEN.out]; rfl, ?_, X3⟩
            rw [HR.out]
            refine IL.of_own (base := wr.heap.size) (e := 3) ?_ HRNG.out
            unfold OwnI
            rw [HLEN.out, List.map_append, List.map_cons]
            rw [List.append_assoc] at ho3
            exact ho3
    · have hk' : k = l.length := by omega
      subst hk'
      have HU := Lib.hid (upto_eq HK.out hk (fun h => absurd h hlt))
      have HP := Lib.hid (show putE l n top = if top < n then l else l ++ [n] by
        unfold putE; rw [HU.out, List.getElem?_eq_none (Nat.le_refl _)]; simp)
      have hkI : ¬ (l.length : Int) < l.length := by omega
      clear HK HU hlt hk
      by_cases ht : top < n
      · have HR := Lib.hid (show putE l n top = l by rw [HP.out, if_pos ht])
        clear HP
        generalize putE l n top = out at *
        go_wp2
        go_ret
        exact ⟨some ⟨pb, po, none⟩, c, by rw [HR.out]; rfl, by rw [HR.out]; exact hl, Ext.rfl' _⟩
      · have HR := Lib.hid (show putE l n top = l ++ [n] by rw [HP.out, if_neg ht])
        clear HP
        generalize putE l n top = out at *
        have HIN := Lib.hid hl
        have HRNG := Lib.hid (show ∀ y ∈ l ++ [n], I64 y from fun y hy => by
          rcases List.mem_append.1 hy with hy | hy
          · exact hl.rng y hy
          · obtain rfl := List.mem_singleton.1 hy
            exact hn)
        have HLEN := Lib.hid (show (l ++ [n]).length = l.length + 1 by simp)
        by_cases hc : c = l.length
        · subst hc
          go_wp2_with (first | (at_builtin; refine wpList_app _ rfl _ _ _ rfl wr.heap.size 3 i0 (.int .i64 0) 1 8 Try.underlying26 hi0 hz0 hz1 hz2 rfl (by omega) A2 (l.length + 1) c2 (l.map (Value.int .i64) ++ [.int .i64 n]) rfl ho2 _ 0 _ [] rfl rfl (fun h => absurd rfl h) (by simp) (by unfold maxLen; omega) (by omega) X2.size ?_; intro A3 c3 w3 ho3 hg3 hat3; have X3 := Ext.app X2 ho2 hg3) | (at_builtin; refine wpList_app _ rfl _ _ _ rfl wr.heap.size 3 i0 (.int .i64 0) 1 8 Try.underlying26 hi0 hz0 hz1 hz2 rfl (by omega) A1 l.length c1 (l.map (Value.int .i64)) rfl (OwnS.ext ho1 (Ext.alloc _ _)) _ 1 1 [.int .i64 n] rfl rfl (blk_cells (Blk.new _ _ _)) (ints_one [n]) (by unfold maxLen; omega) (by omega) (X1.trans (Ext.alloc _ _)).size ?_; intro A2 c2 w2 ho2 hg2 hat2; have X2 := Ext.app (X1.trans (Ext.alloc _ _)) (OwnS.ext ho1 (Ext.alloc _ _)) hg2) | (at_builtin; refine wpList_app _ rfl _ _ _ rfl wr.heap.size 3 i0 (.int .i64 0) 1 8 Try.underlying26 hi0 hz0 hz1 hz2 rfl (by omega) none 0 0 [] rfl (OwnS.nil _ _ _ _) (some ⟨pb, po, none⟩) l.length l.length (l.map (Value.int .i64)) rfl (by rw [List.length_map, Nat.mul_one]) HIN.out.cells (ints_one _) (by unfold maxLen; omega) (by omega) (Nat.le_refl _) ?_; intro A1 c1 w1 ho1 hg1 hat1; rw [Nat.zero_add, List.nil_append] at ho1; have X1 := Ext.app (Ext.rfl' wr) (OwnS.nil wr wr.heap.size 3 1) hg1))
          go_ret
          refine ⟨A3, c3, by rw [HR.out, HLEN.out]; rfl, ?_, X3⟩
          rw [HR.out]
          refine IL.of_own (base := wr.heap.size) (e := 3) ?_ HRNG.out
          unfold OwnI
          rw [HLEN.out, List.map_append]
          rw [List.append_nil] at ho3
          exact ho3
        · have hc1 : ¬ (c : Int) = l.length := by omega
          go_wp2_with (first | (at_builtin; refine wpList_app _ rfl _ _ _ rfl wr.heap.size 3 i0 (.int .i64 0) 1 8 Try.underlying26 hi0 hz0 hz1 hz2 rfl (by omega) A2 (l.length + 1) c2 (l.map (Value.int .i64) ++ [.int .i64 n]) rfl ho2 _ 0 _ [] rfl rfl (fun h => absurd rfl h) (by simp) (by unfold maxLen; omega) (by omega) X2.size ?_; intro A3 c3 w3 ho3 hg3 hat3; have X3 := Ext.app X2 ho2 hg3) | (at_builtin; refine wpList_app _ rfl _ _ _ rfl wr.heap.size 3 i0 (.int .i64 0) 1 8 Try.underlying26 hi0 hz0 hz1 hz2 rfl (by omega) A1 l.length c1 (l.map (Value.int .i64)) rfl (OwnS.ext ho1 (Ext.alloc _ _)) _ 1 1 [.int .i64 n] rfl rfl (blk_cells (Blk.new _ _ _)) (ints_one [n]) (by unfold maxLen; omega) (by omega) (X1.trans (Ext.alloc _ _)).size ?_; intro A2 c2 w2 ho2 hg2 hat2; have X2 := Ext.app (X1.trans (Ext.alloc _ _)) (OwnS.ext ho1 (Ext.alloc _ _)) hg2) | (at_builtin; refine wpList_app _ rfl _ _ _ rfl wr.heap.size 3 i0 (.int .i64 0) 1 8 Try.underlying26 hi0 hz0 hz1 hz2 rfl (by omega) none 0 0 [] rfl (OwnS.nil _ _ _ _) (some ⟨pb, po, none⟩) l.length c (l.map (Value.int .i64)) rfl (by rw [List.length_map, Nat.mul_one]) HIN.out.cells (ints_one _) (by unfold maxLen; omega) (by omega) (Nat.le_refl _) ?_; intro A1 c1 w1 ho1 hg1 hat1; rw [Nat.zero_add, List.nil_append] at ho1; have X1 := Ext.app (Ext.rfl' wr) (OwnS.nil wr wr.heap.size 3 1) hg1))
          go_ret
          refine ⟨A3, c3, by rw [HR.out, HLEN.out]; rfl, ?_, X3⟩
          rw [HR.out]
          refine IL.of_own (base := wr.heap.size) (e := 3) ?_ HRNG.out
          unfold OwnI
          rw [HLEN.out, List.map_append]
          rw [List.append_nil] at ho3
          exact ho3
end Go.Proofs.Ytlbdjnbcoldjhaa
