/- slices.Grow of nil and slices.Concat, at ints. -/
import Derived.Test.YthhfjomjjhenkaaE5
import Derived.Lib.AppendZeros
namespace Go.Proofs.Ythhfjomjjhenkaa
open Go.RowKit

/-- what growing nil leaves -/
def growW (w : World) (n : Nat) : World := w.drew.alloc (.cells (Builtin.zeroCells (Value.int .i64 0).cells n ++ Builtin.zeroCells (Value.int .i64 0).cells (grownCap w n 0 3 - n)) 3)
def growC (w : World) (n : Nat) : Nat := grownCap w n 0 3
theorem growC_bd (w : World) (n : Nat) (h : n ≤ 1099511627776) : n ≤ growC w n ∧ growC w n ≤ 9223372036854775807 :=
  ⟨grownCap_ge w n 0 _, by have := grownCap_le_maxLen w n 0 3 (by unfold maxLen; omega); unfold maxLen at this; unfold growC; omega⟩
theorem growW_run (w : World) (n : Nat) (h : 0 < n ∧ n ≤ 1099511627776) :
    (Builtin.append_ #[22, 3] 22 #[.slice none 0 0, .int .i64 n]).run Try.prog w = .ok (.slice (some ⟨w.heap.size, 0, none⟩) n (growC w n)) (growW w n) := by
  obtain ⟨i0, hi0, hz0, hz1, hz2⟩ := info_parts infoInt
  exact Lib.run_append_nil_zeros (P := Try.prog) w 22 3 22 3 i0 (.int .i64 0) .i64 .i64 Try.underlying22 Try.underlying3 hi0 hz0 n (by omega) (by omega) (by omega) (by rw [hz2]; omega)
theorem growW_ext (w : World) (n : Nat) : Ext w (growW w n) := (Ext.drew w).trans (Ext.alloc w.drew _)
theorem growW_own (w : World) (n : Nat) (h : n ≤ 1099511627776) : OwnS (growW w n) w.heap.size 3 1 (some ⟨w.heap.size, 0, none⟩) 0 (growC w n) [] := by
  have hb := growC_bd w n h
  have hS : (Builtin.zeroCells (Value.int .i64 0).cells n ++ Builtin.zeroCells (Value.int .i64 0).cells (growC w n - n)).size = growC w n * 1 := by
    simp [Builtin.zeroCells, Value.cells]; omega
  have h1 := OwnS.of_blk (base := w.heap.size) (c := growC w n) (n := 0) (Blk.new w.drew 3 (Builtin.zeroCells (Value.int .i64 0).cells n ++ Builtin.zeroCells (Value.int .i64 0).cells (growC w n - n))) (Nat.le_refl _) hS (Nat.zero_le _) (by unfold maxLen; omega)
  have h2 : OwnS (w.drew.alloc (.cells (Builtin.zeroCells (Value.int .i64 0).cells n ++ Builtin.zeroCells (Value.int .i64 0).cells (growC w n - n)) 3)) w.heap.size 3 1 (some ⟨w.heap.size, 0, none⟩) 0 (growC w n) [] := by simpa using h1
  exact h2

set_option maxHeartbeats 1000000 in
theorem grow_nil (n : Nat) (w : World) (hn : n ≤ 1099511627776) :
    Calls Try.prog 69 #[.slice none 0 0, .int .i64 n] w fun e w' => ∃ A c, e = .returned (.slice A 0 c) ∧ OwnI w' w.heap.size 3 A c [] ∧ Ext w w' := by
  by_cases h0 : n = 0
  · subst h0
    go_enter Try.func69, Try.ntmps69
    go_wp2
    go_ret
    exact ⟨none, 0, rfl, OwnS.nil _ _ _ _, Ext.rfl' _⟩
  · have hn0 : (0 : Int) < n := by omega
    have hnI : (n : Int) ≤ 9223372036854775807 := by omega
    have HB := Lib.hid (show 0 < n ∧ n ≤ 1099511627776 by omega)
    obtain ⟨hge, hle⟩ := growC_bd w n hn
    clear h0 hn
    go_enter Try.func69, Try.ntmps69
    go_wp2_with ((at_builtin; refine Lib.wpList_append_run _ rfl _ _ _ _ rfl _ _ rfl rfl _ _ (growW_run w n HB.out) ?_))
    go_ret
    exact ⟨_, _, rfl, growW_own w n HB.out.2, growW_ext w n⟩

/-- a slice of slices of ints -/
structure LL (w : World) (A : Option Addr) (c : Nat) (xss : List (List Int)) : Prop where
  le : xss.length ≤ c
  cap : c ≤ maxLen
  at_ : xss ≠ [] → ∃ b o, A = some ⟨b, o, none⟩ ∧ ∀ i (h : i < xss.length), ∃ B d, w.cell? ⟨b, o + i, none⟩ = some (.slice B xss[i].length d) ∧ IL w B d xss[i]
theorem LL.ext {w w' : World} {A : Option Addr} {c : Nat} {xss : List (List Int)} (h : LL w A c xss) (k : Ext w w') : LL w' A c xss := by
  refine ⟨h.le, h.cap, fun hn => ?_⟩
  obtain ⟨b, o, rfl, hc⟩ := h.at_ hn
  refine ⟨b, o, rfl, fun i hi => ?_⟩
  obtain ⟨B, d, h1, h2⟩ := hc i hi
  exact ⟨B, d, k.cell h1, h2.ext k⟩
theorem LL.get {w : World} {A : Option Addr} {c : Nat} {xss : List (List Int)} (h : LL w A c xss) {k : Nat} (hk : k < xss.length) :
    ∃ b o B d, A = some ⟨b, o, none⟩ ∧ w.cell? ⟨b, o + k, none⟩ = some (.slice B xss[k].length d) ∧ IL w B d xss[k] := by
  obtain ⟨b, o, rfl, hc⟩ := h.at_ (by intro h0; subst h0; simp at hk)
  obtain ⟨B, d, h1, h2⟩ := hc k hk
  exact ⟨b, o, B, d, rfl, h1, h2⟩
theorem LL.three {w : World} {g T : Nat} {A B C : Option Addr} {a b c : Nat} {x y z : List Int}
    (h : Blk w g T #[.slice A x.length a, .slice B y.length b, .slice C z.length c]) (hx : IL w A a x) (hy : IL w B b y) (hz : IL w C c z) : LL w (some ⟨g, 0, none⟩) 3 [x, y, z] :=
  ⟨by simp, by unfold maxLen; omega, fun _ => ⟨g, 0, rfl, fun i hi => by
    match i, hi with
    | 0, _ => exact ⟨A, a, h.cell 0, hx⟩
    | 1, _ => exact ⟨B, b, h.cell 1, hy⟩
    | 2, _ => exact ⟨C, c, h.cell 2, hz⟩⟩⟩

theorem flatten_take_succ (xss : List (List Int)) (k : Nat) (h : k < xss.length) : (xss.take (k+1)).flatten = (xss.take k).flatten ++ xss[k] := by
  rw [List.take_succ_eq_append_getElem h, List.flatten_append]; simp
theorem flatten_take_le (xss : List (List Int)) (k : Nat) : (xss.take k).flatten.length ≤ xss.flatten.length := by
  conv => rhs; rw [← List.take_append_drop k xss, List.flatten_append, List.length_append]
  omega

/-- how long the first k are together -/
def lenTo (xss : List (List Int)) (k : Nat) : Nat := (xss.take k).flatten.length
theorem lenTo_succ (xss : List (List Int)) (k : Nat) (h : k < xss.length) : lenTo xss (k + 1) = lenTo xss k + xss[k].length := by
  unfold lenTo; rw [flatten_take_succ xss k h, List.length_append]
theorem lenTo_le (xss : List (List Int)) (k : Nat) : lenTo xss k ≤ xss.flatten.length := flatten_take_le xss k
theorem lenTo_all (xss : List (List Int)) : lenTo xss xss.length = xss.flatten.length := by unfold lenTo; rw [List.take_length]
theorem OwnS.lower {w : World} {base base' e size n c : Nat} {A : Option Addr} {xs : List Value} (h : OwnS w base e size A n c xs) (hb : base' ≤ base) : OwnS w base' e size A n c xs := by
  refine ⟨h.1, ?_⟩
  rcases h.2 with h | ⟨g, cap, cur, h1, h2, h3⟩
  · exact Or.inl h
  · exact Or.inr ⟨g, cap, cur, h1, Nat.le_trans hb h2, h3⟩

set_option maxHeartbeats 2000000 in
theorem concat_any (A : Option Addr) (c : Nat) (xss : List (List Int)) (w : World) (hl : LL w A c xss) (hb : xss.flatten.length ≤ 1099511627776) :
    Calls Try.prog 51 #[.slice A xss.length c] w (RetIL xss.flatten w) := by
  obtain ⟨i0, hi0, hz0, hz1, hz2⟩ := info_parts infoInt
  obtain ⟨a1, a2⟩ := (⟨hl.le, by have := hl.cap; unfold maxLen at this; omega⟩ : xss.length ≤ c ∧ c ≤ 9223372036854775807)
  have HB := Lib.hid hb
  clear hb
  go_enter Try.func51, Try.ntmps51
  go_wp2
  go_loopw [3, 11] (fun s i wr => ∃ k : Nat, k ≤ xss.length ∧ i = .int .i64 k ∧ s = .int .i64 (lenTo xss k : Nat) ∧ Ext w wr) (fun _ i _ => xss.length - (intOf i).toNat)
  case atStart => exact ⟨0, Nat.zero_le _, rfl, rfl, Ext.rfl' _⟩
  case round =>
    obtain ⟨k, hk, rfl, rfl, hext⟩ := hrel
    by_cases hlt : k < xss.length
    · obtain ⟨p1, o1, B, d, rfl, g1, i1⟩ := hl.get hlt
      replace g1 := hext.cell g1
      have hb1 := World.block_lt_of_cell? _ _ g1
      have hlt2 : (k : Int) < xss.length := by omega
      have hs := lenTo_succ xss k hlt
      have hs2 := lenTo_le xss (k + 1)
      have hB := HB.out
      have hs3 : (lenTo xss k : Int) + (xss[k].length : Int) ≤ 1099511627776 := by omega
      have hqm : ((lenTo xss k : Int) + (xss[k].length : Int)) = ((lenTo xss (k+1) : Nat) : Int) := by omega
      have HQ := Lib.hid hqm
      clear hB hs2 hs hqm
      generalize xss[k].length = m at *
      generalize lenTo xss k = q at *
      have hneg : ¬ ((q : Int) + (m : Int) < 0) := by omega
      have hneg2 : 0 ≤ (q : Int) + (m : Int) := by omega
      go_wp2
      go_roundw
      case rel => exact ⟨k + 1, by omega, by go_num, by rw [← HQ.out], hext⟩
      case measure => simp [intOf]; omega
    · have hk' : k = xss.length := by omega
      subst hk'
      have hN := lenTo_all xss
      have hB := HB.out
      rw [← hN] at hB
      have HN := Lib.hid hN
      have HG := Lib.hid hB
      clear hN hB
      go_wp2_with fail
      refine (grow_nil (lenTo xss xss.length) _ HG.out).mono ?_
      rintro e w1 ⟨A1, c1, rfl, ho, hx⟩
      replace ho : OwnI w1 w.heap.size 3 A1 c1 [] := OwnS.lower ho hext.size
      replace hext := hext.trans hx
      clear hx HG
      go_wp2
      go_loopw [6, 27] (fun v i wr => ∃ (k : Nat) (A' : Option Addr) (c' : Nat), k ≤ xss.length ∧ i = .int .i64 k ∧ v = .slice A' (lenTo xss k) c' ∧ OwnI wr w.heap.size 3 A' c' (xss.take k).flatten ∧ Ext w wr) (fun _ i _ => xss.length - (intOf i).toNat)
      case atStart => exact ⟨0, A1, c1, Nat.zero_le _, rfl, rfl, ho, hext⟩
      case round =>
        clear ho hext
        obtain ⟨k, A', c', hk, rfl, rfl, hown, hext⟩ := hrel
        by_cases hlt : k < xss.length
        · obtain ⟨p1, o1, B, d, rfl, g1, i1⟩ := hl.get hlt
          replace g1 := hext.cell g1
          replace i1 := i1.ext hext
          have hb1 := World.block_lt_of_cell? _ _ g1
          have hlt2 : (k : Int) < xss.length := by omega
          have hs := flatten_take_succ xss k hlt
          have hs2 := lenTo_le xss (k + 1)
          have hs3 := lenTo_succ xss k hlt
          have hB := HB.out
          have hzl : lenTo xss k = (xss.take k).flatten.length := rfl
          have H63 := Lib.hid (show lenTo xss k + xss[k].length ≤ maxLen by unfold maxLen; omega)
          have H8 := Lib.hid (show (lenTo xss k + xss[k].length) * 8 ≤ 140737488355328 by omega)
          have HCL := Lib.hid i1.cells
          have H1 := Lib.hid (ints_one xss[k])
          have HSZ := Lib.hid hext.size
          have HS := Lib.hid hs
          have HS3 := Lib.hid hs3
          have HO := Lib.hid hown
          unfold OwnI at HO
          rw [← hzl] at HO
          clear hs hs3 hs2 i1 hown hB hzl
          generalize xss[k] = ys at *
          generalize (xss.take k).flatten = zs at *
          generalize hq : lenTo xss k = q at *
          clear hq
          go_wp2_with ((at_builtin; refine wpList_app _ rfl _ _ _ rfl w.heap.size 3 i0 (.int .i64 0) 1 8 Try.underlying22 hi0 hz0 hz1 hz2 rfl (by omega) _ q c' (zs.map (Value.int .i64)) rfl HO.out _ ys.length d (ys.map (Value.int .i64)) rfl (by simp) HCL.out H1.out H63.out H8.out HSZ.out ?_; intro A2 c2 w2 hown2 hg2 _))
          have hx2 := hext.app HO.out hg2
          go_roundw
          case rel => exact ⟨k + 1, A2, c2, by omega, by go_num, by rw [HS3.out], by have h9 := HS3.out; unfold lenTo at h9; unfold OwnI; rw [h9, HS.out, List.map_append]; exact hown2, hx2⟩
          case measure => simp [intOf]; omega
        · have hk' : k = xss.length := by omega
          subst hk'
          rw [List.take_length] at hown
          have hrng : ∀ x ∈ xss.flatten, I64 x := by
            intro x hx
            obtain ⟨l, hl1, hl2⟩ := List.mem_flatten.1 hx
            obtain ⟨j, hj, rfl⟩ := List.getElem_of_mem hl1
            obtain ⟨_, _, B, d, _, _, i1⟩ := hl.get hj
            exact i1.rng x hl2
          have HO := Lib.hid hown
          have HR := Lib.hid hrng
          clear hown hrng
          go_wp2
          go_ret
          exact ⟨A', c', by rw [← HN.out]; rfl, IL.of_own HO.out HR.out, hext, OwnS.row HO.out⟩
end Go.Proofs.Ythhfjomjjhenkaa
