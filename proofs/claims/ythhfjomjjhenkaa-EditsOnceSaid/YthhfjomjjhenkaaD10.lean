/- The walk of EditsOnce. -/
import Derived.Test.YthhfjomjjhenkaaD11
namespace Go.Proofs.Ythhfjomjjhenkaa
open Go.RowKit
attribute [local go_sem ↓] Go.wp_at_zero Go.wp_at_succ

theorem GenM.cells {w : World} {base gN c d : Nat} {A B : Option Addr} {l : List Hv} {ws : List Oe} {nb : List Int} (h : GenM w base gN A c B d l ws nb) {j : Nat} (hj : j < l.length) :
    ∃ (z : Hv) (b o : Nat), z = l[j] ∧ A = some ⟨b, o, none⟩ ∧ w.cell? ⟨b, o + j * 6, none⟩ = some (.int .i64 z.it.client) ∧ w.cell? ⟨b, o + j * 6 + 1, none⟩ = some (.int .i64 z.it.number) ∧ w.cell? ⟨b, o + j * 6 + 2, none⟩ = some (.int .i64 z.it.base) ∧
      w.cell? ⟨b, o + j * 6 + 3, none⟩ = some (.int .i64 z.it.e.at_) ∧ w.cell? ⟨b, o + j * 6 + 4, none⟩ = some (.int .i64 z.it.e.del) ∧ w.cell? ⟨b, o + j * 6 + 5, none⟩ = some (.slice z.A z.it.e.ins.length z.c) ∧ IL w z.A z.c z.it.e.ins := by
  obtain ⟨b, o, hA, hcell⟩ := OwnS.cells h.its (by intro e; have := flatI_len l; rw [e] at this; simp at this; omega)
  obtain ⟨h0, h1, h2, h3, h4, h5⟩ := flatI_get l j hj
  have one : ∀ (i : Nat) (v : Value), (flatI l)[i]? = some v → w.cell? ⟨b, o + i, none⟩ = some v := fun i v hv => by
    obtain ⟨l1, e1⟩ := List.getElem?_eq_some_iff.1 hv
    rw [hcell i l1, e1]
  refine ⟨l[j], b, o, rfl, hA, one _ _ h0, ?_, ?_, ?_, ?_, ?_, (h.il _ (List.getElem_mem hj)).1⟩
  · rw [Nat.add_assoc]; exact one _ _ h1
  · rw [Nat.add_assoc]; exact one _ _ h2
  · rw [Nat.add_assoc]; exact one _ _ h3
  · rw [Nat.add_assoc]; exact one _ _ h4
  · rw [Nat.add_assoc]; exact one _ _ h5
theorem Lp.glen {w : World} {base g m1 m2 c p cG : Nat} {its : List It} {A G : Option Addr} {s : Ds} {got : List Oe} {tl : List Ed} (h : Lp w base g m1 m2 its A c s p G cG got tl) : got.length ≤ its.length := by
  have := congrArg List.length h.eq
  simp only [List.length_append, List.length_map, List.length_take] at this
  omega
theorem Lp.start {w : World} {base g m1 m2 : Nat} {its : List It} (hD : DeskAt w base g m1 m2 none 0 [] [] []) (h1 : base ≤ m1) (h2 : base ≤ m2) : Lp w base g m1 m2 its none 0 ⟨[], [], []⟩ 0 none 0 [] [] :=
  ⟨hD, ⟨h1, h2⟩, by simp, by simp [BdX], once_start, by simp [noRdy], OwnS.nil _ _ _ _, by simp, by simp, by simp⟩
theorem Ext.kpBase {a b c : World} (h : Ext a b) (k : KpP (fun i => a.heap.size ≤ i) b c) : Ext a c :=
  ⟨k.os.trans h.os, k.tape.trans h.tape, k.output.trans h.output, Nat.le_trans h.size k.size, fun i hi => (k.block i (Nat.lt_of_lt_of_le hi h.size) (by omega)).trans (h.block i hi)⟩

set_option maxRecDepth 100000 in
set_option maxHeartbeats 16000000 in
theorem EditsOnce_any (A O N : Option Addr) (ca co cn : Nat) (l ord cl : List Int) (w : World) (hl : IL w A ca l) (ho : IL w O co ord) (hn : IL w N cn cl) :
    Calls Try.prog 4 #[.slice A l.length ca, .slice O ord.length co, .slice N cl.length cn] w (RetV (.bool true) w) := by
  obtain ⟨iE, jE0, jE1, jE2, jE3⟩ := info_parts infoE2
  obtain ⟨iI, jI0, jI1, jI2, jI3⟩ := info_parts infoI
  have hll := hl.len
  have hlo := ho.len
  have hrl := hl.rng
  obtain ⟨b0, x0⟩ := alloc1 w 3 #[.int .i64 0, .int .i64 0, .int .i64 0]
  go_enter Try.func4, Try.ntmps4
  go_upto_block 0 with fail
  generalize hW : w.alloc (.cells #[.int .i64 0, .int .i64 0, .int .i64 0] 3) = W at *
  have hgN : w.heap.size < W.heap.size := b0.lt
  clear hW
  have G0 : GenM W w.heap.size w.heap.size none 0 none 0 [] [] [0, 0, 0] :=
    ⟨b0, OwnS.nil _ _ _ _, OwnS.nil _ _ _ _, by simp, by simp, by simp [Off], by simp [Off], by simp⟩
  have P0 : GenP [] [0, 0, 0] := ⟨fun j hj => by simp at hj, by simp, rfl, fun i hi => by
    match i, hi with
    | 0, _ => rfl
    | 1, _ => rfl
    | 2, _ => rfl⟩
  go_cut [7, 9, 10, 11, 12] from 22 to 67 (fun v7 v9 v10 v11 v12 wx => ∃ (A7 : Option Addr) (c7 : Nat) (A9 : Option Addr) (c9 : Nat) (its : List Hv) (nb : List Int), v7 = .slice A7 its.length c7 ∧ v9 = .slice A9 its.length c9 ∧ its.length ≤ 12 ∧
    GenM wx w.heap.size w.heap.size A7 c7 A9 c9 its (its.map toOe) nb ∧ Hid (GenP its nb) ∧ Ext w wx)
  case first =>
    --BEGIN1
    go_wp2_with fail
    go_loopw [7, 9, 10] (fun v7 v9 i wr => ∃ (n : Nat) (A7 : Option Addr) (c7 : Nat) (A9 : Option Addr) (c9 : Nat) (its : List Hv) (nb : List Int), i = .int .i64 n ∧ Hid (n = 2 * its.length ∧ n ≤ 24) ∧ n ≤ 24 ∧ its.length ≤ 12 ∧
      v7 = .slice A7 its.length c7 ∧ v9 = .slice A9 its.length c9 ∧ GenM wr w.heap.size w.heap.size A7 c7 A9 c9 its (its.map toOe) nb ∧ Hid (GenP its nb) ∧ Ext w wr) (fun _ _ i _ => 26 - (intOf i).toNat)
    case atStart => exact ⟨0, none, 0, none, 0, [], [0, 0, 0], rfl, ⟨rfl, by omega⟩, by omega, by simp, rfl, rfl, G0, P0, x0⟩
    case round =>
      clear G0 P0 x0 b0
      obtain ⟨n, A7, c7, A9, c9, its, nb, rfl, hn2, hn24, hil, rfl, rfl, G, hP, hext⟩ := hrel
      by_cases h1 : n + 1 < l.length
      · by_cases h2 : n < 24
        · have hlt : n + 1 < l.length ∧ n < 24 := ⟨h1, h2⟩
          clear h1 h2
          have hI1 : (n : Int) + 1 < l.length := by omega
          have hI2 : (n : Int) < 24 := by omega
          have hI3 : (n : Int) < l.length := by omega
          obtain ⟨pb, po, hA1, g1⟩ := (hl.ext hext).get (show n < l.length by omega)
          obtain ⟨pb2, po2, hA2, g2⟩ := (hl.ext hext).get (show n + 1 < l.length by omega)
          rw [hA1] at hA2
          obtain ⟨rfl, rfl⟩ : pb = pb2 ∧ po = po2 := by injection hA2 with h1; injection h1 with h2 h3 h4; exact ⟨h2, h3⟩
          subst hA1
          have r1 : I64 l[n] := hrl _ (List.getElem_mem _)
          have r2 : I64 l[n + 1] := hrl _ (List.getElem_mem _)
          generalize l[n] = v1 at *
          generalize l[n + 1] = v2 at *
          have hpk := pick_bd cl n 3 (by omega)
          obtain ⟨c, hc⟩ : ∃ c : Nat, pick cl n 3 = (c : Int) := ⟨(pick cl n 3).toNat, by omega⟩
          have hc3 : c < 3 := by omega
          have hc3I : (c : Int) < 3 := by omega
          have HPK := Lib.hid (pick_any N cn cl n 3 wr (hn.ext hext) (by omega) (by omega) (by omega))
          rw [hc] at HPK
          have hcnt := hP.out.cnt c hc3
          have hcle := cntC_le (its.map (·.it)) c
          rw [List.length_map] at hcle
          have HADD := fun (e : Ed) (X : Option Addr) (k : Nat) (he : formed e.at_ e.del e.ins = true) => Lib.hid (hP.out.add (c := c) hc3 (by omega) (e := e) (X := X) (k := k) he)
          generalize hq : cntC (its.map (·.it)) c = q at *
          clear hc hpk hq
          have HRE := fun (W' : World) => Lib.hid (rEdit_any 9 v1 v2 W' (by omega) r1 r2)
          have HFO := Lib.hid (redit_formed v1 v2)
          change ∀ W', Hid (Calls _ _ #[.int .i64 9, .int .i64 v1, .int .i64 v2] W' _) at HRE
          change Hid (formed (redit ((9 : Nat) : Int) v1 v2).at_ (redit ((9 : Nat) : Int) v1 v2).del (redit ((9 : Nat) : Int) v1 v2).ins = true) at HFO
          generalize redit ((9 : Nat) : Int) v1 v2 = ed at *
          go_wp2_with fail
          refine HPK.out.mono ?_
          rintro e w1 h1
          obtain ⟨rfl, x1⟩ := h1.v
          clear h1
          replace hext := hext.trans x1
          replace G := G.ext x1
          have hgw1 := G.nums.lt
          replace g1 := x1.cell g1
          replace g2 := x1.cell g2
          have kg1 := fun (w' : World) (h : Kp [] w1 w') => h.cell g1 (by simp)
          have kg2 := fun (w' : World) (h : Kp [] w1 w') => h.cell g2 (by simp)
          have hwn : IntKind.i64.wrap ((n : Int) + 1) = (n : Int) + 1 := by rw [IntKind.wrap_i64]; omega
          have hto : ((n : Int) + 1).toNat = n + 1 := by omega
          have hge0 : (0 : Int) ≤ (n : Int) + 1 := by omega
          go_wp2_with fail
          refine Xr.start [] (by kernel_rfl) ?_
          repeat (first | (refine Xr.take 0 (some 36) (v := ?_) rfl rfl (by decide +kernel) (by rfl) ?_ ?_; rotate_left; (focus (intro w' hk; go_simp; (try with_reducible rfl); done)); (try simp only [Act.put, List.setIfInBounds_toArray, List.set_cons_zero, List.set_cons_succ])) | (refine Xr.take 1 (some 37) (v := ?_) rfl rfl (by decide +kernel) (by rfl) ?_ ?_; rotate_left; (focus (intro w' hk; go_simp; (try with_reducible rfl); done)); (try simp only [Act.put, List.setIfInBounds_toArray, List.set_cons_zero, List.set_cons_succ])) | (refine Xr.take 2 (some 38) (v := ?_) rfl rfl (by decide +kernel) (by rfl) ?_ ?_; rotate_left; (focus (intro w' hk; go_simp; (try with_reducible rfl); done)); (try simp only [Act.put, List.setIfInBounds_toArray, List.set_cons_zero, List.set_cons_succ])) | (refine Xr.take 3 (some 39) (v := ?_) rfl rfl (by decide +kernel) (by rfl) ?_ ?_; rotate_left; (focus (intro w' hk; go_simp; (try with_reducible rfl); done)); (try simp only [Act.put, List.setIfInBounds_toArray, List.set_cons_zero, List.set_cons_succ])) | (refine Xr.take 4 (some 40) (v := ?_) rfl rfl (by decide +kernel) (by rfl) ?_ ?_; rotate_left; (focus (intro w' hk; go_simp; (try with_reducible rfl); done)); (try simp only [Act.put, List.setIfInBounds_toArray, List.set_cons_zero, List.set_cons_succ])) | (refine Xr.take 5 (some 41) (v := ?_) rfl rfl (by decide +kernel) (by rfl) ?_ ?_; rotate_left; (focus (intro w' hk; go_simp; (try with_reducible rfl); done)); (try simp only [Act.put, List.setIfInBounds_toArray, List.set_cons_zero, List.set_cons_succ])) | (refine Xr.take 6 (some 42) (v := ?_) rfl rfl (by decide +kernel) (by rfl) ?_ ?_; rotate_left; (focus (intro w' hk; go_simp; (try with_reducible rfl); done)); (try simp only [Act.put, List.setIfInBounds_toArray, List.set_cons_zero, List.set_cons_succ])) | (refine Xr.take 7 (some 43) (v := ?_) rfl rfl (by decide +kernel) (by rfl) ?_ ?_; rotate_left; (focus (intro w' hk; go_simp; (try with_reducible rfl); done)); (try simp only [Act.put, List.setIfInBounds_toArray, List.set_cons_zero, List.set_cons_succ])) | (refine Xr.take 8 (some 44) (v := ?_) rfl rfl (by decide +kernel) (by rfl) ?_ ?_; rotate_left; (focus (intro w' hk; go_simp; (try with_reducible rfl); done)); (try simp only [Act.put, List.setIfInBounds_toArray, List.set_cons_zero, List.set_cons_succ])))
          refine Xr.lazy 10 12 11 (fun g => .pointer (some ⟨g, 0, none⟩)) 25 #[.int .i64 0, .int .i64 0, .slice none 0 0] rfl (by simp) (by decide +kernel) (by simp) (fun w' => by go_simp) ?_
          refine Xr.call 9 rfl (by decide +kernel) (by rfl) (fun w2 hE2 hK2 K hKK => ?_)
          go_simp
          refine (HRE _).out.mono ?_
          rintro e w3 ⟨X, xc, rfl, iX, hx3, hfr⟩
          refine hKK _ _ hx3 ?_
          clear hKK
          (try simp only [Act.put, List.setIfInBounds_toArray, List.set_cons_zero, List.set_cons_succ])
          repeat (first | (refine Xr.take 0 (some 36) (v := ?_) rfl rfl (by decide +kernel) (by rfl) ?_ ?_; rotate_left; (focus (intro w' hk; go_simp; (try with_reducible rfl); done)); (try simp only [Act.put, List.setIfInBounds_toArray, List.set_cons_zero, List.set_cons_succ])) | (refine Xr.take 1 (some 37) (v := ?_) rfl rfl (by decide +kernel) (by rfl) ?_ ?_; rotate_left; (focus (intro w' hk; go_simp; (try with_reducible rfl); done)); (try simp only [Act.put, List.setIfInBounds_toArray, List.set_cons_zero, List.set_cons_succ])) | (refine Xr.take 2 (some 38) (v := ?_) rfl rfl (by decide +kernel) (by rfl) ?_ ?_; rotate_left; (focus (intro w' hk; go_simp; (try with_reducible rfl); done)); (try simp only [Act.put, List.setIfInBounds_toArray, List.set_cons_zero, List.set_cons_succ])) | (refine Xr.take 3 (some 39) (v := ?_) rfl rfl (by decide +kernel) (by rfl) ?_ ?_; rotate_left; (focus (intro w' hk; go_simp; (try with_reducible rfl); done)); (try simp only [Act.put, List.setIfInBounds_toArray, List.set_cons_zero, List.set_cons_succ])) | (refine Xr.take 4 (some 40) (v := ?_) rfl rfl (by decide +kernel) (by rfl) ?_ ?_; rotate_left; (focus (intro w' hk; go_simp; (try with_reducible rfl); done)); (try simp only [Act.put, List.setIfInBounds_toArray, List.set_cons_zero, List.set_cons_succ])) | (refine Xr.take 5 (some 41) (v := ?_) rfl rfl (by decide +kernel) (by rfl) ?_ ?_; rotate_left; (focus (intro w' hk; go_simp; (try with_reducible rfl); done)); (try simp only [Act.put, List.setIfInBounds_toArray, List.set_cons_zero, List.set_cons_succ])) | (refine Xr.take 6 (some 42) (v := ?_) rfl rfl (by decide +kernel) (by rfl) ?_ ?_; rotate_left; (focus (intro w' hk; go_simp; (try with_reducible rfl); done)); (try simp only [Act.put, List.setIfInBounds_toArray, List.set_cons_zero, List.set_cons_succ])) | (refine Xr.take 7 (some 43) (v := ?_) rfl rfl (by decide +kernel) (by rfl) ?_ ?_; rotate_left; (focus (intro w' hk; go_simp; (try with_reducible rfl); done)); (try simp only [Act.put, List.setIfInBounds_toArray, List.set_cons_zero, List.set_cons_succ])) | (refine Xr.take 8 (some 44) (v := ?_) rfl rfl (by decide +kernel) (by rfl) ?_ ?_; rotate_left; (focus (intro w' hk; go_simp; (try with_reducible rfl); done)); (try simp only [Act.put, List.setIfInBounds_toArray, List.set_cons_zero, List.set_cons_succ])))
          refine Xr.stepZ rfl (by decide +kernel) (fun _ => by rfl) (fun w4 g12 hE4 hK4 hg12 hB hno K hKK => ?_)
          (try simp only [Act.put, List.setIfInBounds_toArray, List.set_cons_zero, List.set_cons_succ])
          have m0 := (Blk.c3 hB).1; have m1 := (Blk.c3 hB).2.1; have m2 := (Blk.c3 hB).2.2.1; have m0f := (Blk.c3 hB).2.2.2.1; have m1f := (Blk.c3 hB).2.2.2.2.1; have m2f := (Blk.c3 hB).2.2.2.2.2.1; have mz := (Blk.c3 hB).2.2.2.2.2.2
          go_simp
          refine hKK _ _ (WI_set (WI_set (WI_set (WI_refl _ _ _) _ _) _ _) _ _) (((hK4.setN hg12 _ _).setN hg12 _ _).setN hg12 _ _) ?_
          clear hKK
          (try simp only [Act.put, List.setIfInBounds_toArray, List.set_cons_zero, List.set_cons_succ])
          repeat (first | (refine Xr.take 0 (some 36) (v := ?_) rfl rfl (by decide +kernel) (by rfl) ?_ ?_; rotate_left; (focus (intro w' hk; go_simp; (try with_reducible rfl); done)); (try simp only [Act.put, List.setIfInBounds_toArray, List.set_cons_zero, List.set_cons_succ])) | (refine Xr.take 1 (some 37) (v := ?_) rfl rfl (by decide +kernel) (by rfl) ?_ ?_; rotate_left; (focus (intro w' hk; go_simp; (try with_reducible rfl); done)); (try simp only [Act.put, List.setIfInBounds_toArray, List.set_cons_zero, List.set_cons_succ])) | (refine Xr.take 2 (some 38) (v := ?_) rfl rfl (by decide +kernel) (by rfl) ?_ ?_; rotate_left; (focus (intro w' hk; go_simp; (try with_reducible rfl); done)); (try simp only [Act.put, List.setIfInBounds_toArray, List.set_cons_zero, List.set_cons_succ])) | (refine Xr.take 3 (some 39) (v := ?_) rfl rfl (by decide +kernel) (by rfl) ?_ ?_; rotate_left; (focus (intro w' hk; go_simp; (try with_reducible rfl); done)); (try simp only [Act.put, List.setIfInBounds_toArray, List.set_cons_zero, List.set_cons_succ])) | (refine Xr.take 4 (some 40) (v := ?_) rfl rfl (by decide +kernel) (by rfl) ?_ ?_; rotate_left; (focus (intro w' hk; go_simp; (try with_reducible rfl); done)); (try simp only [Act.put, List.setIfInBounds_toArray, List.set_cons_zero, List.set_cons_succ])) | (refine Xr.take 5 (some 41) (v := ?_) rfl rfl (by decide +kernel) (by rfl) ?_ ?_; rotate_left; (focus (intro w' hk; go_simp; (try with_reducible rfl); done)); (try simp only [Act.put, List.setIfInBounds_toArray, List.set_cons_zero, List.set_cons_succ])) | (refine Xr.take 6 (some 42) (v := ?_) rfl rfl (by decide +kernel) (by rfl) ?_ ?_; rotate_left; (focus (intro w' hk; go_simp; (try with_reducible rfl); done)); (try simp only [Act.put, List.setIfInBounds_toArray, List.set_cons_zero, List.set_cons_succ])) | (refine Xr.take 7 (some 43) (v := ?_) rfl rfl (by decide +kernel) (by rfl) ?_ ?_; rotate_left; (focus (intro w' hk; go_simp; (try with_reducible rfl); done)); (try simp only [Act.put, List.setIfInBounds_toArray, List.set_cons_zero, List.set_cons_succ])) | (refine Xr.take 8 (some 44) (v := ?_) rfl rfl (by decide +kernel) (by rfl) ?_ ?_; rotate_left; (focus (intro w' hk; go_simp; (try with_reducible rfl); done)); (try simp only [Act.put, List.setIfInBounds_toArray, List.set_cons_zero, List.set_cons_succ])))
          refine Xr.done (by decide +kernel) (fun w5 hE5 hK5 => ?_)
          have b12 := (((hB.set 0 (.int .i64 ed.at_)).set 1 (.int .i64 ed.del)).set 2 (.slice X ed.ins.length xc)).ext hE5
          simp only [List.setIfInBounds_toArray, List.set_cons_zero, List.set_cons_succ] at b12
          have iX5 := (iX.past3 hfr hE4 hno (.int .i64 ed.at_) (.int .i64 ed.del) (.slice X ed.ins.length xc)).ext hE5
          have x5 := hK5.nil
          have hw2 := hE2.size
          have hsep : ed.ins ≠ [] → ∀ b, X.map (·.block) = some b → b ≠ w.heap.size ∧ Off A7 b ∧ Off A9 b := fun _ b hb => by
            have h1 := hfr b hb
            have h2 := G.nums.lt
            refine ⟨by omega, fun e => ?_, fun e => ?_⟩
            · have := (OwnS.blt G.its e).1; omega
            · have := (OwnS.blt G.wts e).1; omega
          have HSEP := Lib.hid hsep
          have n12 : g12 ∉ blkL A7 := by
            rw [mem_blkL]; intro e
            have := (OwnS.blt G.its e).1; omega
          have ngN : w.heap.size ∉ blkL A7 := by rw [mem_blkL]; exact G.oA
          have hLlt : ∀ b ∈ blkL A7, b < w5.heap.size := fun b hb => by
            rw [mem_blkL] at hb
            have := (OwnS.blt G.its hb).1; have := x5.size; omega
          replace hext := hext.trans x5
          replace G := G.ext x5
          clear m0 m1 m2 m0f m1f m2f mz hB hE2 hE4 hE5 hK2 hK4 hK5 kg1 kg2 g1 g2 iX hx3 hsep hwn hto hge0 HRE x5
          have hcc : w5.cell? ⟨w.heap.size, c, none⟩ = some (.int .i64 q) := by
            rw [G.nums.cell]
            simp [hcnt]
          have HCC := Lib.hid hcnt
          clear hcnt
          have e0 := (Blk.c3 b12).1; have e1 := (Blk.c3 b12).2.1; have e2 := (Blk.c3 b12).2.2.1; have e0f := (Blk.c3 b12).2.2.2.1; have e1f := (Blk.c3 b12).2.2.2.2.1; have e2f := (Blk.c3 b12).2.2.2.2.2.1; have ez := (Blk.c3 b12).2.2.2.2.2.2
          have ke0 := fun (w' : World) (h : Kp (blkL A7) w5 w') => h.cell e0 n12
          have ke1 := fun (w' : World) (h : Kp (blkL A7) w5 w') => h.cell e1 n12
          have ke2 := fun (w' : World) (h : Kp (blkL A7) w5 w') => h.cell e2 n12
          have kcc := fun (w' : World) (h : Kp (blkL A7) w5 w') => h.cell hcc ngN
          have hc0 : (0 : Int) ≤ (c : Int) := by omega
          go_wp2_with fail
          refine Xr.start (blkL A7) (by kernel_rfl) ?_
          repeat (first | (refine Xr.take 0 (some 46) (v := ?_) rfl rfl (by decide +kernel) (by rfl) ?_ ?_; rotate_left; (focus (intro w' hk; go_simp; (try with_reducible rfl); done)); (try simp only [Act.put, List.setIfInBounds_toArray, List.set_cons_zero, List.set_cons_succ])) | (refine Xr.take 1 (some 47) (v := ?_) rfl rfl (by decide +kernel) (by rfl) ?_ ?_; rotate_left; (focus (intro w' hk; go_simp; (try with_reducible rfl); done)); (try simp only [Act.put, List.setIfInBounds_toArray, List.set_cons_zero, List.set_cons_succ])) | (refine Xr.take 2 (some 48) (v := ?_) rfl rfl (by decide +kernel) (by rfl) ?_ ?_; rotate_left; (focus (intro w' hk; go_simp; (try with_reducible rfl); done)); (try simp only [Act.put, List.setIfInBounds_toArray, List.set_cons_zero, List.set_cons_succ])) | (refine Xr.take 3 (some 49) (v := ?_) rfl rfl (by decide +kernel) (by rfl) ?_ ?_; rotate_left; (focus (intro w' hk; go_simp; (try with_reducible rfl); done)); (try simp only [Act.put, List.setIfInBounds_toArray, List.set_cons_zero, List.set_cons_succ])) | (refine Xr.take 4 (some 50) (v := ?_) rfl rfl (by decide +kernel) (by rfl) ?_ ?_; rotate_left; (focus (intro w' hk; go_simp; (try with_reducible rfl); done)); (try simp only [Act.put, List.setIfInBounds_toArray, List.set_cons_zero, List.set_cons_succ])) | (refine Xr.take 5 (some 51) (v := ?_) rfl rfl (by decide +kernel) (by rfl) ?_ ?_; rotate_left; (focus (intro w' hk; go_simp; (try with_reducible rfl); done)); (try simp only [Act.put, List.setIfInBounds_toArray, List.set_cons_zero, List.set_cons_succ])) | (refine Xr.take 6 (some 52) (v := ?_) rfl rfl (by decide +kernel) (by rfl) ?_ ?_; rotate_left; (focus (intro w' hk; go_simp; (try with_reducible rfl); done)); (try simp only [Act.put, List.setIfInBounds_toArray, List.set_cons_zero, List.set_cons_succ])) | (refine Xr.take 7 (some 53) (v := ?_) rfl rfl (by decide +kernel) (by rfl) ?_ ?_; rotate_left; (focus (intro w' hk; go_simp; (try with_reducible rfl); done)); (try simp only [Act.put, List.setIfInBounds_toArray, List.set_cons_zero, List.set_cons_succ])) | (refine Xr.take 8 (some 54) (v := ?_) rfl rfl (by decide +kernel) (by rfl) ?_ ?_; rotate_left; (focus (intro w' hk; go_simp; (try with_reducible rfl); done)); (try simp only [Act.put, List.setIfInBounds_toArray, List.set_cons_zero, List.set_cons_succ])) | (refine Xr.take 9 (some 55) (v := ?_) rfl rfl (by decide +kernel) (by rfl) ?_ ?_; rotate_left; (focus (intro w' hk; go_simp; (try with_reducible rfl); done)); (try simp only [Act.put, List.setIfInBounds_toArray, List.set_cons_zero, List.set_cons_succ])) | (refine Xr.take 12 (some 7) (v := ?_) rfl rfl (by decide +kernel) (by rfl) ?_ ?_; rotate_left; (focus (intro w' hk; go_simp; (try with_reducible rfl); done)); (try simp only [Act.put, List.setIfInBounds_toArray, List.set_cons_zero, List.set_cons_succ])))
          refine Xr.lazy 10 56 11 (fun g => .slice (some ⟨g, 0, none⟩) 1 1) 39 #[.int .i64 c, .int .i64 q, .int .i64 its.length, .int .i64 ed.at_, .int .i64 ed.del, .slice X ed.ins.length xc] rfl hLlt (by decide +kernel) (by simp) (fun w' => by go_simp) ?_
          refine Xr.stepZ rfl (by decide +kernel) (fun _ => by rfl) (fun w6 gb hE6 hK6 hgb hB _ K hKK => ?_)
          (try simp only [Act.put, List.setIfInBounds_toArray, List.set_cons_zero, List.set_cons_succ])
          have G6 := G.ext hE6
          have hB' : Blk w6 gb 39 (flatI [⟨⟨c, q, its.length, ed⟩, X, xc⟩]).toArray := hB
          refine wp_app _ _ _ _ rfl w.heap.size 39 iI _ 6 64 Try.underlying37 jI0 jI1 jI2 jI3 rfl (by omega) A7 its.length c7 (flatI its) rfl G6.its _ 1 1 (flatI [⟨⟨c, q, its.length, ed⟩, X, xc⟩]) rfl rfl (blk_cells hB') (flatI_one _) (by unfold maxLen; omega) (by omega) (by have := G6.nums.lt; omega) ?_
          intro A8 c8 w7 ho7 hg7 hat7
          refine hKK _ _ (WI_kp (KpP.of_grown hg7) (fun i hi => mem_blkL.2 hi)) (hK6.kpP (KpP.of_grown hg7) (fun i hi => mem_blkL.2 hi)) ?_
          clear hKK
          (try simp only [Act.put, List.setIfInBounds_toArray, List.set_cons_zero, List.set_cons_succ])
          repeat (first | (refine Xr.take 0 (some 46) (v := ?_) rfl rfl (by decide +kernel) (by rfl) ?_ ?_; rotate_left; (focus (intro w' hk; go_simp; (try with_reducible rfl); done)); (try simp only [Act.put, List.setIfInBounds_toArray, List.set_cons_zero, List.set_cons_succ])) | (refine Xr.take 1 (some 47) (v := ?_) rfl rfl (by decide +kernel) (by rfl) ?_ ?_; rotate_left; (focus (intro w' hk; go_simp; (try with_reducible rfl); done)); (try simp only [Act.put, List.setIfInBounds_toArray, List.set_cons_zero, List.set_cons_succ])) | (refine Xr.take 2 (some 48) (v := ?_) rfl rfl (by decide +kernel) (by rfl) ?_ ?_; rotate_left; (focus (intro w' hk; go_simp; (try with_reducible rfl); done)); (try simp only [Act.put, List.setIfInBounds_toArray, List.set_cons_zero, List.set_cons_succ])) | (refine Xr.take 3 (some 49) (v := ?_) rfl rfl (by decide +kernel) (by rfl) ?_ ?_; rotate_left; (focus (intro w' hk; go_simp; (try with_reducible rfl); done)); (try simp only [Act.put, List.setIfInBounds_toArray, List.set_cons_zero, List.set_cons_succ])) | (refine Xr.take 4 (some 50) (v := ?_) rfl rfl (by decide +kernel) (by rfl) ?_ ?_; rotate_left; (focus (intro w' hk; go_simp; (try with_reducible rfl); done)); (try simp only [Act.put, List.setIfInBounds_toArray, List.set_cons_zero, List.set_cons_succ])) | (refine Xr.take 5 (some 51) (v := ?_) rfl rfl (by decide +kernel) (by rfl) ?_ ?_; rotate_left; (focus (intro w' hk; go_simp; (try with_reducible rfl); done)); (try simp only [Act.put, List.setIfInBounds_toArray, List.set_cons_zero, List.set_cons_succ])) | (refine Xr.take 6 (some 52) (v := ?_) rfl rfl (by decide +kernel) (by rfl) ?_ ?_; rotate_left; (focus (intro w' hk; go_simp; (try with_reducible rfl); done)); (try simp only [Act.put, List.setIfInBounds_toArray, List.set_cons_zero, List.set_cons_succ])) | (refine Xr.take 7 (some 53) (v := ?_) rfl rfl (by decide +kernel) (by rfl) ?_ ?_; rotate_left; (focus (intro w' hk; go_simp; (try with_reducible rfl); done)); (try simp only [Act.put, List.setIfInBounds_toArray, List.set_cons_zero, List.set_cons_succ])) | (refine Xr.take 8 (some 54) (v := ?_) rfl rfl (by decide +kernel) (by rfl) ?_ ?_; rotate_left; (focus (intro w' hk; go_simp; (try with_reducible rfl); done)); (try simp only [Act.put, List.setIfInBounds_toArray, List.set_cons_zero, List.set_cons_succ])) | (refine Xr.take 9 (some 55) (v := ?_) rfl rfl (by decide +kernel) (by rfl) ?_ ?_; rotate_left; (focus (intro w' hk; go_simp; (try with_reducible rfl); done)); (try simp only [Act.put, List.setIfInBounds_toArray, List.set_cons_zero, List.set_cons_succ])) | (refine Xr.take 12 (some 7) (v := ?_) rfl rfl (by decide +kernel) (by rfl) ?_ ?_; rotate_left; (focus (intro w' hk; go_simp; (try with_reducible rfl); done)); (try simp only [Act.put, List.setIfInBounds_toArray, List.set_cons_zero, List.set_cons_succ])))
          refine Xr.done (by decide +kernel) (fun w8 hE8 hK8 => ?_)
          have G8 := (G6.addI (z := ⟨⟨c, q, its.length, ed⟩, X, xc⟩) hg7 ho7 hat7 (iX5.ext hE6) HSEP.out).ext hE8
          have hcc8 : w8.cell? ⟨w.heap.size, c, none⟩ = some (.int .i64 q) := by
            rw [G8.nums.cell]
            simp [HCC.out]
          have hcf8 := G8.nums.frz c
          have hgz8 := G8.nums.lt
          have b12' := Kp.blk b12 hK8 n12
          have iX8 : IL w8 X xc ed.ins := (G8.il ⟨⟨c, q, its.length, ed⟩, X, xc⟩ (by simp)).1
          have hs8 := (G8.il ⟨⟨c, q, its.length, ed⟩, X, xc⟩ (by simp)).2
          have HS8 := Lib.hid hs8
          have hext8 : Ext w w8 := hext.kp (KpP.kp (p := fun b => w.heap.size ≤ b) hK8 (fun i hi => OwnS.row G.its i (mem_blkL.1 hi))) (fun i hi => hi)
          have hn128 : g12 ≠ w.heap.size := by omega
          clear ke0 ke1 ke2 kcc e0 e1 e2 e0f e1f e2f ez hcc b12 hE6 hE8 hK6 hK8 ho7 hg7 hat7 hB hB' hs8
          have hqq : (q : Int) ≤ 12 := by omega
          obtain ⟨f0, f1, f2, _, _, _, fz⟩ := b12'.c3
          have G9 := G8.setN c ((q : Int) + 1)
          have b13 := b12'.far (p := ⟨w.heap.size, c, none⟩) hn128 (.int .i64 ((q : Int) + 1))
          obtain ⟨h0, h1, h2, _, _, _, hz⟩ := b13.c3
          have hext9 := hext8.setNew (p := ⟨w.heap.size, c, none⟩) (Nat.le_refl _) (.int .i64 ((q : Int) + 1))
          have HL12 := Lib.hid (show (its.map toOe).length + 1 ≤ maxLen ∧ ((its.map toOe).length + 1) * 40 ≤ 140737488355328 by rw [List.length_map]; unfold maxLen; omega)
          have hml : (its.map toOe).length = its.length := List.length_map ..
          have hwt := G9.wts
          rw [hml] at hwt HL12
          clear hml
          have hsz9 : (w8.setCell ⟨w.heap.size, c, none⟩ (.int .i64 ((q : Int) + 1))).heap.size = w8.heap.size := by simp
          have hnew := Blk.new (w8.setCell ⟨w.heap.size, c, none⟩ (.int .i64 ((q : Int) + 1))) 25 (flatE [⟨ed, X, xc⟩]).toArray
          rw [hsz9] at hnew
          have HNEW := Lib.hid hnew
          clear hnew hsz9
          go_wp2_with ((at_builtin; refine wpList_app _ rfl _ _ _ rfl w.heap.size 25 iE _ 3 40 Try.underlying28 jE0 jE1 jE2 jE3 rfl (by omega) A9 its.length c9 (flatE (its.map toOe)) rfl (OwnS.ext hwt (Ext.alloc _ _)) _ 1 1 (flatE [⟨ed, X, xc⟩]) rfl rfl (blk_cells HNEW.out) (flatE_one _) HL12.out.1 HL12.out.2 (by have := hext8.size; simp; omega) ?_; intro B2 d2 w10 ho10 hg10 hat10))
          have hml : (its.map toOe).length = its.length := List.length_map ..
          have G10 := (G9.ext (Ext.alloc _ _)).addW (o := ⟨ed, X, xc⟩) hg10 (by rw [hml]; exact ho10) hat10 ((G9.il ⟨⟨c, q, its.length, ed⟩, X, xc⟩ (by simp)).1.ext (Ext.alloc _ _)) (G9.il ⟨⟨c, q, its.length, ed⟩, X, xc⟩ (by simp)).2
          have X10 := Ext.app (hext9.trans (Ext.alloc _ _)) (OwnS.ext hwt (Ext.alloc _ _)) hg10
          have E10 : its.map toOe ++ [⟨ed, X, xc⟩] = (its ++ [(⟨⟨c, q, its.length, ed⟩, X, xc⟩ : Hv)]).map toOe := by rw [List.map_append]; rfl
          rw [E10] at G10
          have P10 := HADD ed X xc HFO.out
          have hN := Lib.hid (show n + 2 = 2 * (its ++ [(⟨⟨c, q, its.length, ed⟩, X, xc⟩ : Hv)]).length ∧ n + 2 ≤ 24 by have := hn2.out; simp only [List.length_append, List.length_cons, List.length_nil]; omega)
          have hN1 : (its ++ [(⟨⟨c, q, its.length, ed⟩, X, xc⟩ : Hv)]).length ≤ 12 := by have := hN.out; omega
          have hN2 := Lib.hid (show its.length + 1 = (its ++ [(⟨⟨c, q, its.length, ed⟩, X, xc⟩ : Hv)]).length by simp)
          clear hml
          go_wp2_with fail
          go_roundw
          case rel => exact ⟨n + 2, A8, c8, B2, d2, its ++ [⟨⟨c, q, its.length, ed⟩, X, xc⟩], nb.set c ((q : Int) + 1), by go_num, hN, hN.out.2, hN1, by rw [hN2.out], by rw [hN2.out], G10, P10, X10⟩
          case measure => simp [intOf]; omega
        · have hI1 : (n : Int) + 1 < l.length := by omega
          have hI2 : ¬ (n : Int) < 24 := by omega
          have hwn : IntKind.i64.wrap ((n : Int) + 1) = (n : Int) + 1 := by rw [IntKind.wrap_i64]; omega
          go_wp2_with fail
          go_meet
          exact ⟨A7, c7, A9, c9, its, nb, rfl, rfl, hil, G, hP, hext⟩
      · have hI1 : ¬ (n : Int) + 1 < l.length := by omega
        have hwn : IntKind.i64.wrap ((n : Int) + 1) = (n : Int) + 1 := by rw [IntKind.wrap_i64]; omega
        go_wp2_with fail
        go_meet
        exact ⟨A7, c7, A9, c9, its, nb, rfl, rfl, hil, G, hP, hext⟩
    --END1
  case rest =>
    --BEGIN2
    obtain ⟨A7, c7, A9, c9, its, nb, rfl, rfl, hil, G, hP, hext⟩ := hcut
    clear G0 P0 x0 b0
    have hONC := hP.out.once
    have hITS : ∀ x ∈ its.map (·.it), ItOk x := fun x hx => by
      obtain ⟨z, hz, rfl⟩ := List.mem_map.1 hx
      exact (hP.out.ok z hz).1
    obtain ⟨its', hits⟩ : ∃ its' : List It, its' = its.map (·.it) := ⟨_, rfl⟩
    rw [← hits] at hONC hITS
    have hlen' : its'.length = its.length := by rw [hits, List.length_map]
    have HONC := Lib.hid hONC
    have HITS := Lib.hid hITS
    have HLEN := Lib.hid hlen'
    have HEQ := Lib.hid hits
    clear hONC hITS hlen' hits
    obtain ⟨V1, hV1⟩ : ∃ V1, V1 = wc := ⟨_, rfl⟩
    subst hV1
    have hO : IL V1 O co ord := ho.ext hext
    have HRET : ∀ w', Ext V1 w' → Ext w w' := fun w' h => hext.trans h
    clear hn hl hext hll hrl hgN
    go_wp2_with fail
    refine (new_any _).mono ?_
    rintro e V0 ⟨g, m1, m2, rfl, xn, hD, hm1, hm2, hg⟩
    have L0 := Lp.start (its := its') hD hm1 hm2
    clear hD hm1 hm2 hg
    go_upto_block 2 with fail
    go_cut [14, 15, 16, 17] from 71 to 101 (fun v14 v15 v16 v17 wy => ∃ (X : Option Addr) (cG : Nat) (got : List Oe) (A1 : Option Addr) (c1 : Nat) (s : Ds) (p : Nat), v14 = .slice X got.length cG ∧ Lp wy V1.heap.size g m1 m2 its' A1 c1 s p X cG got [] ∧ Ext V1 wy)
    case first =>
      --BEGIN3
      go_wp2_with fail
      go_loopw [14, 15] (fun v14 v15 wr => ∃ (k : Nat) (X : Option Addr) (cG : Nat) (got : List Oe) (A1 : Option Addr) (c1 : Nat) (s : Ds) (p : Nat), k ≤ ord.length ∧ v15 = .int .i64 k ∧ v14 = .slice X got.length cG ∧ Lp wr V1.heap.size g m1 m2 its' A1 c1 s p X cG got [] ∧ Ext V1 wr) (fun _ i _ => ord.length - (intOf i).toNat)
      case atStart => exact ⟨0, none, 0, [], none, 0, _, 0, Nat.zero_le _, rfl, rfl, L0, xn⟩
      case round =>
        clear L0 xn
        obtain ⟨k, X, cG, got, A1, c1, s, p, hk, rfl, rfl, hLp, hxr⟩ := hrel
        by_cases hlt : k < ord.length
        · by_cases hz : 0 < its.length
          · have hI1 : (k : Int) < ord.length := by omega
            have hI2 : (its.length : Int) > 0 := by omega
            obtain ⟨pb, po, rfl, q1⟩ := (hO.ext hxr).get hlt
            have r1 : I64 ord[k] := ho.rng _ (List.getElem_mem _)
            generalize ord[k] = ov at *
            have hab := around_bd ov its.length (by omega)
            have HAR := fun (W' : World) => Lib.hid (around_any ov its.length W' r1 (by omega) (by omega))
            obtain ⟨j, hj⟩ : ∃ j : Nat, around ov its.length = (j : Int) := ⟨(around ov its.length).toNat, by omega⟩
            rw [hj] at HAR hab
            have hji : j < its.length := by omega
            have hjI : (j : Int) < its.length := by omega
            have hj0 : (0 : Int) ≤ j := by omega
            have HT : ∀ (W : World), Lp W V1.heap.size g m1 m2 its' A1 c1 s p X cG got [] → IL W its[j].A its[j].c its[j].it.e.ins → Hid (Calls _ _ #[.pointer (some ⟨g, 0, none⟩), itV its[j].it its[j].A its[j].c] W (RetLp W V1.heap.size g m1 m2 its' A1 s p X cG got j)) := fun W hW hI => by
              have e : its'[j]'(by rw [HLEN.out]; exact hji) = its[j].it := by simp [HEQ.out]
              have := take_item HONC.out HITS.out (by rw [HLEN.out]; exact hil) (by rw [HLEN.out]; exact hji) hW its[j].A its[j].c (by rw [e]; exact hI)
              rw [e] at this
              exact Lib.hid this
            obtain ⟨z, zb, zo, hz1, rfl, z0, z1, z2, z3, z4, z5, iz⟩ := (G.ext hxr).cells hji
            rw [← hz1] at HT
            obtain ⟨⟨zc, zn, zbs, ⟨za, zd, zs⟩⟩, zA, zk⟩ := z
            simp only [itV] at HT z0 z1 z2 z3 z4 z5 iz
            clear hz1 hj hab
            go_wp2_with fail
            refine (HAR _).out.mono ?_
            rintro e w1 h1
            obtain ⟨rfl, x1⟩ := h1.v
            clear h1 q1 HAR
            replace z0 := x1.cell z0
            replace z1 := x1.cell z1
            replace z2 := x1.cell z2
            replace z3 := x1.cell z3
            replace z4 := x1.cell z4
            replace z5 := x1.cell z5
            replace iz := iz.ext x1
            replace hLp := hLp.ext x1
            replace hxr := hxr.trans x1
            have HGL := Lib.hid hLp.glen
            go_wp2_with fail
            refine (HT _ hLp iz).out.mono ?_
            rintro e w2 ⟨L, cl2, out, A2, c2, s2, rfl, hol, hLp2, hOut, hoil, hkp, hdl, _⟩
            clear HT z0 z1 z2 z3 z4 z5 iz
            have hxr2 := hxr.kpBase hkp
            have HB := Lib.hid (show got.length + out.length ≤ maxLen ∧ (got.length + out.length) * 40 ≤ 140737488355328 by
              have h1 := HGL.out; have h2 := HLEN.out; unfold maxLen; omega)
            have hcl := OwnS.cells hOut
            have hsz2 := hxr2.size
            go_wp2_with ((at_builtin; refine wpList_app _ rfl _ _ _ rfl V1.heap.size 25 iE _ 3 40 Try.underlying28 jE0 jE1 jE2 jE3 rfl (by omega) X got.length cG (flatE got) rfl hLp2.own L out.length cl2 (flatE out) rfl (flatE_len _) hcl (flatE_one _) HB.out.1 HB.out.2 hsz2 ?_; intro X2 cG2 w3 ho3 hg3 hat3))
            have L3 := hLp2.app rfl hg3 ho3 hat3 hoil
            have hx3 := hxr2.grown hg3 (fun b hb => OwnS.row hLp2.own b hb)
            go_wp2_with fail
            go_roundw
            case rel => exact ⟨k + 1, X2, cG2, got ++ out, A2, c2, s2, p + out.length, by omega, by go_num, by rw [List.length_append], L3, hx3⟩
            case measure => simp [intOf]; omega
          · have hI1 : (k : Int) < ord.length := by omega
            have hI2 : ¬ (its.length : Int) > 0 := by omega
            go_wp2_with fail
            go_meet
            exact ⟨X, cG, got, A1, c1, s, p, rfl, hLp, hxr⟩
        · have hI1 : ¬ (k : Int) < ord.length := by omega
          go_wp2_with fail
          go_meet
          exact ⟨X, cG, got, A1, c1, s, p, rfl, hLp, hxr⟩
      --END3
    case rest =>
      --BEGIN4
      obtain ⟨X, cG, got, A1, c1, s, p, rfl, hLp, hxr⟩ := hcut
      clear L0 xn hO ho hlo
      go_wp2_with fail
      go_loopw [14, 18] (fun v14 v18 wr => ∃ (k : Nat) (X : Option Addr) (cG : Nat) (got : List Oe) (A1 : Option Addr) (c1 : Nat) (s : Ds) (p : Nat), k ≤ its.length ∧ v18 = .int .i64 ((k : Int) - 1) ∧ v14 = .slice X got.length cG ∧ Lp wr V1.heap.size g m1 m2 its' A1 c1 s p X cG got [] ∧ Ext V1 wr ∧
        Hid (∀ i, k ≤ i → i < its.length → Dl its' s p i)) (fun _ i _ => (intOf i + 1).toNat)
      case atStart => exact ⟨its.length, X, cG, got, A1, c1, s, p, Nat.le_refl _, rfl, rfl, hLp, hxr, fun i h1 h2 => by omega⟩
      case round =>
        clear hLp hxr
        obtain ⟨k, X, cG, got, A1, c1, s, p, hk, rfl, rfl, hLp, hxr, hdl⟩ := hrel
        by_cases hk0 : k = 0
        · subst hk0
          have hI : ¬ ((0 : Nat) : Int) - 1 ≥ 0 := by omega
          have hpl : p = its'.length := dl_all HONC.out hLp.one hLp.no (fun i hi => hdl.out i (Nat.zero_le _) (by rw [← HLEN.out]; exact hi))
          have hal : s.ap.length = its.length := by rw [hLp.one.ap, List.length_map, List.length_take, hpl, HLEN.out]; omega
          have heq : got.map (·.e) = (its.map toOe).map (·.e) := by
            have h1 := hLp.eq
            rw [List.append_nil, hpl, List.take_length, HEQ.out, List.map_map] at h1
            rw [h1, List.map_map]; rfl
          have hgl : got.length = its.length := by have := congrArg List.length heq; simpa using this
          have HV := version_any V1.heap.size g m1 m2 A1 c1 s.ap s.nx s.hd wr hLp.desk
          rw [hal] at HV
          have HS : ∀ W', Ext wr W' → Hid (Calls Try.prog 21 #[.slice X its.length cG, .slice A9 its.length c9] W' (RetV (.bool true) W')) := fun W' hx => by
            have e1 := EsAt.of_own (OwnS.ext hLp.own hx) (fun o ho => (hLp.gil o ho).1.ext hx)
            have e2 := EsAt.of_own (OwnS.ext G.wts (hxr.trans hx)) (fun o ho => (G.wl o ho).1.ext (hxr.trans hx))
            rw [← heq] at e2
            have := sameEdits_yes X A9 cG c9 (got.map (·.e)) W' e1 e2 (by rw [List.length_map, hgl]; omega)
            rw [List.length_map, hgl] at this
            exact Lib.hid this
          rw [hgl]
          have HVH := Lib.hid HV
          clear HV hal hpl heq hgl
          go_wp2_with fail
          refine HVH.out.mono ?_
          rintro e w2 ⟨rfl, x2⟩
          go_wp2_with fail
          refine (HS _ x2).out.mono ?_
          rintro e w3 ⟨rfl, x3⟩
          go_wp2_with fail
          refine (lives_any _).mono ?_
          rintro e w4 ⟨rfl, x4⟩
          go_wp2
          go_ret
          exact ⟨rfl, HRET _ (((hxr.trans x2).trans x3).trans x4)⟩
        · obtain ⟨j, rfl⟩ : ∃ j, k = j + 1 := ⟨k - 1, by omega⟩
          have ej : ((j + 1 : Nat) : Int) - 1 = (j : Int) := by omega
          rw [ej]
          have hji : j < its.length := by omega
          have hjI : (j : Int) < its.length := by omega
          have hj0 : (j : Int) ≥ 0 := by omega
          have HT : ∀ (W : World), Lp W V1.heap.size g m1 m2 its' A1 c1 s p X cG got [] → IL W its[j].A its[j].c its[j].it.e.ins → Hid (Calls _ _ #[.pointer (some ⟨g, 0, none⟩), itV its[j].it its[j].A its[j].c] W (RetLp W V1.heap.size g m1 m2 its' A1 s p X cG got j)) := fun W hW hI => by
            have e : its'[j]'(by rw [HLEN.out]; exact hji) = its[j].it := by simp [HEQ.out]
            have := take_item HONC.out HITS.out (by rw [HLEN.out]; exact hil) (by rw [HLEN.out]; exact hji) hW its[j].A its[j].c (by rw [e]; exact hI)
            rw [e] at this
            exact Lib.hid this
          obtain ⟨z, zb, zo, hz1, rfl, z0, z1, z2, z3, z4, z5, iz⟩ := (G.ext hxr).cells hji
          rw [← hz1] at HT
          obtain ⟨⟨zc, zn, zbs, ⟨za, zd, zs⟩⟩, zA, zk⟩ := z
          simp only [itV] at HT z0 z1 z2 z3 z4 z5 iz
          clear hz1 ej
          have HGL := Lib.hid hLp.glen
          go_wp2_with fail
          refine (HT _ hLp iz).out.mono ?_
          rintro e w2 ⟨L, cl2, out, A2, c2, s2, rfl, hol, hLp2, hOut, hoil, hkp, hdl2, hdl3⟩
          clear HT z0 z1 z2 z3 z4 z5 iz
          have hxr2 := hxr.kpBase hkp
          have HB := Lib.hid (show got.length + out.length ≤ maxLen ∧ (got.length + out.length) * 40 ≤ 140737488355328 by
            have h1 := HGL.out; have h2 := HLEN.out; unfold maxLen; omega)
          have hcl := OwnS.cells hOut
          have hsz2 := hxr2.size
          have HD2 := Lib.hid hdl2
          have HD3 := Lib.hid hdl3
          clear hdl2 hdl3
          go_wp2_with ((at_builtin; refine wpList_app _ rfl _ _ _ rfl V1.heap.size 25 iE _ 3 40 Try.underlying28 jE0 jE1 jE2 jE3 rfl (by omega) X got.length cG (flatE got) rfl hLp2.own L out.length cl2 (flatE out) rfl (flatE_len _) hcl (flatE_one _) HB.out.1 HB.out.2 hsz2 ?_; intro X2 cG2 w3 ho3 hg3 hat3))
          have L3 := hLp2.app rfl hg3 ho3 hat3 hoil
          have hx3 := hxr2.grown hg3 (fun b hb => OwnS.row hLp2.own b hb)
          go_wp2_with fail
          go_roundw
          case rel => exact ⟨j, X2, cG2, got ++ out, A2, c2, s2, p + out.length, by omega, by go_num, by rw [List.length_append], L3, hx3, fun i h1 h2 => by
            rcases Nat.lt_or_ge j i with h3 | h3
            · exact HD2.out i (hdl.out i h3 h2)
            · have : i = j := by omega
              subst this
              exact HD3.out⟩
          case measure => (simp [intOf]; try omega)
      --END4
    --END2
end Go.Proofs.Ythhfjomjjhenkaa
