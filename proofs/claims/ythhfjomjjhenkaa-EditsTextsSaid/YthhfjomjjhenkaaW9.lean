/- edits.Encode: the walk. -/
import Derived.Test.YthhfjomjjhenkaaW8
namespace Go.Proofs.Ythhfjomjjhenkaa
open Go.RowKit
attribute [local go_sem ↓] Go.wp_at_zero Go.wp_at_succ

theorem Ext.thenKp {p : Nat → Prop} {a b c : World} (h : Ext a b) (k : KpP p b c) (hp : ∀ i, p i → a.heap.size ≤ i) : Ext a c :=
  ⟨k.os.trans h.os, k.tape.trans h.tape, k.output.trans h.output, Nat.le_trans h.size k.size, fun i hi => (k.block i (Nat.lt_of_lt_of_le hi h.size) (fun e => by have := hp i e; omega)).trans (h.block i hi)⟩

set_option maxRecDepth 100000 in
set_option maxHeartbeats 8000000 in
theorem eEncode_any (x : It) (B : Option Addr) (cB : Nat) (w : World) (hx : It64 x) (hL : IL w B cB x.e.ins) (hl : x.e.ins.length ≤ 17179869184) : Calls Try.prog 34 #[itV x B cB] w (RetOB (encI x) w) := by
  obtain ⟨xc, xn, xb, ⟨xa, xd, xs⟩⟩ := x
  obtain ⟨r0, r1, r2, r3, r4⟩ := hx
  simp only at r0 r1 r2 r3 r4 hL hl
  obtain ⟨vals, hvals⟩ : ∃ vals : List Int, vals = [xc, xn, xb, xa, xd] := ⟨_, rfl⟩
  have hE : encI ⟨xc, xn, xb, ⟨xa, xd, xs⟩⟩ = iencs vals ++ lenc xs := by subst hvals; simp [encI, iencs]
  rw [hE]
  clear hE
  have hvr : ∀ v ∈ vals, I64 v := by subst hvals; intro v hv; simp at hv; rcases hv with rfl | rfl | rfl | rfl | rfl <;> assumption
  have hvl : vals.length = 5 := by subst hvals; rfl
  have HVL := Lib.hid hvl
  clear hvl r0 r1 r2 r3 r4
  have b1 := Blk.new w 39 #[.int .i64 xc, .int .i64 xn, .int .i64 xb, .int .i64 xa, .int .i64 xd, .slice B xs.length cB]
  have e1 := Ext.alloc w (.cells #[.int .i64 xc, .int .i64 xn, .int .i64 xb, .int .i64 xa, .int .i64 xd, .slice B xs.length cB] 39)
  unfold itV
  simp only
  go_enter Try.func34, Try.ntmps34
  go_upto_region 1 with fail
  generalize w.alloc (.cells #[.int .i64 xc, .int .i64 xn, .int .i64 xb, .int .i64 xa, .int .i64 xd, .slice B xs.length cB] 39) = w1 at *
  have b2 := Blk.new w1 68 #[.slice none 0 0]
  have e2 := Ext.alloc w1 (.cells #[.slice none 0 0] 68)
  go_upto_region 2 with fail
  obtain ⟨g, hg⟩ : ∃ g, g = w1.heap.size := ⟨_, rfl⟩
  rw [← hg] at b2 ⊢
  have hwg : w.heap.size < g := by rw [hg]; exact b1.lt
  replace b1 := b1.ext e2
  have e12 := e1.trans e2
  generalize w1.alloc (.cells #[.slice none 0 0] 68) = w2 at *
  clear hg e1 e2
  have b3 := Blk.new w2 3 #[.int .i64 xc, .int .i64 xn, .int .i64 xb, .int .i64 xa, .int .i64 xd]
  have e3 := Ext.alloc w2 (.cells #[.int .i64 xc, .int .i64 xn, .int .i64 xb, .int .i64 xa, .int .i64 xd] 3)
  have p0 := b1.cell 0
  have p1 := b1.cell 1
  have p2 := b1.cell 2
  have p3 := b1.cell 3
  have p4 := b1.cell 4
  simp only [List.getElem?_toArray, List.getElem?_cons_succ, List.getElem?_cons_zero] at p0 p1 p2 p3 p4
  go_wp2_with fail
  obtain ⟨gi, hgi⟩ : ∃ gi, gi = w2.heap.size := ⟨_, rfl⟩
  rw [← hgi] at b3 ⊢
  have hgg : g < gi := by rw [hgi]; exact b2.lt
  replace b1 := b1.ext e3
  replace b2 := b2.ext e3
  replace e12 := e12.trans e3
  have b3v : ∀ j (h : j < vals.length), (w2.alloc (.cells #[.int .i64 xc, .int .i64 xn, .int .i64 xb, .int .i64 xa, .int .i64 xd] 3)).cell? ⟨gi, 0 + j, none⟩ = some (.int .i64 vals[j]) := fun j h => by
    rw [Nat.zero_add, b3.cell]
    subst hvals
    have h5 : j < 5 := h
    match j, h5 with
    | 0, _ => rfl
    | 1, _ => rfl
    | 2, _ => rfl
    | 3, _ => rfl
    | 4, _ => rfl
  have hlt3 := b3.lt
  generalize w2.alloc (.cells #[.int .i64 xc, .int .i64 xn, .int .i64 xb, .int .i64 xa, .int .i64 xd] 3) = W at *
  clear hgi e3 p0 p1 p2 p3 p4 hvals
  have HW : Hid (WrOut w.heap.size g none [] (iencs (vals.take 0)) W W) := by
    have : WrAt W w.heap.size g none 0 [] := ⟨b2, OwnS.nil _ _ _ _, by omega, by simp⟩
    exact Lib.hid (by simpa [iencs] using WrOut.zero this)
  go_loopw [20] (fun v20 wr => ∃ j : Nat, v20 = .int .i64 j ∧ j ≤ 5 ∧ Hid (WrOut w.heap.size g none [] (iencs (vals.take j)) W wr)) (fun v _ => 5 - (intOf v).toNat)
  case atStart => exact ⟨0, rfl, by omega, HW⟩
  case round =>
    clear HW
    obtain ⟨j, rfl, hj, hO⟩ := hrel
    obtain ⟨A2, c2, hW2, hk2, ha2⟩ := hO.out
    by_cases hlt : j < 5
    · have hjv : j < vals.length := by rw [HVL.out]; exact hlt
      have hI : (j : Int) < 5 := by omega
      have q := b3v j hjv
      have q2 : wr.cell? ⟨gi, 0 + j, none⟩ = some (.int .i64 vals[j]) := by
        rw [World.cell?_of_block (w := W) (hk2.block gi hlt3 (fun e => by rcases e with e | e; omega; simp at e))]; exact q
      have r0 := hvr _ (List.getElem_mem hjv)
      have HT : Hid (iencs (vals.take (j + 1)) = iencs (vals.take j) ++ ienc vals[j]) := by
        show _ = _
        rw [List.take_succ_eq_append_getElem hjv, iencs_append]; simp [iencs]
      have HLN : Hid (([] ++ iencs (vals.take j)).length ≤ 549755813888) := by
        have h1 := iencs_len10 (l := vals.take j) (fun x hx => hvr x (List.mem_of_mem_take hx))
        show _ ≤ _
        simp only [List.length_append, List.length_take, List.length_nil] at *; omega
      clear q
      generalize vals[j] = v at *
      have HI := Lib.hid (wInt_any v w.heap.size g A2 c2 ([] ++ iencs (vals.take j)) wr r0 hW2 HLN.out)
      have HF := fun (w3 : World) (h : WrOut w.heap.size g A2 ([] ++ iencs (vals.take j)) (ienc v) wr w3) => Lib.hid (WrOut.trans hW2 hk2 ha2 h)
      rw [Nat.zero_add] at q2
      go_wp2_with fail
      refine HI.out.mono ?_
      rintro e w3 ⟨rfl, hO3⟩
      have HO3 := HF w3 hO3
      rw [← HT.out] at HO3
      clear HF hO3 hW2 hk2 ha2
      go_wp2_with fail
      go_roundw
      case rel => exact ⟨j + 1, by go_num, by omega, HO3⟩
      case measure => simp [intOf]; omega
    · have hj5 : j = 5 := by omega
      have hI : ¬ (j : Int) < 5 := by omega
      have hxW : Ext w wr := e12.thenKp hk2 (fun i hi => by rcases hi with e | e; omega; simp at e)
      have HT : Hid (vals.take j = vals) := by show _ = _; rw [List.take_of_length_le]; rw [HVL.out]; omega
      have HLN : Hid (([] ++ iencs vals).length ≤ 274877906944) := by
        have h1 := iencs_len10 (l := vals) hvr
        have := HVL.out
        show _ ≤ _
        simp only [List.length_append, List.length_nil] at *; omega
      rw [HT.out] at hW2
      have hB := hk2.blk b1 (fun e => by rcases e with e | e; omega; simp at e)
      have p5 := hB.cell 5
      simp only [List.getElem?_toArray, List.getElem?_cons_succ, List.getElem?_cons_zero] at p5
      have HI := Lib.hid (wInts_any xs B cB w.heap.size g A2 c2 ([] ++ iencs vals) wr (hL.ext hxW) (fun hx b hb => by
        have h1 := hL.blt hx hb
        exact ⟨by omega, fun e => by have := OwnS.row hW2.own b e; omega⟩) hW2 HLN.out hl)
      have HF := fun (w3 : World) (h : WrOut w.heap.size g A2 ([] ++ iencs vals) (lenc xs) wr w3) => Lib.hid (WrOut.trans hW2 (bs := []) (new := iencs vals) hk2 ha2 h)
      go_wp2_with fail
      refine HI.out.mono ?_
      rintro e w3 ⟨rfl, hO3⟩
      have HO3 := HF w3 hO3
      clear HF hO3 hW2 hk2 ha2 HI p5 hB
      obtain ⟨A4, c4, hW4, hk4, ha4⟩ := HO3.out
      rw [List.nil_append] at hW4
      have hx4 := e12.thenKp hk4 (fun i hi => by rcases hi with e | e; omega; simp at e)
      have HLF : Hid ((iencs vals ++ lenc xs).length ≤ 1099511627776) := by
        have h1 := iencs_len10 hL.rng
        have h2 := venc_len10 (n := xs.length) (by omega)
        have h3 := iencs_len10 (l := vals) hvr
        have := HVL.out
        show _ ≤ _
        unfold lenc
        simp only [List.length_append] at *; omega
      have HD := Lib.hid (wDone_any w.heap.size g A4 c4 (iencs vals ++ lenc xs) w3 hW4 HLF.out)
      generalize iencs vals ++ lenc xs = fin at *
      go_wp2_with fail
      refine HD.out.mono ?_
      rintro e w5 ⟨A5, c5, rfl, hO5, hx5⟩
      go_wp2_with fail
      go_ret
      exact ⟨A5, c5, rfl, OwnS.rebase hO5 hx4.size, hx4.trans hx5⟩
end Go.Proofs.Ythhfjomjjhenkaa
