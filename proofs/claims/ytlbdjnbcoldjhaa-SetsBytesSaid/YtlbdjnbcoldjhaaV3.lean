/- Encode of package sets and of its reference. -/
import Derived.Test.YtlbdjnbcoldjhaaV2
import Derived.Test.YtlbdjnbcoldjhaaH0
namespace Go.Proofs.Ytlbdjnbcoldjhaa
open Go.RowKit
attribute [local go_sem ↓] Go.wp_at_zero Go.wp_at_succ

theorem Ext.thenKp {p : Nat → Prop} {a b c : World} (h : Ext a b) (k : KpP p b c) (hp : ∀ i, p i → a.heap.size ≤ i) : Ext a c :=
  ⟨k.os.trans h.os, k.tape.trans h.tape, k.output.trans h.output, Nat.le_trans h.size k.size, fun i hi => (k.block i (Nat.lt_of_lt_of_le hi h.size) (fun e => by have := hp i e; omega)).trans (h.block i hi)⟩

theorem OwnS.down {w : World} {b0 b1 e size n c : Nat} {A : Option Addr} {xs : List Value} (h : OwnS w b1 e size A n c xs) (hb : b0 ≤ b1) : OwnS w b0 e size A n c xs := by
  refine ⟨h.1, ?_⟩
  rcases h.2 with h2 | ⟨g, cap, cur, hv, hg, r⟩
  · exact .inl h2
  · exact .inr ⟨g, cap, cur, hv, by omega, r⟩
/-- the bytes of the first i spans behind their number -/
def encU (l : List Sp) (i : Nat) : List Int := ienc (l.length : Int) ++ (l.take i).flatMap (fun s => ienc s.1 ++ ienc s.2)
def encS (l : List Sp) : List Int := encU l l.length
theorem encU_succ {l : List Sp} {i : Nat} (h : i < l.length) : encU l (i + 1) = encU l i ++ (ienc l[i].1 ++ ienc l[i].2) := by
  unfold encU
  rw [List.take_succ_eq_append_getElem h, List.flatMap_append, ← List.append_assoc]
  simp
theorem encU_len {l : List Sp} (h : ∀ s ∈ l, S64 s) (hl : l.length ≤ 1000000) : ∀ i, i ≤ l.length → (encU l i).length ≤ 10 + 20 * i
  | 0, _ => by
    have : (ienc (l.length : Int)).length ≤ 10 := ienc_len10 (by unfold I64; omega)
    simp [encU]; omega
  | i + 1, hi => by
    have ih := encU_len h hl i (by omega)
    have h1 := h _ (List.getElem_mem (show i < l.length by omega))
    have h2 := ienc_len10 h1.1
    have h3 := ienc_len10 h1.2
    rw [encU_succ (by omega), List.length_append, List.length_append]
    omega
theorem encU_u8 (l : List Sp) (i : Nat) : ∀ b ∈ encU l i, U8 b := fun b hb => by
  unfold encU at hb
  rcases List.mem_append.1 hb with h | h
  · exact ienc_u8 _ b h
  · obtain ⟨s, _, h⟩ := List.mem_flatMap.1 h
    rcases List.mem_append.1 h with h | h
    · exact ienc_u8 _ b h
    · exact ienc_u8 _ b h

set_option maxRecDepth 100000 in
set_option maxHeartbeats 8000000 in
theorem sEncode_any (B : Option Addr) (cB : Nat) (l : List Sp) (w : World) (hL : SL w B cB l) (hl : l.length ≤ 1000000) : Calls Try.prog 33 #[.slice B l.length cB] w (RetOB (encS l) w) := by
  have hcap := hL.len
  have b2 := Blk.new w 82 #[.slice none 0 0]
  have e2 := Ext.alloc w (.cells #[.slice none 0 0] 82)
  go_enter Try.func33, Try.ntmps33
  go_upto_region 2 with fail
  obtain ⟨g, hg⟩ : ∃ g, g = w.heap.size := ⟨_, rfl⟩
  rw [← hg] at b2 ⊢
  have HG := Lib.hid hg
  generalize w.alloc (.cells #[.slice none 0 0] 82) = w2 at *
  have HW0 := Lib.hid (show WrAt w2 w.heap.size g none 0 [] from ⟨b2, OwnS.nil _ _ _ _, by omega, by simp⟩)
  have HI := Lib.hid (wInt_any (l.length : Int) w.heap.size g none 0 [] w2 (by unfold I64; omega) HW0.out (by simp))
  clear hg b2
  go_wp2_with fail
  refine HI.out.mono ?_
  rintro e w3 ⟨rfl, hO⟩
  have HO0 := Lib.hid (show WrOut w.heap.size g none [] (encU l 0) w2 w3 from by
    have e0 : encU l 0 = ienc (l.length : Int) := by simp [encU]
    rw [e0]; exact hO)
  clear HI hO HW0
  go_wp2_with fail
  go_loopw [11] (fun v wr => ∃ i : Nat, v = .int .i64 i ∧ i ≤ l.length ∧ Hid (WrOut w.heap.size g none [] (encU l i) w2 wr)) (fun v _ => l.length - (intOf v).toNat)
  case atStart => exact ⟨0, rfl, by omega, HO0⟩
  case round =>
    clear HO0
    obtain ⟨i, rfl, hi, HO⟩ := hrel
    obtain ⟨A2, c2, hW2, hk2, ha2⟩ := HO.out
    have hX : Ext w wr := e2.thenKp hk2 (fun k hk => by rcases hk with e | e; have := HG.out; omega; simp at e)
    by_cases hlt : i < l.length
    · have hiI : (i : Int) < l.length := by omega
      obtain ⟨b, o, rfl, g1, g2⟩ := (hL.ext hX).get hlt
      have h64 := hL.wf hlt
      have HS := Lib.hid (encU_succ hlt)
      have HLN := Lib.hid (encU_len hL.rng hl i hi)
      have h01 := ienc_len10 h64.1
      generalize l[i] = s at *
      obtain ⟨lo, hi2⟩ := s
      simp only at g1 g2 HS h01
      obtain ⟨h641, h642⟩ := h64
      simp only at h641 h642
      obtain ⟨bs, xa⟩ := alloc1 wr 48 #[.int .i64 lo, .int .i64 hi2]
      obtain ⟨p0, p1, _, _, pz⟩ := bs.c2
      have HW3 := Lib.hid (hW2.ext xa)
      rw [List.nil_append] at HW3
      have HI1 := Lib.hid (wInt_any lo w.heap.size g A2 c2 (encU l i) _ h641 HW3.out (by have := HLN.out; omega))
      have HK2 := Lib.hid hk2
      have HA2 := Lib.hid ha2
      have HGL := Lib.hid hW2.blk.lt
      have HF := fun (w5 : World) (new : List Int) (h : WrOut w.heap.size g A2 ([] ++ encU l i) new (wr.alloc (.cells #[.int .i64 lo, .int .i64 hi2] 48)) w5) => Lib.hid (WrOut.trans hW2 hk2 ha2 (WrOut.extL xa h))
      clear HO hW2 hk2 ha2
      go_wp2_with fail
      refine HI1.out.mono ?_
      rintro e w4 ⟨rfl, hO1⟩
      obtain ⟨A3, c3, hW4, hk4, ha4⟩ := hO1
      have hng : wr.heap.size ≠ g := by have := HGL.out; omega
      have b4 := hk4.blk bs (fun e => by
        rcases e with e | e
        · exact hng e
        · exact own_blk HW3.out.own bs (by decide) e)
      obtain ⟨r0, r1, _, _, rz⟩ := b4.c2
      have HW4 := Lib.hid hW4
      have HI2 := Lib.hid (wInt_any hi2 w.heap.size g A3 c3 (encU l i ++ ienc lo) w4 h642 hW4 (by have := HLN.out; rw [List.length_append]; omega))
      have HF2 := fun (w5 : World) (h : WrOut w.heap.size g A3 (encU l i ++ ienc lo) (ienc hi2) w4 w5) => HF w5 _ (by rw [List.nil_append]; exact WrOut.trans hW4 hk4 ha4 h)
      clear HI1 hW4 hk4 ha4 bs p0 p1 pz HF
      go_wp2_with fail
      refine HI2.out.mono ?_
      rintro e w5 ⟨rfl, hO2⟩
      have HN := HF2 w5 hO2
      rw [← HS.out] at HN
      clear HI2 hO2 HF2 b4 r0 r1 rz
      go_wp2_with fail
      go_roundw
      case rel => exact ⟨i + 1, by go_num, by omega, HN.out⟩
      case measure => simp [intOf]; omega
    · have hiI : ¬ (i : Int) < l.length := by omega
      obtain rfl : i = l.length := by omega
      have HLN := Lib.hid (encU_len hL.rng hl l.length (Nat.le_refl _))
      rw [List.nil_append] at hW2
      have HD := Lib.hid (wDone_any w.heap.size g A2 c2 (encU l l.length) wr hW2 (by have := HLN.out; omega))
      clear HO hW2 hk2 ha2
      go_wp2_with fail
      refine HD.out.mono ?_
      rintro e w4 ⟨A3, c3, rfl, ho, x4⟩
      clear HD
      have HOB := Lib.hid (show OwnB w4 w.heap.size A3 c3 (encU l l.length) from OwnS.down ho hX.size)
      clear ho
      have HL3 : Hid ((encU l l.length).length = (encS l).length) := rfl
      go_wp2_with fail
      go_ret
      exact ⟨A3, c3, rfl, HOB.out, hX.trans x4⟩

/-- appending bytes; zs: how the new list is to be written -/
theorem wpList_appBZ {w : World} {ops : Array Oper} {rest : List Oper} {o : Oper} {a : Act} {Q : Exit → Act → World → Prop} (hgd : o.guard = none) (s x : Operand) (t : Nat)
    (ho : o.op = .call { callee := .builtin .append, args := #[s, x], argTypes := #[t, t] }) (ht : Try.prog.underlying t = some (.slice 5))
    (a0 : World) (hext : Ext a0 w) (A : Option Addr) (c : Nat) (xs : List Int) (hs : a.eval s = .slice A xs.length c) (hown : OwnB w a0.heap.size A c xs)
    (B : Option Addr) (d : Nat) (ys : List Int) (hx : a.eval x = .slice B ys.length d) (hy : CellsAt w B (ys.map (Value.int .u8))) (hb : xs.length + ys.length ≤ 1000000000) (zs : List Int) (hz : zs = xs ++ ys)
    (h : ∀ A' c' w', OwnB w' a0.heap.size A' c' zs → Ext a0 w' → wpList Try.prog ops Q rest (a.put o.dst (.slice A' zs.length c')) w') : wpList Try.prog ops Q (o :: rest) a w := by
  obtain ⟨iB, jB0, jB1, jB2, jB3⟩ := info_parts infoB
  refine wpList_app _ hgd s x t ho a0.heap.size 5 iB _ 1 1 ht jB0 jB1 jB2 jB3 rfl (by omega) A xs.length c (xs.map (Value.int .u8)) hs hown B ys.length d (ys.map (Value.int .u8)) hx (by simp) hy (bytes_one _) (by unfold maxLen; omega) (by omega) hext.size ?_
  intro A' c' w' ho' hg hat
  subst hz
  have hl : (xs ++ ys).length = xs.length + ys.length := by simp
  rw [← hl] at ho' ⊢
  refine h A' c' w' ?_ (Ext.app hext hown hg)
  unfold OwnB
  rw [List.map_append]
  exact ho'

set_option maxRecDepth 100000 in
set_option maxHeartbeats 8000000 in
theorem gEncode_any (B : Option Addr) (cB : Nat) (l : List Sp) (w : World) (hL : SL w B cB l) (hl : l.length ≤ 1000000) : Calls Try.prog 36 #[.slice B l.length cB] w (RetOB (encS l) w) := by
  have hcap := hL.len
  have HI := Lib.hid (r2Int_any (l.length : Int) w (by unfold I64; omega))
  go_enter Try.func36, Try.ntmps36
  go_wp2_with fail
  refine HI.out.mono ?_
  rintro e w3 ⟨O, cO, rfl, hO, x3⟩
  have e0 : encU l 0 = ienc (l.length : Int) := by simp [encU]
  have HO0 := Lib.hid (show OwnB w3 w.heap.size O cO (encU l 0) from by rw [e0]; exact hO)
  rw [← e0]
  clear HI hO e0
  go_wp2_with fail
  go_loopw [3, 4] (fun v3 v wr => ∃ (i : Nat) (O : Option Addr) (cO : Nat), v = .int .i64 i ∧ i ≤ l.length ∧ v3 = .slice O (encU l i).length cO ∧ Hid (OwnB wr w.heap.size O cO (encU l i)) ∧ Ext w wr) (fun _ v _ => l.length - (intOf v).toNat)
  case atStart => exact ⟨0, O, cO, rfl, by omega, rfl, HO0.out, x3⟩
  case round =>
    clear HO0
    obtain ⟨i, O, cO, rfl, hi, rfl, HO, x1⟩ := hrel
    by_cases hlt : i < l.length
    · have hiI : (i : Int) < l.length := by omega
      obtain ⟨b, o, rfl, g1w, g2w⟩ := hL.get hlt
      have h64 := hL.wf hlt
      have HS := Lib.hid (encU_succ hlt)
      have HLN := Lib.hid (encU_len hL.rng hl i hi)
      have h01 := ienc_len10 h64.1
      have h02 := ienc_len10 h64.2
      have hel := HLN.out
      generalize l[i] = s at *
      obtain ⟨lo, hi2⟩ := s
      simp only at g1w g2w HS h01 h02
      have g1 := x1.cell g1w
      obtain ⟨h641, h642⟩ := h64
      simp only at h641 h642
      obtain ⟨m1, hm1⟩ : ∃ m1, m1 = encU l i ++ ienc lo := ⟨_, rfl⟩
      have hm1l : m1.length ≤ 20 + 20 * i := by rw [hm1, List.length_append]; omega
      have HM1 := Lib.hid hm1
      clear hm1
      have HM2 := Lib.hid (show encU l (i + 1) = m1 ++ ienc hi2 by rw [HS.out, HM1.out, List.append_assoc])
      generalize hq : encU l i = q at *
      generalize hq2 : encU l (i + 1) = q2 at *
      generalize hy1 : ienc lo = y1 at *
      generalize hy2 : ienc hi2 = y2 at *
      have HI1 := Lib.hid (hy1 ▸ r2Int_any lo wr h641)
      have HI2 := fun (W : World) => Lib.hid (hy2 ▸ r2Int_any hi2 W h642)
      have HQ2 := Lib.hid hq2
      clear hq hy1 hy2 hq2 HS
      go_wp2_with fail
      refine HI1.out.mono ?_
      rintro e w4 ⟨R1, d1, rfl, hR1, y4⟩
      have HO4 := Lib.hid (OwnS.ext HO.out y4)
      have x4 := x1.trans y4
      clear HI1 HO
      go_upto_region 6 with ((at_builtin; refine wpList_appBZ rfl _ _ _ rfl Try.underlying53 w x4 O cO q rfl HO4.out R1 d1 y1 rfl (OwnS.cells hR1) (by omega) m1 HM1.out ?_; intro O2 cO2 w5 ho2 x5))
      have g2 := x5.cell g2w
      have HO5 := Lib.hid ho2
      have hm1i := hm1l
      clear ho2 HO4 hR1 g1
      go_wp2_with fail
      refine (HI2 _).out.mono ?_
      rintro e w6 ⟨R2, d2, rfl, hR2, y6⟩
      have HO6 := Lib.hid (OwnS.ext HO5.out y6)
      have x6 := x5.trans y6
      clear HI2 HO5 g2
      go_wp2_with ((at_builtin; refine wpList_appBZ rfl _ _ _ rfl Try.underlying53 w x6 O2 cO2 m1 rfl HO6.out R2 d2 y2 rfl (OwnS.cells hR2) (by omega) q2 HM2.out ?_; intro O3 cO3 w7 ho3 x7))
      have HO7 := Lib.hid (show OwnB w7 w.heap.size O3 cO3 (encU l (i + 1)) from by rw [HQ2.out]; exact ho3)
      clear ho3 hR2
      go_roundw
      case rel => exact ⟨i + 1, O3, cO3, by go_num, by omega, by rw [HQ2.out], HO7.out, x7⟩
      case measure => simp [intOf]; omega
    · have hiI : ¬ (i : Int) < l.length := by omega
      obtain rfl : i = l.length := by omega
      go_wp2_with fail
      go_ret
      exact ⟨O, cO, rfl, HO.out, x1⟩
end Go.Proofs.Ytlbdjnbcoldjhaa
