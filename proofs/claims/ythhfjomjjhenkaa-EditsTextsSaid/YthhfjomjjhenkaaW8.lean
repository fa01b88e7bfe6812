/- The reference's encoder of items: the walk of Encode. -/
import Derived.Test.YthhfjomjjhenkaaW7
import Derived.Test.YthhfjomjjhenkaaFk
import Derived.Test.YthhfjomjjhenkaaDk
namespace Go.Proofs.Ythhfjomjjhenkaa
open Go.RowKit
attribute [local go_sem ↓] Go.wp_at_zero Go.wp_at_succ

theorem OwnS.rebase {w : World} {b1 base e size n c : Nat} {A : Option Addr} {xs : List Value} (h : OwnS w b1 e size A n c xs) (hb : base ≤ b1) : OwnS w base e size A n c xs := by
  refine ⟨h.1, ?_⟩
  rcases h.2 with h2 | ⟨g, cap, cur, hv, hg, r⟩
  · exact Or.inl h2
  · exact Or.inr ⟨g, cap, cur, hv, Nat.le_trans hb hg, r⟩

/-- the bytes of an item -/
def encI (x : It) : List Int := ienc x.client ++ ienc x.number ++ ienc x.base ++ ienc x.e.at_ ++ ienc x.e.del ++ lenc x.e.ins
def It64 (x : It) : Prop := I64 x.client ∧ I64 x.number ∧ I64 x.base ∧ I64 x.e.at_ ∧ I64 x.e.del

theorem wp_appB {w : World} {o : Oper} {a : Act} {K : Act → World → Prop} {Q : Exit → Act → World → Prop} (s x : Operand) (ho : o.op = .call { callee := .builtin .append, args := #[s, x], argTypes := #[64, 64] })
    (base : Nat) (A : Option Addr) (c : Nat) (xs : List Int) (k : Nat) (hs : a.eval s = .slice A k c) (hk : k = xs.length) (hown : OwnB w base A c xs) (B : Option Addr) (d : Nat) (ys : List Int) (hx : a.eval x = .slice B ys.length d) (hy : BL w B d ys)
    (hb : xs.length + ys.length ≤ 1099511627776) (hbase : base ≤ w.heap.size)
    (h : ∀ A' c' w', OwnB w' base A' c' (xs ++ ys) → w.grownBy w' (A.map (·.block)) → (A'.map (·.block) = A.map (·.block) ∨ A'.map (·.block) = some w.heap.size) → K (a.put o.dst (.slice A' (k + ys.length) c')) w') : o.wp Try.prog a w K Q := by
  obtain ⟨iB, jB0, jB1, jB2, jB3⟩ := info_parts infoB
  subst hk
  refine wp_app _ _ _ _ ho base 5 iB _ 1 1 Try.underlying64 jB0 jB1 jB2 jB3 rfl (by omega) A xs.length c (xs.map (Value.int .u8)) hs hown B ys.length d (ys.map (Value.int .u8)) hx (by simp) hy.cells (bytes_one _) (by unfold maxLen; omega) (by omega) hbase ?_
  intro A' c' w' ho' hg hat
  exact h A' c' w' (by unfold OwnB; rw [List.length_append, List.map_append]; exact ho') hg hat

set_option maxRecDepth 100000 in
set_option maxHeartbeats 8000000 in
theorem rEncode_any (x : It) (B : Option Addr) (cB : Nat) (w : World) (hx : It64 x) (hL : IL w B cB x.e.ins) (hl : x.e.ins.length ≤ 17179869184) : Calls Try.prog 39 #[itV x B cB] w (RetOB (encI x) w) := by
  obtain ⟨xc, xn, xb, ⟨xa, xd, xs⟩⟩ := x
  obtain ⟨r0, r1, r2, r3, r4⟩ := hx
  simp only at r0 r1 r2 r3 r4 hL hl
  have H0 := fun W' => Lib.hid (r2Int_any xc W' r0)
  have H1 := fun W' => Lib.hid (r2Int_any xn W' r1)
  have H2 := fun W' => Lib.hid (r2Int_any xb W' r2)
  have H3 := fun W' => Lib.hid (r2Int_any xa W' r3)
  have H4 := fun W' => Lib.hid (r2Int_any xd W' r4)
  have H5 := fun W' h => Lib.hid (r2Ints_any xs B cB W' h hl)
  have l0 := ienc_len10 r0
  have l1 := ienc_len10 r1
  have l2 := ienc_len10 r2
  have l3 := ienc_len10 r3
  have l4 := ienc_len10 r4
  have hu0 := ienc_u8 xc
  have hu1 := ienc_u8 xn
  have hu2 := ienc_u8 xb
  have hu3 := ienc_u8 xa
  have hu4 := ienc_u8 xd
  have hE : encI ⟨xc, xn, xb, ⟨xa, xd, xs⟩⟩ = ienc xc ++ ienc xn ++ ienc xb ++ ienc xa ++ ienc xd ++ lenc xs := rfl
  rw [hE]
  clear hE
  have hu5 : ∀ b ∈ lenc xs, U8 b := fun b hb => by
    rcases List.mem_append.1 hb with hb | hb
    · exact venc_u8 _ b hb
    · exact iencs_u8 _ b hb
  have l5 : (lenc xs).length ≤ 171798691860 := by
    have h1 := iencs_len10 hL.rng
    have h2 := venc_len10 (n := xs.length) (by omega)
    unfold lenc; rw [List.length_append]; omega
  generalize ienc xc = y0 at *
  generalize ienc xn = y1 at *
  generalize ienc xb = y2 at *
  generalize ienc xa = y3 at *
  generalize ienc xd = y4 at *
  generalize lenc xs = y5 at *
  clear r0 r1 r2 r3 r4
  have L0 := Lib.hid l0
  have L1 := Lib.hid l1
  have L2 := Lib.hid l2
  have L3 := Lib.hid l3
  have L4 := Lib.hid l4
  have L5 := Lib.hid l5
  clear l0 l1 l2 l3 l4 l5
  unfold itV
  simp only
  obtain ⟨b1, x1⟩ := alloc1 w 63 #[.int .i64 xc, .int .i64 xn, .int .i64 xb, .int .i64 xa, .int .i64 xd, .slice B xs.length cB]
  go_enter Try.func39, Try.ntmps39
  go_upto_region 1 with fail
  go_cut [3] from 4 to 10 (fun v3 wx => ∃ (A : Option Addr) (c : Nat), v3 = .slice A (y0 ++ y1).length c ∧ OwnB wx w.heap.size A c (y0 ++ y1) ∧ Ext w wx ∧ Blk wx w.heap.size 63 #[.int .i64 xc, .int .i64 xn, .int .i64 xb, .int .i64 xa, .int .i64 xd, .slice B xs.length cB])
  case first =>
    generalize w.alloc (.cells #[.int .i64 xc, .int .i64 xn, .int .i64 xb, .int .i64 xa, .int .i64 xd, .slice B xs.length cB] 63) = W at *
    have p0 := b1.cell 0
    have p1 := b1.cell 1
    simp only [List.getElem?_toArray, List.getElem?_cons_succ, List.getElem?_cons_zero] at p0 p1
    have k0 := fun (w' : World) (h : Kp [] W w') => h.cell p0 (by simp)
    have k1 := fun (w' : World) (h : Kp [] W w') => h.cell p1 (by simp)
    refine Xr.start [] (by kernel_rfl) ?_
    repeat (first | (refine Xr.take 0 (some 4) (v := ?_) rfl rfl (by decide +kernel) (by rfl) ?_ ?_; rotate_left; (focus (intro w' hk; go_simp; (try with_reducible rfl); done)); (try simp only [Act.put, List.setIfInBounds_toArray, List.set_cons_zero, List.set_cons_succ])) | (refine Xr.take 1 (some 5) (v := ?_) rfl rfl (by decide +kernel) (by rfl) ?_ ?_; rotate_left; (focus (intro w' hk; go_simp; (try with_reducible rfl); done)); (try simp only [Act.put, List.setIfInBounds_toArray, List.set_cons_zero, List.set_cons_succ])) | (refine Xr.take 3 (some 7) (v := ?_) rfl rfl (by decide +kernel) (by rfl) ?_ ?_; rotate_left; (focus (intro w' hk; go_simp; (try with_reducible rfl); done)); (try simp only [Act.put, List.setIfInBounds_toArray, List.set_cons_zero, List.set_cons_succ])) | (refine Xr.take 4 (some 8) (v := ?_) rfl rfl (by decide +kernel) (by rfl) ?_ ?_; rotate_left; (focus (intro w' hk; go_simp; (try with_reducible rfl); done)); (try simp only [Act.put, List.setIfInBounds_toArray, List.set_cons_zero, List.set_cons_succ])) | (refine Xr.take 7 (some 3) (v := ?_) rfl rfl (by decide +kernel) (by rfl) ?_ ?_; rotate_left; (focus (intro w' hk; go_simp; (try with_reducible rfl); done)); (try simp only [Act.put, List.setIfInBounds_toArray, List.set_cons_zero, List.set_cons_succ])))
    refine Xr.call 2 rfl (by decide +kernel) (by rfl) (fun w2 hE2 hK2 K hKK => ?_)
    go_simp
    refine (H0 _).out.mono ?_
    rintro e w3 ⟨A, c, rfl, hO3, hx3⟩
    refine hKK _ _ hx3 ?_
    clear hKK
    (try simp only [Act.put, List.setIfInBounds_toArray, List.set_cons_zero, List.set_cons_succ])
    repeat (first | (refine Xr.take 0 (some 4) (v := ?_) rfl rfl (by decide +kernel) (by rfl) ?_ ?_; rotate_left; (focus (intro w' hk; go_simp; (try with_reducible rfl); done)); (try simp only [Act.put, List.setIfInBounds_toArray, List.set_cons_zero, List.set_cons_succ])) | (refine Xr.take 1 (some 5) (v := ?_) rfl rfl (by decide +kernel) (by rfl) ?_ ?_; rotate_left; (focus (intro w' hk; go_simp; (try with_reducible rfl); done)); (try simp only [Act.put, List.setIfInBounds_toArray, List.set_cons_zero, List.set_cons_succ])) | (refine Xr.take 3 (some 7) (v := ?_) rfl rfl (by decide +kernel) (by rfl) ?_ ?_; rotate_left; (focus (intro w' hk; go_simp; (try with_reducible rfl); done)); (try simp only [Act.put, List.setIfInBounds_toArray, List.set_cons_zero, List.set_cons_succ])) | (refine Xr.take 4 (some 8) (v := ?_) rfl rfl (by decide +kernel) (by rfl) ?_ ?_; rotate_left; (focus (intro w' hk; go_simp; (try with_reducible rfl); done)); (try simp only [Act.put, List.setIfInBounds_toArray, List.set_cons_zero, List.set_cons_succ])) | (refine Xr.take 7 (some 3) (v := ?_) rfl rfl (by decide +kernel) (by rfl) ?_ ?_; rotate_left; (focus (intro w' hk; go_simp; (try with_reducible rfl); done)); (try simp only [Act.put, List.setIfInBounds_toArray, List.set_cons_zero, List.set_cons_succ])))
    refine Xr.call 5 rfl (by decide +kernel) (by rfl) (fun w4 hE4 hK4 K hKK => ?_)
    go_simp
    refine (H1 _).out.mono ?_
    rintro e w5 ⟨A2, c2, rfl, hO5, hx5⟩
    refine hKK _ _ hx5 ?_
    clear hKK
    (try simp only [Act.put, List.setIfInBounds_toArray, List.set_cons_zero, List.set_cons_succ])
    refine Xr.step 6 rfl (by decide +kernel) (by rfl) (fun w6 hE6 hK6 K hKK => ?_)
    have hO6 := OwnS.ext (OwnS.ext (OwnS.ext hO3 hE4) hx5) hE6
    have hz3 := hE2.size
    refine wp_appB _ _ rfl w2.heap.size A c y0 _ rfl rfl hO6 A2 c2 y1 rfl ((BL.of_own hO5 hu1).ext hE6) (by have := L0.out; have := L1.out; omega) (by have := hx3.size; have := hE4.size; have := hx5.size; have := hE6.size; omega) ?_
    intro A3 c3 w7 hO7 hg7 hat7
    have hXg : Ext W w7 := (hK6.nil).grown hg7 (fun k hk => by have := OwnS.row hO3 k hk; have := hE2.size; omega)
    refine hKK _ _ (WI_grown hg7 (fun i hi => .inr ⟨(w2.heap.size, w3.heap.size), by simp, OwnS.row hO3 i hi, (OwnS.blt hO3 hi).1⟩)) (Kp.of_ext hXg) ?_
    clear hKK
    (try simp only [Act.put, List.setIfInBounds_toArray, List.set_cons_zero, List.set_cons_succ])
    repeat (first | (refine Xr.take 0 (some 4) (v := ?_) rfl rfl (by decide +kernel) (by rfl) ?_ ?_; rotate_left; (focus (intro w' hk; go_simp; (try with_reducible rfl); done)); (try simp only [Act.put, List.setIfInBounds_toArray, List.set_cons_zero, List.set_cons_succ])) | (refine Xr.take 1 (some 5) (v := ?_) rfl rfl (by decide +kernel) (by rfl) ?_ ?_; rotate_left; (focus (intro w' hk; go_simp; (try with_reducible rfl); done)); (try simp only [Act.put, List.setIfInBounds_toArray, List.set_cons_zero, List.set_cons_succ])) | (refine Xr.take 3 (some 7) (v := ?_) rfl rfl (by decide +kernel) (by rfl) ?_ ?_; rotate_left; (focus (intro w' hk; go_simp; (try with_reducible rfl); done)); (try simp only [Act.put, List.setIfInBounds_toArray, List.set_cons_zero, List.set_cons_succ])) | (refine Xr.take 4 (some 8) (v := ?_) rfl rfl (by decide +kernel) (by rfl) ?_ ?_; rotate_left; (focus (intro w' hk; go_simp; (try with_reducible rfl); done)); (try simp only [Act.put, List.setIfInBounds_toArray, List.set_cons_zero, List.set_cons_succ])) | (refine Xr.take 7 (some 3) (v := ?_) rfl rfl (by decide +kernel) (by rfl) ?_ ?_; rotate_left; (focus (intro w' hk; go_simp; (try with_reducible rfl); done)); (try simp only [Act.put, List.setIfInBounds_toArray, List.set_cons_zero, List.set_cons_succ])))
    refine Xr.done (by decide +kernel) (fun w8 hE8 hK8 => ?_)
    go_wp2_with fail
    go_meet
    exact ⟨A3, c3, by simp, OwnS.rebase (OwnS.ext hO7 hE8) (by have := x1.size; have := hE2.size; omega), x1.trans hK8.nil, b1.ext hK8.nil⟩
  case rest =>
    obtain ⟨A0, c0, rfl, hO, hx, hb⟩ := hcut
    have HCUX : Hid ((y0 ++ y1).length ≤ 30) := by
      have h0 := L0.out; have h1 := L1.out; have h2 := L2.out; have h3 := L3.out; have h4 := L4.out
      show _ ≤ _
      simp only [List.length_append]; omega
    obtain ⟨cur, hcur⟩ : ∃ cur, cur = y0 ++ y1 := ⟨_, rfl⟩
    rw [← hcur] at hO HCUX ⊢
    have HCU := Lib.hid hcur
    clear hcur
    go_upto_region 2 with fail
    go_cut [3] from 11 to 20 (fun v3 wx => ∃ (A : Option Addr) (c : Nat), v3 = .slice A (cur ++ y2 ++ y3).length c ∧ OwnB wx w.heap.size A c (cur ++ y2 ++ y3) ∧ Ext w wx ∧ Blk wx w.heap.size 63 #[.int .i64 xc, .int .i64 xn, .int .i64 xb, .int .i64 xa, .int .i64 xd, .slice B xs.length cB])
    case first =>
      obtain ⟨W, hW⟩ : ∃ W, W = wc := ⟨_, rfl⟩
      subst hW
      clear b1 x1
      have hng : w.heap.size ∉ blkL A0 := by
        rw [mem_blkL]; intro e
        obtain ⟨_, q, hh⟩ := OwnS.blt hO e
        have := hb; unfold Blk at this; rw [this] at hh; injection hh with hh; injection hh with _ h2; revert h2; decide
      have p2 := hb.cell 2
      have p3 := hb.cell 3
      simp only [List.getElem?_toArray, List.getElem?_cons_succ, List.getElem?_cons_zero] at p2 p3
      have k2 := fun (w' : World) (h : Kp (blkL A0) W w') => h.cell p2 hng
      have k3 := fun (w' : World) (h : Kp (blkL A0) W w') => h.cell p3 hng
      have hbs := hx.size
      refine Xr.start (blkL A0) (by kernel_rfl) ?_
      repeat (first | (refine Xr.take 0 (some 11) (v := ?_) rfl rfl (by decide +kernel) (by rfl) ?_ ?_; rotate_left; (focus (intro w' hk; go_simp; (try with_reducible rfl); done)); (try simp only [Act.put, List.setIfInBounds_toArray, List.set_cons_zero, List.set_cons_succ])) | (refine Xr.take 1 (some 12) (v := ?_) rfl rfl (by decide +kernel) (by rfl) ?_ ?_; rotate_left; (focus (intro w' hk; go_simp; (try with_reducible rfl); done)); (try simp only [Act.put, List.setIfInBounds_toArray, List.set_cons_zero, List.set_cons_succ])) | (refine Xr.take 2 (some 13) (v := ?_) rfl rfl (by decide +kernel) (by rfl) ?_ ?_; rotate_left; (focus (intro w' hk; go_simp; (try with_reducible rfl); done)); (try simp only [Act.put, List.setIfInBounds_toArray, List.set_cons_zero, List.set_cons_succ])) | (refine Xr.take 5 (some 16) (v := ?_) rfl rfl (by decide +kernel) (by rfl) ?_ ?_; rotate_left; (focus (intro w' hk; go_simp; (try with_reducible rfl); done)); (try simp only [Act.put, List.setIfInBounds_toArray, List.set_cons_zero, List.set_cons_succ])) | (refine Xr.take 6 (some 17) (v := ?_) rfl rfl (by decide +kernel) (by rfl) ?_ ?_; rotate_left; (focus (intro w' hk; go_simp; (try with_reducible rfl); done)); (try simp only [Act.put, List.setIfInBounds_toArray, List.set_cons_zero, List.set_cons_succ])) | (refine Xr.take 7 (some 18) (v := ?_) rfl rfl (by decide +kernel) (by rfl) ?_ ?_; rotate_left; (focus (intro w' hk; go_simp; (try with_reducible rfl); done)); (try simp only [Act.put, List.setIfInBounds_toArray, List.set_cons_zero, List.set_cons_succ])) | (refine Xr.take 10 (some 3) (v := ?_) rfl rfl (by decide +kernel) (by rfl) ?_ ?_; rotate_left; (focus (intro w' hk; go_simp; (try with_reducible rfl); done)); (try simp only [Act.put, List.setIfInBounds_toArray, List.set_cons_zero, List.set_cons_succ])))
      refine Xr.call 3 rfl (by decide +kernel) (by rfl) (fun w2 hE2 hK2 K hKK => ?_)
      go_simp
      refine (H2 _).out.mono ?_
      rintro e w3 ⟨D, cD, rfl, hO3, hx3⟩
      refine hKK _ _ hx3 ?_
      clear hKK
      (try simp only [Act.put, List.setIfInBounds_toArray, List.set_cons_zero, List.set_cons_succ])
      have hz2 := hE2.size
      have hz3 := hx3.size
      refine Xr.step 4 rfl (by decide +kernel) (by rfl) (fun w4 hE4 hK4 K hKK => ?_)
      have hz4 := hE4.size
      refine wp_appB _ _ rfl w.heap.size A0 c0 cur _ rfl rfl (OwnS.ext hO ((hE2.trans hx3).trans hE4)) D cD y2 rfl ((BL.of_own hO3 hu2).ext hE4) (by have := HCUX.out; have := L2.out; omega) (by omega) ?_
      intro A4 c4 w5 hO5 hg5 hat5
      refine hKK _ _ (WI_grown hg5 (fun i hi => .inl (mem_blkL.2 hi))) (hK4.grownL hg5 (fun i hi => .inl (mem_blkL.2 hi))) ?_
      clear hKK
      (try simp only [Act.put, List.setIfInBounds_toArray, List.set_cons_zero, List.set_cons_succ])
      have hz5 := hg5.size
      refine Xr.call 8 rfl (by decide +kernel) (by rfl) (fun w6 hE6 hK6 K hKK => ?_)
      go_simp
      refine (H3 _).out.mono ?_
      rintro e w7 ⟨D2, cD2, rfl, hO7, hx7⟩
      refine hKK _ _ hx7 ?_
      clear hKK
      (try simp only [Act.put, List.setIfInBounds_toArray, List.set_cons_zero, List.set_cons_succ])
      have hz6 := hE6.size
      have hz7 := hx7.size
      refine Xr.step 9 rfl (by decide +kernel) (by rfl) (fun w8 hE8 hK8 K hKK => ?_)
      have hz8 := hE8.size
      refine wp_appB _ _ rfl w.heap.size A4 c4 (cur ++ y2) _ rfl (by simp) (OwnS.ext hO5 ((hE6.trans hx7).trans hE8)) D2 cD2 y3 rfl ((BL.of_own hO7 hu3).ext hE8) (by have := HCUX.out; have := L2.out; have := L3.out; rw [List.length_append]; omega) (by omega) ?_
      intro A5 c5 w9 hO9 hg9 hat9
      refine hKK _ _ (WI_grown hg9 (fun i hi => ?_)) (hK8.grownL hg9 (fun i hi => ?_)) ?_
      · rcases hat5 with e | e
        · exact .inl (mem_blkL.2 (e.symm.trans hi))
        · rw [e] at hi; injection hi with hi; subst hi
          exact .inr ⟨(w4.heap.size, w5.heap.size), by simp, Nat.le_refl _, (OwnS.blt hO5 e).1⟩
      · rcases hat5 with e | e
        · exact .inl (mem_blkL.2 (e.symm.trans hi))
        · rw [e] at hi; injection hi with hi; subst hi
          right; omega
      clear hKK
      (try simp only [Act.put, List.setIfInBounds_toArray, List.set_cons_zero, List.set_cons_succ])
      repeat (first | (refine Xr.take 0 (some 11) (v := ?_) rfl rfl (by decide +kernel) (by rfl) ?_ ?_; rotate_left; (focus (intro w' hk; go_simp; (try with_reducible rfl); done)); (try simp only [Act.put, List.setIfInBounds_toArray, List.set_cons_zero, List.set_cons_succ])) | (refine Xr.take 1 (some 12) (v := ?_) rfl rfl (by decide +kernel) (by rfl) ?_ ?_; rotate_left; (focus (intro w' hk; go_simp; (try with_reducible rfl); done)); (try simp only [Act.put, List.setIfInBounds_toArray, List.set_cons_zero, List.set_cons_succ])) | (refine Xr.take 2 (some 13) (v := ?_) rfl rfl (by decide +kernel) (by rfl) ?_ ?_; rotate_left; (focus (intro w' hk; go_simp; (try with_reducible rfl); done)); (try simp only [Act.put, List.setIfInBounds_toArray, List.set_cons_zero, List.set_cons_succ])) | (refine Xr.take 5 (some 16) (v := ?_) rfl rfl (by decide +kernel) (by rfl) ?_ ?_; rotate_left; (focus (intro w' hk; go_simp; (try with_reducible rfl); done)); (try simp only [Act.put, List.setIfInBounds_toArray, List.set_cons_zero, List.set_cons_succ])) | (refine Xr.take 6 (some 17) (v := ?_) rfl rfl (by decide +kernel) (by rfl) ?_ ?_; rotate_left; (focus (intro w' hk; go_simp; (try with_reducible rfl); done)); (try simp only [Act.put, List.setIfInBounds_toArray, List.set_cons_zero, List.set_cons_succ])) | (refine Xr.take 7 (some 18) (v := ?_) rfl rfl (by decide +kernel) (by rfl) ?_ ?_; rotate_left; (focus (intro w' hk; go_simp; (try with_reducible rfl); done)); (try simp only [Act.put, List.setIfInBounds_toArray, List.set_cons_zero, List.set_cons_succ])) | (refine Xr.take 10 (some 3) (v := ?_) rfl rfl (by decide +kernel) (by rfl) ?_ ?_; rotate_left; (focus (intro w' hk; go_simp; (try with_reducible rfl); done)); (try simp only [Act.put, List.setIfInBounds_toArray, List.set_cons_zero, List.set_cons_succ])))
      refine Xr.done (by decide +kernel) (fun w10 hE10 hK10 => ?_)
      go_wp2_with fail
      go_meet
      exact ⟨A5, c5, by simp [Nat.add_assoc], OwnS.ext hO9 hE10, hK10.to_ext hx (fun g hg => OwnS.row hO g (mem_blkL.1 hg)), Kp.blk hb hK10 hng⟩
    case rest =>
      obtain ⟨A0, c0, rfl, hO, hx, hb⟩ := hcut
      have HCUR2 : Hid ((cur ++ y2 ++ y3).length ≤ 60) := by
        have h0 := HCUX.out; have h2 := L2.out; have h3 := L3.out
        show _ ≤ _
        simp only [List.length_append]; omega
      obtain ⟨cur2, hcur⟩ : ∃ cur2, cur2 = cur ++ y2 ++ y3 := ⟨_, rfl⟩
      rw [← hcur] at hO HCUR2 ⊢
      have HCU2 := Lib.hid hcur
      clear hcur HCUX
      have HFIN : Hid (y0 ++ y1 ++ y2 ++ y3 ++ y4 ++ y5 = cur2 ++ y4 ++ y5) := by show _ = _; rw [HCU2.out, HCU.out]
      clear HCU HCU2
      have HCUX := HCUR2
      obtain ⟨W, hW⟩ : ∃ W, W = wc := ⟨_, rfl⟩
      subst hW
      go_upto_region 3 with fail
      go_cut [3] from 21 to 31 (fun v3 wx => ∃ (A : Option Addr) (c : Nat), v3 = .slice A (cur2 ++ y4 ++ y5).length c ∧ OwnB wx w.heap.size A c (cur2 ++ y4 ++ y5) ∧ Ext w wx ∧ Blk wx w.heap.size 63 #[.int .i64 xc, .int .i64 xn, .int .i64 xb, .int .i64 xa, .int .i64 xd, .slice B xs.length cB])
      case first =>
        clear b1 x1
        have hng : w.heap.size ∉ blkL A0 := by
          rw [mem_blkL]; intro e
          obtain ⟨_, q, hh⟩ := OwnS.blt hO e
          have := hb; unfold Blk at this; rw [this] at hh; injection hh with hh; injection hh with _ h2; revert h2; decide
        have p4 := hb.cell 4
        have p5 := hb.cell 5
        simp only [List.getElem?_toArray, List.getElem?_cons_succ, List.getElem?_cons_zero] at p4 p5
        have k4 := fun (w' : World) (h : Kp (blkL A0) W w') => h.cell p4 hng
        have k5 := fun (w' : World) (h : Kp (blkL A0) W w') => h.cell p5 hng
        have hbs := hx.size
        refine Xr.start (blkL A0) (by kernel_rfl) ?_
        repeat (first | (refine Xr.take 0 (some 21) (v := ?_) rfl rfl (by decide +kernel) (by rfl) ?_ ?_; rotate_left; (focus (intro w' hk; go_simp; (try with_reducible rfl); done)); (try simp only [Act.put, List.setIfInBounds_toArray, List.set_cons_zero, List.set_cons_succ])) | (refine Xr.take 1 (some 22) (v := ?_) rfl rfl (by decide +kernel) (by rfl) ?_ ?_; rotate_left; (focus (intro w' hk; go_simp; (try with_reducible rfl); done)); (try simp only [Act.put, List.setIfInBounds_toArray, List.set_cons_zero, List.set_cons_succ])) | (refine Xr.take 2 (some 23) (v := ?_) rfl rfl (by decide +kernel) (by rfl) ?_ ?_; rotate_left; (focus (intro w' hk; go_simp; (try with_reducible rfl); done)); (try simp only [Act.put, List.setIfInBounds_toArray, List.set_cons_zero, List.set_cons_succ])) | (refine Xr.take 3 (some 24) (v := ?_) rfl rfl (by decide +kernel) (by rfl) ?_ ?_; rotate_left; (focus (intro w' hk; go_simp; (try with_reducible rfl); done)); (try simp only [Act.put, List.setIfInBounds_toArray, List.set_cons_zero, List.set_cons_succ])) | (refine Xr.take 6 (some 27) (v := ?_) rfl rfl (by decide +kernel) (by rfl) ?_ ?_; rotate_left; (focus (intro w' hk; go_simp; (try with_reducible rfl); done)); (try simp only [Act.put, List.setIfInBounds_toArray, List.set_cons_zero, List.set_cons_succ])) | (refine Xr.take 7 (some 28) (v := ?_) rfl rfl (by decide +kernel) (by rfl) ?_ ?_; rotate_left; (focus (intro w' hk; go_simp; (try with_reducible rfl); done)); (try simp only [Act.put, List.setIfInBounds_toArray, List.set_cons_zero, List.set_cons_succ])) | (refine Xr.take 8 (some 29) (v := ?_) rfl rfl (by decide +kernel) (by rfl) ?_ ?_; rotate_left; (focus (intro w' hk; go_simp; (try with_reducible rfl); done)); (try simp only [Act.put, List.setIfInBounds_toArray, List.set_cons_zero, List.set_cons_succ])) | (refine Xr.take 11 (some 3) (v := ?_) rfl rfl (by decide +kernel) (by rfl) ?_ ?_; rotate_left; (focus (intro w' hk; go_simp; (try with_reducible rfl); done)); (try simp only [Act.put, List.setIfInBounds_toArray, List.set_cons_zero, List.set_cons_succ])))
        refine Xr.call 4 rfl (by decide +kernel) (by rfl) (fun w2 hE2 hK2 K hKK => ?_)
        go_simp
        refine (H4 _).out.mono ?_
        rintro e w3 ⟨D, cD, rfl, hO3, hx3⟩
        refine hKK _ _ hx3 ?_
        clear hKK
        (try simp only [Act.put, List.setIfInBounds_toArray, List.set_cons_zero, List.set_cons_succ])
        have hz2 := hE2.size
        have hz3 := hx3.size
        refine Xr.step 5 rfl (by decide +kernel) (by rfl) (fun w4 hE4 hK4 K hKK => ?_)
        have hz4 := hE4.size
        refine wp_appB _ _ rfl w.heap.size A0 c0 cur2 _ rfl rfl (OwnS.ext hO ((hE2.trans hx3).trans hE4)) D cD y4 rfl ((BL.of_own hO3 hu4).ext hE4) (by have := HCUX.out; have := L4.out; omega) (by omega) ?_
        intro A4 c4 w5 hO5 hg5 hat5
        refine hKK _ _ (WI_grown hg5 (fun i hi => .inl (mem_blkL.2 hi))) (hK4.grownL hg5 (fun i hi => .inl (mem_blkL.2 hi))) ?_
        clear hKK
        (try simp only [Act.put, List.setIfInBounds_toArray, List.set_cons_zero, List.set_cons_succ])
        have hz5 := hg5.size
        refine Xr.call 9 rfl (by decide +kernel) (by rfl) (fun w6 hE6 hK6 K hKK => ?_)
        go_simp
        refine (H5 _ (hL.ext (hK6.to_ext hx (fun g hg => OwnS.row hO g (mem_blkL.1 hg))))).out.mono ?_
        rintro e w7 ⟨D2, cD2, rfl, hO7, hx7⟩
        refine hKK _ _ hx7 ?_
        clear hKK
        (try simp only [Act.put, List.setIfInBounds_toArray, List.set_cons_zero, List.set_cons_succ])
        have hz6 := hE6.size
        have hz7 := hx7.size
        refine Xr.step 10 rfl (by decide +kernel) (by rfl) (fun w8 hE8 hK8 K hKK => ?_)
        have hz8 := hE8.size
        refine wp_appB _ _ rfl w.heap.size A4 c4 (cur2 ++ y4) _ rfl (by simp) (OwnS.ext hO5 ((hE6.trans hx7).trans hE8)) D2 cD2 y5 rfl ((BL.of_own hO7 hu5).ext hE8) (by have := HCUX.out; have := L4.out; have := L5.out; rw [List.length_append]; omega) (by omega) ?_
        intro A5 c5 w9 hO9 hg9 hat9
        refine hKK _ _ (WI_grown hg9 (fun i hi => ?_)) (hK8.grownL hg9 (fun i hi => ?_)) ?_
        · rcases hat5 with e | e
          · exact .inl (mem_blkL.2 (e.symm.trans hi))
          · rw [e] at hi; injection hi with hi; subst hi
            exact .inr ⟨(w4.heap.size, w5.heap.size), by simp, Nat.le_refl _, (OwnS.blt hO5 e).1⟩
        · rcases hat5 with e | e
          · exact .inl (mem_blkL.2 (e.symm.trans hi))
          · rw [e] at hi; injection hi with hi; subst hi
            right; omega
        clear hKK
        (try simp only [Act.put, List.setIfInBounds_toArray, List.set_cons_zero, List.set_cons_succ])
        repeat (first | (refine Xr.take 0 (some 21) (v := ?_) rfl rfl (by decide +kernel) (by rfl) ?_ ?_; rotate_left; (focus (intro w' hk; go_simp; (try with_reducible rfl); done)); (try simp only [Act.put, List.setIfInBounds_toArray, List.set_cons_zero, List.set_cons_succ])) | (refine Xr.take 1 (some 22) (v := ?_) rfl rfl (by decide +kernel) (by rfl) ?_ ?_; rotate_left; (focus (intro w' hk; go_simp; (try with_reducible rfl); done)); (try simp only [Act.put, List.setIfInBounds_toArray, List.set_cons_zero, List.set_cons_succ])) | (refine Xr.take 2 (some 23) (v := ?_) rfl rfl (by decide +kernel) (by rfl) ?_ ?_; rotate_left; (focus (intro w' hk; go_simp; (try with_reducible rfl); done)); (try simp only [Act.put, List.setIfInBounds_toArray, List.set_cons_zero, List.set_cons_succ])) | (refine Xr.take 3 (some 24) (v := ?_) rfl rfl (by decide +kernel) (by rfl) ?_ ?_; rotate_left; (focus (intro w' hk; go_simp; (try with_reducible rfl); done)); (try simp only [Act.put, List.setIfInBounds_toArray, List.set_cons_zero, List.set_cons_succ])) | (refine Xr.take 6 (some 27) (v := ?_) rfl rfl (by decide +kernel) (by rfl) ?_ ?_; rotate_left; (focus (intro w' hk; go_simp; (try with_reducible rfl); done)); (try simp only [Act.put, List.setIfInBounds_toArray, List.set_cons_zero, List.set_cons_succ])) | (refine Xr.take 7 (some 28) (v := ?_) rfl rfl (by decide +kernel) (by rfl) ?_ ?_; rotate_left; (focus (intro w' hk; go_simp; (try with_reducible rfl); done)); (try simp only [Act.put, List.setIfInBounds_toArray, List.set_cons_zero, List.set_cons_succ])) | (refine Xr.take 8 (some 29) (v := ?_) rfl rfl (by decide +kernel) (by rfl) ?_ ?_; rotate_left; (focus (intro w' hk; go_simp; (try with_reducible rfl); done)); (try simp only [Act.put, List.setIfInBounds_toArray, List.set_cons_zero, List.set_cons_succ])) | (refine Xr.take 11 (some 3) (v := ?_) rfl rfl (by decide +kernel) (by rfl) ?_ ?_; rotate_left; (focus (intro w' hk; go_simp; (try with_reducible rfl); done)); (try simp only [Act.put, List.setIfInBounds_toArray, List.set_cons_zero, List.set_cons_succ])))
        refine Xr.done (by decide +kernel) (fun w10 hE10 hK10 => ?_)
        go_wp2_with fail
        go_meet
        exact ⟨A5, c5, by simp [Nat.add_assoc], OwnS.ext hO9 hE10, hK10.to_ext hx (fun g hg => OwnS.row hO g (mem_blkL.1 hg)), Kp.blk hb hK10 hng⟩
      case rest =>
        obtain ⟨A1, c1, rfl, hO1, hx1, hb1⟩ := hcut
        generalize cur2 ++ y4 ++ y5 = fin at *
        clear hO hx hb
        go_wp2_with fail
        go_ret
        rw [HFIN.out]
        exact ⟨A1, c1, rfl, hO1, hx1⟩
end Go.Proofs.Ythhfjomjjhenkaa
