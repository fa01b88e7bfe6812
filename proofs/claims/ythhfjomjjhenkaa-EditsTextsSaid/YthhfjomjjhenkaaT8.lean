/- The walk of EditsTexts. -/
import Derived.Test.YthhfjomjjhenkaaT6
import Derived.Test.YthhfjomjjhenkaaT7
import Derived.Test.YthhfjomjjhenkaaD5
import Derived.Test.YthhfjomjjhenkaaD3
import Derived.Test.YthhfjomjjhenkaaW11
namespace Go.Proofs.Ythhfjomjjhenkaa
open Go.RowKit
attribute [local go_sem ↓] Go.wp_at_zero Go.wp_at_succ

theorem itemCells {w : World} {base c : Nat} {I : Option Addr} {l : List Hv} (h : OwnS w base 63 6 I l.length c (flatI l)) {j : Nat} (hj : j < l.length) :
    ∃ (b o : Nat), I = some ⟨b, o, none⟩ ∧ w.cell? ⟨b, o + j * 6, none⟩ = some (.int .i64 l[j].it.client) ∧ w.cell? ⟨b, o + j * 6 + 1, none⟩ = some (.int .i64 l[j].it.number) ∧ w.cell? ⟨b, o + j * 6 + 2, none⟩ = some (.int .i64 l[j].it.base) ∧
      w.cell? ⟨b, o + j * 6 + 3, none⟩ = some (.int .i64 l[j].it.e.at_) ∧ w.cell? ⟨b, o + j * 6 + 4, none⟩ = some (.int .i64 l[j].it.e.del) ∧ w.cell? ⟨b, o + j * 6 + 5, none⟩ = some (.slice l[j].A l[j].it.e.ins.length l[j].c) := by
  obtain ⟨b, o, hA, hcell⟩ := OwnS.cells h (by intro e; have := flatI_len l; rw [e] at this; simp at this; omega)
  obtain ⟨h0, h1, h2, h3, h4, h5⟩ := flatI_get l j hj
  have one : ∀ (i : Nat) (v : Value), (flatI l)[i]? = some v → w.cell? ⟨b, o + i, none⟩ = some v := fun i v hv => by
    obtain ⟨l1, e1⟩ := List.getElem?_eq_some_iff.1 hv
    rw [hcell i l1, e1]
  refine ⟨b, o, hA, one _ _ h0, ?_, ?_, ?_, ?_, ?_⟩
  · rw [Nat.add_assoc]; exact one _ _ h1
  · rw [Nat.add_assoc]; exact one _ _ h2
  · rw [Nat.add_assoc]; exact one _ _ h3
  · rw [Nat.add_assoc]; exact one _ _ h4
  · rw [Nat.add_assoc]; exact one _ _ h5
/-- Take leaves a text that the desk does not hold -/
theorem keepText {w w' : World} {base g m1 m2 c : Nat} {A A' : Option Addr} {ap : List (Int × Int × Int)} {nx : List (Int × Int)} {hd : List ((Int × Int) × Hv)} (hD : DeskAt w base g m1 m2 A c ap nx hd) {T : Option Addr} {tc : Nat} {t : List Int} (hI : IL w T tc t)
    (hoff : t ≠ [] → ∀ b, T.map (·.block) = some b → b ≠ g ∧ Off A b) (k : KpP (ownB g m1 m2 A) w w') (hA : ∀ b, A'.map (·.block) = some b → A.map (·.block) = some b ∨ w.heap.size ≤ b) :
    IL w' T tc t ∧ (t ≠ [] → ∀ b, T.map (·.block) = some b → b ≠ g ∧ Off A' b) := by
  refine ⟨hI.kp k (fun hn b hb => ?_), fun hn b hb => ⟨(hoff hn b hb).1, fun e => ?_⟩⟩
  · obtain ⟨b', o, rfl, hc⟩ := hI.at_ hn
    have hbb : b' = b := by simpa using hb
    subst hbb
    have h0 := hc 0 (List.length_pos_iff.2 hn)
    rintro (rfl | rfl | rfl | h)
    · exact (hoff hn _ hb).1 rfl
    · exact hD.next.cellNe h0 rfl
    · exact hD.held.cellNe h0 rfl
    · exact (hoff hn _ hb).2 h
  · rcases hA b e with h | h
    · exact (hoff hn b hb).2 h
    · have := hI.blt hn hb
      omega

/-- between two items -/
def TxLp (W : World) (g m1 m2 : Nat) (its : List It) (es : List Ed) (txs : List (List Int)) (i : Nat) (T : Option Addr) (tc : Nat) (t : List Int) (wr : World) : Prop :=
  ∃ (A : Option Addr) (c : Nat) (s : Ds), TxI its es i s ∧ DeskAt wr W.heap.size g m1 m2 A c s.ap s.nx [] ∧ BdX s.ap ∧ IL wr T tc t ∧ (t ≠ [] → ∀ b, T.map (·.block) = some b → b ≠ g ∧ Off A b) ∧ t = txs.getD i [] ∧ Ext W wr

set_option maxRecDepth 100000 in
set_option maxHeartbeats 16000000 in
theorem EditsTexts_any (A B C : Option Addr) (ca cb cc : Nat) (l m k : List Int) (w : World) (hl : IL w A ca l) (hm : IL w B cb m) (hk : IL w C cc k) :
    Calls Try.prog 8 #[.slice A l.length ca, .slice B m.length cb, .slice C k.length cc] w (RetV (.bool true) w) := by
  have hll := hl.len
  have hkl := hk.len
  have HT0 := Lib.hid (rText_any A ca l 20 w hl (by omega))
  have ht1 := rtext_len l 20
  have ht2 := rtext_bd l 20
  generalize rtext l 20 = t0 at *
  go_enter Try.func8, Try.ntmps8
  go_wp2_with fail
  refine HT0.out.mono ?_
  rintro e w1 ⟨T0, tc0, rfl, hT0, x1, hf1⟩
  have HMK := Lib.hid (rMake_any T0 B tc0 cb t0 m w1 hT0 (hm.ext x1) ht1 (fun x hx => by have := ht2 x hx; omega))
  clear HT0
  go_wp2_with fail
  refine HMK.out.mono ?_
  rintro e w2 ⟨bs, I, cI, X, cX, its, es, txs, rfl, hbs, h16, hito, htxo, hil, htl, hMk, ht0, x2⟩
  clear HMK
  have bm := Blk.new w2 60 #[.slice I its.length cI, .slice X txs.length cX]
  have em := Ext.alloc w2 (.cells #[.slice I its.length cI, .slice X txs.length cX] 60)
  go_upto_region 3 with fail
  obtain ⟨gm, hgm⟩ : ∃ gm, gm = w2.heap.size := ⟨_, rfl⟩
  rw [← hgm] at bm ⊢
  have X3 := (x1.trans x2).trans em
  have hk3 := hk.ext X3
  have hito3 := Lib.hid (OwnS.ext hito em)
  have htxo3 := Lib.hid (OwnS.ext htxo em)
  have HIL3 := Lib.hid (show ∀ h ∈ its, IL (w2.alloc (.cells #[.slice I its.length cI, .slice X txs.length cX] 60)) h.A h.c h.it.e.ins from fun h hh => (hil h hh).ext em)
  have HTL3 := Lib.hid (show ∀ x ∈ txs, IL (w2.alloc (.cells #[.slice I its.length cI, .slice X txs.length cX] 60)) x.A x.c x.l from fun h hh => (htl h hh).ext em)
  have hT3 := (hT0.ext x2).ext em
  have HMK := Lib.hid hMk
  have HT0 := Lib.hid ht0
  generalize w2.alloc (.cells #[.slice I its.length cI, .slice X txs.length cX] 60) = w3 at *
  clear hgm em hito htxo hil htl hMk ht0 x1 x2 hf1 hbs hT0 hl hm hk hll ht1 ht2
  go_wp2_with fail
  refine (new_any _).mono ?_
  rintro e w4 ⟨g, m1, m2, rfl, x4, hD, hm1, hm2, hg⟩
  have HL0 : Hid (TxLp w3 g m1 m2 (its.map (·.it)) es (txs.map (·.l)) 0 T0 tc0 t0 w4) := ⟨none, 0, ⟨[], [], []⟩, TxI.start _ _, hD, by simp [BdX], hT3.ext x4, fun hn b hb => ⟨by have := hT3.blt hn hb; omega, by simp [Off]⟩, HT0.out.symm, x4⟩
  have HLO := Lib.hid (show w3.heap.size ≤ m1 ∧ w3.heap.size ≤ m2 ∧ w3.heap.size ≤ g from ⟨hm1, hm2, hg⟩)
  clear hD hm1 hm2 hg x4 hT3 HT0
  go_wp2_with fail
  go_loopw [7, 10] (fun v7 v10 wr => ∃ (i : Nat) (T : Option Addr) (tc : Nat) (t : List Int), v10 = .int .i64 i ∧ v7 = .slice T t.length tc ∧ i ≤ its.length ∧ Hid (TxLp w3 g m1 m2 (its.map (·.it)) es (txs.map (·.l)) i T tc t wr)) (fun _ i _ => its.length - (intOf i).toNat)
  case atStart => exact ⟨0, T0, tc0, t0, rfl, rfl, by omega, HL0⟩
  case round =>
    clear HL0
    obtain ⟨i, T, tc, t, rfl, rfl, hi, HL⟩ := hrel
    obtain ⟨A1, c1, s, HTI, hD, hbd, hI, hoff, htx, xr⟩ := HL.out
    have HTX := Lib.hid htx
    clear HL htx
    have qm := (bm.ext xr).c2
    obtain ⟨qm0, qm1, qz0, qz1, qlt⟩ := qm
    by_cases hlt : i < its.length
    · have hiI : (i : Int) < its.length := by omega
      obtain ⟨ib, io, hIe, f0, f1, f2, f3, f4, f5⟩ := itemCells (OwnS.ext hito3.out xr) hlt
      have iz := (HIL3.out _ (List.getElem_mem hlt)).ext xr
      have hlm : i < (its.map (·.it)).length := by simpa using hlt
      have h16m : (its.map (·.it)).length ≤ 16 := by simpa using h16
      have hz : (its.map (·.it)).getD i it0 = its[i].it := by rw [getD_get _ _ _ hlm]; simp
      have P1 := HMK.out.itOk h16m hlm
      have P2 := fun (B : Option Addr) (d : Nat) => HTI.rdy HMK.out hlm B d
      have P3 := fun (B : Option Addr) (d : Nat) => HTI.step HMK.out hlm B d
      have P4 := HMK.out.sized h16m hlm
      rw [hz] at P1
      simp only [hz] at P2 P3
      have htxl : t = (txs.map (·.l)).getD i [] := HTX.out
      rw [← htxl] at P4
      have hnx := HMK.out.nx i hlm
      rw [← htxl] at hnx
      have P5 := Lib.hid P4
      have P6 := Lib.hid hnx
      have hapl : s.ap.length ≤ 16 := by rw [HTI.ap]; simp; omega
      clear hz P4 hnx htxl
      subst hIe
      generalize its[i] = z at *
      obtain ⟨⟨zc, zn, zb, ⟨za, zd, zs⟩⟩, zA, zk⟩ := z
      simp only at f0 f1 f2 f3 f4 f5 iz P1 P2 P3
      have HOWN := fun W' => Lib.hid (own_any ⟨zc, zn, zb, ⟨za, zd, zs⟩⟩ zA zk W')
      have hge : nxOf s.nx zc ≤ zn := Int.le_of_eq (P2 none 0).1.symm
      have HTK := fun (W' : World) (hx : Ext wr W') => Lib.hid (take_new w3.heap.size g m1 m2 A1 c1 s.ap s.nx [] ⟨zc, zn, zb, ⟨za, zd, zs⟩⟩ zA zk W' (hD.ext hx) P1 (iz.ext hx) rfl hge (by simp) hbd (by omega) (by simp))
      have P2H := Lib.hid P2
      have P3H := Lib.hid P3
      have HTIH := Lib.hid HTI
      unfold itV at HOWN HTK
      simp only at HOWN HTK
      clear P1 P2 P3 hge hapl HTI
      go_wp2_with fail
      refine (HOWN _).out.mono ?_
      rintro e w5 ⟨rfl, x5⟩
      go_wp2_with fail
      refine (HTK _ x5).out.mono ?_
      rintro e w6 ⟨B', d', L, cl, out, A2, c2, s2, rfl, hst, hno, hK, hk6, hA2, hB2⟩
      clear HTK HOWN
      obtain ⟨hout, hs2⟩ := steps_one hst rfl (P2H.out B' d') hno
      obtain ⟨T2, hoe⟩ := P3H.out B' d'
      replace hout : out = [⟨es.getD i ed0, B', d'⟩] := hout.trans (congrArg (fun x => [x]) hoe)
      have T2' : TxI (its.map (·.it)) es (i + 1) s2 := by rw [hs2]; exact T2
      subst hout
      clear hst hno hs2 T2 hoe P2H P3H
      have hD6 := hK.desk
      rw [T2'.hd] at hD6
      have hbd6 := hK.bd
      have ho6 := Lib.hid hK.outs
      have iE6 := Lib.hid (hK.oil _ List.mem_cons_self)
      have x36 : Ext w3 w6 := (xr.trans x5).kp hk6 (fun b hb => by
        rcases hb with rfl | rfl | rfl | hb
        · exact HLO.out.2.2
        · exact HLO.out.1
        · exact HLO.out.2.1
        · exact OwnS.row hD.own b hb)
      have KT := keepText (hD.ext x5) (hI.ext x5) hoff hk6 hA2
      have hI6 := KT.1
      have hoff6 := KT.2
      clear hK KT hk6 hA2 hB2 hI hoff hD hbd f0 f1 f2 f3 f4 f5 iz x5 xr qm0 qm1 qz0 qz1 qlt hlm
      generalize es.getD i ed0 = ee at *
      have hS2 := T2'.hd
      -- the same item again, or an older one
      have HPK := fun (W' : World) (h : IL W' C cc k) => Lib.hid (pick_any C cc k i ((i : Int) + 1) W' h (by omega) (by omega) (by omega))
      have hpb := pick_bd k i ((i : Int) + 1) (by omega)
      generalize pick k i ((i : Int) + 1) = jI at *
      obtain ⟨j, rfl⟩ : ∃ j : Nat, jI = j := ⟨jI.toNat, by omega⟩
      have hjl : j < its.length := by omega
      have hjm : j < (its.map (·.it)).length := by simpa using hjl
      have hjI : (j : Int) < its.length := by omega
      have hz2 : (its.map (·.it)).getD j it0 = its[j].it := by rw [getD_get _ _ _ hjm]; simp
      have Q1 := HMK.out.itOk h16m hjm
      have Q2 := TxI.old HMK.out T2' (by rw [List.length_map]; omega) (show j < i + 1 by omega)
      rw [hz2] at Q1 Q2
      obtain ⟨ib2, io2, hIe2, f0, f1, f2, f3, f4, f5⟩ := itemCells (OwnS.ext hito3.out x36) hjl
      obtain ⟨rfl, rfl⟩ : ib = ib2 ∧ io = io2 := by injection hIe2 with h1; injection h1 with h2 h3 h4; exact ⟨h2, h3⟩
      have iz := (HIL3.out _ (List.getElem_mem hjl)).ext x36
      clear hz2 hIe2 hjm hpb
      generalize its[j] = y at *
      obtain ⟨⟨yc, yn, yb, ⟨ya, yd, ys⟩⟩, yA, yk⟩ := y
      simp only at f0 f1 f2 f3 f4 f5 iz Q1 Q2
      have HOWN := fun W' => Lib.hid (own_any ⟨yc, yn, yb, ⟨ya, yd, ys⟩⟩ yA yk W')
      have HTH := fun (W' : World) (hx : Ext w6 W') => Lib.hid (take_there w3.heap.size g m1 m2 A2 c2 s2.ap s2.nx [] ⟨yc, yn, yb, ⟨ya, yd, ys⟩⟩ yA yk W' (hD6.ext hx) Q1 (iz.ext hx) (.inr Q2))
      unfold itV at HOWN HTH
      simp only at HOWN HTH
      have qm := (bm.ext x36).c2.1
      have kq := fun (w' : World) (h : Kp [] w6 w') => h.cell qm (by simp)
      have k0 := fun (w' : World) (h : Kp [] w6 w') => h.cell f0 (by simp)
      have k1 := fun (w' : World) (h : Kp [] w6 w') => h.cell f1 (by simp)
      have k2 := fun (w' : World) (h : Kp [] w6 w') => h.cell f2 (by simp)
      have k3 := fun (w' : World) (h : Kp [] w6 w') => h.cell f3 (by simp)
      have k4 := fun (w' : World) (h : Kp [] w6 w') => h.cell f4 (by simp)
      have k5 := fun (w' : World) (h : Kp [] w6 w') => h.cell f5 (by simp)
      have hwi : IntKind.i64.wrap ((i : Int) + 1) = (i : Int) + 1 := by rw [IntKind.wrap_i64]; omega
      have hk6' := hk3.ext x36
      clear Q1 Q2
      go_upto_region 10 with fail
      refine Xr.start [] (by kernel_rfl) ?_
      (refine Xr.take 0 (some 45) (v := ?_) rfl rfl (by decide +kernel) (by rfl) ?_ ?_; rotate_left; (focus (intro w' hk; go_simp; (try with_reducible rfl); done)); (try simp only [Act.put, List.setIfInBounds_toArray, List.set_cons_zero, List.set_cons_succ]))
      (refine Xr.take 1 (some 46) (v := ?_) rfl rfl (by decide +kernel) (by rfl) ?_ ?_; rotate_left; (focus (intro w' hk; go_simp; (try with_reducible rfl); done)); (try simp only [Act.put, List.setIfInBounds_toArray, List.set_cons_zero, List.set_cons_succ]))
      (refine Xr.take 2 (some 47) (v := ?_) rfl rfl (by decide +kernel) (by rfl) ?_ ?_; rotate_left; (focus (intro w' hk; go_simp; (try with_reducible rfl); done)); (try simp only [Act.put, List.setIfInBounds_toArray, List.set_cons_zero, List.set_cons_succ]))
      (refine Xr.take 3 (some 48) (v := ?_) rfl rfl (by decide +kernel) (by rfl) ?_ ?_; rotate_left; (focus (intro w' hk; go_simp; (try with_reducible rfl); done)); (try simp only [Act.put, List.setIfInBounds_toArray, List.set_cons_zero, List.set_cons_succ]))
      (refine Xr.take 4 (some 49) (v := ?_) rfl rfl (by decide +kernel) (by rfl) ?_ ?_; rotate_left; (focus (intro w' hk; go_simp; (try with_reducible rfl); done)); (try simp only [Act.put, List.setIfInBounds_toArray, List.set_cons_zero, List.set_cons_succ]))
      (refine Xr.take 5 (some 50) (v := ?_) rfl rfl (by decide +kernel) (by rfl) ?_ ?_; rotate_left; (focus (intro w' hk; go_simp; (try with_reducible rfl); done)); (try simp only [Act.put, List.setIfInBounds_toArray, List.set_cons_zero, List.set_cons_succ]))
      (refine Xr.take 6 (some 51) (v := ?_) rfl rfl (by decide +kernel) (by rfl) ?_ ?_; rotate_left; (focus (intro w' hk; go_simp; (try with_reducible rfl); done)); (try simp only [Act.put, List.setIfInBounds_toArray, List.set_cons_zero, List.set_cons_succ]))
      refine Xr.call 7 rfl (by decide +kernel) (by rfl) (fun w7 hE7 hK7 K hKK => ?_)
      go_simp
      refine (HPK _ (hk6'.ext hK7.nil)).out.mono ?_
      rintro e w8 hq
      obtain ⟨rfl, x8⟩ := hq.v
      refine hKK _ _ x8 ?_
      clear hKK
      (try simp only [Act.put, List.setIfInBounds_toArray, List.set_cons_zero, List.set_cons_succ])
      (refine Xr.take 8 (some 53) (v := ?_) rfl rfl (by decide +kernel) (by rfl) ?_ ?_; rotate_left; (focus (intro w' hk; go_simp; (try with_reducible rfl); done)); (try simp only [Act.put, List.setIfInBounds_toArray, List.set_cons_zero, List.set_cons_succ]))
      (refine Xr.take 9 (some 54) (v := ?_) rfl rfl (by decide +kernel) (by rfl) ?_ ?_; rotate_left; (focus (intro w' hk; go_simp; (try with_reducible rfl); done)); (try simp only [Act.put, List.setIfInBounds_toArray, List.set_cons_zero, List.set_cons_succ]))
      refine Xr.call 10 rfl (by decide +kernel) (by rfl) (fun w9 hE9 hK9 K hKK => ?_)
      go_simp
      refine (HOWN _).out.mono ?_
      rintro e w10 ⟨rfl, x10⟩
      refine hKK _ _ x10 ?_
      clear hKK
      (try simp only [Act.put, List.setIfInBounds_toArray, List.set_cons_zero, List.set_cons_succ])
      refine Xr.call 11 rfl (by decide +kernel) (by rfl) (fun w11 hE11 hK11 K hKK => ?_)
      go_simp
      refine (HTH _ hK11.nil).out.mono ?_
      rintro e w12 ⟨rfl, x12⟩
      refine hKK _ _ x12 ?_
      clear hKK
      (try simp only [Act.put, List.setIfInBounds_toArray, List.set_cons_zero, List.set_cons_succ])
      (refine Xr.take 12 (some 44) (v := ?_) rfl rfl (by decide +kernel) (by rfl) ?_ ?_; rotate_left; (focus (intro w' hk; go_simp; (try with_reducible rfl); done)); (try simp only [Act.put, List.setIfInBounds_toArray, List.set_cons_zero, List.set_cons_succ]))
      (refine Xr.take 13 (some 57) (v := ?_) rfl rfl (by decide +kernel) (by rfl) ?_ ?_; rotate_left; (focus (intro w' hk; go_simp; (try with_reducible rfl); done)); (try simp only [Act.put, List.setIfInBounds_toArray, List.set_cons_zero, List.set_cons_succ]))
      (refine Xr.take 14 (some 58) (v := ?_) rfl rfl (by decide +kernel) (by rfl) ?_ ?_; rotate_left; (focus (intro w' hk; go_simp; (try with_reducible rfl); done)); (try simp only [Act.put, List.setIfInBounds_toArray, List.set_cons_zero, List.set_cons_succ]))
      (refine Xr.take 15 (some 13) (v := ?_) rfl rfl (by decide +kernel) (by rfl) ?_ ?_; rotate_left; (focus (intro w' hk; go_simp; (try with_reducible rfl); done)); (try simp only [Act.put, List.setIfInBounds_toArray, List.set_cons_zero, List.set_cons_succ]))
      (refine Xr.take 16 (some 14) (v := ?_) rfl rfl (by decide +kernel) (by rfl) ?_ ?_; rotate_left; (focus (intro w' hk; go_simp; (try with_reducible rfl); done)); (try simp only [Act.put, List.setIfInBounds_toArray, List.set_cons_zero, List.set_cons_succ]))
      refine Xr.done (by decide +kernel) (fun w13 hE13 hK13 => ?_)
      have x13 := hK13.nil
      have hD13 := hD6.ext x13
      have hI13 := hI6.ext x13
      have iE13 := iE6.out.1.ext x13
      have x313 := x36.trans x13
      have hO13 : OwnS w13 w5.heap.size 25 3 L 1 cl (flatE [⟨ee, B', d'⟩]) := OwnS.ext ho6.out x13
      obtain ⟨ob, oo, hLe, o0, o1, o2⟩ := oneEdit hO13
      subst hLe
      simp only at o0 o1 o2
      clear x13 hK13 hE13 hD6 hI6 iE6 x36 ho6 hO13 x12 x10 x8 hE11 hK11 hE9 hK9 hE7 hK7 hq HTH HOWN HPK kq k0 k1 k2 k3 k4 k5 qm hwi hk6' f0 f1 f2 f3 f4 f5 iz hjl hjI
      have HDL := Lib.hid hD13
      have HO6 := Lib.hid hoff6
      have hgA : ∀ b, ((b = g) ∨ A2.map (·.block) = some b) → b < w13.heap.size := fun b hb => by
        rcases hb with rfl | hb
        · exact hD13.blk.lt
        · exact (OwnS.blt hD13.own hb).1
      have HGA := Lib.hid hgA
      obtain ⟨sp, hsp⟩ : ∃ sp, sp = spliceE t ee := ⟨_, rfl⟩
      rw [← hsp] at P6
      have HSP : ∀ (W' : World) (T' : Option Addr) (tc' : Nat), IL W' T' tc' t → IL W' B' d' ee.ins → Hid (Calls Try.prog 23 #[.slice T' t.length tc', .agg #[.int .i64 ee.at_, .int .i64 ee.del, .slice B' ee.ins.length d']] W' (RetSp sp 0 W')) := fun W' T' tc' h1 h2 => by
        obtain ⟨⟨g1, g2, g3, _⟩, e2, _, e4⟩ := P5.out
        have := splice_ok T' tc' t ee.at_ ee.del B' d' ee.ins W' h1 h2 (by unfold I64; omega) (by omega) (by omega) (editErr_zero P5.out.1 (by omega))
        rw [show spliceL t ee.at_ ee.del ee.ins = sp from hsp.symm] at this
        exact Lib.hid this
      clear hsp P5 hD13 hoff6 hgA
      go_upto_region 13 with fail
      clear hiI HTIH hk3
      go_wp2_with fail
      go_loopw [7, 15] (fun v7 v15 wr => ∃ (q : Nat) (T' : Option Addr) (tc' : Nat) (t' : List Int), v15 = .int .i64 q ∧ q ≤ 1 ∧ v7 = .slice T' t'.length tc' ∧ Hid (IL wr T' tc' t' ∧ (t' ≠ [] → ∀ b, T'.map (·.block) = some b → b ≠ g ∧ Off A2 b) ∧ t' = (if q = 0 then t else sp)) ∧ Ext w13 wr) (fun _ i _ => 1 - (intOf i).toNat)
      case atStart => exact ⟨0, T, tc, t, rfl, by omega, rfl, ⟨hI13, HO6.out, rfl⟩, Ext.rfl' _⟩
      case round =>
        clear hI13
        obtain ⟨q, T', tc', t', rfl, hq1, rfl, HQ, xq⟩ := hrel
        by_cases hq0 : q < 1
        · have hqI : (q : Int) < 1 := by omega
          obtain rfl : q = 0 := by omega
          obtain ⟨iT', _, htt⟩ := HQ.out
          rw [if_pos rfl] at htt
          subst htt
          have HS := HSP wr T' tc' iT' (iE13.ext xq)
          replace o0 := xq.cell o0
          replace o1 := xq.cell o1
          replace o2 := xq.cell o2
          have hz := xq.size
          clear HQ HSP
          go_wp2_with fail
          refine HS.out.mono ?_
          rintro e y1 ⟨S, cS, rfl, iS, xS, fS⟩
          have HQ1 : Hid (IL y1 S cS sp ∧ (sp ≠ [] → ∀ b, S.map (·.block) = some b → b ≠ g ∧ Off A2 b) ∧ sp = (if 1 = 0 then t' else sp)) := ⟨iS, fun _ b hb => by
            have h1 := fS b hb
            refine ⟨fun e => ?_, fun e => ?_⟩
            · have := HGA.out b (.inl e); omega
            · have := HGA.out b (.inr e); omega, by simp⟩
          have xq1 := xq.trans xS
          clear HS iS xS fS o0 o1 o2 hz iT'
          go_wp2_with fail
          go_roundw
          case rel => exact ⟨1, S, cS, sp, by go_num, by omega, rfl, HQ1, xq1⟩
          case measure => simp [intOf]
        · have hqI : ¬ (q : Int) < 1 := by omega
          obtain ⟨iT', hof, htt⟩ := HQ.out
          rw [if_neg (by omega)] at htt
          subst htt
          have HL2 : Hid (TxLp w3 g m1 m2 (its.map (·.it)) es (txs.map (·.l)) (i + 1) T' tc' t' wr) := ⟨A2, c2, s2, T2', HDL.out.ext xq, hbd6, iT', hof, P6.out.symm, x313.trans xq⟩
          clear HQ HSP iT' hof HDL HO6 HGA
          go_wp2_with fail
          go_roundw
          case rel => exact ⟨i + 1, T', tc', t', by go_num, rfl, by omega, HL2⟩
          case measure => simp [intOf]; omega
    · have hiI : ¬ (i : Int) < its.length := by omega
      obtain rfl : i = its.length := by omega
      have hltx := HMK.out.lt
      rw [List.length_map, List.length_map] at hltx
      have hjt : its.length < txs.length := by omega
      obtain ⟨xb, xo, hXe, c0⟩ := textCells (OwnS.ext htxo3.out xr) hjt
      have itx := (HTL3.out _ (List.getElem_mem hjt)).ext xr
      have hte : t = txs[its.length].l := by
        rw [HTX.out, getD_get _ _ _ (by simpa using hjt)]; simp
      subst hXe
      have hTi : (its.length : Int) < (txs.length : Int) := by omega
      have hTw : IntKind.i64.wrap ((txs.length : Int) - 1) = (its.length : Int) := by rw [IntKind.wrap_i64]; omega
      generalize txs[its.length] = tt at *
      obtain ⟨tA, tk, tl⟩ := tt
      simp only at c0 itx hte
      subst hte
      have HSI := Lib.hid (sameInts_any T tA tc tk t t wr hI itx)
      rw [beq_self_eq_true] at HSI
      clear hltx hjt HTX hI itx hD hbd hoff HTI
      go_wp2_with fail
      refine HSI.out.mono ?_
      rintro e y1 hq
      obtain ⟨rfl, y2⟩ := hq.v
      clear hq HSI hTi hTw c0
      go_wp2_with fail
      refine (lives_any _).mono ?_
      rintro e y3 ⟨rfl, y4⟩
      go_wp2
      go_ret
      exact ⟨rfl, ((X3.trans xr).trans y2).trans y4⟩
end Go.Proofs.Ythhfjomjjhenkaa
