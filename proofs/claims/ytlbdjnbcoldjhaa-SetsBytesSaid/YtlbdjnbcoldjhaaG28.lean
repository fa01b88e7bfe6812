/- Split, the plain law: when a class is too long; all classes. No program in sight. -/
import Derived.Test.YtlbdjnbcoldjhaaG27
namespace Go.Proofs.Ytlbdjnbcoldjhaa
open Go.RowKit

theorem SO.kpm {w w' : World} {base cO g : Nat} {O : Option Addr} {hs : List Hs} {kv : K16 → Value} {vv : Int → Value} {l : List (K16 × Int)} (h : SO w base O cO hs) (hm : MapAt w g kv vv l) (k : KpP (· = g) w w') : SO w' base O cO hs :=
  ⟨OwnS.kp h.own k (fun b hA e => by
    obtain ⟨_, cur, hh⟩ := OwnS.blt h.own hA
    exact hm.ne hh e.symm), fun z hz => (h.each z hz).kp k (fun b hA e => by
    obtain ⟨_, cur, hh⟩ := OwnS.blt (h.each z hz) hA
    exact hm.ne hh e.symm), h.apart⟩
theorem putW {P : Program} {t k e : Nat} {w : World} {b : Nat} {kv : K16 → Value} {vv : Int → Value} {l : List (K16 × Int)} (h : MapAt w b kv vv l) (K : KLaw P k kv) (ht : P.underlying t = some (.map k e)) (x : K16) (v : Int) :
    ∃ w', (Instr.mapUpdate t (.map (some b)) (kv x) (vv v)).run P w = .ok () w' ∧ MapAt w' b kv vv (putL l x v) ∧ KpP (· = b) w w' := by
  obtain ⟨o, h1, h2⟩ := h.put K ht x v
  exact ⟨_, h1, h2, kp_setBlock _ _ _⟩
theorem SpI.new {wS : World} {base gW gM i c' cO : Nat} {ls : List (List Sp)} {E : List Int} {top : Int} {m pre rem : List Sp} {ws : List Int} {ents : List (K16 × Int)} {O A' : Option Addr} {hs : List Hs}
    (hE : EvOk E m top) (hi : i < E.length) (hw : ws.length = 16) (hblk : Blk wS gW 64 (ws.map (Value.int .u64)).toArray) (hmap : MapAt wS gM k16V (Value.int .i64) (ents ++ [((⟨ws, hw⟩ : K16), (hs.length : Int))]))
    (hrep : WRep ws (par pre)) (hrv : WRep ws (fun q => (vec ls E[i]).getD q false)) (hcut : Cut m pre rem E[i])
    (hel : ents.length = (keysU ls E i).length) (hek : ∀ n (h : n < ents.length), ents[n].2 = (n : Int) ∧ WRep ents[n].1.1 (fun q => ((keysU ls E i).getD n []).getD q false))
    (hl : hs.length = (keysU ls E i).length) (hc : ∀ k (h : k < hs.length), hs[k].l = clsU ls E top ((keysU ls E i).getD k []) i)
    (hk : vec ls E[i] ∉ keysU ls E i)
    (hso2 : SO wS base O cO (hs ++ [(⟨A', c', addS [] (E[i], lastOf top rem)⟩ : Hs)])) :
    SpI wS base gW gM ls E top m (i + 1) (lastOf top rem + 1) pre rem ws (ents ++ [((⟨ws, hw⟩ : K16), (hs.length : Int))]) O cO (hs ++ [(⟨A', c', addS [] (E[i], lastOf top rem)⟩ : Hs)]) := by
  have hkn := keys_new hi hk
  have hnx : (if h : i + 1 < E.length then E[i + 1] - 1 else top) = lastOf top rem := (hE.next hi hcut).trans (by cases rem <;> rfl)
  have hst := step_new (A' := A') (c' := c') (top := top) hi hl hk hc
  rw [hnx] at hst
  refine ⟨cut_next hE hi hcut, hrep, hblk, hmap, by rw [hkn, List.length_append, List.length_append, hel]; rfl, fun n h => ?_, hso2, by rw [hkn, List.length_append, List.length_append, hl]; rfl, hst⟩
  rw [hkn]
  rw [List.length_append, List.length_singleton] at h
  by_cases hn : n < ents.length
  · rw [List.getElem_append_left hn]
    have hd : (keysU ls E i ++ [vec ls E[i]]).getD n [] = (keysU ls E i).getD n [] := by
      rw [List.getD_eq_getElem?_getD, List.getElem?_append_left (by omega), ← List.getD_eq_getElem?_getD]
    rw [hd]
    exact hek n hn
  · obtain rfl : n = ents.length := by omega
    have hd : (keysU ls E i ++ [vec ls E[i]]).getD ents.length [] = vec ls E[i] := by
      rw [List.getD_eq_getElem?_getD, List.getElem?_append_right (by omega), hel]
      simp
    rw [hd, List.getElem_append_right (Nat.le_refl _)]
    simp only [Nat.sub_self, List.getElem_cons_zero]
    exact ⟨by rw [hl, hel], hrv⟩
theorem SO.putNew {w w' : World} {base cO : Nat} {O : Option Addr} {hs : List Hs} (h : SO w base O cO (hs ++ [(⟨none, 0, []⟩ : Hs)])) {A' : Option Addr} {c' : Nat} {l' : List Sp} (k : KpP (fun b => (none : Option Addr).map (·.block) = some b) w w') (ho : OwnP w' base A' c' l')
    (hat : A'.map (·.block) = (none : Option Addr).map (·.block) ∨ ∃ b, A'.map (·.block) = some b ∧ w.heap.size ≤ b) :
    ∃ g, O = some ⟨g, 0, none⟩ ∧ base ≤ g ∧ w'.cell? ⟨g, hs.length, none⟩ = some (.slice none 0 0) ∧ w'.frozen? ⟨g, hs.length, none⟩ = false ∧ SO (w'.setCell ⟨g, hs.length, none⟩ (.slice A' l'.length c')) base O cO (hs ++ [(⟨A', c', l'⟩ : Hs)]) := by
  have hn : hs.length < (hs ++ [(⟨none, 0, []⟩ : Hs)]).length := by simp
  have he : (hs ++ [(⟨none, 0, []⟩ : Hs)])[hs.length]'hn = ⟨none, 0, []⟩ := by simp
  obtain ⟨g, h1, h2, h3, h4, h5⟩ := h.put (n := hs.length) hn (w' := w') (A' := A') (c' := c') (l' := l') (by rw [he]; exact k) ho (by rw [he]; exact hat)
  rw [he] at h3
  refine ⟨g, h1, h2, h3, h4, ?_⟩
  rw [List.set_append_right _ _ (Nat.le_refl _)] at h5
  simpa using h5
theorem new_kept {wp w4 wA : World} {base gW gM eb cO cE n : Nat} {O E2 : Option Addr} {hs hs2 : List Hs} {ents : List (K16 × Int)} {ws : List Int} {ob : Obj} (hmp : MapAt wp gM k16V (Value.int .i64) ents) (hb : Blk wp gW 64 (ws.map (Value.int .u64)).toArray) (h1 : SO wp base O cO hs)
    (hg : (wp.alloc ob).grownBy w4 (O.map (·.block))) (h4 : SO w4 base E2 cE hs2) (hE : E2 = some ⟨eb, 0, none⟩) (kA : KpP (fun b => (none : Option Addr).map (·.block) = some b) w4 wA) (v : Value) :
    MapAt (wA.setCell ⟨eb, n, none⟩ v) gM k16V (Value.int .i64) ents ∧ Blk (wA.setCell ⟨eb, n, none⟩ v) gW 64 (ws.map (Value.int .u64)).toArray := by
  have hnM : O.map (·.block) ≠ some gM := fun e => by
    obtain ⟨_, cur, hh⟩ := OwnS.blt h1.own e
    exact hmp.ne hh rfl
  have hnW := own_blk h1.own hb (by decide)
  have k4 : KpP (fun b => O.map (·.block) = some b) wp w4 := (KpP.of_ext (Ext.alloc _ _)).trans (KpP.of_grown hg)
  have m4 := hmp.kp k4 hnM
  have b4 : Blk w4 gW 64 (ws.map (Value.int .u64)).toArray := k4.blk hb hnW
  have mA := m4.kp kA (by simp)
  have bA : Blk wA gW 64 (ws.map (Value.int .u64)).toArray := kA.blk b4 (by simp)
  have hEb : E2.map (·.block) = some eb := by rw [hE]; rfl
  have hM : gM ≠ eb := fun e => by
    obtain ⟨_, cur, hh⟩ := OwnS.blt h4.own hEb
    exact m4.ne hh e
  have hW : gW ≠ eb := fun e => own_blk h4.own b4 (by decide) (by rw [hEb, e])
  have kS : KpP (· = eb) wA (wA.setCell ⟨eb, n, none⟩ v) := KpP.set (p := (· = eb)) (x := ⟨eb, n, none⟩) (KpP.of_ext (Ext.rfl' _)) (.inl rfl) v
  exact ⟨mA.kp kS hM, kS.blk bA hW⟩
theorem clsU_mono {ls : List (List Sp)} {E : List Int} {top : Int} {v : List Bool} {i : Nat} : ∀ j, i ≤ j → j ≤ E.length → (clsU ls E top v i).length ≤ (clsU ls E top v j).length
  | 0, h, _ => by
    obtain rfl : i = 0 := by omega
    exact Nat.le_refl _
  | j + 1, h, hj => by
    rcases Nat.lt_or_ge j i with h1 | h1
    · obtain rfl : i = j + 1 := by omega
      exact Nat.le_refl _
    · have ih := clsU_mono (ls := ls) (E := E) (top := top) (v := v) j h1 (by omega)
      rw [clsU_succ (show j < E.length by omega)]
      split
      · exact Nat.le_trans ih (addS_len _ _).1
      · exact ih
theorem keysU_get {ls : List (List Sp)} {E : List Int} {i n : Nat} (hn : n < (keysU ls E i).length) : ∀ j, i ≤ j → n < (keysU ls E j).length ∧ (keysU ls E j).getD n [] = (keysU ls E i).getD n []
  | 0, h => by
    obtain rfl : i = 0 := by omega
    exact ⟨hn, rfl⟩
  | j + 1, h => by
    rcases Nat.lt_or_ge j i with h1 | h1
    · obtain rfl : i = j + 1 := by omega
      exact ⟨hn, rfl⟩
    · obtain ⟨h2, h3⟩ := keysU_get hn j h1
      rw [keysU]
      split
      · exact ⟨h2, h3⟩
      · refine ⟨by rw [List.length_append]; omega, ?_⟩
        rw [← h3, List.getD_eq_getElem?_getD, List.getElem?_append_left h2, ← List.getD_eq_getElem?_getD]
theorem split_4 {LS : List (List Sp)} {E : List Int} {top : Int} {i n : Nat} (hC : classes LS top = (keysU LS E E.length).map (fun v => cls E top (fun x => decide (vec LS x = v))))
    (hS : splitE LS top = if (classes LS top).any (fun a => decide (64 < a.length)) = true then 4 else 0) (hi : i ≤ E.length) (hn : n < (keysU LS E i).length) (h : 64 < (clsU LS E top ((keysU LS E i).getD n []) i).length) : splitE LS top = 4 := by
  rw [hS, if_pos]
  rw [List.any_eq_true, hC]
  obtain ⟨h2, h3⟩ := keysU_get hn E.length hi
  have h4 : (keysU LS E E.length)[n] = (keysU LS E i).getD n [] := by rw [← h3]; simp [List.getD_eq_getElem?_getD, h2]
  refine ⟨_, List.mem_map.2 ⟨(keysU LS E E.length)[n], List.getElem_mem h2, rfl⟩, ?_⟩
  rw [← clsU_all, h4, decide_eq_true_iff]
  exact Nat.lt_of_lt_of_le h (clsU_mono E.length hi (Nat.le_refl _))
theorem split_0 {LS : List (List Sp)} {E : List Int} {top : Int} {hs : List Hs} (hC : classes LS top = (keysU LS E E.length).map (fun v => cls E top (fun x => decide (vec LS x = v))))
    (hS : splitE LS top = if (classes LS top).any (fun a => decide (64 < a.length)) = true then 4 else 0) (hl : hs.length = (keysU LS E E.length).length)
    (hc : ∀ k (h : k < hs.length), hs[k].l = clsU LS E top ((keysU LS E E.length).getD k []) E.length) (h64 : ∀ k (h : k < hs.length), hs[k].l.length ≤ 64) : splitE LS top = 0 ∧ hs.map (·.l) = classes LS top := by
  have hm : hs.map (·.l) = classes LS top := by
    rw [hC]
    refine List.ext_getElem (by simpa using hl) (fun k h1 h2 => ?_)
    have h3 : k < hs.length := by simpa using h1
    rw [List.getElem_map, List.getElem_map, hc k h3, clsU_all]
    simp [List.getD_eq_getElem?_getD, show k < (keysU LS E E.length).length by omega]
  refine ⟨?_, hm⟩
  rw [hS, if_neg]
  rw [List.any_eq_true, ← hm]
  rintro ⟨a, ha, h⟩
  obtain ⟨z, hz, rfl⟩ := List.mem_map.1 ha
  obtain ⟨k, hk, rfl⟩ := List.getElem_of_mem hz
  have := h64 k hk
  rw [decide_eq_true_iff] at h
  omega
end Go.Proofs.Ytlbdjnbcoldjhaa
