/- slices.SortFunc of spans, by the library's contract: a permutation, in the order of the first symbols. -/
import Derived.Test.YtlbdjnbcoldjhaaG5
import Derived.Test.YtlbdjnbcoldjhaaSort
namespace Go.Proofs.Ytlbdjnbcoldjhaa
open Go.RowKit

abbrev GS := { s : Sp // goodS s }
instance : Inhabited GS := ⟨⟨(0, 0), by unfold goodS; omega⟩⟩
def encG (x : GS) : List Value := [.int .i64 x.1.1, .int .i64 x.1.2]
def cmpG (x y : GS) : Int := x.1.1 - y.1.1

theorem ltG (x y : GS) : Go.Proofs.ltOf cmpG x y = decide (x.1.1 < y.1.1) := by
  unfold Go.Proofs.ltOf cmpG
  rw [Bool.eq_iff_iff]
  simp only [decide_eq_true_eq]
  omega
theorem swoG : Go.Sort.SWO (Go.Proofs.ltOf cmpG) where
  irrefl x := by rw [ltG]; simp
  trans x y z h1 h2 := by rw [ltG] at *; simp at *; omega
  ntrans x y z h1 h2 := by rw [ltG] at *; simp at *; omega

def toG : (l : List Sp) → (∀ s ∈ l, goodS s) → List GS
  | [], _ => []
  | s :: l, h => ⟨s, h s (by simp)⟩ :: toG l (fun t ht => h t (by simp [ht]))
theorem toG_val : ∀ (l : List Sp) (h : ∀ s ∈ l, goodS s), (toG l h).map (·.1) = l
  | [], _ => rfl
  | s :: l, h => by rw [toG, List.map_cons, toG_val l]
theorem toG_len (l : List Sp) (h : ∀ s ∈ l, goodS s) : (toG l h).length = l.length := by
  have := congrArg List.length (toG_val l h)
  simpa using this

theorem flatK_get (d : List GS) (j : Nat) (hj : j < d.length * 2) : (Go.Sort.flatK encG 2 d.toArray)[j]! = (flatS (d.map (·.1)))[j]'(by rw [flatS_len, List.length_map]; exact hj) := by
  rw [Go.Sort.get_flatK _ _ _ _ (by simpa using hj)]
  have hi : j / 2 < d.length := by omega
  have hi' : j / 2 < (d.map (·.1)).length := by simpa using hi
  obtain ⟨g1, g2⟩ := flatS_get (d.map (·.1)) (j / 2) hi'
  obtain ⟨l1, e1⟩ := List.getElem?_eq_some_iff.1 g1
  obtain ⟨l2, e2⟩ := List.getElem?_eq_some_iff.1 g2
  have hd : d.toArray[j / 2]! = d[j / 2] := by simp [hi]
  rw [hd]
  rcases Nat.mod_two_eq_zero_or_one j with h0 | h1
  · have e : j = j / 2 * 2 := by omega
    rw [h0]
    have : (flatS (d.map (·.1)))[j]'(by rw [flatS_len, List.length_map]; exact hj) = .int .i64 d[j / 2].1.1 := by
      have := e1
      simp only [← e] at this
      rw [this]; simp
    rw [this]; rfl
  · have e : j = j / 2 * 2 + 1 := by omega
    rw [h1]
    have : (flatS (d.map (·.1)))[j]'(by rw [flatS_len, List.length_map]; exact hj) = .int .i64 d[j / 2].1.2 := by
      have := e2
      simp only [← e] at this
      rw [this]; simp
    rw [this]; rfl

/-- a row that is owned is held as the sort asks -/
theorem holdsG {w : World} {base c g : Nat} {d : List GS} (h : OwnP w base (some ⟨g, 0, none⟩) c (d.map (·.1))) : Go.Sort.HoldsK encG 2 w g 0 d.toArray := by
  intro j hj
  rw [Go.Sort.size_flatK] at hj
  have hj2 : j < d.length * 2 := by simpa using hj
  have hfl : j < (flatS (d.map (·.1))).length := by rw [flatS_len, List.length_map]; exact hj2
  obtain ⟨g', he, _, h1, h2, _, _⟩ := OwnS.store h hfl
  injection he with he; injection he with e1 _ _
  subst e1
  rw [Nat.zero_add, flatK_get d j hj2]
  exact ⟨h1, h2⟩

/-- what the sort leaves -/
theorem sortedG {w : World} {base c g n : Nat} {d d' : List GS} {os : Array Obj} (h : OwnP w base (some ⟨g, 0, none⟩) c (d.map (·.1))) (hl : d'.length = d.length) :
    OwnP (Go.Proofs.sortWorldK encG 2 w g 0 n d'.toArray os) base (some ⟨g, 0, none⟩) c (d'.map (·.1)) ∧ KpP (· = g) w (Go.Proofs.sortWorldK encG 2 w g 0 n d'.toArray os) := by
  rcases h.form with ⟨h0, _⟩ | ⟨g', cur, he, hg, hh, hnc, hcm, hcs, ht⟩
  · cases h0
  · injection he with he; injection he with e1 _ _
    subst e1
    have hlt : g < w.heap.size := (Array.getElem?_eq_some_iff.1 hh).1
    have hk : KpP (· = g) w (Go.Proofs.sortWorldK encG 2 w g 0 n d'.toArray os) := by
      refine ⟨rfl, rfl, rfl, ?_, fun k hk hn => ?_⟩
      · show w.heap.size ≤ (Array.size (_ ++ os))
        simp [Go.Sort.putRowK, Go.Sort.putRow, Go.Sort.mapBlock, Go.Sort.ahead]
      · show (_ ++ os)[k]? = _
        have hne : ¬ g = k := fun e => hn e.symm
        rw [Array.getElem?_append_left (by simp [Go.Sort.putRowK, Go.Sort.putRow, Go.Sort.mapBlock, Go.Sort.ahead]; exact hk)]
        simp [Go.Sort.putRowK, Go.Sort.putRow, Go.Sort.mapBlock, Go.Sort.ahead, Array.getElem?_modify, hne]
    refine ⟨?_, hk⟩
    have hb : Blk (Go.Proofs.sortWorldK encG 2 w g 0 n d'.toArray os) g 48 (Go.Sort.putCells id 0 (Go.Sort.flatK encG 2 d'.toArray) cur) := by
      show (_ ++ os)[g]? = _
      rw [Array.getElem?_append_left (by simp [Go.Sort.putRowK, Go.Sort.putRow, Go.Sort.mapBlock, Go.Sort.ahead]; exact hlt)]
      simp [Go.Sort.putRowK, Go.Sort.putRow, Go.Sort.mapBlock, Go.Sort.ahead, Array.getElem?_modify, hh, Go.Sort.onCells]
    have := OwnS.of_blk (n := (d'.map (·.1)).length) (c := c) (size := 2) hb hg (by simp [Go.Sort.putCells, hcs]) (by rw [List.length_map] at hnc ⊢; omega) hcm
    have e : (Go.Sort.putCells id 0 (Go.Sort.flatK encG 2 d'.toArray) cur).toList.take ((d'.map (·.1)).length * 2) = flatS (d'.map (·.1)) := by
      have hsz : d'.length * 2 ≤ cur.size := by rw [hcs]; rw [List.length_map] at hnc; omega
      refine List.ext_getElem ?_ (fun j h1 h2 => ?_)
      · rw [List.length_take, flatS_len]; simp [Go.Sort.putCells]; omega
      · have hj : j < d'.length * 2 := by rw [flatS_len, List.length_map] at h2; exact h2
        rw [List.getElem_take]
        have hjc : j < cur.size := by omega
        have : (Go.Sort.putCells id 0 (Go.Sort.flatK encG 2 d'.toArray) cur)[j]'(by simpa [Go.Sort.putCells] using hjc) = (Go.Sort.flatK encG 2 d'.toArray)[j]! := by
          simp only [Go.Sort.putCells, Array.getElem_mapIdx, Go.Sort.size_flatK]
          rw [if_pos ⟨Nat.zero_le _, by simpa using hj⟩]
          rfl
        rw [Array.getElem_toList, this, flatK_get d' j hj]
    rw [e] at this
    exact this

set_option maxHeartbeats 1000000 in
/-- the closure that compares -/
theorem cmp_any (x y : GS) (W : World) : Calls Try.prog 48 #[.agg #[.int .i64 x.1.1, .int .i64 x.1.2], .agg #[.int .i64 y.1.1, .int .i64 y.1.2]] W (fun e w' => e = .returned (.int .i64 (cmpG x y)) ∧ ∃ q os', w' = Go.Sort.grow (W.drewN q) os') := by
  obtain ⟨⟨x1, x2⟩, hx⟩ := x
  obtain ⟨⟨y1, y2⟩, hy⟩ := y
  have hx' : 0 ≤ x1 ∧ x1 ≤ x2 ∧ x2 ≤ 1114111 := hx
  have hy' : 0 ≤ y1 ∧ y1 ≤ y2 ∧ y2 ≤ 1114111 := hy
  have hw : IntKind.i64.wrap (x1 - y1) = x1 - y1 := by rw [IntKind.wrap_i64]; omega
  unfold cmpG
  simp only
  go_enter Try.func48, Try.ntmps48
  go_wp2
  go_ret
  exact ⟨by rw [← hw]; rfl, 0, _, by rw [Go.Sort.alloc_eq_grow, Go.Sort.alloc_eq_grow, Go.Sort.grow_grow]; rfl⟩

theorem toGS {l : List GS} : ∀ s ∈ l.map (·.1), goodS s := fun s hs => by
  obtain ⟨x, _, rfl⟩ := List.mem_map.1 hs
  exact x.2

theorem sortS_any (base g c : Nat) (l : List Sp) (hg : ∀ s ∈ l, goodS s) (w : World) (hl : OwnP w base (some ⟨g, 0, none⟩) c l) (hlen : l.length ≤ 1000000) :
    Calls Try.prog 47 #[.slice (some ⟨g, 0, none⟩) l.length c, .func (.func 48) #[] #[]] w (fun e w' => e = .returned (.tuple #[]) ∧ ∃ m : List Sp, l.Perm m ∧ m.Pairwise (fun s t => s.1 ≤ t.1) ∧ m.length = l.length ∧ OwnP w' base (some ⟨g, 0, none⟩) c m ∧ KpP (· = g) w w') := by
  obtain ⟨d, hd⟩ : ∃ d : List GS, d.map (·.1) = l := ⟨toG l hg, toG_val l hg⟩
  subst hd
  have eg : ∀ args w, (callFunc 48 args).run Try.prog w = .ok (.enter 48 args) w := enters_of Try.func48 (by kernel_rfl) rfl
  have hcmp : Go.Proofs.CmpLays Try.prog 48 #[] encG 2 cmpG g 0 d.toArray.size w := fun _ _ _ _ x y => cmp_any x y _
  have hcon := AnyQ.slices_SortFunc Try.sortSpan 2 Try.isAgg48 Try.sizeOf48 encG (fun _ => rfl) (fun x v hv => by simp [encG] at hv; rcases hv with rfl | rfl <;> rfl) cmpG swoG 48 #[] g 0 c d.toArray w eg hcmp (holdsG hl) (OwnP.blt hl rfl) (by rw [List.length_map] at hlen; simp; omega)
  change Calls Try.prog 47 _ _ _ at hcon
  have hsz : d.toArray.size = (d.map (·.1)).length := by simp
  rw [hsz] at hcon
  refine hcon.mono ?_
  rintro e w' ⟨rfl, d', n, os, hp, hs, rfl⟩
  have hps := hp.1
  rw [List.size_toArray] at hps
  obtain ⟨d2, rfl⟩ : ∃ d2 : List GS, d' = d2.toArray := ⟨d'.toList, by simp⟩
  replace hps : d2.length = d.length := by simpa using hps
  have hperm : d2.Perm d := by
    have := hp.2.2
    rw [List.length_map] at this
    have h4 : d2.Perm (d.take d2.length) := by simpa [← hps] using this
    rw [List.take_of_length_le (by omega)] at h4
    exact h4
  obtain ⟨h1, h2⟩ := sortedG (d' := d2) (n := n) (os := os) hl hps
  refine ⟨rfl, d2.map (·.1), (hperm.symm).map _, ?_, by simp [hps], h1, h2⟩
  rw [List.pairwise_map, List.pairwise_iff_getElem]
  intro i j hi hj hij
  have h3 := hs i j (Nat.zero_le _) hij (by simp; omega)
  rw [ltG] at h3
  have e1 : d2.toArray[j]! = d2[j] := by simp [hj]
  have e2 : d2.toArray[i]! = d2[i] := by simp [hi]
  rw [e1, e2] at h3
  simp at h3
  exact h3
end Go.Proofs.Ytlbdjnbcoldjhaa
