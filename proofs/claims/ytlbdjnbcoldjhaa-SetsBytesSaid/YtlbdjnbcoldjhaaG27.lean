/- Split: what holds between two pieces, and the step. -/
import Derived.Test.YtlbdjnbcoldjhaaG26
namespace Go.Proofs.Ytlbdjnbcoldjhaa
open Go.RowKit

def lastOf (top : Int) : List Sp → Int
  | [] => top
  | p :: _ => p.1 - 1
/-- Split between two pieces: the ends that are left, the words, the map, the classes -/
structure SpI (wr : World) (base gW gM : Nat) (ls : List (List Sp)) (E : List Int) (top : Int) (m : List Sp) (i : Nat) (x : Int) (pre rem : List Sp) (ws : List Int) (ents : List (K16 × Int)) (O : Option Addr) (cO : Nat) (hs : List Hs) : Prop where
  cut : m = pre ++ rem ∧ (∀ p ∈ pre, p.1 < x) ∧ ∀ p ∈ rem, x ≤ p.1
  rep : WRep ws (par pre)
  blk : Blk wr gW 64 (ws.map (Value.int .u64)).toArray
  map : MapAt wr gM k16V (Value.int .i64) ents
  elen : ents.length = (keysU ls E i).length
  keys : ∀ n (h : n < ents.length), ents[n].2 = (n : Int) ∧ WRep ents[n].1.1 (fun q => ((keysU ls E i).getD n []).getD q false)
  out : SO wr base O cO hs
  hlen : hs.length = (keysU ls E i).length
  cls : ∀ n (h : n < hs.length), hs[n].l = clsU ls E top ((keysU ls E i).getD n []) i


theorem cut_next {E : List Int} {m pre rem : List Sp} {top : Int} {i : Nat} (h : EvOk E m top) (hi : i < E.length) (hc : Cut m pre rem E[i]) : m = pre ++ rem ∧ (∀ p ∈ pre, p.1 < lastOf top rem + 1) ∧ ∀ p ∈ rem, lastOf top rem + 1 ≤ p.1 := by
  obtain ⟨hm, h1, h2⟩ := hc
  refine ⟨hm, fun p hp => ?_, fun p hp => ?_⟩
  · cases rem with
    | nil =>
      have := h.ends.le _ (h.mem p (by rw [hm]; simp [hp]))
      simp only [lastOf]; omega
    | cons r rem =>
      have h3 := h1 p hp
      have h4 := h2 r (by simp)
      simp only [lastOf]; omega
  · cases rem with
    | nil => simp at hp
    | cons r rem =>
      have hs := h.srt
      rw [hm] at hs
      have h3 := (List.pairwise_append.1 hs).2.1
      simp only [lastOf]
      rcases List.mem_cons.1 hp with rfl | h4
      · omega
      · have := (List.pairwise_cons.1 h3).1 p h4
        omega
theorem SpI.old {wr wA : World} {base gW gM i n g c' cO : Nat} {ls : List (List Sp)} {E : List Int} {top : Int} {m pre rem : List Sp} {ws : List Int} {ents : List (K16 × Int)} {O A' : Option Addr} {hs : List Hs}
    (hE : EvOk E m top) (hi : i < E.length) (hblk : Blk wr gW 64 (ws.map (Value.int .u64)).toArray) (hmap : MapAt wr gM k16V (Value.int .i64) ents) (hso : SO wr base O cO hs)
    (hrep : WRep ws (par pre)) (hcut : Cut m pre rem E[i])
    (hel : ents.length = (keysU ls E i).length) (hek : ∀ n (h : n < ents.length), ents[n].2 = (n : Int) ∧ WRep ents[n].1.1 (fun q => ((keysU ls E i).getD n []).getD q false))
    (hl : hs.length = (keysU ls E i).length) (hc : ∀ k (h : k < hs.length), hs[k].l = clsU ls E top ((keysU ls E i).getD k []) i)
    (hn : n < hs.length) (hk : (keysU ls E i)[n]'(by omega) = vec ls E[i]) (kA : KpP (fun b => hs[n].A.map (·.block) = some b) wr wA) (hO : O = some ⟨g, 0, none⟩) (v : Value)
    (hso2 : SO (wA.setCell ⟨g, n, none⟩ v) base O cO (hs.set n ⟨A', c', addS (clsU ls E top (vec ls E[i]) i) (E[i], lastOf top rem)⟩)) :
    SpI (wA.setCell ⟨g, n, none⟩ v) base gW gM ls E top m (i + 1) (lastOf top rem + 1) pre rem ws ents O cO (hs.set n ⟨A', c', addS (clsU ls E top (vec ls E[i]) i) (E[i], lastOf top rem)⟩) := by
  have hmem : vec ls E[i] ∈ keysU ls E i := by rw [← hk]; exact List.getElem_mem _
  have hko := keys_old hi hmem
  have hnx : (if h : i + 1 < E.length then E[i + 1] - 1 else top) = lastOf top rem := (hE.next hi hcut).trans (by cases rem <;> rfl)
  have hst := step_old (A' := A') (c' := c') (top := top) hi hl hn hk hc
  rw [hnx] at hst
  have hpn := hso.each _ (List.getElem_mem hn)
  have hgo : O.map (·.block) = some g := by rw [hO]; rfl
  have kk : KpP (fun b => hs[n].A.map (·.block) = some b ∨ b = g) wr (wA.setCell ⟨g, n, none⟩ v) :=
    (KpP.mono kA (fun b hb => .inl hb)).trans (KpP.set (p := fun b => hs[n].A.map (·.block) = some b ∨ b = g) (x := ⟨g, n, none⟩) (KpP.of_ext (Ext.rfl' _)) (.inl (.inr rfl)) v)
  have hbW : hs[n].A.map (·.block) ≠ some gW := own_blk hpn hblk (by decide)
  have hgW : gW ≠ g := fun e => own_blk hso.own hblk (by decide) (by rw [hgo, e])
  have hgM : ¬ (hs[n].A.map (·.block) = some gM ∨ gM = g) := by
    rintro (e | e)
    · obtain ⟨_, cur, hh⟩ := OwnS.blt hpn e
      exact hmap.ne (g := gM) (T := _) (cs := _) hh rfl
    · obtain ⟨_, cur, hh⟩ := OwnS.blt hso.own hgo
      exact hmap.ne (g := g) (T := _) (cs := _) hh e
  refine ⟨cut_next hE hi hcut, hrep, ?_, hmap.kp kk hgM, by rw [hko]; exact hel, by rw [hko]; exact hek, hso2, by rw [hko, List.length_set]; exact hl, hst⟩
  unfold Blk at hblk ⊢
  rw [kk.block gW (Blk.lt hblk) (fun e => e.elim hbW hgW)]
  exact hblk
end Go.Proofs.Ytlbdjnbcoldjhaa
