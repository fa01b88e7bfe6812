/- The plain law of Decode of sets (it leads back for sets, and only for their own bytes); string(b) of a slice of bytes; bytes appended in a region that draws its order; slices of bytes; a row of bytes that came in is a list. -/
import Derived.Test.YtlbdjnbcoldjhaaV4
import Derived.Test.YtlbdjnbcoldjhaaFk
import Derived.Laws.BytesArg
import Derived.DataReads
import Derived.OpenShut
namespace Go.Proofs.Ytlbdjnbcoldjhaa
open Go.RowKit

def eP (e : List Int → Option (Int × List Int)) : Option (List Int) → Int × Option (List Int)
  | none => (0, none)
  | some r => match e r with
    | none => (0, none)
    | some p => (p.1, some p.2)
theorem irun_eq (st : Option (List Int)) : irun st = eP intP st := by
  rcases st with _ | r
  · rfl
  · simp only [irun, urun, eP, intP]
    cases uintP 0 r with
    | none => rfl
    | some p => simp
theorem irun_enc {x : Int} (h : I64 x) (r : List Int) : irun (some (ienc x ++ r)) = (x, some r) := by
  rw [irun_eq, eP, intP_ienc h r]
/-- the bytes of spans -/
def spB (l : List Sp) : List Int := l.flatMap (fun s => ienc s.1 ++ ienc s.2)
theorem encS_eq (l : List Sp) : encS l = ienc (l.length : Int) ++ spB l := by unfold encS encU spB; rw [List.take_length]
theorem spB_take {l : List Sp} {k : Nat} (h : k < l.length) : spB (l.drop k) = ienc l[k].1 ++ (ienc l[k].2 ++ spB (l.drop (k + 1))) := by
  unfold spB
  rw [List.drop_eq_getElem_cons h, List.flatMap_cons, List.append_assoc]
theorem spR_enc {l : List Sp} (h : ∀ s ∈ l, S64 s) : ∀ k, k ≤ l.length → spR (some (spB l)) k = (l.take k, some (spB (l.drop k)))
  | 0, _ => by simp [spR]
  | k + 1, hk => by
    have ih := spR_enc h k (by omega)
    have hk' : k < l.length := by omega
    have h1 := h _ (List.getElem_mem hk')
    rw [spR, ih]
    simp only
    rw [spB_take hk', irun_enc h1.1]
    simp only
    rw [irun_enc h1.2]
    simp only
    rw [List.take_succ_eq_append_getElem hk']
theorem validE_zero2 {l : List Sp} (h : validE l = 0) : l.length ≤ 64 := by
  unfold validE at h
  split at h
  · split at h
    · cases h
    · omega
  · cases h
/-- Decode of the bytes of spans -/
theorem dec_enc {l : List Sp} (h : ∀ s ∈ l, S64 s) (hl : l.length ≤ 1000000) {o : List Sp} {er : Int} (hd : DecR (encS l) o er) : (validE l = 0 → o = l ∧ er = 0) ∧ (validE l ≠ 0 → o = [] ∧ er = 2) := by
  have hi : irun (some (encS l)) = ((l.length : Int), some (spB l)) := by rw [encS_eq, irun_enc (by unfold I64; omega)]
  have hs := spR_enc h l.length (Nat.le_refl _)
  rw [List.take_length, List.drop_length] at hs
  have he : spB [] = [] := rfl
  rw [he] at hs
  obtain ⟨h1, h2⟩ := hd
  rw [hi] at h1 h2
  simp only at h1 h2
  constructor
  · intro hv
    have hg : l.length ≤ 64 := (validE_zero2 hv)
    obtain ⟨h3, _⟩ := h2 l.length rfl (by omega)
    rw [hs] at h3
    exact h3 ⟨rfl, hv⟩
  · intro hv
    rcases Nat.lt_or_ge 64 l.length with h64 | h64
    · exact h1 (.inr (by omega))
    · obtain ⟨_, h4⟩ := h2 l.length rfl h64
      rw [hs] at h4
      exact h4 (fun hh => hv hh.2)

theorem irun_none : irun none = (0, none) := rfl
theorem irun_inv {st : Option (List Int)} {x : Int} {r : List Int} (h : irun st = (x, some r)) : ∃ q, st = some q ∧ ((∀ b ∈ q, U8 b) → q = ienc x ++ r) := by
  rcases st with _ | q
  · rw [irun_none] at h; cases h
  · refine ⟨q, rfl, fun hu => ?_⟩
    rw [irun_eq, eP] at h
    cases hq : intP q with
    | none => rw [hq] at h; cases h
    | some p =>
      rw [hq] at h
      obtain ⟨y, s⟩ := p
      have h1 : y = x := congrArg Prod.fst h
      have h2 : s = r := by have := congrArg Prod.snd h; simpa using this
      subst h1 h2
      exact (intP_inv hu hq).1
theorem spR_none : ∀ k, (spR none k).2 = none
  | 0 => rfl
  | k + 1 => by
    show (irun (irun (spR none k).2).2).2 = none
    rw [spR_none k]; rfl
theorem spR_inv {q : List Int} (hu : ∀ b ∈ q, U8 b) : ∀ (k : Nat) (r : List Int), (spR (some q) k).2 = some r → q = spB (spR (some q) k).1 ++ r
  | 0, r, h => by
    have h1 : q = r := by simpa [spR] using h
    simpa [spR, spB] using h1
  | k + 1, r, h => by
    have h0 : (irun (irun (spR (some q) k).2).2).2 = some r := h
    obtain ⟨r1, e1, f1⟩ := irun_inv (x := (irun (irun (spR (some q) k).2).2).1) (r := r) (Prod.ext rfl h0)
    obtain ⟨r2, e2, f2⟩ := irun_inv (x := (irun (spR (some q) k).2).1) (r := r1) (Prod.ext rfl e1)
    have ih := spR_inv hu k r2 e2
    have u2 : ∀ b ∈ r2, U8 b := fun b hb => hu b (by rw [ih]; exact List.mem_append_right _ hb)
    have g2 := f2 u2
    have u1 : ∀ b ∈ r1, U8 b := fun b hb => u2 b (by rw [g2]; exact List.mem_append_right _ hb)
    have g1 := f1 u1
    have e : (spR (some q) (k + 1)).1 = (spR (some q) k).1 ++ [((irun (spR (some q) k).2).1, (irun (irun (spR (some q) k).2).2).1)] := rfl
    have e3 : spB ((spR (some q) k).1 ++ [((irun (spR (some q) k).2).1, (irun (irun (spR (some q) k).2).2).1)]) ++ r = spB (spR (some q) k).1 ++ r2 := by
      unfold spB
      rw [List.flatMap_append, List.append_assoc]
      congr 1
      simp only [List.flatMap_cons, List.flatMap_nil, List.append_nil, List.append_assoc]
      rw [← g1, ← g2]
    rw [e, e3]
    exact ih
/-- Decode of any bytes: a set with just this encoding, or ErrForm -/
theorem dec_any {bs : List Int} (hu : ∀ b ∈ bs, U8 b) {o : List Sp} {er : Int} (hd : DecR bs o er) : (er = 0 ∧ validE o = 0 ∧ encS o = bs) ∨ (er = 2 ∧ o = []) := by
  obtain ⟨h1, h2⟩ := hd
  by_cases hn : (irun (some bs)).1 < 0 ∨ 64 < (irun (some bs)).1
  · have := h1 hn
    exact .inr ⟨this.2, this.1⟩
  · obtain ⟨n, hnn⟩ : ∃ n : Nat, (irun (some bs)).1 = n := ⟨(irun (some bs)).1.toNat, by omega⟩
    obtain ⟨h3, h4⟩ := h2 n hnn (by omega)
    by_cases hc : (spR (irun (some bs)).2 n).2 = some [] ∧ validE (spR (irun (some bs)).2 n).1 = 0
    · obtain ⟨rfl, rfl⟩ := h3 hc
      refine .inl ⟨rfl, hc.2, ?_⟩
      cases hst : (irun (some bs)).2 with
      | none =>
        rw [hst, spR_none] at hc
        cases hc.1
      | some q =>
        obtain ⟨b', eb, fb⟩ := irun_inv (x := (irun (some bs)).1) (r := q) (Prod.ext rfl hst)
        injection eb with eb
        subst eb
        have gb := fb hu
        have uq : ∀ b ∈ q, U8 b := fun b hb => hu b (by rw [gb]; exact List.mem_append_right _ hb)
        rw [hst] at hc
        have := spR_inv uq n [] hc.1
        rw [List.append_nil] at this
        rw [encS_eq, spR_len, ← this, ← hnn]
        exact gb.symm
    · have := h4 hc
      exact .inr ⟨this.2, this.1⟩
end Go.Proofs.Ytlbdjnbcoldjhaa
namespace Go.Proofs.Ytlbdjnbcoldjhaa
open Go.RowKit

theorem conv_bytes {w : World} {A : Option Addr} {c : Nat} {bs : List Int} (h : BL w A c bs) :
    (convert 53 9 (.slice A bs.length c)).run Try.prog w = .ok (.string (strOfNums bs)) w := by
  have hu : Try.prog.underlying 5 = some (.int .u8) := by kernel_rfl
  have hs : Try.prog.underlying 9 = some .string := by kernel_rfl
  rcases A with _ | a
  · have h0 : bs = [] := by
      rcases bs with _ | ⟨x, r⟩
      · rfl
      · obtain ⟨b, o, he, _⟩ := h.get (k := 0) (by simp)
        cases he
    subst h0
    exact run_convert_bytes_nil w _ _ Try.underlying53 hu _ _ _ hs
  · have hl : (loadCells a bs.length).run Try.prog w = .ok (bs.map (Value.int .u8)).toArray w := by
      have h2 := run_loadCells_list (P := Try.prog) w a (bs.map (Value.int .u8)) (fun j v hj => by
        obtain ⟨hj1, hj2⟩ := List.getElem?_eq_some_iff.1 hj
        have hjl : j < bs.length := by simpa using hj1
        obtain ⟨b, o, he, hcell⟩ := h.get hjl
        have he2 := Option.some.inj he
        subst he2
        rw [Addr.add_lit, hcell, ← hj2, List.getElem_map])
      rw [List.length_map] at h2
      exact h2
    rw [run_convert_bytes_string w _ _ _ (some a) _ c Try.underlying53 hu hs, run_bytesToString w _ _ c bs hl, foldl_push_bytes]
    simp [strOfNums, ByteArray.empty, ByteArray.emptyWithCapacity]
    rfl

theorem exec_conv {w : World} {A : Option Addr} {c : Nat} {bs : List Int} (h : BL w A c bs) {o : Oper} {ρ : Operand → Value} (x : Operand) (ho : o.op = .convert 53 9 x) (hx : ρ x = .slice A bs.length c)
    {S : ByteArray} (hS : S = strOfNums bs) : (execOp ρ o).run Try.prog w = .ok (.value (.string S)) w := by
  subst hS
  unfold execOp
  simp only [ho, hx, Sem.run_bind, conv_bytes h, Result.andThen_ok, Sem.run_pure]
theorem wp_conv {w : World} {A : Option Addr} {c : Nat} {bs : List Int} (h : BL w A c bs) {o : Oper} {a : Act} {K : Act → World → Prop} {Q : Exit → Act → World → Prop} (x : Operand) (ho : o.op = .convert 53 9 x) (hx : a.eval x = .slice A bs.length c)
    {S : ByteArray} (hS : S = strOfNums bs) (d : Option Tmp) (hd : o.dst = d) (hk : K (a.put d (.string S)) w) : o.wp Try.prog a w K Q := by
  subst hd
  unfold Oper.wp
  rw [exec_conv h x ho hx hS]
  exact hk

theorem Kp.p {L : List Nat} {a b : World} (h : Kp L a b) : KpP (· ∈ L) a b := ⟨h.os, h.tape, h.output, h.size, h.block⟩
theorem Kp.thenP {L : List Nat} {p : Nat → Prop} {a b c : World} (h : Kp L a b) (k : KpP p b c) (hp : ∀ i, p i → i ∈ L ∨ a.heap.size ≤ i) : Kp L a c :=
  ⟨k.os.trans h.os, k.tape.trans h.tape, k.output.trans h.output, Nat.le_trans h.size k.size, fun i hi hn => (k.block i (Nat.lt_of_lt_of_le hi h.size) (fun hm => by
    rcases hp i hm with h1 | h1
    · exact hn h1
    · omega)).trans (h.block i hi hn)⟩

theorem OwnB.store {w : World} {base : Nat} {A : Option Addr} {c : Nat} {bs : List Int} (h : OwnB w base A c bs) {i : Nat} (hi : i < bs.length) :
    ∃ g, A = some ⟨g, 0, none⟩ ∧ base ≤ g ∧ w.cell? ⟨g, i, none⟩ = some (.int .u8 bs[i]) ∧ w.frozen? ⟨g, i, none⟩ = false ∧ g < w.heap.size ∧ ∀ v, OwnB (w.setCell ⟨g, i, none⟩ (.int .u8 v)) base A c (bs.set i v) := by
  rcases h.form with ⟨_, h0, _⟩ | ⟨g, cur, rfl, hg, hh, hnc, hcm, hcs, ht⟩
  · omega
  · have hB : Blk w g 5 cur := hh
    have hcell := OwnS.cells h (by intro e; rw [List.map_eq_nil_iff] at e; subst e; simp at hi)
    obtain ⟨b, o, he, hc⟩ := hcell
    injection he with he; injection he with e1 e2 _
    subst e1 e2
    refine ⟨g, rfl, hg, ?_, hB.frz i, hB.lt, fun v => ?_⟩
    · have := hc i (by simpa using hi)
      simpa using this
    · have h1 := OwnS.of_blk (n := bs.length) (c := c) (size := 1) (hB.set i (.int .u8 v)) hg (by rw [Array.size_setIfInBounds]; exact hcs) hnc hcm
      unfold OwnB
      have e : ((cur.setIfInBounds i (.int .u8 v)).toList.take (bs.length * 1)) = ((bs.set i v).map (Value.int .u8)) := by
        rw [Array.toList_setIfInBounds, List.map_set, ← ht, List.take_set]
      rw [e] at h1
      rw [List.length_set]
      exact h1

theorem BL.take {w : World} {A : Option Addr} {c : Nat} {bs : List Int} (h : BL w A c bs) (k : Nat) : BL w A c (bs.take k) := by
  refine ⟨Nat.le_trans (by rw [List.length_take]; omega) h.le, h.cap, fun x hx => h.rng x (List.mem_of_mem_take hx), fun hn => ?_⟩
  obtain ⟨b, o, rfl, hc⟩ := h.at_ (by rintro rfl; simp at hn)
  refine ⟨b, o, rfl, fun i hi => ?_⟩
  rw [List.getElem_take]
  exact hc i (by rw [List.length_take] at hi; omega)
/-- the address of s[k:] -/
def dropA (A : Option Addr) (c k : Nat) : Option Addr := if c = k then A else A.map (fun x => x.add k)
theorem BL.drop {w : World} {A : Option Addr} {c k : Nat} {bs : List Int} (h : BL w A c bs) (hk : k ≤ bs.length) : BL w (dropA A c k) (c - k) (bs.drop k) := by
  have h1 := h.le
  have h2 := h.cap
  refine ⟨by rw [List.length_drop]; omega, by omega, fun x hx => h.rng x (List.mem_of_mem_drop hx), fun hn => ?_⟩
  have hlt : k < bs.length := by
    rcases Nat.lt_or_ge k bs.length with h3 | h3
    · exact h3
    · exact absurd (List.drop_eq_nil_of_le h3) hn
  obtain ⟨b, o, rfl, hc⟩ := h.at_ (by rintro rfl; simp at hlt)
  unfold dropA
  rw [if_neg (by omega)]
  refine ⟨b, o + k, by rw [Option.map_some, Addr.add_lit], fun i hi => ?_⟩
  rw [List.getElem_drop, Nat.add_assoc]
  exact hc (k + i) (by rw [List.length_drop] at hi; omega)

theorem ownB_lit0 (w : World) : OwnB (w.alloc (.cells #[] 5)) w.heap.size (some ⟨w.heap.size, 0, none⟩) 0 [] :=
  OwnS.of_blk (size := 1) (c := 0) (n := 0) (Blk.new w 5 #[]) (Nat.le_refl _) rfl (Nat.le_refl _) (Nat.zero_le _)
theorem ownB_blk0 {w : World} {g base : Nat} (h : Blk w g 5 #[]) (hb : base ≤ g) : OwnB w base (some ⟨g, 0, none⟩) 0 [] :=
  OwnS.of_blk (size := 1) (c := 0) (n := 0) h hb rfl (Nat.le_refl _) (Nat.zero_le _)
theorem cells_one {w : World} {g T : Nat} {v : Int} (h : Blk w g T #[.int .u8 v]) : CellsAt w (some ⟨g, 0, none⟩) ([v].map (Value.int .u8)) := fun _ => ⟨g, 0, rfl, fun i hi => by
  have : i = 0 := by simpa using hi
  subst this
  rw [h.cell]; rfl⟩

/-- appending bytes, at Oper.wp -/
theorem wp_appB {w : World} {o : Oper} {a : Act} {K : Act → World → Prop} {Q : Exit → Act → World → Prop} (s x : Operand) (t : Nat)
    (ho : o.op = .call { callee := .builtin .append, args := #[s, x], argTypes := #[t, t] }) (ht : Try.prog.underlying t = some (.slice 5))
    (base : Nat) (hbase : base ≤ w.heap.size) (A : Option Addr) (c : Nat) (xs : List Int) (hs : a.eval s = .slice A xs.length c) (hown : OwnB w base A c xs)
    (B : Option Addr) (d : Nat) (ys : List Int) (hx : a.eval x = .slice B ys.length d) (hy : CellsAt w B (ys.map (Value.int .u8))) (hb : xs.length + ys.length ≤ 1000000000) (zs : List Int) (hz : zs = xs ++ ys) (dd : Option Tmp) (hd : o.dst = dd)
    (h : ∀ A' c' w', OwnB w' base A' c' zs → w.grownBy w' (A.map (·.block)) → (A'.map (·.block) = A.map (·.block) ∨ A'.map (·.block) = some w.heap.size) → K (a.put dd (.slice A' zs.length c')) w') : o.wp Try.prog a w K Q := by
  subst hd
  obtain ⟨iB, jB0, jB1, jB2, jB3⟩ := info_parts infoB
  refine wp_app w s x t ho base 5 iB _ 1 1 ht jB0 jB1 jB2 jB3 rfl (by omega) A xs.length c (xs.map (Value.int .u8)) hs hown B ys.length d (ys.map (Value.int .u8)) hx (by simp) hy (bytes_one _) (by unfold maxLen; omega) (by omega) hbase ?_
  intro A' c' w' ho' hg hat
  subst hz
  have hl : (xs ++ ys).length = xs.length + ys.length := by simp
  rw [← hl] at ho' ⊢
  refine h A' c' w' ?_ hg hat
  unfold OwnB
  rw [List.map_append]
  exact ho'

theorem encS_pos (l : List Sp) : 1 ≤ (encS l).length := by
  rw [encS_eq, List.length_append]
  have := venc_pos (Lib.zigzag (l.length : Int))
  show 1 ≤ (venc _).length + _
  omega
end Go.Proofs.Ytlbdjnbcoldjhaa
namespace Go.Proofs.Ytlbdjnbcoldjhaa
open Go.RowKit Go.ChangeShapes

theorem U8.of_wf {n : Int} (h : (Lit.int .u8 n).wf = true) : U8 n := by
  unfold U8
  simp [Lit.wf, IntKind.min, IntKind.max, IntKind.bits, IntKind.signed] at h
  omega

theorem BL.of_row {w : World} {a : Option Addr} {len cap : Nat} {zs : List Int}
    (h : (a = none ∧ len = 0 ∧ cap = 0 ∧ zs = []) ∨ ∃ x, a = some x ∧ len ≤ cap ∧ cap ≤ maxLen ∧ zs.length = cap ∧ (∀ i, i < zs.length → w.cell? (x.add i) = some (.int .u8 (zs.getD i 0))) ∧ ∀ n ∈ zs, (Lit.int .u8 n).wf = true) :
    ∃ l : List Int, l.length = len ∧ BL w a cap l := by
  rcases h with ⟨rfl, rfl, rfl, rfl⟩ | ⟨x, rfl, hl, hm, hz, hc, hw⟩
  · exact ⟨[], rfl, BL.nil w⟩
  · have hlen : (zs.take len).length = len := by rw [List.length_take]; omega
    refine ⟨zs.take len, hlen, by omega, hm, fun n hn => U8.of_wf (hw n (List.mem_of_mem_take hn)), fun hn => ?_⟩
    have h0 : 0 < len := by
      rw [← hlen]; exact List.length_pos_iff.2 hn
    obtain ⟨b, off, spot⟩ := x
    have hs := hc 0 (by omega)
    have hspot : spot = none := by simpa [Addr.add] using World.cell?_spot hs
    subst hspot
    refine ⟨b, off, rfl, fun i hi => ?_⟩
    rw [hlen] at hi
    have h1 := hc i (by omega)
    have e1 : (zs.take len)[i]'(by rw [hlen]; exact hi) = zs.getD i 0 := by
      rw [List.getElem_take, List.getD_eq_getElem?_getD, List.getElem?_eq_getElem (by omega)]; rfl
    rw [e1, ← h1]
    congr 1
    unfold Addr.add
    split
    · subst_vars; rfl
    · rfl
end Go.Proofs.Ytlbdjnbcoldjhaa
