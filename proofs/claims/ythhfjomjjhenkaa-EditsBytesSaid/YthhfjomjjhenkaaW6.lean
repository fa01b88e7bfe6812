/- Package wire's Reader: the walks of Int, list, Raw, Ints. -/
import Derived.Test.YthhfjomjjhenkaaW5
namespace Go.Proofs.Ythhfjomjjhenkaa
open Go.RowKit
attribute [local go_sem ↓] Go.wp_at_zero Go.wp_at_succ

def irun (st : Option (List Int)) : Int × Option (List Int) := (unzig (urun 0 0 st).1, (urun 0 0 st).2)
theorem urun_lt {w : World} {g : Nat} {A : Option Addr} {c : Nat} {bs : List Int} {st : Option (List Int)} (h : RdAt w g A c bs st) : (urun 0 0 st).1 < 18446744073709551616 := by
  rcases st with _ | r
  · simp [urun]
  · have hu := h.u8
    simp only [urun]
    cases hp : uintP 0 r with
    | none => simp
    | some p =>
      obtain ⟨n, s⟩ := p
      have := (uintP_inv r 0 n s (by omega) hu hp).2.1
      simp at this ⊢; omega

theorem xor_i64_comm (a b : Int) : Go.bits .xor .i64 a b = Go.bits .xor .i64 b a := by
  show IntKind.i64.wrap ((BitVec.ofInt 64 a ^^^ BitVec.ofInt 64 b).toNat : Int) = IntKind.i64.wrap ((BitVec.ofInt 64 b ^^^ BitVec.ofInt 64 a).toNat : Int)
  rw [BitVec.xor_comm]
theorem xor_i64_zero (a : Nat) (h : a < 9223372036854775808) : Go.bits .xor .i64 (a : Int) 0 = (a : Int) := by
  show IntKind.i64.wrap ((BitVec.ofInt 64 (a : Int) ^^^ BitVec.ofInt 64 0).toNat : Int) = _
  have h1 : (BitVec.ofInt 64 (0 : Int)) = 0#64 := by decide
  have h2 : (BitVec.ofInt 64 (a : Int)).toNat = a := by
    rw [BitVec.ofInt_natCast, BitVec.toNat_ofNat]; exact Nat.mod_eq_of_lt (by omega)
  rw [h1, BitVec.xor_zero, h2, IntKind.wrap_i64]; omega
theorem unz_code (n : Nat) (h : n < 18446744073709551616) : Go.bits .xor .i64 ((n : Int) / 2) (wrap64 (-wrap64 (Go.bits .and .u64 (n : Int) 1))) = unzig n := by
  have h1 := Lib.u64_and1 (n : Int) (by omega) (by omega)
  rw [h1]
  have e : (n : Int) / 2 = ((n / 2 : Nat) : Int) := by omega
  rw [e]
  unfold unzig
  by_cases h2 : n % 2 = 0
  · have h3 : (n : Int) % 2 = 0 := by omega
    rw [h3, if_pos h2]
    have h4 : wrap64 (-wrap64 0) = 0 := by simp [wrap64]
    rw [h4, xor_i64_zero _ (by omega)]
  · have h3 : (n : Int) % 2 = 1 := by omega
    rw [h3, if_neg h2]
    have h4 : wrap64 (-wrap64 1) = -1 := by simp [wrap64]
    rw [h4, xor_i64_comm, Lib.i64_not _ (by omega)]

set_option maxRecDepth 100000 in
set_option maxHeartbeats 4000000 in
theorem rdInt_any (g : Nat) (A : Option Addr) (c : Nat) (bs : List Int) (st : Option (List Int)) (w : World) (hR : RdAt w g A c bs st) :
    Calls Try.prog 60 #[.pointer (some ⟨g, 0, none⟩)] w (RetRd g A c bs (.int .i64 (irun st).1) (irun st).2 w) := by
  have hlt := urun_lt hR
  have HU := Lib.hid (rdUint_any g A c bs st w hR)
  obtain ⟨n, s, hn⟩ : ∃ n s, urun 0 0 st = (n, s) := ⟨_, _, rfl⟩
  unfold irun
  rw [hn] at HU hlt ⊢
  simp only at HU hlt ⊢
  clear hn hR
  have HZ := Lib.hid (unz_code n hlt)
  go_enter Try.func60, Try.ntmps60
  go_wp2_with fail
  refine HU.out.mono ?_
  rintro e w1 ⟨rfl, hR1, hk1⟩
  clear HU
  go_wp2_with fail
  go_ret
  refine ⟨?_, hR1, hk1⟩
  show Ending.returned (Value.int .i64 _) = _
  rw [HZ.out]

/-! ### lists -/
def octE : List Int → Option (Int × List Int)
  | [] => none
  | b :: r => some (b, r)
def eP (e : List Int → Option (Int × List Int)) : Option (List Int) → Int × Option (List Int)
  | none => (0, none)
  | some r => match e r with
    | none => (0, none)
    | some p => (p.1, some p.2)
theorem octP_eq (st : Option (List Int)) : octP st = eP octE st := by
  rcases st with _ | _ | ⟨b, r⟩ <;> rfl
theorem irun_eq (st : Option (List Int)) : irun st = eP intP st := by
  rcases st with _ | r
  · rfl
  · simp only [irun, urun, eP, intP]
    cases uintP 0 r with
    | none => rfl
    | some p => simp
def seqP (e : List Int → Option (Int × List Int)) : Nat → List Int → Option (List Int × List Int)
  | 0, bs => some ([], bs)
  | k + 1, bs => (e bs).bind fun p => (seqP e k p.2).map fun q => (p.1 :: q.1, q.2)
def lrun (e : List Int → Option (Int × List Int)) (st : Option (List Int)) : List Int × Option (List Int) := match urun 0 0 st with
  | (_, none) => ([], none)
  | (n, some r) => if r.length < n then ([], none) else match seqP e n r with
    | none => ([], none)
    | some q => (q.1, some q.2)
theorem seqP_int : ∀ (k : Nat) (bs : List Int), seqP intP k bs = intsP k bs
  | 0, _ => rfl
  | k + 1, bs => by simp only [seqP, intsP, seqP_int k]
theorem seqP_oct : ∀ (k : Nat) (bs : List Int), k ≤ bs.length → seqP octE k bs = some (bs.take k, bs.drop k)
  | 0, _, _ => by simp [seqP]
  | k + 1, [], h => by simp at h
  | k + 1, b :: r, h => by
    simp only [seqP, octE, Option.bind_some]
    rw [seqP_oct k r (by simpa using h)]
    simp
theorem seq_more (e : List Int → Option (Int × List Int)) {n j : Nat} {r r2 : List Int} {x : Int} (hj : j < n) (he : e r = some (x, r2)) (acc : List Int) :
    (seqP e (n - j) r).map (fun q => (acc ++ q.1, q.2)) = (seqP e (n - (j + 1)) r2).map (fun q => ((acc ++ [x]) ++ q.1, q.2)) := by
  have h1 : n - j = (n - (j + 1)) + 1 := by omega
  rw [h1]
  simp only [seqP, he, Option.bind_some, Option.map_map]
  congr 1
  funext q
  simp
theorem seq_none (e : List Int → Option (Int × List Int)) {n j : Nat} {r : List Int} (hj : j < n) (he : e r = none) (acc : List Int) : (seqP e (n - j) r).map (fun q => (acc ++ q.1, q.2)) = none := by
  have h1 : n - j = (n - (j + 1)) + 1 := by omega
  rw [h1]
  simp [seqP, he]

theorem KpP.thenOwn {p : Nat → Prop} {a b c : World} {A : Option Addr} (h : KpP p a b) (k : b.grownBy c (A.map (·.block))) (hp : ∀ i, A.map (·.block) = some i → a.heap.size ≤ i) : KpP p a c := by
  have kk := KpP.of_grown k
  exact ⟨kk.os.trans h.os, kk.tape.trans h.tape, kk.output.trans h.output, Nat.le_trans h.size kk.size, fun i hi hn => (kk.block i (Nat.lt_of_lt_of_le hi h.size) (fun hm => by have := hp i hm; omega)).trans (h.block i hi hn)⟩

/-- what list leaves -/
def RetLst (k : IntKind) (T : Nat) (g : Nat) (A : Option Addr) (c : Nat) (bs : List Int) (q : List Int × Option (List Int)) (w : World) (e : Ending) (w' : World) : Prop :=
  ∃ B cB, e = .returned (.slice B q.1.length cB) ∧ OwnS w' w.heap.size T 1 B q.1.length cB (q.1.map (Value.int k)) ∧ RdAt w' g A c bs q.2 ∧ KpP (· = g) w w'
theorem infoN : (Try.prog.info? 3).map (fun i => (i.zero, i.size, i.bytes)) = some (some (.int .i64 0), 1, 8) := by kernel_rfl

set_option maxRecDepth 100000 in
set_option maxHeartbeats 8000000 in
theorem listB_any (g : Nat) (A : Option Addr) (c : Nat) (bs : List Int) (st : Option (List Int)) (w : World) (hR : RdAt w g A c bs st) (hl : bs.length ≤ 1099511627776) :
    Calls Try.prog 63 #[.pointer (some ⟨g, 0, none⟩), .func (.func 64) #[.pointer (some ⟨g, 0, none⟩)] #[]] w (RetLst .u8 5 g A c bs (lrun octE st) w) := by
  obtain ⟨iB, jB0, jB1, jB2, jB3⟩ := info_parts infoB
  have hgw := hR.lt
  have hAb := fun (hx : bs ≠ []) (b : Nat) (hb : A.map (·.block) = some b) => hR.bl.blt hx hb
  have HAB := Lib.hid hAb
  have HU := Lib.hid (rdUint_any g A c bs st w hR)
  obtain ⟨fin, hfin⟩ : ∃ fin, fin = lrun octE st := ⟨_, rfl⟩
  rw [← hfin]
  have hnlt := urun_lt hR
  unfold lrun at hfin
  obtain ⟨n, s, hn⟩ : ∃ n s, urun 0 0 st = (n, s) := ⟨_, _, rfl⟩
  rw [hn] at HU hfin hnlt
  simp only at HU hnlt
  have HFIN := Lib.hid hfin
  clear hn hR hAb hfin
  go_enter Try.func63, Try.ntmps63
  go_wp2_with fail
  refine HU.out.mono ?_
  rintro e w1 ⟨rfl, hR1, hk1⟩
  clear HU
  obtain ⟨k, wg, hB, hkl, hst⟩ := hR1.blk
  have q0 := hB.c3.1
  have q1 := hB.c3.2.1
  have q2 := hB.c3.2.2.1
  have q2f := hB.c3.2.2.2.2.2.1
  have qz := hB.lt
  have hbl := hR1.bl.len
  rcases hst with ⟨hw, rfl⟩ | ⟨rfl, rfl⟩
  · have hb1 : (wg != 0) = true := by simpa using hw
    have hb2 : (wg == 0) = false := by simpa using hw
    have HF : Hid (fin = ([], none)) := HFIN.out
    clear hw HFIN
    go_wp2_with fail
    go_ret
    rw [HF.out]
    exact ⟨none, 0, rfl, OwnS.nil _ _ _ _, hR1, hk1⟩
  · have hfin := HFIN.out
    simp only at hfin
    clear HFIN
    by_cases hgt : (bs.drop k).length < n
    · rw [if_pos hgt] at hfin
      have hI : (bs.length : Int) - k < n := by rw [List.length_drop] at hgt; omega
      have HS := fun (W : World) (x : Ext w1 W) => Lib.hid ((hR1.ext x).set2 (hB.ext x) hkl (e := 3) (by omega))
      have HF := Lib.hid hfin
      clear hfin hgt
      go_wp2_with (go_quiet (fail))
      go_ret
      rw [HF.out]
      exact ⟨none, 0, rfl, OwnS.nil _ _ _ _, (HS _ (Ext.drewN _ _)).out.1, (hk1.trans (KpP.of_ext (Ext.drewN _ _))).trans (HS _ (Ext.drewN _ _)).out.2⟩
    · rw [if_neg hgt] at hfin
      have hI : ¬ (bs.length : Int) - k < n := by rw [List.length_drop] at hgt; omega
      have hnb : n ≤ 1099511627776 := by rw [List.length_drop] at hgt; omega
      have HF := Lib.hid hfin
      have HN := Lib.hid (show iB.bytes * n ≤ 281474976710656 ∧ n ≤ maxLen by rw [jB3]; unfold maxLen; omega)
      have hsz1 := hk1.size
      generalize hr0 : bs.drop k = r0 at *
      clear hfin hgt hr0
      go_wp2_with (first | (refine wpList_make_own _ rfl _ _ _ rfl w.heap.size 5 iB _ 1 Try.underlying64 jB0 jB1 jB2 _ _ _ n rfl rfl rfl HN.out.1 HN.out.2 (by first | assumption | (simp; omega)) ?_; intro w3 ho3 hg3) | (go_quiet (fail)))
      have x3 : Ext w1 w3 := (Ext.drewN w1 _).grown hg3 (by simp)
      have HR3 := Lib.hid (And.intro (hR1.ext x3) (hk1.trans (KpP.of_ext x3)))
      clear hR1 hk1 q0 q1 q2 q2f qz hB hg3 x3 hI hbl hsz1 HN
      go_loopw [6, 33] (fun v6 v33 wr => ∃ (j : Nat) (acc : List Int) (B6 : Option Addr) (c6 : Nat) (r : List Int), v6 = .slice B6 acc.length c6 ∧ v33 = .int .u64 j ∧ j ≤ n ∧ Hid (acc.length = j) ∧ Hid (seqP octE n r0 = (seqP octE (n - j) r).map (fun q => (acc ++ q.1, q.2))) ∧
        RdAt wr g A c bs (some r) ∧ OwnS wr w.heap.size 5 1 B6 acc.length c6 (acc.map (Value.int .u8)) ∧ KpP (· = g) w wr) (fun _ v _ => n - (intOf v).toNat)
      case atStart => exact ⟨0, [], _, n, r0, rfl, rfl, Nat.zero_le _, rfl, (show _ = _ by cases seqP octE n r0 <;> simp), HR3.out.1, ho3, HR3.out.2⟩
      case round =>
        clear HR3 ho3
        obtain ⟨j, acc, B6, c6, r, rfl, rfl, hj, hal, hq, hR4, ho4, hk4⟩ := hrel
        by_cases hlt : j < n
        · have hI : (j : Int) < n := by omega
          have hE := octet_any g A c bs (some r) wr hR4
          rw [octP_eq] at hE
          obtain ⟨x, s2, hx⟩ : ∃ x s2, eP octE (some r) = (x, s2) := ⟨_, _, rfl⟩
          rw [hx] at hE
          have HE := Lib.hid hE
          clear hE
          have hab : acc.length ≤ 1099511627776 := by rw [hal.out]; omega
          have hnlt2 : n ≤ 1099511627776 := hnb
          have hb4 := hk4.size
          go_wp2_with fail
          refine HE.out.mono ?_
          rintro e w5 ⟨rfl, hR5, hk5⟩
          clear HE
          have ho5 := OwnS.kp ho4 hk5 (fun b hb e => by have := OwnS.row ho4 b hb; omega)
          have hk45 := hk4.trans hk5
          have hb5 : w.heap.size ≤ w5.heap.size := hk45.size
          obtain ⟨k5, wg5, hB5, hkl5, hst5⟩ := hR5.blk
          have hoG : ∀ b, B6.map (·.block) = some b → b ≠ g ∧ w.heap.size ≤ b := fun b hb => by have := OwnS.row ho4 b hb; exact ⟨by omega, this⟩
          clear ho4 hk4 hk5 hR4
          rcases hst5 with ⟨hw5, rfl⟩ | ⟨rfl, rfl⟩
          · have hb1 : (wg5 != 0) = true := by simpa using hw5
            have hb2 : (wg5 == 0) = false := by simpa using hw5
            have he : octE r = none := by
              simp only [eP] at hx
              cases h : octE r with
              | none => rfl
              | some p => rw [h] at hx; simp at hx
            have HF2 : Hid (fin = ([], none)) := by
              have h1 := HF.out
              rw [hq.out, seq_none octE hlt he] at h1
              exact h1
            clear hw5 hx he
            go_wp2_with ((at_builtin; refine wpList_app1V rfl _ _ _ rfl 5 iB _ 1 Try.underlying64 jB0 jB1 jB2 jB3 (by omega) rfl w.heap.size (.int .u8 x) rfl rfl B6 acc.length c6 _ rfl ho5 rfl hab hb5 ?_; intro B7 c7 w6 ho6 hg6 hat6; have q6 := (KpP.of_grown hg6).blk hB5 (fun e => (hoG g e).1 rfl); have q62 := q6.c3.2.2.1; have q6z := q6.lt))
            go_ret
            rw [HF2.out]
            exact ⟨none, 0, rfl, OwnS.nil _ _ _ _, hR5.kp (KpP.of_grown hg6) (fun e => (hoG g e).1 rfl) (fun hx b hb e => by have := HAB.out hx b hb; have := (hoG b e).2; omega), hk45.thenOwn hg6 (fun i hi => (hoG i hi).2)⟩
          · have he : octE r = some (x, bs.drop k5) := by
              simp only [eP] at hx
              cases h : octE r with
              | none => rw [h] at hx; simp at hx
              | some p => rw [h] at hx; simp at hx; rw [← hx.1, ← hx.2]
            have HQ : Hid (seqP octE n r0 = (seqP octE (n - (j + 1)) (bs.drop k5)).map (fun q => ((acc ++ [x]) ++ q.1, q.2))) := by
              show _ = _
              rw [hq.out, seq_more octE hlt he acc]
            have HL : Hid ((acc ++ [x]).length = j + 1) := by show _ = _; rw [List.length_append, hal.out]; rfl
            have HN : Hid (j + 1 ≤ n ∧ n - (j + 1) < n - j) := ⟨by omega, by omega⟩
            have hwu : IntKind.u64.wrap ((j : Int) + 1) = (j : Int) + 1 := by rw [IntKind.wrap_u64]; omega
            clear hx he
            go_wp2_with ((at_builtin; refine wpList_app1V rfl _ _ _ rfl 5 iB _ 1 Try.underlying64 jB0 jB1 jB2 jB3 (by omega) rfl w.heap.size (.int .u8 x) rfl rfl B6 acc.length c6 _ rfl ho5 rfl hab hb5 ?_; intro B7 c7 w6 ho6 hg6 hat6; have q6 := (KpP.of_grown hg6).blk hB5 (fun e => (hoG g e).1 rfl); have q62 := q6.c3.2.2.1; have q6z := q6.lt))
            have hR6 := hR5.kp (KpP.of_grown hg6) (fun e => (hoG g e).1 rfl) (fun hx b hb e => by have := HAB.out hx b hb; have := (hoG b e).2; omega)
            have hk6 := hk45.thenOwn hg6 (fun i hi => (hoG i hi).2)
            have ho7 : OwnS w6 w.heap.size 5 1 B7 (acc ++ [x]).length c7 ((acc ++ [x]).map (Value.int .u8)) := by
              rw [List.length_append, List.map_append]; exact ho6
            have HLL := Lib.hid (show acc.length + 1 = (acc ++ [x]).length by rw [List.length_append]; rfl)
            go_roundw
            case rel => exact ⟨j + 1, acc ++ [x], B7, c7, bs.drop k5, by rw [HLL.out], by go_num, HN.out.1, HL, HQ, hR6, ho7, hk6⟩
            case measure => simp [intOf]; omega
        · have hI : ¬ (j : Int) < n := by omega
          have hjn : j = n := by omega
          have HF2 : Hid (fin = (acc, some r)) := by
            have h1 := HF.out
            rw [hq.out, hjn, Nat.sub_self] at h1
            show _ = _
            simpa [seqP] using h1
          go_wp2_with fail
          go_ret
          rw [HF2.out]
          exact ⟨B6, c6, rfl, ho4, hR4, hk4⟩

set_option maxRecDepth 100000 in
set_option maxHeartbeats 8000000 in
theorem listI_any (g : Nat) (A : Option Addr) (c : Nat) (bs : List Int) (st : Option (List Int)) (w : World) (hR : RdAt w g A c bs st) (hl : bs.length ≤ 1099511627776) :
    Calls Try.prog 74 #[.pointer (some ⟨g, 0, none⟩), .func (.func 60) #[.pointer (some ⟨g, 0, none⟩)] #[]] w (RetLst .i64 3 g A c bs (lrun intP st) w) := by
  obtain ⟨iB, jB0, jB1, jB2, jB3⟩ := info_parts infoN
  have hgw := hR.lt
  have hAb := fun (hx : bs ≠ []) (b : Nat) (hb : A.map (·.block) = some b) => hR.bl.blt hx hb
  have HAB := Lib.hid hAb
  have HU := Lib.hid (rdUint_any g A c bs st w hR)
  obtain ⟨fin, hfin⟩ : ∃ fin, fin = lrun intP st := ⟨_, rfl⟩
  rw [← hfin]
  have hnlt := urun_lt hR
  unfold lrun at hfin
  obtain ⟨n, s, hn⟩ : ∃ n s, urun 0 0 st = (n, s) := ⟨_, _, rfl⟩
  rw [hn] at HU hfin hnlt
  simp only at HU hnlt
  have HFIN := Lib.hid hfin
  clear hn hR hAb hfin
  go_enter Try.func74, Try.ntmps74
  go_wp2_with fail
  refine HU.out.mono ?_
  rintro e w1 ⟨rfl, hR1, hk1⟩
  clear HU
  obtain ⟨k, wg, hB, hkl, hst⟩ := hR1.blk
  have q0 := hB.c3.1
  have q1 := hB.c3.2.1
  have q2 := hB.c3.2.2.1
  have q2f := hB.c3.2.2.2.2.2.1
  have qz := hB.lt
  have hbl := hR1.bl.len
  rcases hst with ⟨hw, rfl⟩ | ⟨rfl, rfl⟩
  · have hb1 : (wg != 0) = true := by simpa using hw
    have hb2 : (wg == 0) = false := by simpa using hw
    have HF : Hid (fin = ([], none)) := HFIN.out
    clear hw HFIN
    go_wp2_with fail
    go_ret
    rw [HF.out]
    exact ⟨none, 0, rfl, OwnS.nil _ _ _ _, hR1, hk1⟩
  · have hfin := HFIN.out
    simp only at hfin
    clear HFIN
    by_cases hgt : (bs.drop k).length < n
    · rw [if_pos hgt] at hfin
      have hI : (bs.length : Int) - k < n := by rw [List.length_drop] at hgt; omega
      have HS := fun (W : World) (x : Ext w1 W) => Lib.hid ((hR1.ext x).set2 (hB.ext x) hkl (e := 3) (by omega))
      have HF := Lib.hid hfin
      clear hfin hgt
      go_wp2_with (go_quiet (fail))
      go_ret
      rw [HF.out]
      exact ⟨none, 0, rfl, OwnS.nil _ _ _ _, (HS _ (Ext.drewN _ _)).out.1, (hk1.trans (KpP.of_ext (Ext.drewN _ _))).trans (HS _ (Ext.drewN _ _)).out.2⟩
    · rw [if_neg hgt] at hfin
      have hI : ¬ (bs.length : Int) - k < n := by rw [List.length_drop] at hgt; omega
      have hnb : n ≤ 1099511627776 := by rw [List.length_drop] at hgt; omega
      have HF := Lib.hid hfin
      have HN := Lib.hid (show iB.bytes * n ≤ 281474976710656 ∧ n ≤ maxLen by rw [jB3]; unfold maxLen; omega)
      have hsz1 := hk1.size
      generalize hr0 : bs.drop k = r0 at *
      clear hfin hgt hr0
      go_wp2_with (first | (refine wpList_make_own _ rfl _ _ _ rfl w.heap.size 3 iB _ 1 Try.underlying22 jB0 jB1 jB2 _ _ _ n rfl rfl rfl HN.out.1 HN.out.2 (by first | assumption | (simp; omega)) ?_; intro w3 ho3 hg3) | (go_quiet (fail)))
      have x3 : Ext w1 w3 := (Ext.drewN w1 _).grown hg3 (by simp)
      have HR3 := Lib.hid (And.intro (hR1.ext x3) (hk1.trans (KpP.of_ext x3)))
      clear hR1 hk1 q0 q1 q2 q2f qz hB hg3 x3 hI hbl hsz1 HN
      go_loopw [6, 33] (fun v6 v33 wr => ∃ (j : Nat) (acc : List Int) (B6 : Option Addr) (c6 : Nat) (r : List Int), v6 = .slice B6 acc.length c6 ∧ v33 = .int .u64 j ∧ j ≤ n ∧ Hid (acc.length = j) ∧ Hid (seqP intP n r0 = (seqP intP (n - j) r).map (fun q => (acc ++ q.1, q.2))) ∧
        RdAt wr g A c bs (some r) ∧ OwnS wr w.heap.size 3 1 B6 acc.length c6 (acc.map (Value.int .i64)) ∧ KpP (· = g) w wr) (fun _ v _ => n - (intOf v).toNat)
      case atStart => exact ⟨0, [], _, n, r0, rfl, rfl, Nat.zero_le _, rfl, (show _ = _ by cases seqP intP n r0 <;> simp), HR3.out.1, ho3, HR3.out.2⟩
      case round =>
        clear HR3 ho3
        obtain ⟨j, acc, B6, c6, r, rfl, rfl, hj, hal, hq, hR4, ho4, hk4⟩ := hrel
        by_cases hlt : j < n
        · have hI : (j : Int) < n := by omega
          have hE := rdInt_any g A c bs (some r) wr hR4
          rw [irun_eq] at hE
          obtain ⟨x, s2, hx⟩ : ∃ x s2, eP intP (some r) = (x, s2) := ⟨_, _, rfl⟩
          rw [hx] at hE
          have HE := Lib.hid hE
          clear hE
          have hab : acc.length ≤ 1099511627776 := by rw [hal.out]; omega
          have hnlt2 : n ≤ 1099511627776 := hnb
          have hb4 := hk4.size
          go_wp2_with fail
          refine HE.out.mono ?_
          rintro e w5 ⟨rfl, hR5, hk5⟩
          clear HE
          have ho5 := OwnS.kp ho4 hk5 (fun b hb e => by have := OwnS.row ho4 b hb; omega)
          have hk45 := hk4.trans hk5
          have hb5 : w.heap.size ≤ w5.heap.size := hk45.size
          obtain ⟨k5, wg5, hB5, hkl5, hst5⟩ := hR5.blk
          have hoG : ∀ b, B6.map (·.block) = some b → b ≠ g ∧ w.heap.size ≤ b := fun b hb => by have := OwnS.row ho4 b hb; exact ⟨by omega, this⟩
          clear ho4 hk4 hk5 hR4
          rcases hst5 with ⟨hw5, rfl⟩ | ⟨rfl, rfl⟩
          · have hb1 : (wg5 != 0) = true := by simpa using hw5
            have hb2 : (wg5 == 0) = false := by simpa using hw5
            have he : intP r = none := by
              simp only [eP] at hx
              cases h : intP r with
              | none => rfl
              | some p => rw [h] at hx; simp at hx
            have HF2 : Hid (fin = ([], none)) := by
              have h1 := HF.out
              rw [hq.out, seq_none intP hlt he] at h1
              exact h1
            clear hw5 hx he
            go_wp2_with ((at_builtin; refine wpList_app1V rfl _ _ _ rfl 3 iB _ 8 Try.underlying22 jB0 jB1 jB2 jB3 (by omega) rfl w.heap.size (.int .i64 x) rfl rfl B6 acc.length c6 _ rfl ho5 rfl hab hb5 ?_; intro B7 c7 w6 ho6 hg6 hat6; have q6 := (KpP.of_grown hg6).blk hB5 (fun e => (hoG g e).1 rfl); have q62 := q6.c3.2.2.1; have q6z := q6.lt))
            go_ret
            rw [HF2.out]
            exact ⟨none, 0, rfl, OwnS.nil _ _ _ _, hR5.kp (KpP.of_grown hg6) (fun e => (hoG g e).1 rfl) (fun hx b hb e => by have := HAB.out hx b hb; have := (hoG b e).2; omega), hk45.thenOwn hg6 (fun i hi => (hoG i hi).2)⟩
          · have he : intP r = some (x, bs.drop k5) := by
              simp only [eP] at hx
              cases h : intP r with
              | none => rw [h] at hx; simp at hx
              | some p => rw [h] at hx; simp at hx; rw [← hx.1, ← hx.2]
            have HQ : Hid (seqP intP n r0 = (seqP intP (n - (j + 1)) (bs.drop k5)).map (fun q => ((acc ++ [x]) ++ q.1, q.2))) := by
              show _ = _
              rw [hq.out, seq_more intP hlt he acc]
            have HL : Hid ((acc ++ [x]).length = j + 1) := by show _ = _; rw [List.length_append, hal.out]; rfl
            have HN : Hid (j + 1 ≤ n ∧ n - (j + 1) < n - j) := ⟨by omega, by omega⟩
            have hwu : IntKind.u64.wrap ((j : Int) + 1) = (j : Int) + 1 := by rw [IntKind.wrap_u64]; omega
            clear hx he
            go_wp2_with ((at_builtin; refine wpList_app1V rfl _ _ _ rfl 3 iB _ 8 Try.underlying22 jB0 jB1 jB2 jB3 (by omega) rfl w.heap.size (.int .i64 x) rfl rfl B6 acc.length c6 _ rfl ho5 rfl hab hb5 ?_; intro B7 c7 w6 ho6 hg6 hat6; have q6 := (KpP.of_grown hg6).blk hB5 (fun e => (hoG g e).1 rfl); have q62 := q6.c3.2.2.1; have q6z := q6.lt))
            have hR6 := hR5.kp (KpP.of_grown hg6) (fun e => (hoG g e).1 rfl) (fun hx b hb e => by have := HAB.out hx b hb; have := (hoG b e).2; omega)
            have hk6 := hk45.thenOwn hg6 (fun i hi => (hoG i hi).2)
            have ho7 : OwnS w6 w.heap.size 3 1 B7 (acc ++ [x]).length c7 ((acc ++ [x]).map (Value.int .i64)) := by
              rw [List.length_append, List.map_append]; exact ho6
            have HLL := Lib.hid (show acc.length + 1 = (acc ++ [x]).length by rw [List.length_append]; rfl)
            go_roundw
            case rel => exact ⟨j + 1, acc ++ [x], B7, c7, bs.drop k5, by rw [HLL.out], by go_num, HN.out.1, HL, HQ, hR6, ho7, hk6⟩
            case measure => simp [intOf]; omega
        · have hI : ¬ (j : Int) < n := by omega
          have hjn : j = n := by omega
          have HF2 : Hid (fin = (acc, some r)) := by
            have h1 := HF.out
            rw [hq.out, hjn, Nat.sub_self] at h1
            show _ = _
            simpa [seqP] using h1
          go_wp2_with fail
          go_ret
          rw [HF2.out]
          exact ⟨B6, c6, rfl, ho4, hR4, hk4⟩

theorem rdRaw_any (g : Nat) (A : Option Addr) (c : Nat) (bs : List Int) (st : Option (List Int)) (w : World) (hR : RdAt w g A c bs st) (hl : bs.length ≤ 1099511627776) :
    Calls Try.prog 41 #[.pointer (some ⟨g, 0, none⟩)] w (RetLst .u8 5 g A c bs (lrun octE st) w) := by
  have HL := Lib.hid (listB_any g A c bs st w hR hl)
  generalize lrun octE st = q at *
  go_enter Try.func41, Try.ntmps41
  go_wp2_with fail
  refine HL.out.mono ?_
  rintro e w1 ⟨B, cB, rfl, h1, h2, h3⟩
  go_wp2_with fail
  go_ret
  exact ⟨B, cB, rfl, h1, h2, h3⟩

theorem rdInts_any (g : Nat) (A : Option Addr) (c : Nat) (bs : List Int) (st : Option (List Int)) (w : World) (hR : RdAt w g A c bs st) (hl : bs.length ≤ 1099511627776) :
    Calls Try.prog 61 #[.pointer (some ⟨g, 0, none⟩)] w (RetLst .i64 3 g A c bs (lrun intP st) w) := by
  have HL := Lib.hid (listI_any g A c bs st w hR hl)
  generalize lrun intP st = q at *
  go_enter Try.func61, Try.ntmps61
  go_wp2_with fail
  refine HL.out.mono ?_
  rintro e w1 ⟨B, cB, rfl, h1, h2, h3⟩
  go_wp2_with fail
  go_ret
  exact ⟨B, cB, rfl, h1, h2, h3⟩
end Go.Proofs.Ythhfjomjjhenkaa
