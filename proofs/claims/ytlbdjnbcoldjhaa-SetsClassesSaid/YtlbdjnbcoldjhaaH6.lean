/- Walks of package sets: pair, Union, Meet, Minus, Not. -/
import Derived.Test.YtlbdjnbcoldjhaaH5
import Derived.Test.YtlbdjnbcoldjhaaG18
namespace Go.Proofs.Ytlbdjnbcoldjhaa
open Go.RowKit

set_option maxRecDepth 100000 in
set_option maxHeartbeats 4000000 in
theorem pair_any (nf : Nat) (k : List Bool → Bool) (h0 : k [false, false] = false) (A B : Option Addr) (c d : Nat) (a b : List Sp) (w : World) (ha : SL w A c a) (hb : SL w B d b)
    (eg : ∀ args w, (callFunc nf args).run Try.prog w = .ok (.enter nf args) w)
    (hf : ∀ (W : World) (B : Option Addr) (cB : Nat) (bs : List Bool), IB W B cB bs → bs.length = 2 → Calls Try.prog nf #[.slice B bs.length cB] W (RetV (.bool (k bs)) W)) :
    Calls Try.prog 50 #[.slice A a.length c, .slice B b.length d, .func (.func nf) #[] #[]] w (RetComb (validE a) (validE b) (combo k [a, b]) w) := by
  have hcap := ha.len
  have hcap2 := hb.len
  have HVA := Lib.hid (sValid_any A c a w ha)
  have HVB := fun (W : World) (x : Ext w W) => Lib.hid (sValid_any B d b W (hb.ext x))
  obtain ⟨out, hout⟩ : ∃ out, out = combo k [a, b] := ⟨_, rfl⟩
  rw [← hout]
  have HOUT := Lib.hid hout
  clear hout
  by_cases h1 : validE a = 0
  · by_cases h2 : validE b = 0
    · have GA := Lib.hid (validE_good h1)
      have GB := Lib.hid (validE_good h2)
      have HR : ∀ (e : Ending) (W : World), RetS out w e W → Hid (RetComb (validE a) (validE b) out w e W) := fun e W h => Lib.hid (.inr (.inr ⟨h1, h2, h⟩))
      have HG2 := Lib.hid (show ∀ z ∈ [a, b], ∀ s ∈ z, goodS s from fun z hz s hs => by
        rcases List.mem_cons.1 hz with rfl | hz
        · exact GA.out.2.1 s hs
        · obtain rfl := List.mem_singleton.1 hz
          exact GB.out.2.1 s hs)
      have HGF := Lib.hid (combo_good (k := k) (ls := [a, b]) HG2.out h0)
      have HOL : Hid (out.length ≤ 1000) := Lib.hid (by
        rw [HOUT.out]
        have := combo_len k [a, b]
        have := GA.out.2.2
        have := GB.out.2.2
        simp at *; omega)
      have hol := HOL.out
      have HCB := fun (W : World) (X : Option Addr) (cX : Nat) (h : LLS W X cX [⟨A, c, a⟩, ⟨B, d, b⟩]) => Lib.hid (combine_any nf k X cX [⟨A, c, a⟩, ⟨B, d, b⟩] W h (fun h hh => by
        rcases List.mem_cons.1 hh with rfl | hh
        · exact GA.out.1
        · obtain rfl := List.mem_singleton.1 hh
          exact GB.out.1) (by have := GA.out.2.2; have := GB.out.2.2; simp; omega) (by simp) eg (fun W B cB bs h hb => hf W B cB bs h (by simpa using hb)))
      have HLS : Hid (([⟨A, c, a⟩, ⟨B, d, b⟩] : List Hs).map (·.l) = [a, b]) := rfl
      rw [HLS.out, ← HOUT.out] at HCB
      rw [← HOUT.out] at HGF
      rw [h1] at HVA
      rw [h2] at HVB
      clear h1 h2 HOUT HG2 hf
      go_enter Try.func50, Try.ntmps50
      go_wp2_with fail
      refine HVA.out.mono ?_
      rintro e w1 ⟨rfl, x1⟩
      have HVB1 := HVB w1 x1
      clear HVA HVB
      go_wp2_with fail
      refine HVB1.out.mono ?_
      rintro e w2 ⟨rfl, x2⟩
      have x12 := x1.trans x2
      clear HVB1 x1 x2
      have bL := Blk.new w2 24 #[.slice A a.length c, .slice B b.length d]
      have eL := Ext.alloc w2 (.cells #[.slice A a.length c, .slice B b.length d] 24)
      have HLLS : LLS (w2.alloc (.cells #[.slice A a.length c, .slice B b.length d] 24)) (some ⟨w2.heap.size, 0, none⟩) 2 [⟨A, c, a⟩, ⟨B, d, b⟩] := ⟨by simp, by unfold maxLen; omega, fun h hh => by
        rcases List.mem_cons.1 hh with rfl | hh
        · exact (ha.ext x12).ext eL
        · obtain rfl := List.mem_singleton.1 hh
          exact (hb.ext x12).ext eL, fun _ => ⟨_, 0, rfl, fun j hj => by
          have : j = 0 ∨ j = 1 := by simp at hj; omega
          rcases this with rfl | rfl
          · rw [bL.cell]; rfl
          · rw [bL.cell]; rfl⟩⟩
      have HCB1 := HCB _ _ _ HLLS
      have x1L := x12.trans eL
      clear HCB HLLS bL eL
      go_wp2_with fail
      refine HCB1.out.mono ?_
      rintro e w3 ⟨O, cO, rfl, hO, x3⟩
      have X := x1L.trans x3
      have HOF := Lib.hid (OwnP.sl hO HGF.out)
      have HFR := Lib.hid (show Fr w O from fun b hb => by
        have h1 := OwnP.row hO hb
        have h2 := x1L.size
        omega)
      have HLI := limited_any O cO out.length w3 (by omega)
      clear HCB1 x1L x3 hO x12
      by_cases ho64 : 64 < out.length
      · rw [if_pos ho64] at HLI
        have HE := HR _ _ (.inl ⟨ho64, rfl, X⟩)
        go_wp2_with fail
        refine HLI.mono ?_
        rintro e w11 ⟨rfl, rfl⟩
        clear HR HLI
        go_wp2_with fail
        exact bodyPost_ret (v := .tuple #[.slice none 0 0, .int .i64 4]) (by simp [results, Try.results50, go_sem]) rfl HE.out
      · rw [if_neg ho64] at HLI
        have HE := HR _ _ (.inr ⟨by omega, O, cO, rfl, HOF.out, X, HFR.out⟩)
        go_wp2_with fail
        refine HLI.mono ?_
        rintro e w11 ⟨rfl, rfl⟩
        clear HR HLI
        go_wp2_with fail
        exact bodyPost_ret (v := .tuple #[.slice O out.length cO, .int .i64 0]) (by simp [results, Try.results50, go_sem]) rfl HE.out
    · have HR : ∀ (W : World), Ext w W → Hid (RetComb (validE a) (validE b) out w (.returned (.tuple #[.slice none 0 0, .int .i64 (validE b)])) W) := fun W x => Lib.hid (.inr (.inl ⟨h1, h2, rfl, x⟩))
      have hvb : (validE b != 0) = true := by simpa using h2
      rw [h1] at HVA
      clear h1 h2 hf
      generalize validE b = vb at *
      go_enter Try.func50, Try.ntmps50
      go_wp2_with fail
      refine HVA.out.mono ?_
      rintro e w1 ⟨rfl, x1⟩
      have HVB1 := HVB w1 x1
      clear HVA HVB
      go_wp2_with fail
      refine HVB1.out.mono ?_
      rintro e w2 ⟨rfl, x2⟩
      have HE := HR w2 (x1.trans x2)
      clear HR HVB1
      go_wp2_with fail
      exact bodyPost_ret (v := .tuple #[.slice none 0 0, .int .i64 vb]) (by simp [results, Try.results50, go_sem]) rfl HE.out
  · have HR : ∀ (W : World), Ext w W → Hid (RetComb (validE a) (validE b) out w (.returned (.tuple #[.slice none 0 0, .int .i64 (validE a)])) W) := fun W x => Lib.hid (.inl ⟨h1, rfl, x⟩)
    have hva : (validE a != 0) = true := by simpa using h1
    clear h1 HVB hf
    generalize validE a = va at *
    go_enter Try.func50, Try.ntmps50
    go_wp2_with fail
    refine HVA.out.mono ?_
    rintro e w1 ⟨rfl, x1⟩
    have HE := HR w1 x1
    clear HR HVA
    go_wp2_with fail
    exact bodyPost_ret (v := .tuple #[.slice none 0 0, .int .i64 va]) (by simp [results, Try.results50, go_sem]) rfl HE.out

theorem RetComb.mk {va vb : Int} {out : List Sp} {w w' : World} {e : Ending} (h : RetComb va vb out w e w') : ∃ (O : Option Addr) (c n : Nat) (er : Int), e = .returned (.tuple #[.slice O n c, .int .i64 er]) := by
  rcases h with ⟨_, rfl, _⟩ | ⟨_, _, rfl, _⟩ | ⟨_, _, ⟨_, rfl, _⟩ | ⟨_, A, c, rfl, _⟩⟩
  · exact ⟨_, _, _, _, rfl⟩
  · exact ⟨_, _, _, _, rfl⟩
  · exact ⟨_, _, _, _, rfl⟩
  · exact ⟨_, _, _, _, rfl⟩

set_option maxRecDepth 100000 in
theorem union_any (A B : Option Addr) (c d : Nat) (a b : List Sp) (w : World) (ha : SL w A c a) (hb : SL w B d b) :
    Calls Try.prog 25 #[.slice A a.length c, .slice B b.length d] w (RetComb (validE a) (validE b) (combo kOr [a, b]) w) := by
  have H := pair_any 51 kOr rfl A B c d a b w ha hb (enters_of Try.func51 (by kernel_rfl) rfl) (fun W B cB bs h hb => either_any W B cB bs h hb)
  generalize combo kOr [a, b] = out at *
  generalize validE a = va at *
  generalize validE b = vb at *
  have hcap := ha.len
  have hcap2 := hb.len
  generalize a.length = na at *
  generalize b.length = nb at *
  clear ha hb
  go_enter Try.func25, Try.ntmps25
  go_wp2_with fail
  refine H.mono ?_
  intro e w1 hr
  obtain ⟨O, cO, n, er, rfl⟩ := hr.mk
  have HR := Lib.hid hr
  clear hr H
  go_wp2_with fail
  exact bodyPost_ret (v := .tuple #[.slice O n cO, .int .i64 er]) (by simp [results, Try.results25, go_sem]) rfl HR.out

set_option maxRecDepth 100000 in
theorem meet_any (A B : Option Addr) (c d : Nat) (a b : List Sp) (w : World) (ha : SL w A c a) (hb : SL w B d b) :
    Calls Try.prog 26 #[.slice A a.length c, .slice B b.length d] w (RetComb (validE a) (validE b) (combo kAnd [a, b]) w) := by
  have H := pair_any 52 kAnd rfl A B c d a b w ha hb (enters_of Try.func52 (by kernel_rfl) rfl) (fun W B cB bs h hb => both_any W B cB bs h hb)
  generalize combo kAnd [a, b] = out at *
  generalize validE a = va at *
  generalize validE b = vb at *
  have hcap := ha.len
  have hcap2 := hb.len
  generalize a.length = na at *
  generalize b.length = nb at *
  clear ha hb
  go_enter Try.func26, Try.ntmps26
  go_wp2_with fail
  refine H.mono ?_
  intro e w1 hr
  obtain ⟨O, cO, n, er, rfl⟩ := hr.mk
  have HR := Lib.hid hr
  clear hr H
  go_wp2_with fail
  exact bodyPost_ret (v := .tuple #[.slice O n cO, .int .i64 er]) (by simp [results, Try.results26, go_sem]) rfl HR.out

set_option maxRecDepth 100000 in
theorem sminus_any (A B : Option Addr) (c d : Nat) (a b : List Sp) (w : World) (ha : SL w A c a) (hb : SL w B d b) :
    Calls Try.prog 27 #[.slice A a.length c, .slice B b.length d] w (RetComb (validE a) (validE b) (combo kMinus [a, b]) w) := by
  have H := pair_any 53 kMinus rfl A B c d a b w ha hb (enters_of Try.func53 (by kernel_rfl) rfl) (fun W B cB bs h hb => minus_any W B cB bs h hb)
  generalize combo kMinus [a, b] = out at *
  generalize validE a = va at *
  generalize validE b = vb at *
  have hcap := ha.len
  have hcap2 := hb.len
  generalize a.length = na at *
  generalize b.length = nb at *
  clear ha hb
  go_enter Try.func27, Try.ntmps27
  go_wp2_with fail
  refine H.mono ?_
  intro e w1 hr
  obtain ⟨O, cO, n, er, rfl⟩ := hr.mk
  have HR := Lib.hid hr
  clear hr H
  go_wp2_with fail
  exact bodyPost_ret (v := .tuple #[.slice O n cO, .int .i64 er]) (by simp [results, Try.results27, go_sem]) rfl HR.out

/-- the closure of Not -/
theorem not1_any (W : World) (B : Option Addr) (cB : Nat) (bs : List Bool) (hb : IB W B cB bs) (hl : bs.length = 2) : Calls Try.prog 55 #[.slice B bs.length cB] W (RetV (.bool (kMinus bs)) W) := by
  obtain ⟨x, y, rfl⟩ := two_of hl
  obtain ⟨b, o, rfl, g0⟩ := hb.get (k := 0) (by simp)
  obtain ⟨b2, o2, he, g1⟩ := hb.get (k := 1) (by simp)
  obtain ⟨rfl, rfl⟩ : b = b2 ∧ o = o2 := by injection he with h1; injection h1 with h2 h3 h4; exact ⟨h2, h3⟩
  simp only [List.getElem_cons_zero, List.getElem_cons_succ, Nat.add_zero] at g0 g1
  simp only [List.length_cons, List.length_nil, kMinus, List.getD_cons_zero, List.getD_cons_succ]
  cases x
  · go_enter Try.func55, Try.ntmps55
    go_wp2
    go_ret
    exact ⟨rfl, Ext.rfl' _⟩
  · cases y
    · go_enter Try.func55, Try.ntmps55
      go_wp2
      go_ret
      exact ⟨rfl, Ext.rfl' _⟩
    · go_enter Try.func55, Try.ntmps55
      go_wp2
      go_ret
      exact ⟨rfl, Ext.rfl' _⟩
/-- Not of a set, for a greatest symbol in range -/
def notL (a : List Sp) (top : Int) : List Sp := combo kMinus [[(0, top)], a]

set_option maxRecDepth 100000 in
set_option maxHeartbeats 4000000 in
/-- Not of a set -/
theorem not_any (A : Option Addr) (c : Nat) (a : List Sp) (top : Int) (w : World) (ha : SL w A c a) (hv : validE a = 0) (ht : 0 ≤ top ∧ top ≤ 1114111) :
    Calls Try.prog 32 #[.slice A a.length c, .int .i64 top] w (RetS (notL a top) w) := by
  have hcap := ha.len
  have HVA := Lib.hid (hv ▸ sValid_any A c a w ha)
  obtain ⟨out, hout⟩ : ∃ out, out = notL a top := ⟨_, rfl⟩
  rw [← hout]
  have HOUT := Lib.hid hout
  clear hout
  have GA := Lib.hid (validE_good hv)
  have hg1 : ∀ s ∈ [((0 : Int), top)], goodS s := fun s hs => by
    obtain rfl := List.mem_singleton.1 hs
    unfold goodS; simp only; omega
  have HG2 := Lib.hid (show ∀ z ∈ [[((0 : Int), top)], a], ∀ s ∈ z, goodS s from fun z hz s hs => by
    rcases List.mem_cons.1 hz with rfl | hz
    · exact hg1 s hs
    · obtain rfl := List.mem_singleton.1 hz
      exact GA.out.2.1 s hs)
  have HOK1 := Lib.hid (canon_okL (l := [((0 : Int), top)]) ⟨fun s hs => by have := hg1 s hs; unfold goodS at this; omega, List.pairwise_singleton _ _⟩ hg1)
  have HGF := Lib.hid (combo_good (k := kMinus) (ls := [[((0 : Int), top)], a]) HG2.out rfl)
  have HOL : Hid (out.length ≤ 1000) := Lib.hid (by
    rw [HOUT.out]
    unfold notL
    have := combo_len kMinus [[((0 : Int), top)], a]
    have := GA.out.2.2
    simp at *; omega)
  have hol := HOL.out
  have eg : ∀ args w, (callFunc 55 args).run Try.prog w = .ok (.enter 55 args) w := enters_of Try.func55 (by kernel_rfl) rfl
  have HCB := fun (W : World) (X Y : Option Addr) (cX cY : Nat) (h : LLS W X cX [⟨Y, cY, [((0 : Int), top)]⟩, ⟨A, c, a⟩]) => Lib.hid (combine_any 55 kMinus X cX [⟨Y, cY, [((0 : Int), top)]⟩, ⟨A, c, a⟩] W h (fun h hh => by
    rcases List.mem_cons.1 hh with rfl | hh
    · exact HOK1.out
    · obtain rfl := List.mem_singleton.1 hh
      exact GA.out.1) (by have := GA.out.2.2; simp; omega) (by simp) eg (fun W B cB bs h hb => not1_any W B cB bs h (by simpa using hb)))
  have HLS : ∀ (Y : Option Addr) (cY : Nat), Hid (combo kMinus (([⟨Y, cY, [((0 : Int), top)]⟩, ⟨A, c, a⟩] : List Hs).map (·.l)) = out) := fun _ _ => HOUT.out.symm
  have HCB2 := fun (W : World) (X Y : Option Addr) (cX cY : Nat) (h : LLS W X cX [⟨Y, cY, [((0 : Int), top)]⟩, ⟨A, c, a⟩]) => Lib.hid ((HLS Y cY).out ▸ (HCB W X Y cX cY h).out)
  unfold notL at HOUT
  rw [← HOUT.out] at HGF
  clear hv HOUT HG2 HCB HLS
  obtain ⟨ht1, ht2⟩ := ht
  have hn1 : ¬ top < 0 := by omega
  have hn2 : ¬ 1114111 < top := by omega
  go_enter Try.func32, Try.ntmps32
  go_wp2_with fail
  refine HVA.out.mono ?_
  rintro e w1 ⟨rfl, x1⟩
  clear HVA
  obtain ⟨b1, xa⟩ := alloc1 w1 48 #[.int .i64 0, .int .i64 top]
  have HS1 : SL (w1.alloc (.cells #[.int .i64 0, .int .i64 top] 48)) (some ⟨w1.heap.size, 0, none⟩) 1 [((0 : Int), top)] := ⟨by simp, by unfold maxLen; omega, fun s hs => by
    obtain rfl := List.mem_singleton.1 hs
    exact ⟨by unfold I64; simp only; omega, by unfold I64; simp only; omega⟩, fun _ => ⟨_, 0, rfl, fun j hj => by
    have : j = 0 := by simpa using hj
    subst this
    exact ⟨by rw [b1.cell]; rfl, by rw [b1.cell]; rfl⟩⟩⟩
  have x12 := x1.trans xa
  go_upto_region 7 with fail
  obtain ⟨ga, hga⟩ : ∃ ga, ga = w1.heap.size := ⟨_, rfl⟩
  rw [← hga] at HS1 b1 ⊢
  clear b1 xa hga
  generalize w1.alloc (.cells #[.int .i64 0, .int .i64 top] 48) = wa at *
  have bL := Blk.new wa 24 #[.slice (some ⟨ga, 0, none⟩) 1 1, .slice A a.length c]
  have eL := Ext.alloc wa (.cells #[.slice (some ⟨ga, 0, none⟩) 1 1, .slice A a.length c] 24)
  have HLLS : LLS (wa.alloc (.cells #[.slice (some ⟨ga, 0, none⟩) 1 1, .slice A a.length c] 24)) (some ⟨wa.heap.size, 0, none⟩) 2 [⟨some ⟨ga, 0, none⟩, 1, [((0 : Int), top)]⟩, ⟨A, c, a⟩] := ⟨by simp, by unfold maxLen; omega, fun h hh => by
    rcases List.mem_cons.1 hh with rfl | hh
    · exact HS1.ext (Ext.alloc _ _)
    · obtain rfl := List.mem_singleton.1 hh
      exact (ha.ext x12).ext (Ext.alloc _ _), fun _ => ⟨_, 0, rfl, fun j hj => by
      have : j = 0 ∨ j = 1 := by simp at hj; omega
      rcases this with rfl | rfl
      · rw [bL.cell]; rfl
      · rw [bL.cell]; rfl⟩⟩
  have HCB1 := HCB2 _ _ _ _ _ HLLS
  have x1L := x12.trans eL
  clear HCB2 HLLS bL eL HS1
  go_wp2_with fail
  refine HCB1.out.mono ?_
  rintro e w3 ⟨O, cO, rfl, hO, x3⟩
  have X := x1L.trans x3
  have HOF := Lib.hid (OwnP.sl hO HGF.out)
  have HFR := Lib.hid (show Fr w O from fun b hb => by
    have h1 := OwnP.row hO hb
    have h2 := x1L.size
    omega)
  have HLI := limited_any O cO out.length w3 (by omega)
  clear HCB1 x1L x3 hO x12
  by_cases ho64 : 64 < out.length
  · rw [if_pos ho64] at HLI
    go_wp2_with fail
    refine HLI.mono ?_
    rintro e w11 ⟨rfl, rfl⟩
    clear HLI
    go_wp2_with fail
    exact bodyPost_ret (v := .tuple #[.slice none 0 0, .int .i64 4]) (by simp [results, Try.results32, go_sem]) rfl (.inl ⟨ho64, rfl, X⟩)
  · rw [if_neg ho64] at HLI
    go_wp2_with fail
    refine HLI.mono ?_
    rintro e w11 ⟨rfl, rfl⟩
    clear HLI
    go_wp2_with fail
    exact bodyPost_ret (v := .tuple #[.slice O out.length cO, .int .i64 0]) (by simp [results, Try.results32, go_sem]) rfl (.inr ⟨by omega, O, cO, rfl, HOF.out, X, HFR.out⟩)
end Go.Proofs.Ytlbdjnbcoldjhaa
