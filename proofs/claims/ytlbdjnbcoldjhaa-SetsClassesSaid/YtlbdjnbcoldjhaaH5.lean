/- Walks of the reference of package sets: Combine. -/
import Derived.Test.YtlbdjnbcoldjhaaH4
import Derived.Test.YtlbdjnbcoldjhaaH1
import Derived.Test.YtlbdjnbcoldjhaaG9
namespace Go.Proofs.Ytlbdjnbcoldjhaa
open Go.RowKit

/-- 'xs = append(xs, b)', one truth value in a new block of its own -/
theorem wpList_app1B {w1 w : World} {ops : Array Oper} {rest : List Oper} {o : Oper} {a : Act} {Q : Exit → Act → World → Prop} (hgd : o.guard = none) (s x : Operand) (t : Nat)
    (ho : o.op = .call { callee := .builtin .append, args := #[s, x], argTypes := #[t, t] }) (ht : Try.prog.underlying t = some (.slice 4))
    (a0 : World) (hext : Ext a0 w1) (v : Bool) (hw : w = w1.alloc (.cells #[.bool v] 4))
    (A : Option Addr) (c : Nat) (xs : List Bool) (hs : a.eval s = .slice A xs.length c) (hown : OwnS w1 a0.heap.size 4 1 A xs.length c (xs.map Value.bool))
    (hx : a.eval x = .slice (some ⟨w1.heap.size, 0, none⟩) 1 1) (hb : xs.length ≤ 1000000) (ys : List Bool) (hys : ys = xs ++ [v])
    (h : ∀ A' c' w', OwnS w' a0.heap.size 4 1 A' ys.length c' (ys.map Value.bool) → Ext a0 w' → wpList Try.prog ops Q rest (a.put o.dst (.slice A' ys.length c')) w') : wpList Try.prog ops Q (o :: rest) a w := by
  obtain ⟨iB, jB0, jB1, jB2, jB3⟩ := info_parts infoBl
  subst hw
  have e1 := Ext.alloc w1 (.cells #[.bool v] 4)
  have hnb := Blk.new w1 4 ([v].map Value.bool).toArray
  refine wpList_app _ hgd s x t ho a0.heap.size 4 iB _ 1 1 ht jB0 jB1 jB2 jB3 rfl (by omega) A xs.length c (xs.map Value.bool) hs (OwnS.ext hown e1) _ 1 1 ([v].map Value.bool) hx rfl (blk_cells hnb) (bools_one _) (by unfold maxLen; omega) (by omega) (hext.trans e1).size ?_
  intro A' c' w' ho' hg hat
  have hl : ys.length = xs.length + 1 := by rw [hys]; simp
  rw [← hl] at ho' ⊢
  refine h A' c' w' ?_ (Ext.app (hext.trans e1) (OwnS.ext hown e1) hg)
  subst hys
  rw [List.map_append]
  exact ho'

/-- what a combination of two lists returns: the error of the first, of the second, or spans -/
def RetComb (va vb : Int) (out : List Sp) (w : World) (e : Ending) (w' : World) : Prop :=
  (va ≠ 0 ∧ e = .returned (.tuple #[.slice none 0 0, .int .i64 va]) ∧ Ext w w') ∨ (va = 0 ∧ vb ≠ 0 ∧ e = .returned (.tuple #[.slice none 0 0, .int .i64 vb]) ∧ Ext w w') ∨ (va = 0 ∧ vb = 0 ∧ RetS out w e w')

theorem validE_good {l : List Sp} (h : validE l = 0) : OkL l ∧ (∀ s ∈ l, goodS s) ∧ l.length ≤ 64 := by
  unfold validE at h
  split at h
  · rename_i hk
    split at h
    · cases h
    · exact ⟨hk, okL_good hk, by omega⟩
  · cases h
theorem two_ok {a b : List Sp} (ha : ∀ s ∈ a, goodS s) (hb : ∀ s ∈ b, goodS s) : EndsOk (endsT 1114111 [a, b]) 1114111 [a, b].flatten :=
  endsT_ok (by omega) (fun s hs => by
    have hs' : s ∈ a ∨ s ∈ b := by simpa using hs
    rcases hs' with h | h
    · have := ha s h; unfold goodS at this; omega
    · have := hb s h; unfold goodS at this; omega)
theorem endsT_len2 (a b : List Sp) : (endsT 1114111 [a, b]).length ≤ 1 + 2 * (a.length + b.length) := by
  have := foldl_putS_len 1114111 ([a, b].flatten) [0]
  unfold endsT
  simpa using this

set_option maxRecDepth 100000 in
set_option maxHeartbeats 4000000 in
theorem gCombine0_any (A B : Option Addr) (c d : Nat) (a b : List Sp) (w : World) (ha : SL w A c a) (hb : SL w B d b) :
    Calls Try.prog 28 #[.slice A a.length c, .slice B b.length d, .int .i64 0] w (RetComb (validE a) (validE b) (cls (endsT 1114111 [a, b]) 1114111 (fun x => has a x || has b x)) w) := by
  have hcap := ha.len
  have hcap2 := hb.len
  have HVA := Lib.hid (gValid_any A c a w ha)
  have HVB := fun (W : World) (k : Ext w W) => Lib.hid (gValid_any B d b W (hb.ext k))
  obtain ⟨out, hout⟩ : ∃ out, out = cls (endsT 1114111 [a, b]) 1114111 (fun x => has a x || has b x) := ⟨_, rfl⟩
  rw [← hout]
  have HOUT := Lib.hid hout
  clear hout
  by_cases h1 : validE a = 0
  · by_cases h2 : validE b = 0
    · have GA := Lib.hid (validE_good h1)
      have GB := Lib.hid (validE_good h2)
      have HR : ∀ (e : Ending) (W : World), RetS (out) w e W → Hid (RetComb (validE a) (validE b) (out) w e W) := fun e W h => Lib.hid (.inr (.inr ⟨h1, h2, h⟩))
      rw [h1] at HVA
      rw [h2] at HVB
      clear h1 h2
      have HEOK := Lib.hid (two_ok GA.out.2.1 GB.out.2.1)
      have HEL := Lib.hid (endsT_len2 a b)
      have HEN := fun (W : World) (X : Option Addr) (cX : Nat) (h : LLS W X cX [⟨A, c, a⟩, ⟨B, d, b⟩]) => Lib.hid (show Calls Try.prog 40 #[.slice X 2 cX, .int .i64 1114111] W (RetI (endsT 1114111 [a, b]) W) from ends_any X cX [⟨A, c, a⟩, ⟨B, d, b⟩] 1114111 W h (fun h hh s hs => by
        rcases List.mem_cons.1 hh with rfl | hh
        · exact GA.out.2.1 s hs
        · obtain rfl := List.mem_singleton.1 hh
          exact GB.out.2.1 s hs) (by have := GA.out.2.2; have := GB.out.2.2; simp; omega))
      go_enter Try.func28, Try.ntmps28
      go_wp2_with fail
      refine HVA.out.mono ?_
      rintro e w1 ⟨rfl, x1⟩
      have HVB1 := HVB w1 x1
      clear HVA HVB
      go_wp2_with fail
      refine HVB1.out.mono ?_
      rintro e w2 ⟨rfl, x2⟩
      have x12 := x1.trans x2
      clear HVB1 x1 x2
      have bL := Blk.new w2 24 #[.slice A a.length c, .slice B b.length d]
      have eL := Ext.alloc w2 (.cells #[.slice A a.length c, .slice B b.length d] 24)
      have HLLS : LLS (w2.alloc (.cells #[.slice A a.length c, .slice B b.length d] 24)) (some ⟨w2.heap.size, 0, none⟩) 2 [⟨A, c, a⟩, ⟨B, d, b⟩] := ⟨by simp, by unfold maxLen; omega, fun h hh => by
        rcases List.mem_cons.1 hh with rfl | hh
        · exact (ha.ext x12).ext eL
        · obtain rfl := List.mem_singleton.1 hh
          exact (hb.ext x12).ext eL, fun _ => ⟨_, 0, rfl, fun j hj => by
          have : j = 0 ∨ j = 1 := by simp at hj; omega
          rcases this with rfl | rfl
          · rw [bL.cell]; rfl
          · rw [bL.cell]; rfl⟩⟩
      have HEN1 := HEN _ _ _ HLLS
      have x1L := x12.trans eL
      clear HEN HLLS bL eL x12
      generalize hes : endsT 1114111 [a, b] = es at *
      clear hes
      go_wp2_with fail
      refine HEN1.out.mono ?_
      rintro e w3 ⟨E, dE, rfl, iE, x2⟩
      have x12 := x1L.trans x2
      have hel := iE.len
      have hel2 : es.length ≤ 100000 := by have := HEL.out; have := GA.out.2.2; have := GB.out.2.2; omega
      clear HEN1 x1L x2
      go_wp2_with fail
      go_loopw [11, 12] (fun v7 v8 wr => ∃ (k : Nat) (X : Option Addr) (dX : Nat) (bs : List Bool), v8 = .int .i64 k ∧ k ≤ es.length ∧ v7 = .slice X bs.length dX ∧ Hid (bs = (es.take k).map (fun x => has a x || has b x) ∧ OwnS wr w3.heap.size 4 1 X bs.length dX (bs.map Value.bool)) ∧ Ext w3 wr) (fun _ v _ => es.length - (intOf v).toNat)
      case atStart => exact ⟨0, none, 0, [], rfl, by omega, rfl, ⟨rfl, OwnS.nil _ _ _ _⟩, Ext.rfl' _⟩
      case round =>
        obtain ⟨k, X, dX, bs, rfl, hk, rfl, HX, x3⟩ := hrel
        by_cases hkl : k < es.length
        · have hkI : (k : Int) < es.length := by omega
          obtain ⟨pe, qe, rfl, g1⟩ := (iE.ext x3).get hkl
          have HTK := Lib.hid (show (es.take (k + 1)).map (fun x => has a x || has b x) = (es.take k).map (fun x => has a x || has b x) ++ [has a es[k] || has b es[k]] by
            rw [List.take_succ_eq_append_getElem hkl, List.map_append]; rfl)
          have hbl : bs.length ≤ 100000 := by
            rw [HX.out.1, List.length_map, List.length_take]; omega
          have HGA := fun (x : Int) (W' : World) (h : SL W' A c a) => Lib.hid (gHas_any A c a x W' h)
          have HGB := fun (x : Int) (W' : World) (h : SL W' B d b) => Lib.hid (gHas_any B d b x W' h)
          have HTK2 := Lib.hid (show (es.take (k + 1)).map (fun x => has a x || has b x) = bs ++ [has a es[k] || has b es[k]] by rw [HTK.out, HX.out.1])
          generalize es[k] = z at *
          have HA1 := HGA z
          have HB1 := HGB z
          have HO := Lib.hid HX.out.2
          generalize has a z = r1 at *
          generalize has b z = r2 at *
          clear HTK HGA HGB HX
          go_wp2_with fail
          refine (HA1 _ ((ha.ext x12).ext x3)).out.mono ?_
          rintro e w4 ⟨rfl, x4⟩
          replace g1 := x4.cell g1
          have x34 := x3.trans x4
          go_wp2_with fail
          refine (HB1 _ ((hb.ext x12).ext x34)).out.mono ?_
          rintro e w5 ⟨rfl, x5⟩
          have x35 := x34.trans x5
          have HO5 := Lib.hid (OwnS.ext (OwnS.ext HO.out x4) x5)
          have HLN : ∀ b : Bool, (bs ++ [b]).length = bs.length + 1 := by simp
          clear HA1 HB1 HO x34 x4 x5 g1
          cases r1 <;> cases r2
          · simp only [Bool.or_false] at HTK2
            go_wp2_with ((at_builtin; refine wpList_app1B (w1 := w5) rfl _ _ _ rfl Try.underlying71 w3 x35 false rfl X dX bs rfl HO5.out rfl (by omega) _ rfl ?_; intro X2 dX2 w6 ho6 x6))
            have HX2 := Lib.hid (show ∃ q, q = bs ++ [false] ∧ OwnS w6 w3.heap.size 4 1 X2 q.length dX2 (q.map Value.bool) from ⟨_, rfl, ho6⟩)
            clear ho6
            go_roundw
            case rel => exact ⟨k + 1, X2, dX2, bs ++ [false], by go_num, by omega, by rw [HLN], ⟨HTK2.out.symm, by obtain ⟨q, rfl, h⟩ := HX2.out; exact h⟩, x6⟩
            case measure => simp [intOf]; omega
          · simp only [Bool.or_true] at HTK2
            go_wp2_with ((at_builtin; refine wpList_app1B (w1 := w5) rfl _ _ _ rfl Try.underlying71 w3 x35 true rfl X dX bs rfl HO5.out rfl (by omega) _ rfl ?_; intro X2 dX2 w6 ho6 x6))
            have HX2 := Lib.hid (show ∃ q, q = bs ++ [true] ∧ OwnS w6 w3.heap.size 4 1 X2 q.length dX2 (q.map Value.bool) from ⟨_, rfl, ho6⟩)
            clear ho6
            go_roundw
            case rel => exact ⟨k + 1, X2, dX2, bs ++ [true], by go_num, by omega, by rw [HLN], ⟨HTK2.out.symm, by obtain ⟨q, rfl, h⟩ := HX2.out; exact h⟩, x6⟩
            case measure => simp [intOf]; omega
          · simp only [Bool.or_false] at HTK2
            go_wp2_with ((at_builtin; refine wpList_app1B (w1 := w5) rfl _ _ _ rfl Try.underlying71 w3 x35 true rfl X dX bs rfl HO5.out rfl (by omega) _ rfl ?_; intro X2 dX2 w6 ho6 x6))
            have HX2 := Lib.hid (show ∃ q, q = bs ++ [true] ∧ OwnS w6 w3.heap.size 4 1 X2 q.length dX2 (q.map Value.bool) from ⟨_, rfl, ho6⟩)
            clear ho6
            go_roundw
            case rel => exact ⟨k + 1, X2, dX2, bs ++ [true], by go_num, by omega, by rw [HLN], ⟨HTK2.out.symm, by obtain ⟨q, rfl, h⟩ := HX2.out; exact h⟩, x6⟩
            case measure => simp [intOf]; omega
          · simp only [Bool.or_true] at HTK2
            go_wp2_with ((at_builtin; refine wpList_app1B (w1 := w5) rfl _ _ _ rfl Try.underlying71 w3 x35 true rfl X dX bs rfl HO5.out rfl (by omega) _ rfl ?_; intro X2 dX2 w6 ho6 x6))
            have HX2 := Lib.hid (show ∃ q, q = bs ++ [true] ∧ OwnS w6 w3.heap.size 4 1 X2 q.length dX2 (q.map Value.bool) from ⟨_, rfl, ho6⟩)
            clear ho6
            go_roundw
            case rel => exact ⟨k + 1, X2, dX2, bs ++ [true], by go_num, by omega, by rw [HLN], ⟨HTK2.out.symm, by obtain ⟨q, rfl, h⟩ := HX2.out; exact h⟩, x6⟩
            case measure => simp [intOf]; omega
        · have hkI : ¬ (k : Int) < es.length := by omega
          have hke : k = es.length := by omega
          have hbs : bs = es.map (fun x => has a x || has b x) := by rw [HX.out.1, hke, List.take_length]
          have HOF := Lib.hid (of_any E X dE dX es (fun x => has a x || has b x) 1114111 wr (iE.ext x3) (by rw [← hbs]; exact IB.of_own HX.out.2) HEOK.out.ends HEOK.out.head (by omega) (by omega))
          have hbl2 : bs.length = es.length := by rw [hbs, List.length_map]
          rw [← HOUT.out] at HOF
          clear HX hke hbs HEOK HOUT
          generalize bs.length = q at *
          subst hbl2
          have x13 := x12.trans x3
          go_wp2_with fail
          refine HOF.out.mono ?_
          rintro e w4 (⟨h64, rfl, x4⟩ | ⟨h64, S, cS, rfl, hS, x4, hfS⟩)
          · have HE := HR _ _ (.inl ⟨h64, rfl, x13.trans x4⟩)
            clear HR
            go_wp2_with fail
            exact bodyPost_ret (v := .tuple #[.slice none 0 0, .int .i64 4]) (by simp [results, Try.results28, go_sem]) rfl HE.out
          · have HE := HR _ _ (.inr ⟨h64, S, cS, rfl, hS, x13.trans x4, hfS.mono x13⟩)
            clear HR
            go_wp2_with fail
            exact bodyPost_ret (v := .tuple #[.slice S out.length cS, .int .i64 0]) (by simp [results, Try.results28, go_sem]) rfl HE.out
    · have HR : ∀ (W : World), Ext w W → Hid (RetComb (validE a) (validE b) (out) w (.returned (.tuple #[.slice none 0 0, .int .i64 (validE b)])) W) := fun W x => Lib.hid (.inr (.inl ⟨h1, h2, rfl, x⟩))
      have hvb : (validE b != 0) = true := by simpa using h2
      rw [h1] at HVA
      clear h1 h2
      generalize validE b = vb at *
      go_enter Try.func28, Try.ntmps28
      go_wp2_with fail
      refine HVA.out.mono ?_
      rintro e w1 ⟨rfl, x1⟩
      have HVB1 := HVB w1 x1
      clear HVA HVB
      go_wp2_with fail
      refine HVB1.out.mono ?_
      rintro e w2 ⟨rfl, x2⟩
      have HE := HR w2 (x1.trans x2)
      clear HR HVB1
      go_wp2_with fail
      exact bodyPost_ret (v := .tuple #[.slice none 0 0, .int .i64 vb]) (by simp [results, Try.results28, go_sem]) rfl HE.out
  · have HR : ∀ (W : World), Ext w W → Hid (RetComb (validE a) (validE b) (out) w (.returned (.tuple #[.slice none 0 0, .int .i64 (validE a)])) W) := fun W x => Lib.hid (.inl ⟨h1, rfl, x⟩)
    have hva : (validE a != 0) = true := by simpa using h1
    clear h1 HVB
    generalize validE a = va at *
    go_enter Try.func28, Try.ntmps28
    go_wp2_with fail
    refine HVA.out.mono ?_
    rintro e w1 ⟨rfl, x1⟩
    have HE := HR w1 x1
    clear HR HVA
    go_wp2_with fail
    exact bodyPost_ret (v := .tuple #[.slice none 0 0, .int .i64 va]) (by simp [results, Try.results28, go_sem]) rfl HE.out

set_option maxRecDepth 100000 in
set_option maxHeartbeats 4000000 in
theorem gCombine1_any (A B : Option Addr) (c d : Nat) (a b : List Sp) (w : World) (ha : SL w A c a) (hb : SL w B d b) :
    Calls Try.prog 28 #[.slice A a.length c, .slice B b.length d, .int .i64 1] w (RetComb (validE a) (validE b) (cls (endsT 1114111 [a, b]) 1114111 (fun x => has a x && has b x)) w) := by
  have hcap := ha.len
  have hcap2 := hb.len
  have HVA := Lib.hid (gValid_any A c a w ha)
  have HVB := fun (W : World) (k : Ext w W) => Lib.hid (gValid_any B d b W (hb.ext k))
  obtain ⟨out, hout⟩ : ∃ out, out = cls (endsT 1114111 [a, b]) 1114111 (fun x => has a x && has b x) := ⟨_, rfl⟩
  rw [← hout]
  have HOUT := Lib.hid hout
  clear hout
  by_cases h1 : validE a = 0
  · by_cases h2 : validE b = 0
    · have GA := Lib.hid (validE_good h1)
      have GB := Lib.hid (validE_good h2)
      have HR : ∀ (e : Ending) (W : World), RetS (out) w e W → Hid (RetComb (validE a) (validE b) (out) w e W) := fun e W h => Lib.hid (.inr (.inr ⟨h1, h2, h⟩))
      rw [h1] at HVA
      rw [h2] at HVB
      clear h1 h2
      have HEOK := Lib.hid (two_ok GA.out.2.1 GB.out.2.1)
      have HEL := Lib.hid (endsT_len2 a b)
      have HEN := fun (W : World) (X : Option Addr) (cX : Nat) (h : LLS W X cX [⟨A, c, a⟩, ⟨B, d, b⟩]) => Lib.hid (show Calls Try.prog 40 #[.slice X 2 cX, .int .i64 1114111] W (RetI (endsT 1114111 [a, b]) W) from ends_any X cX [⟨A, c, a⟩, ⟨B, d, b⟩] 1114111 W h (fun h hh s hs => by
        rcases List.mem_cons.1 hh with rfl | hh
        · exact GA.out.2.1 s hs
        · obtain rfl := List.mem_singleton.1 hh
          exact GB.out.2.1 s hs) (by have := GA.out.2.2; have := GB.out.2.2; simp; omega))
      go_enter Try.func28, Try.ntmps28
      go_wp2_with fail
      refine HVA.out.mono ?_
      rintro e w1 ⟨rfl, x1⟩
      have HVB1 := HVB w1 x1
      clear HVA HVB
      go_wp2_with fail
      refine HVB1.out.mono ?_
      rintro e w2 ⟨rfl, x2⟩
      have x12 := x1.trans x2
      clear HVB1 x1 x2
      have bL := Blk.new w2 24 #[.slice A a.length c, .slice B b.length d]
      have eL := Ext.alloc w2 (.cells #[.slice A a.length c, .slice B b.length d] 24)
      have HLLS : LLS (w2.alloc (.cells #[.slice A a.length c, .slice B b.length d] 24)) (some ⟨w2.heap.size, 0, none⟩) 2 [⟨A, c, a⟩, ⟨B, d, b⟩] := ⟨by simp, by unfold maxLen; omega, fun h hh => by
        rcases List.mem_cons.1 hh with rfl | hh
        · exact (ha.ext x12).ext eL
        · obtain rfl := List.mem_singleton.1 hh
          exact (hb.ext x12).ext eL, fun _ => ⟨_, 0, rfl, fun j hj => by
          have : j = 0 ∨ j = 1 := by simp at hj; omega
          rcases this with rfl | rfl
          · rw [bL.cell]; rfl
          · rw [bL.cell]; rfl⟩⟩
      have HEN1 := HEN _ _ _ HLLS
      have x1L := x12.trans eL
      clear HEN HLLS bL eL x12
      generalize hes : endsT 1114111 [a, b] = es at *
      clear hes
      go_wp2_with fail
      refine HEN1.out.mono ?_
      rintro e w3 ⟨E, dE, rfl, iE, x2⟩
      have x12 := x1L.trans x2
      have hel := iE.len
      have hel2 : es.length ≤ 100000 := by have := HEL.out; have := GA.out.2.2; have := GB.out.2.2; omega
      clear HEN1 x1L x2
      go_wp2_with fail
      go_loopw [11, 12] (fun v7 v8 wr => ∃ (k : Nat) (X : Option Addr) (dX : Nat) (bs : List Bool), v8 = .int .i64 k ∧ k ≤ es.length ∧ v7 = .slice X bs.length dX ∧ Hid (bs = (es.take k).map (fun x => has a x && has b x) ∧ OwnS wr w3.heap.size 4 1 X bs.length dX (bs.map Value.bool)) ∧ Ext w3 wr) (fun _ v _ => es.length - (intOf v).toNat)
      case atStart => exact ⟨0, none, 0, [], rfl, by omega, rfl, ⟨rfl, OwnS.nil _ _ _ _⟩, Ext.rfl' _⟩
      case round =>
        obtain ⟨k, X, dX, bs, rfl, hk, rfl, HX, x3⟩ := hrel
        by_cases hkl : k < es.length
        · have hkI : (k : Int) < es.length := by omega
          obtain ⟨pe, qe, rfl, g1⟩ := (iE.ext x3).get hkl
          have HTK := Lib.hid (show (es.take (k + 1)).map (fun x => has a x && has b x) = (es.take k).map (fun x => has a x && has b x) ++ [has a es[k] && has b es[k]] by
            rw [List.take_succ_eq_append_getElem hkl, List.map_append]; rfl)
          have hbl : bs.length ≤ 100000 := by
            rw [HX.out.1, List.length_map, List.length_take]; omega
          have HGA := fun (x : Int) (W' : World) (h : SL W' A c a) => Lib.hid (gHas_any A c a x W' h)
          have HGB := fun (x : Int) (W' : World) (h : SL W' B d b) => Lib.hid (gHas_any B d b x W' h)
          have HTK2 := Lib.hid (show (es.take (k + 1)).map (fun x => has a x && has b x) = bs ++ [has a es[k] && has b es[k]] by rw [HTK.out, HX.out.1])
          generalize es[k] = z at *
          have HA1 := HGA z
          have HB1 := HGB z
          have HO := Lib.hid HX.out.2
          generalize has a z = r1 at *
          generalize has b z = r2 at *
          clear HTK HGA HGB HX
          go_wp2_with fail
          refine (HA1 _ ((ha.ext x12).ext x3)).out.mono ?_
          rintro e w4 ⟨rfl, x4⟩
          replace g1 := x4.cell g1
          have x34 := x3.trans x4
          go_wp2_with fail
          refine (HB1 _ ((hb.ext x12).ext x34)).out.mono ?_
          rintro e w5 ⟨rfl, x5⟩
          have x35 := x34.trans x5
          have HO5 := Lib.hid (OwnS.ext (OwnS.ext HO.out x4) x5)
          have HLN : ∀ b : Bool, (bs ++ [b]).length = bs.length + 1 := by simp
          clear HA1 HB1 HO x34 x4 x5 g1
          cases r1 <;> cases r2
          · simp only [Bool.and_false] at HTK2
            go_wp2_with ((at_builtin; refine wpList_app1B (w1 := w5) rfl _ _ _ rfl Try.underlying71 w3 x35 false rfl X dX bs rfl HO5.out rfl (by omega) _ rfl ?_; intro X2 dX2 w6 ho6 x6))
            have HX2 := Lib.hid (show ∃ q, q = bs ++ [false] ∧ OwnS w6 w3.heap.size 4 1 X2 q.length dX2 (q.map Value.bool) from ⟨_, rfl, ho6⟩)
            clear ho6
            go_roundw
            case rel => exact ⟨k + 1, X2, dX2, bs ++ [false], by go_num, by omega, by rw [HLN], ⟨HTK2.out.symm, by obtain ⟨q, rfl, h⟩ := HX2.out; exact h⟩, x6⟩
            case measure => simp [intOf]; omega
          · simp only [Bool.and_true] at HTK2
            go_wp2_with ((at_builtin; refine wpList_app1B (w1 := w5) rfl _ _ _ rfl Try.underlying71 w3 x35 false rfl X dX bs rfl HO5.out rfl (by omega) _ rfl ?_; intro X2 dX2 w6 ho6 x6))
            have HX2 := Lib.hid (show ∃ q, q = bs ++ [false] ∧ OwnS w6 w3.heap.size 4 1 X2 q.length dX2 (q.map Value.bool) from ⟨_, rfl, ho6⟩)
            clear ho6
            go_roundw
            case rel => exact ⟨k + 1, X2, dX2, bs ++ [false], by go_num, by omega, by rw [HLN], ⟨HTK2.out.symm, by obtain ⟨q, rfl, h⟩ := HX2.out; exact h⟩, x6⟩
            case measure => simp [intOf]; omega
          · simp only [Bool.and_false] at HTK2
            go_wp2_with ((at_builtin; refine wpList_app1B (w1 := w5) rfl _ _ _ rfl Try.underlying71 w3 x35 false rfl X dX bs rfl HO5.out rfl (by omega) _ rfl ?_; intro X2 dX2 w6 ho6 x6))
            have HX2 := Lib.hid (show ∃ q, q = bs ++ [false] ∧ OwnS w6 w3.heap.size 4 1 X2 q.length dX2 (q.map Value.bool) from ⟨_, rfl, ho6⟩)
            clear ho6
            go_roundw
            case rel => exact ⟨k + 1, X2, dX2, bs ++ [false], by go_num, by omega, by rw [HLN], ⟨HTK2.out.symm, by obtain ⟨q, rfl, h⟩ := HX2.out; exact h⟩, x6⟩
            case measure => simp [intOf]; omega
          · simp only [Bool.and_true] at HTK2
            go_wp2_with ((at_builtin; refine wpList_app1B (w1 := w5) rfl _ _ _ rfl Try.underlying71 w3 x35 true rfl X dX bs rfl HO5.out rfl (by omega) _ rfl ?_; intro X2 dX2 w6 ho6 x6))
            have HX2 := Lib.hid (show ∃ q, q = bs ++ [true] ∧ OwnS w6 w3.heap.size 4 1 X2 q.length dX2 (q.map Value.bool) from ⟨_, rfl, ho6⟩)
            clear ho6
            go_roundw
            case rel => exact ⟨k + 1, X2, dX2, bs ++ [true], by go_num, by omega, by rw [HLN], ⟨HTK2.out.symm, by obtain ⟨q, rfl, h⟩ := HX2.out; exact h⟩, x6⟩
            case measure => simp [intOf]; omega
        · have hkI : ¬ (k : Int) < es.length := by omega
          have hke : k = es.length := by omega
          have hbs : bs = es.map (fun x => has a x && has b x) := by rw [HX.out.1, hke, List.take_length]
          have HOF := Lib.hid (of_any E X dE dX es (fun x => has a x && has b x) 1114111 wr (iE.ext x3) (by rw [← hbs]; exact IB.of_own HX.out.2) HEOK.out.ends HEOK.out.head (by omega) (by omega))
          have hbl2 : bs.length = es.length := by rw [hbs, List.length_map]
          rw [← HOUT.out] at HOF
          clear HX hke hbs HEOK HOUT
          generalize bs.length = q at *
          subst hbl2
          have x13 := x12.trans x3
          go_wp2_with fail
          refine HOF.out.mono ?_
          rintro e w4 (⟨h64, rfl, x4⟩ | ⟨h64, S, cS, rfl, hS, x4, hfS⟩)
          · have HE := HR _ _ (.inl ⟨h64, rfl, x13.trans x4⟩)
            clear HR
            go_wp2_with fail
            exact bodyPost_ret (v := .tuple #[.slice none 0 0, .int .i64 4]) (by simp [results, Try.results28, go_sem]) rfl HE.out
          · have HE := HR _ _ (.inr ⟨h64, S, cS, rfl, hS, x13.trans x4, hfS.mono x13⟩)
            clear HR
            go_wp2_with fail
            exact bodyPost_ret (v := .tuple #[.slice S out.length cS, .int .i64 0]) (by simp [results, Try.results28, go_sem]) rfl HE.out
    · have HR : ∀ (W : World), Ext w W → Hid (RetComb (validE a) (validE b) (out) w (.returned (.tuple #[.slice none 0 0, .int .i64 (validE b)])) W) := fun W x => Lib.hid (.inr (.inl ⟨h1, h2, rfl, x⟩))
      have hvb : (validE b != 0) = true := by simpa using h2
      rw [h1] at HVA
      clear h1 h2
      generalize validE b = vb at *
      go_enter Try.func28, Try.ntmps28
      go_wp2_with fail
      refine HVA.out.mono ?_
      rintro e w1 ⟨rfl, x1⟩
      have HVB1 := HVB w1 x1
      clear HVA HVB
      go_wp2_with fail
      refine HVB1.out.mono ?_
      rintro e w2 ⟨rfl, x2⟩
      have HE := HR w2 (x1.trans x2)
      clear HR HVB1
      go_wp2_with fail
      exact bodyPost_ret (v := .tuple #[.slice none 0 0, .int .i64 vb]) (by simp [results, Try.results28, go_sem]) rfl HE.out
  · have HR : ∀ (W : World), Ext w W → Hid (RetComb (validE a) (validE b) (out) w (.returned (.tuple #[.slice none 0 0, .int .i64 (validE a)])) W) := fun W x => Lib.hid (.inl ⟨h1, rfl, x⟩)
    have hva : (validE a != 0) = true := by simpa using h1
    clear h1 HVB
    generalize validE a = va at *
    go_enter Try.func28, Try.ntmps28
    go_wp2_with fail
    refine HVA.out.mono ?_
    rintro e w1 ⟨rfl, x1⟩
    have HE := HR w1 x1
    clear HR HVA
    go_wp2_with fail
    exact bodyPost_ret (v := .tuple #[.slice none 0 0, .int .i64 va]) (by simp [results, Try.results28, go_sem]) rfl HE.out

set_option maxRecDepth 100000 in
set_option maxHeartbeats 4000000 in
theorem gCombine2_any (A B : Option Addr) (c d : Nat) (a b : List Sp) (w : World) (ha : SL w A c a) (hb : SL w B d b) :
    Calls Try.prog 28 #[.slice A a.length c, .slice B b.length d, .int .i64 2] w (RetComb (validE a) (validE b) (cls (endsT 1114111 [a, b]) 1114111 (fun x => has a x && !has b x)) w) := by
  have hcap := ha.len
  have hcap2 := hb.len
  have HVA := Lib.hid (gValid_any A c a w ha)
  have HVB := fun (W : World) (k : Ext w W) => Lib.hid (gValid_any B d b W (hb.ext k))
  obtain ⟨out, hout⟩ : ∃ out, out = cls (endsT 1114111 [a, b]) 1114111 (fun x => has a x && !has b x) := ⟨_, rfl⟩
  rw [← hout]
  have HOUT := Lib.hid hout
  clear hout
  by_cases h1 : validE a = 0
  · by_cases h2 : validE b = 0
    · have GA := Lib.hid (validE_good h1)
      have GB := Lib.hid (validE_good h2)
      have HR : ∀ (e : Ending) (W : World), RetS (out) w e W → Hid (RetComb (validE a) (validE b) (out) w e W) := fun e W h => Lib.hid (.inr (.inr ⟨h1, h2, h⟩))
      rw [h1] at HVA
      rw [h2] at HVB
      clear h1 h2
      have HEOK := Lib.hid (two_ok GA.out.2.1 GB.out.2.1)
      have HEL := Lib.hid (endsT_len2 a b)
      have HEN := fun (W : World) (X : Option Addr) (cX : Nat) (h : LLS W X cX [⟨A, c, a⟩, ⟨B, d, b⟩]) => Lib.hid (show Calls Try.prog 40 #[.slice X 2 cX, .int .i64 1114111] W (RetI (endsT 1114111 [a, b]) W) from ends_any X cX [⟨A, c, a⟩, ⟨B, d, b⟩] 1114111 W h (fun h hh s hs => by
        rcases List.mem_cons.1 hh with rfl | hh
        · exact GA.out.2.1 s hs
        · obtain rfl := List.mem_singleton.1 hh
          exact GB.out.2.1 s hs) (by have := GA.out.2.2; have := GB.out.2.2; simp; omega))
      go_enter Try.func28, Try.ntmps28
      go_wp2_with fail
      refine HVA.out.mono ?_
      rintro e w1 ⟨rfl, x1⟩
      have HVB1 := HVB w1 x1
      clear HVA HVB
      go_wp2_with fail
      refine HVB1.out.mono ?_
      rintro e w2 ⟨rfl, x2⟩
      have x12 := x1.trans x2
      clear HVB1 x1 x2
      have bL := Blk.new w2 24 #[.slice A a.length c, .slice B b.length d]
      have eL := Ext.alloc w2 (.cells #[.slice A a.length c, .slice B b.length d] 24)
      have HLLS : LLS (w2.alloc (.cells #[.slice A a.length c, .slice B b.length d] 24)) (some ⟨w2.heap.size, 0, none⟩) 2 [⟨A, c, a⟩, ⟨B, d, b⟩] := ⟨by simp, by unfold maxLen; omega, fun h hh => by
        rcases List.mem_cons.1 hh with rfl | hh
        · exact (ha.ext x12).ext eL
        · obtain rfl := List.mem_singleton.1 hh
          exact (hb.ext x12).ext eL, fun _ => ⟨_, 0, rfl, fun j hj => by
          have : j = 0 ∨ j = 1 := by simp at hj; omega
          rcases this with rfl | rfl
          · rw [bL.cell]; rfl
          · rw [bL.cell]; rfl⟩⟩
      have HEN1 := HEN _ _ _ HLLS
      have x1L := x12.trans eL
      clear HEN HLLS bL eL x12
      generalize hes : endsT 1114111 [a, b] = es at *
      clear hes
      go_wp2_with fail
      refine HEN1.out.mono ?_
      rintro e w3 ⟨E, dE, rfl, iE, x2⟩
      have x12 := x1L.trans x2
      have hel := iE.len
      have hel2 : es.length ≤ 100000 := by have := HEL.out; have := GA.out.2.2; have := GB.out.2.2; omega
      clear HEN1 x1L x2
      go_wp2_with fail
      go_loopw [11, 12] (fun v7 v8 wr => ∃ (k : Nat) (X : Option Addr) (dX : Nat) (bs : List Bool), v8 = .int .i64 k ∧ k ≤ es.length ∧ v7 = .slice X bs.length dX ∧ Hid (bs = (es.take k).map (fun x => has a x && !has b x) ∧ OwnS wr w3.heap.size 4 1 X bs.length dX (bs.map Value.bool)) ∧ Ext w3 wr) (fun _ v _ => es.length - (intOf v).toNat)
      case atStart => exact ⟨0, none, 0, [], rfl, by omega, rfl, ⟨rfl, OwnS.nil _ _ _ _⟩, Ext.rfl' _⟩
      case round =>
        obtain ⟨k, X, dX, bs, rfl, hk, rfl, HX, x3⟩ := hrel
        by_cases hkl : k < es.length
        · have hkI : (k : Int) < es.length := by omega
          obtain ⟨pe, qe, rfl, g1⟩ := (iE.ext x3).get hkl
          have HTK := Lib.hid (show (es.take (k + 1)).map (fun x => has a x && !has b x) = (es.take k).map (fun x => has a x && !has b x) ++ [has a es[k] && !has b es[k]] by
            rw [List.take_succ_eq_append_getElem hkl, List.map_append]; rfl)
          have hbl : bs.length ≤ 100000 := by
            rw [HX.out.1, List.length_map, List.length_take]; omega
          have HGA := fun (x : Int) (W' : World) (h : SL W' A c a) => Lib.hid (gHas_any A c a x W' h)
          have HGB := fun (x : Int) (W' : World) (h : SL W' B d b) => Lib.hid (gHas_any B d b x W' h)
          have HTK2 := Lib.hid (show (es.take (k + 1)).map (fun x => has a x && !has b x) = bs ++ [has a es[k] && !has b es[k]] by rw [HTK.out, HX.out.1])
          generalize es[k] = z at *
          have HA1 := HGA z
          have HB1 := HGB z
          have HO := Lib.hid HX.out.2
          generalize has a z = r1 at *
          generalize has b z = r2 at *
          clear HTK HGA HGB HX
          go_wp2_with fail
          refine (HA1 _ ((ha.ext x12).ext x3)).out.mono ?_
          rintro e w4 ⟨rfl, x4⟩
          replace g1 := x4.cell g1
          have x34 := x3.trans x4
          go_wp2_with fail
          refine (HB1 _ ((hb.ext x12).ext x34)).out.mono ?_
          rintro e w5 ⟨rfl, x5⟩
          have x35 := x34.trans x5
          have HO5 := Lib.hid (OwnS.ext (OwnS.ext HO.out x4) x5)
          have HLN : ∀ b : Bool, (bs ++ [b]).length = bs.length + 1 := by simp
          clear HA1 HB1 HO x34 x4 x5 g1
          cases r1 <;> cases r2
          · simp only [Bool.and_true, Bool.not_false] at HTK2
            go_wp2_with ((at_builtin; refine wpList_app1B (w1 := w5) rfl _ _ _ rfl Try.underlying71 w3 x35 false rfl X dX bs rfl HO5.out rfl (by omega) _ rfl ?_; intro X2 dX2 w6 ho6 x6))
            have HX2 := Lib.hid (show ∃ q, q = bs ++ [false] ∧ OwnS w6 w3.heap.size 4 1 X2 q.length dX2 (q.map Value.bool) from ⟨_, rfl, ho6⟩)
            clear ho6
            go_roundw
            case rel => exact ⟨k + 1, X2, dX2, bs ++ [false], by go_num, by omega, by rw [HLN], ⟨HTK2.out.symm, by obtain ⟨q, rfl, h⟩ := HX2.out; exact h⟩, x6⟩
            case measure => simp [intOf]; omega
          · simp only [Bool.and_false, Bool.not_true] at HTK2
            go_wp2_with ((at_builtin; refine wpList_app1B (w1 := w5) rfl _ _ _ rfl Try.underlying71 w3 x35 false rfl X dX bs rfl HO5.out rfl (by omega) _ rfl ?_; intro X2 dX2 w6 ho6 x6))
            have HX2 := Lib.hid (show ∃ q, q = bs ++ [false] ∧ OwnS w6 w3.heap.size 4 1 X2 q.length dX2 (q.map Value.bool) from ⟨_, rfl, ho6⟩)
            clear ho6
            go_roundw
            case rel => exact ⟨k + 1, X2, dX2, bs ++ [false], by go_num, by omega, by rw [HLN], ⟨HTK2.out.symm, by obtain ⟨q, rfl, h⟩ := HX2.out; exact h⟩, x6⟩
            case measure => simp [intOf]; omega
          · simp only [Bool.and_true, Bool.not_false] at HTK2
            go_wp2_with ((at_builtin; refine wpList_app1B (w1 := w5) rfl _ _ _ rfl Try.underlying71 w3 x35 true rfl X dX bs rfl HO5.out rfl (by omega) _ rfl ?_; intro X2 dX2 w6 ho6 x6))
            have HX2 := Lib.hid (show ∃ q, q = bs ++ [true] ∧ OwnS w6 w3.heap.size 4 1 X2 q.length dX2 (q.map Value.bool) from ⟨_, rfl, ho6⟩)
            clear ho6
            go_roundw
            case rel => exact ⟨k + 1, X2, dX2, bs ++ [true], by go_num, by omega, by rw [HLN], ⟨HTK2.out.symm, by obtain ⟨q, rfl, h⟩ := HX2.out; exact h⟩, x6⟩
            case measure => simp [intOf]; omega
          · simp only [Bool.and_false, Bool.not_true] at HTK2
            go_wp2_with ((at_builtin; refine wpList_app1B (w1 := w5) rfl _ _ _ rfl Try.underlying71 w3 x35 false rfl X dX bs rfl HO5.out rfl (by omega) _ rfl ?_; intro X2 dX2 w6 ho6 x6))
            have HX2 := Lib.hid (show ∃ q, q = bs ++ [false] ∧ OwnS w6 w3.heap.size 4 1 X2 q.length dX2 (q.map Value.bool) from ⟨_, rfl, ho6⟩)
            clear ho6
            go_roundw
            case rel => exact ⟨k + 1, X2, dX2, bs ++ [false], by go_num, by omega, by rw [HLN], ⟨HTK2.out.symm, by obtain ⟨q, rfl, h⟩ := HX2.out; exact h⟩, x6⟩
            case measure => simp [intOf]; omega
        · have hkI : ¬ (k : Int) < es.length := by omega
          have hke : k = es.length := by omega
          have hbs : bs = es.map (fun x => has a x && !has b x) := by rw [HX.out.1, hke, List.take_length]
          have HOF := Lib.hid (of_any E X dE dX es (fun x => has a x && !has b x) 1114111 wr (iE.ext x3) (by rw [← hbs]; exact IB.of_own HX.out.2) HEOK.out.ends HEOK.out.head (by omega) (by omega))
          have hbl2 : bs.length = es.length := by rw [hbs, List.length_map]
          rw [← HOUT.out] at HOF
          clear HX hke hbs HEOK HOUT
          generalize bs.length = q at *
          subst hbl2
          have x13 := x12.trans x3
          go_wp2_with fail
          refine HOF.out.mono ?_
          rintro e w4 (⟨h64, rfl, x4⟩ | ⟨h64, S, cS, rfl, hS, x4, hfS⟩)
          · have HE := HR _ _ (.inl ⟨h64, rfl, x13.trans x4⟩)
            clear HR
            go_wp2_with fail
            exact bodyPost_ret (v := .tuple #[.slice none 0 0, .int .i64 4]) (by simp [results, Try.results28, go_sem]) rfl HE.out
          · have HE := HR _ _ (.inr ⟨h64, S, cS, rfl, hS, x13.trans x4, hfS.mono x13⟩)
            clear HR
            go_wp2_with fail
            exact bodyPost_ret (v := .tuple #[.slice S out.length cS, .int .i64 0]) (by simp [results, Try.results28, go_sem]) rfl HE.out
    · have HR : ∀ (W : World), Ext w W → Hid (RetComb (validE a) (validE b) (out) w (.returned (.tuple #[.slice none 0 0, .int .i64 (validE b)])) W) := fun W x => Lib.hid (.inr (.inl ⟨h1, h2, rfl, x⟩))
      have hvb : (validE b != 0) = true := by simpa using h2
      rw [h1] at HVA
      clear h1 h2
      generalize validE b = vb at *
      go_enter Try.func28, Try.ntmps28
      go_wp2_with fail
      refine HVA.out.mono ?_
      rintro e w1 ⟨rfl, x1⟩
      have HVB1 := HVB w1 x1
      clear HVA HVB
      go_wp2_with fail
      refine HVB1.out.mono ?_
      rintro e w2 ⟨rfl, x2⟩
      have HE := HR w2 (x1.trans x2)
      clear HR HVB1
      go_wp2_with fail
      exact bodyPost_ret (v := .tuple #[.slice none 0 0, .int .i64 vb]) (by simp [results, Try.results28, go_sem]) rfl HE.out
  · have HR : ∀ (W : World), Ext w W → Hid (RetComb (validE a) (validE b) (out) w (.returned (.tuple #[.slice none 0 0, .int .i64 (validE a)])) W) := fun W x => Lib.hid (.inl ⟨h1, rfl, x⟩)
    have hva : (validE a != 0) = true := by simpa using h1
    clear h1 HVB
    generalize validE a = va at *
    go_enter Try.func28, Try.ntmps28
    go_wp2_with fail
    refine HVA.out.mono ?_
    rintro e w1 ⟨rfl, x1⟩
    have HE := HR w1 x1
    clear HR HVA
    go_wp2_with fail
    exact bodyPost_ret (v := .tuple #[.slice none 0 0, .int .i64 va]) (by simp [results, Try.results28, go_sem]) rfl HE.out
end Go.Proofs.Ytlbdjnbcoldjhaa
