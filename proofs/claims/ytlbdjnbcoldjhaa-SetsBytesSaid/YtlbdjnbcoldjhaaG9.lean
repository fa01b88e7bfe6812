/- Walks of the reference: Normal. -/
import Derived.Test.YtlbdjnbcoldjhaaG8
namespace Go.Proofs.Ytlbdjnbcoldjhaa
open Go.RowKit

theorem infoBl : (Try.prog.info? 4).map (fun i => (i.zero, i.size, i.bytes)) = some (some (.bool false), 1, 1) := by kernel_rfl
theorem bools_one (l : List Bool) : ∀ u ∈ l.map Value.bool, u.oneCell' = true := by
  intro u hu
  obtain ⟨b, _, rfl⟩ := List.mem_map.1 hu
  rfl

/-- the set of a list of good spans -/
def nrm (l : List Sp) : List Sp := cls (endsT 1114111 [l]) 1114111 (has l)
def AllG (l : List Sp) : Prop := ∀ s ∈ l, goodS s
def RetNm (l : List Sp) (w : World) (e : Ending) (w' : World) : Prop :=
  (¬ AllG l ∧ e = .returned (.tuple #[.slice none 0 0, .int .i64 1]) ∧ Ext w w') ∨ (AllG l ∧ RetS (nrm l) w e w')

theorem nrm_ok {l : List Sp} (h : AllG l) : EndsOk (endsT 1114111 [l]) 1114111 l := by
  have hg2 : ∀ s ∈ [l].flatten, 0 ≤ s.1 ∧ s.1 ≤ s.2 := fun s hs => by
    have hs' : s ∈ l := by simpa using hs
    have := h s hs'
    unfold goodS at this; omega
  have := endsT_ok (top := 1114111) (by omega) hg2
  simpa using this
theorem endsT_len1 (l : List Sp) : (endsT 1114111 [l]).length ≤ 1 + 2 * l.length := by
  have := foldl_putS_len 1114111 ([l].flatten) [0]
  unfold endsT
  simpa using this
theorem RetS.ext {out : List Sp} {w0 w w' : World} {e : Ending} (x : Ext w0 w) (h : RetS out w e w') : RetS out w0 e w' := by
  rcases h with ⟨h1, h2, h3⟩ | ⟨h1, A, c, h2, h3, h4, h5⟩
  · exact .inl ⟨h1, h2, x.trans h3⟩
  · exact .inr ⟨h1, A, c, h2, h3, x.trans h4, h5.mono x⟩

set_option maxRecDepth 100000 in
set_option maxHeartbeats 4000000 in
theorem gNormal_any (A : Option Addr) (c : Nat) (l : List Sp) (w : World) (hl : SL w A c l) (hlen : l.length ≤ 40000) : Calls Try.prog 23 #[.slice A l.length c] w (RetNm l w) := by
  obtain ⟨iB, jB0, jB1, jB2, jB3⟩ := info_parts infoBl
  have hcap := hl.len
  go_enter Try.func23, Try.ntmps23
  go_wp2
  go_loopw [4] (fun v wr => ∃ i : Nat, v = .int .i64 i ∧ i ≤ l.length ∧ Hid (∀ j (h : j < l.length), j < i → goodS l[j]) ∧ Ext w wr) (fun v _ => l.length - (intOf v).toNat)
  case atStart => exact ⟨0, rfl, by omega, fun j _ hj => absurd hj (Nat.not_lt_zero _), Ext.rfl' _⟩
  case round =>
    obtain ⟨i, rfl, hi, HI, x1⟩ := hrel
    by_cases hlt : i < l.length
    · obtain ⟨b, o, rfl, g1, g2⟩ := (hl.ext x1).get hlt
      have hI : (i : Int) < l.length := by omega
      have HI2 := Lib.hid (show goodS l[i] → ∀ j (h : j < l.length), j < i + 1 → goodS l[j] from fun hn j h hji => by
        rcases Nat.lt_or_ge j i with h1 | h1
        · exact HI.out j h h1
        · have : j = i := by omega
          subst this; exact hn)
      have HBAD := Lib.hid (show ¬ goodS l[i] → ¬ AllG l from fun hn ha => hn (ha _ (List.getElem_mem hlt)))
      generalize l[i] = s at *
      obtain ⟨lo, hi2⟩ := s
      simp only at g1 g2
      have hG := fun (W' : World) => Lib.hid (good_any (lo, hi2) W')
      unfold spV at hG
      simp only at hG
      by_cases hg : goodS (lo, hi2)
      · have hgB : goodB (lo, hi2) = true := decide_eq_true hg
        rw [hgB] at hG
        have HI3 := Lib.hid (HI2.out hg)
        clear HI2 HBAD HI
        go_wp2_with fail
        refine (hG _).out.mono ?_
        rintro e w1 ⟨rfl, x2⟩
        have x3 := x1.trans x2
        clear hG g1 g2
        go_wp2_with fail
        go_roundw
        case rel => exact ⟨i + 1, by go_num, by omega, HI3, x3⟩
        case measure => simp [intOf]; omega
      · have hgB : goodB (lo, hi2) = false := decide_eq_false hg
        rw [hgB] at hG
        have HB := Lib.hid (HBAD.out hg)
        clear HI2 HBAD HI
        go_wp2_with fail
        refine (hG _).out.mono ?_
        rintro e w1 ⟨rfl, x2⟩
        have x3 := x1.trans x2
        clear hG g1 g2
        go_wp2_with fail
        exact bodyPost_ret (v := .tuple #[.slice none 0 0, .int .i64 1]) (by simp [results, Try.results23, go_sem]) rfl (.inl ⟨HB.out, rfl, x3⟩)
    · have hI : ¬ (i : Int) < l.length := by omega
      have HALL := Lib.hid (show AllG l from fun s hs => by
        obtain ⟨j, hj, rfl⟩ := List.getElem_of_mem hs
        exact HI.out j hj (by omega))
      clear HI
      have bL := Blk.new wr 24 #[.slice A l.length c]
      have eL := Ext.alloc wr (.cells #[.slice A l.length c] 24)
      have HLLS : LLS (wr.alloc (.cells #[.slice A l.length c] 24)) (some ⟨wr.heap.size, 0, none⟩) 1 [⟨A, c, l⟩] := ⟨by simp, by unfold maxLen; omega, fun h hh => by
        obtain rfl := List.mem_singleton.1 hh
        exact (hl.ext x1).ext eL, fun _ => ⟨_, 0, rfl, fun j hj => by
          have : j = 0 := by simpa using hj
          subst this
          rw [bL.cell]; rfl⟩⟩
      have HEN := Lib.hid (ends_any _ 1 [⟨A, c, l⟩] 1114111 _ HLLS (fun h hh s hs => by
        obtain rfl := List.mem_singleton.1 hh
        exact HALL.out s hs) (by simp; omega))
      have HES : Hid (([⟨A, c, l⟩] : List Hs).map (·.l) = [l]) := rfl
      rw [HES.out] at HEN
      have HEL := Lib.hid (endsT_len1 l)
      have HEOK := Lib.hid (nrm_ok HALL.out)
      have HNR : Hid (nrm l = cls (endsT 1114111 [l]) 1114111 (has l)) := rfl
      generalize endsT 1114111 [l] = es at *
      have x1L := x1.trans eL
      clear HLLS HES bL
      go_wp2_with fail
      refine HEN.out.mono ?_
      rintro e w2 ⟨E, dE, rfl, iE, x2⟩
      have x12 := x1L.trans x2
      have hel := iE.len
      have hel2 : es.length ≤ 100000 := by have := HEL.out; omega
      clear HEN x1L x1 eL
      go_wp2_with fail
      go_loopw [7, 8] (fun v7 v8 wr => ∃ (k : Nat) (B : Option Addr) (d : Nat) (bs : List Bool), v8 = .int .i64 k ∧ k ≤ es.length ∧ v7 = .slice B bs.length d ∧ Hid (bs = (es.take k).map (has l) ∧ OwnS wr w2.heap.size 4 1 B bs.length d (bs.map Value.bool)) ∧ Ext w2 wr) (fun _ v _ => es.length - (intOf v).toNat)
      case atStart => exact ⟨0, none, 0, [], rfl, by omega, rfl, ⟨rfl, OwnS.nil _ _ _ _⟩, Ext.rfl' _⟩
      case round =>
        obtain ⟨k, B, d, bs, rfl, hk, rfl, HX, x3⟩ := hrel
        by_cases hkl : k < es.length
        · have hkI : (k : Int) < es.length := by omega
          obtain ⟨pe, qe, rfl, g1⟩ := (iE.ext x3).get hkl
          have HTK := Lib.hid (show (es.take (k + 1)).map (has l) = (es.take k).map (has l) ++ [has l es[k]] by
            rw [List.take_succ_eq_append_getElem hkl, List.map_append]; rfl)
          have hbl : bs.length ≤ 100000 := by
            rw [HX.out.1, List.length_map, List.length_take]; omega
          generalize es[k] = x at *
          have HGH := fun (W' : World) (h : SL W' A c l) => Lib.hid (gHas_any A c l x W' h)
          have HTK2 := Lib.hid (show bs ++ [has l x] = (es.take (k + 1)).map (has l) by rw [HTK.out, HX.out.1])
          generalize has l x = r at *
          clear HTK
          go_wp2_with fail
          refine (HGH _ ((hl.ext x12).ext x3)).out.mono ?_
          rintro e w3 ⟨rfl, x4⟩
          have x34 := x3.trans x4
          have HO := Lib.hid (OwnS.ext HX.out.2 x4)
          have HNB := Lib.hid (Blk.new w3 4 ([r].map Value.bool).toArray)
          have HBS := Lib.hid (x34.trans (Ext.alloc w3 (.cells ([r].map Value.bool).toArray 4))).size
          have HLN := Lib.hid (show (bs ++ [r]).length = bs.length + 1 by simp)
          clear HX HGH g1
          go_wp2_with ((at_builtin; refine wpList_app _ rfl _ _ _ rfl w2.heap.size 4 iB _ 1 1 Try.underlying71 jB0 jB1 jB2 jB3 rfl (by omega) B bs.length d (bs.map Value.bool) rfl (OwnS.ext HO.out (Ext.alloc _ _)) _ 1 1 ([r].map Value.bool) rfl rfl (blk_cells HNB.out) (bools_one _) (by unfold maxLen; omega) (by omega) HBS.out ?_; intro B2 d2 w4 ho4 hg4 hat4))
          have x5 : Ext w2 w4 := Ext.app (x34.trans (Ext.alloc _ _)) (OwnS.ext HO.out (Ext.alloc _ _)) hg4
          have HX2 : Hid (bs ++ [r] = (es.take (k + 1)).map (has l) ∧ OwnS w4 w2.heap.size 4 1 B2 (bs ++ [r]).length d2 ((bs ++ [r]).map Value.bool)) := ⟨HTK2.out, by rw [HLN.out, List.map_append]; exact ho4⟩
          clear ho4 hg4 hat4 HNB HO HBS HTK2
          go_roundw
          case rel => exact ⟨k + 1, B2, d2, bs ++ [r], by go_num, by omega, by rw [HLN.out], HX2, x5⟩
          case measure => simp [intOf]; omega
        · have hkI : ¬ (k : Int) < es.length := by omega
          have hke : k = es.length := by omega
          have hbs : bs = es.map (has l) := by rw [HX.out.1, hke, List.take_length]
          have HOF := Lib.hid (of_any E B dE d es (has l) 1114111 wr (iE.ext x3) (by rw [← hbs]; exact IB.of_own HX.out.2) HEOK.out.ends HEOK.out.head (by omega) (by omega))
          have hbl2 : bs.length = es.length := by rw [hbs, List.length_map]
          rw [← HNR.out] at HOF
          clear HX hke hbs HEOK HNR
          generalize bs.length = q at *
          subst hbl2
          have x13 := x12.trans x3
          go_wp2_with fail
          refine HOF.out.mono ?_
          rintro e w3 (⟨h64, rfl, x4⟩ | ⟨h64, S, cS, rfl, hS, x4, hfS⟩)
          · go_wp2_with fail
            exact bodyPost_ret (v := .tuple #[.slice none 0 0, .int .i64 4]) (by simp [results, Try.results23, go_sem]) rfl (.inr ⟨HALL.out, .inl ⟨h64, rfl, x13.trans x4⟩⟩)
          · go_wp2_with fail
            exact bodyPost_ret (v := .tuple #[.slice S (nrm l).length cS, .int .i64 0]) (by simp [results, Try.results23, go_sem]) rfl (.inr ⟨HALL.out, .inr ⟨h64, S, cS, rfl, hS, x13.trans x4, hfS.mono x13⟩⟩)
end Go.Proofs.Ytlbdjnbcoldjhaa
