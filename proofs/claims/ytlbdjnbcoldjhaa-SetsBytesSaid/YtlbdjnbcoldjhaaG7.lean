/- Walks of the reference: Ends. -/
import Derived.Test.YtlbdjnbcoldjhaaG6
namespace Go.Proofs.Ytlbdjnbcoldjhaa
open Go.RowKit

/-- a list of spans that is held in memory -/
structure Hs where
  A : Option Addr
  c : Nat
  l : List Sp
/-- The slice '.slice A ls.length c' holds the slices ls. -/
structure LLS (w : World) (A : Option Addr) (c : Nat) (ls : List Hs) : Prop where
  le : ls.length ≤ c
  cap : c ≤ maxLen
  sl : ∀ h ∈ ls, SL w h.A h.c h.l
  at_ : ls ≠ [] → ∃ b o, A = some ⟨b, o, none⟩ ∧ ∀ i (h : i < ls.length), w.cell? ⟨b, o + i, none⟩ = some (.slice ls[i].A ls[i].l.length ls[i].c)
namespace LLS
variable {w w' : World} {A : Option Addr} {c : Nat} {ls : List Hs}
theorem ext (h : LLS w A c ls) (k : Ext w w') : LLS w' A c ls := by
  refine ⟨h.le, h.cap, fun x hx => (h.sl x hx).ext k, fun hn => ?_⟩
  obtain ⟨b, o, rfl, hc⟩ := h.at_ hn
  exact ⟨b, o, rfl, fun i hi => k.cell (hc i hi)⟩
theorem get {k : Nat} (h : LLS w A c ls) (hk : k < ls.length) : ∃ b o, A = some ⟨b, o, none⟩ ∧ w.cell? ⟨b, o + k, none⟩ = some (.slice ls[k].A ls[k].l.length ls[k].c) := by
  obtain ⟨b, o, rfl, hc⟩ := h.at_ (by intro h0; subst h0; simp at hk)
  exact ⟨b, o, rfl, hc k hk⟩
theorem len (h : LLS w A c ls) : ls.length ≤ c ∧ c ≤ 9223372036854775807 := ⟨h.le, by have := h.cap; unfold maxLen at this; omega⟩
end LLS

theorem putE_ne {l : List Int} {n top : Int} (h : l ≠ []) : putE l n top ≠ [] := by
  unfold putE; split
  · exact h
  · simp
theorem putS_ne {l : List Int} {s : Sp} {top : Int} (h : l ≠ []) : putS top l s ≠ [] := putE_ne (putE_ne h)
theorem foldS_ne {top : Int} : ∀ {b : List Sp} {l : List Int}, l ≠ [] → b.foldl (putS top) l ≠ []
  | [], _, h => h
  | _ :: b, _, h => foldS_ne (b := b) (putS_ne h)

/-- what Ends has made of the first i lists and of the first k spans of the next one -/
def endsUpto (top : Int) (ls : List Hs) (i k : Nat) : List Int := (((ls.take i).map (·.l)).flatten ++ ((ls[i]?.map (·.l)).getD []).take k).foldl (putS top) [0]
theorem endsUpto_zero (top : Int) (ls : List Hs) (i : Nat) : endsUpto top ls i 0 = (((ls.take i).map (·.l)).flatten).foldl (putS top) [0] := by simp [endsUpto]
theorem endsUpto_next {top : Int} {ls : List Hs} {i : Nat} (hi : i < ls.length) : endsUpto top ls i ls[i].l.length = endsUpto top ls (i + 1) 0 := by
  rw [endsUpto_zero]
  unfold endsUpto
  rw [List.getElem?_eq_getElem hi, List.take_succ_eq_append_getElem hi, List.map_append, List.flatten_append, List.foldl_append]
  simp only [Option.map_some, Option.getD_some, List.take_length, List.map_cons, List.map_nil, List.flatten_cons, List.flatten_nil, List.append_nil, List.foldl_append]
theorem endsUpto_step {top : Int} {ls : List Hs} {i k : Nat} (hi : i < ls.length) (hk : k < ls[i].l.length) : endsUpto top ls i (k + 1) = putE (putE (endsUpto top ls i k) ls[i].l[k].1 top) (ls[i].l[k].2 + 1) top := by
  unfold endsUpto
  rw [List.getElem?_eq_getElem hi]
  simp only [Option.map_some, Option.getD_some]
  rw [List.take_succ_eq_append_getElem hk, ← List.append_assoc, List.foldl_append]
  rfl
theorem endsUpto_all (top : Int) (ls : List Hs) : endsUpto top ls ls.length 0 = endsT top (ls.map (·.l)) := by
  rw [endsUpto_zero, List.take_length]; rfl
theorem endsUpto_ne (top : Int) (ls : List Hs) (i k : Nat) : endsUpto top ls i k ≠ [] := foldS_ne (by simp)
theorem endsUpto_len {top : Int} {ls : List Hs} {i k : Nat} : (endsUpto top ls i k).length ≤ 1 + 2 * ((ls.map (·.l)).flatten.length) := by
  have h := foldl_putS_len top (((ls.take i).map (·.l)).flatten ++ ((ls[i]?.map (·.l)).getD []).take k) [0]
  unfold endsUpto
  have h2 : (((ls.take i).map (·.l)).flatten ++ ((ls[i]?.map (·.l)).getD []).take k).length ≤ ((ls.map (·.l)).flatten).length := by
    rcases Nat.lt_or_ge i ls.length with hi | hi
    · rw [List.getElem?_eq_getElem hi]
      have e : ls = ls.take i ++ ls[i] :: ls.drop (i + 1) := by
        conv => lhs; rw [← List.take_append_drop i ls, List.drop_eq_getElem_cons hi]
      have e2 : ((ls.map (·.l)).flatten).length = ((ls.take i).map (·.l)).flatten.length + (ls[i].l.length + ((ls.drop (i + 1)).map (·.l)).flatten.length) := by
        conv => lhs; rw [e]
        rw [List.map_append, List.flatten_append, List.length_append, List.map_cons, List.flatten_cons, List.length_append]
      rw [List.length_append, e2]
      simp only [Option.map_some, Option.getD_some, List.length_take]
      omega
    · rw [List.getElem?_eq_none hi, List.take_of_length_le hi]
      simp
  simp only [List.length_singleton] at h
  omega

set_option maxRecDepth 100000 in
set_option maxHeartbeats 4000000 in
theorem ends_any (A : Option Addr) (c : Nat) (ls : List Hs) (top : Int) (w : World) (hl : LLS w A c ls) (hg : ∀ h ∈ ls, ∀ s ∈ h.l, goodS s) (hlen : (ls.map (·.l)).flatten.length ≤ 100000) :
    Calls Try.prog 40 #[.slice A ls.length c, .int .i64 top] w (RetI (endsT top (ls.map (·.l))) w) := by
  have hcap := hl.len
  have b0 := Blk.new w 3 #[.int .i64 0]
  have x0 := Ext.alloc w (.cells #[.int .i64 0] 3)
  have HALL := Lib.hid (endsUpto_all top ls)
  have HST : Hid (endsUpto top ls 0 0 = [0]) := by show _ = _; rw [endsUpto_zero]; rfl
  have HIL0 := Lib.hid (IL.one (x := 0) b0 (by unfold I64; omega))
  generalize endsT top (ls.map (·.l)) = out at *
  go_enter Try.func40, Try.ntmps40
  go_upto_region 2 with fail
  generalize w.alloc (.cells #[.int .i64 0] 3) = w0 at *
  go_wp2_with fail
  go_loopw [5, 6] (fun v5 v6 wr => ∃ (i : Nat) (B : Option Addr) (d : Nat) (xs : List Int), v6 = .int .i64 i ∧ i ≤ ls.length ∧ v5 = .slice B xs.length d ∧ Hid (xs = endsUpto top ls i 0 ∧ IL wr B d xs) ∧ Ext w wr) (fun _ v _ => ls.length - (intOf v).toNat)
  case atStart => exact ⟨0, _, 1, [0], rfl, by omega, rfl, ⟨HST.out.symm, HIL0.out⟩, x0⟩
  case round =>
    obtain ⟨i, B, d, xs, rfl, hi, rfl, HX, x1⟩ := hrel
    by_cases hlt : i < ls.length
    · have hiI : (i : Int) < ls.length := by omega
      obtain ⟨pb, po, rfl, g0⟩ := (hl.ext x1).get hlt
      have hsl := (hl.sl _ (List.getElem_mem hlt)).ext x1
      have hgg := hg _ (List.getElem_mem hlt)
      have hsll := hsl.len
      have HNX := Lib.hid (endsUpto_next (top := top) hlt)
      have HSTP := fun (k : Nat) (hk : k < ls[i].l.length) => Lib.hid (endsUpto_step (top := top) hlt hk)
      have HSB := Lib.hid (show ls[i].l.length ≤ 100000 from by
        have e1 : ls[i].l.length ≤ (ls.map (·.l)).flatten.length := List.Sublist.length_le (List.sublist_flatten_of_mem (List.mem_map_of_mem (List.getElem_mem hlt)))
        omega)
      have HLN := fun (k : Nat) => Lib.hid (endsUpto_len (top := top) (ls := ls) (i := i) (k := k))
      have HNE := fun (k : Nat) => Lib.hid (endsUpto_ne top ls i k)
      generalize ls[i] = hh at *
      obtain ⟨hA, hc, hl2⟩ := hh
      simp only at g0 hsl hgg hsll HNX HSTP HSB
      go_wp2_with fail
      go_loopw [5, 7] (fun v5 v7 wk => ∃ (k : Nat) (B : Option Addr) (d : Nat) (xs : List Int), v7 = .int .i64 k ∧ k ≤ hl2.length ∧ v5 = .slice B xs.length d ∧ Hid (xs = endsUpto top ls i k ∧ IL wk B d xs) ∧ Ext wr wk) (fun _ v _ => hl2.length - (intOf v).toNat)
      case atStart => exact ⟨0, B, d, xs, rfl, by omega, rfl, HX, Ext.rfl' _⟩
      case round =>
        clear HX
        obtain ⟨k, B, d, xs, rfl, hk, rfl, HX, xk⟩ := hrel
        replace g0 := xk.cell g0
        have x2 := x1.trans xk
        have hiI0 : (0 : Int) ≤ i := by omega
        by_cases hkl : k < hl2.length
        · have hkI : (k : Int) < hl2.length := by omega
          obtain ⟨sb, so, rfl, g1, g2⟩ := (hsl.ext xk).get hkl
          have hgs := hgg _ (List.getElem_mem hkl)
          have HS2 := HSTP k hkl
          generalize hl2[k] = s at *
          obtain ⟨lo, hi2⟩ := s
          have hgs' : 0 ≤ lo ∧ lo ≤ hi2 ∧ hi2 ≤ 1114111 := hgs
          simp only at g1 g2 HS2
          have hw1 : IntKind.i64.wrap (hi2 + 1) = hi2 + 1 := by rw [IntKind.wrap_i64]; omega
          have HP1 := Lib.hid (put_any B d xs lo top wr HX.out.2 (by rw [HX.out.1]; exact (HNE k).out) (by unfold I64; omega) (by rw [HX.out.1]; have := (HLN k).out; omega))
          have HP2 := fun (B2 : Option Addr) (d2 : Nat) (W' : World) (h : IL W' B2 d2 (putE xs lo top)) => Lib.hid (put_any B2 d2 (putE xs lo top) (hi2 + 1) top W' h (putE_ne (by rw [HX.out.1]; exact (HNE k).out)) (by unfold I64; omega) (by have h1 := putE_len xs lo top; have h2 := congrArg List.length HX.out.1; have := (HLN k).out; omega))
          have HXE := Lib.hid (show endsUpto top ls i (k + 1) = putE (putE xs lo top) (hi2 + 1) top by rw [HS2.out, HX.out.1])
          generalize putE (putE xs lo top) (hi2 + 1) top = zs at *
          generalize putE xs lo top = ys at *
          clear HSTP HS2 HX HNE HLN hgs hgg
          go_wp2_with fail
          refine HP1.out.mono ?_
          rintro e w2 ⟨B2, d2, rfl, iB2, xa⟩
          clear HP1
          have HP3 := HP2 B2 d2 w2 iB2
          replace g0 := xa.cell g0
          replace g1 := xa.cell g1
          replace g2 := xa.cell g2
          have xk2 := xk.trans xa
          clear HP2 iB2
          go_wp2_with fail
          refine HP3.out.mono ?_
          rintro e w3 ⟨B3, d3, rfl, iB3, xb⟩
          have xk3 := xk2.trans xb
          have HX3 := Lib.hid (show zs = endsUpto top ls i (k + 1) ∧ IL w3 B3 d3 zs from ⟨HXE.out.symm, iB3⟩)
          clear HP3 g0 g1 g2 xa xb xk2 xk HXE iB3 hw1 hgs'
          go_wp2_with fail
          go_roundw
          case rel => exact ⟨k + 1, B3, d3, zs, by go_num, by omega, rfl, HX3, xk3⟩
          case measure => simp [intOf]; omega
        · have hkI : ¬ (k : Int) < hl2.length := by omega
          have hke : k = hl2.length := by omega
          have HX4 := Lib.hid (show xs = endsUpto top ls (i + 1) 0 ∧ IL wr B d xs from ⟨by rw [HX.out.1, hke]; exact HNX.out, HX.out.2⟩)
          clear hke HX HSTP HNE HLN hgg
          go_wp2_with fail
          go_roundw
          case rel => exact ⟨i + 1, B, d, xs, by go_num, by omega, rfl, HX4, x2⟩
          case measure => simp [intOf]; omega
    · have hiI : ¬ (i : Int) < ls.length := by omega
      have hix : i = ls.length := by omega
      have HE := Lib.hid (show xs = out by rw [HX.out.1, hix, HALL.out])
      have HI := Lib.hid HX.out.2
      clear HX hix
      go_wp2_with fail
      go_ret
      exact ⟨B, d, by rw [← HE.out]; rfl, by rw [← HE.out]; exact HI.out, x1⟩
end Go.Proofs.Ytlbdjnbcoldjhaa
