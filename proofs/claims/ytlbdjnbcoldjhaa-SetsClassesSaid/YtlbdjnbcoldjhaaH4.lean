/- Walks of package sets: Count; Class of package sets and of its reference. -/
import Derived.Test.YtlbdjnbcoldjhaaG8
namespace Go.Proofs.Ytlbdjnbcoldjhaa
open Go.RowKit

/-- the number of symbols of spans -/
def cntS (l : List Sp) : Int := (l.map (fun s => s.2 - s.1 + 1)).sum
theorem cntS_take {l : List Sp} {i : Nat} (h : i < l.length) : cntS (l.take (i + 1)) = cntS (l.take i) + (l[i].2 - l[i].1 + 1) := by
  unfold cntS
  rw [List.take_succ_eq_append_getElem h, List.map_append, List.sum_append]
  simp
theorem cntS_bound : ∀ (l : List Sp), (∀ s ∈ l, goodS s) → 0 ≤ cntS l ∧ cntS l ≤ l.length * 1114112
  | [], _ => by simp [cntS]
  | s :: l, h => by
    have ih := cntS_bound l (fun t ht => h t (List.mem_cons_of_mem _ ht))
    have h1 := h s List.mem_cons_self
    unfold goodS at h1
    have e : cntS (s :: l) = (s.2 - s.1 + 1) + cntS l := by simp [cntS]
    rw [e, List.length_cons]
    push_cast
    omega

theorem okL_good {l : List Sp} (h : OkL l) : ∀ s ∈ l, goodS s := fun s hs => by
  obtain ⟨j, hj, rfl⟩ := List.getElem_of_mem hs
  exact (h j hj hj).1

def RetCount (l : List Sp) (w : World) (e : Ending) (w' : World) : Prop :=
  e = .returned (.tuple #[.int .i64 (if validE l = 0 then cntS l else 0), .int .i64 (validE l)]) ∧ Ext w w'

set_option maxRecDepth 100000 in
set_option maxHeartbeats 4000000 in
theorem sCount_any (A : Option Addr) (c : Nat) (l : List Sp) (w : World) (hl : SL w A c l) : Calls Try.prog 29 #[.slice A l.length c] w (RetCount l w) := by
  have hcap := hl.len
  have HV := Lib.hid (sValid_any A c l w hl)
  have HG : validE l = 0 → Hid ((∀ s ∈ l, goodS s) ∧ l.length ≤ 64) := fun h => Lib.hid (by
    unfold validE at h
    split at h
    · rename_i hk
      split at h
      · cases h
      · exact ⟨(okL_good hk), by omega⟩
    · cases h)
  by_cases hv : validE l = 0
  · have HR : ∀ (n : Int) (W : World), n = cntS l → Ext w W → Hid (RetCount l w (.returned (.tuple #[.int .i64 n, .int .i64 0])) W) := fun n W h x => Lib.hid ⟨by rw [hv, if_pos rfl, h], x⟩
    have HG2 := HG hv
    rw [hv] at HV
    clear HG hv
    go_enter Try.func29, Try.ntmps29
    go_wp2_with fail
    refine HV.out.mono ?_
    rintro e w1 ⟨rfl, x0⟩
    go_wp2_with fail
    go_loopw [5, 15] (fun v5 v wr => ∃ (i : Nat) (n : Int), v = .int .i64 i ∧ i ≤ l.length ∧ v5 = .int .i64 n ∧ Hid (n = cntS (l.take i)) ∧ Ext w wr) (fun _ v _ => l.length - (intOf v).toNat)
    case atStart => exact ⟨0, 0, rfl, by omega, rfl, rfl, x0⟩
    case round =>
      obtain ⟨i, n, rfl, hi, rfl, HN, x1⟩ := hrel
      have hnb : 0 ≤ n ∧ n ≤ 100000000 := by
        have h1 := cntS_bound (l.take i) (fun s hs => HG2.out.1 s (List.mem_of_mem_take hs))
        have h2 := HG2.out.2
        rw [← HN.out, List.length_take] at h1
        omega
      by_cases hlt : i < l.length
      · obtain ⟨b, o, rfl, g1, g2⟩ := (hl.ext x1).get hlt
        have hI : (i : Int) < l.length := by omega
        have hg := HG2.out.1 _ (List.getElem_mem hlt)
        unfold goodS at hg
        have HN2 := Lib.hid (show n + (l[i].2 - l[i].1 + 1) = cntS (l.take (i + 1)) by rw [cntS_take hlt, HN.out])
        generalize l[i] = s at *
        obtain ⟨lo, hi2⟩ := s
        simp only at g1 g2 hg HN2
        obtain ⟨b1, xa⟩ := alloc1 wr 48 #[.int .i64 lo, .int .i64 hi2]
        obtain ⟨p0, p1, _, _, pz⟩ := b1.c2
        have x2 := x1.trans xa
        have w1 : IntKind.i64.wrap (hi2 - lo) = hi2 - lo := by rw [IntKind.wrap_i64]; omega
        have w2 : IntKind.i64.wrap (hi2 - lo + 1) = hi2 - lo + 1 := by rw [IntKind.wrap_i64]; omega
        have w3 : IntKind.i64.wrap (n + (hi2 - lo + 1)) = n + (hi2 - lo + 1) := by rw [IntKind.wrap_i64]; omega
        clear HN
        go_wp2
        go_roundw
        case rel => exact ⟨i + 1, n + (hi2 - lo + 1), by go_num, by omega, rfl, HN2, x2⟩
        case measure => simp [intOf]; omega
      · have hI : ¬ (i : Int) < l.length := by omega
        have HE := HR n wr (by rw [HN.out, List.take_of_length_le (by omega)]) x1
        clear HN
        go_wp2
        exact bodyPost_ret (v := .tuple #[.int .i64 n, .int .i64 0]) (by simp [results, Try.results29, go_sem]) rfl HE.out
  · have HR : ∀ (W : World), Ext w W → Hid (RetCount l w (.returned (.tuple #[.int .i64 0, .int .i64 (validE l)])) W) := fun W x => Lib.hid ⟨by rw [if_neg hv], x⟩
    have hvb : (validE l != 0) = true := by simpa using hv
    clear HG hv
    generalize validE l = ve at *
    go_enter Try.func29, Try.ntmps29
    go_wp2_with fail
    refine HV.out.mono ?_
    rintro e w1 ⟨rfl, x0⟩
    have HE := HR w1 x0
    go_wp2_with fail
    exact bodyPost_ret (v := .tuple #[.int .i64 0, .int .i64 ve]) (by simp [results, Try.results29, go_sem]) rfl HE.out

/-- the number of the first list that has a symbol, or that there is none -/
def clsN (ls : List (List Sp)) (x : Int) : Option Nat := ls.findIdx? (fun a => has a x)
def RetClass (ls : List (List Sp)) (x : Int) (w : World) (e : Ending) (w' : World) : Prop :=
  e = .returned (.tuple #[.int .i64 (((clsN ls x).getD 0 : Nat) : Int), .int .i64 (if (clsN ls x).isSome then 0 else 7)]) ∧ Ext w w'
theorem clsN_some {ls : List Hs} {x : Int} {i : Nat} (hi : i < ls.length) (h0 : ∀ j (h : j < ls.length), j < i → has ls[j].l x = false) (h : has ls[i].l x = true) : clsN (ls.map (·.l)) x = some i := by
  unfold clsN
  rw [List.findIdx?_eq_some_iff_getElem]
  refine ⟨by simpa using hi, by simpa using h, fun j hj => by
    have := h0 j (by omega) hj
    simpa using this⟩
theorem clsN_none {ls : List Hs} {x : Int} (h0 : ∀ j (h : j < ls.length), has ls[j].l x = false) : clsN (ls.map (·.l)) x = none := by
  unfold clsN
  rw [List.findIdx?_eq_none_iff]
  intro a ha
  obtain ⟨h, hh, rfl⟩ := List.mem_map.1 ha
  obtain ⟨j, hj, rfl⟩ := List.getElem_of_mem hh
  exact h0 j hj

set_option maxRecDepth 100000 in
set_option maxHeartbeats 4000000 in
theorem sClass_any (A : Option Addr) (c : Nat) (ls : List Hs) (x : Int) (w : World) (hl : LLS w A c ls) : Calls Try.prog 30 #[.slice A ls.length c, .int .i64 x] w (RetClass (ls.map (·.l)) x w) := by
  have hcap := hl.len
  have HY := fun (i : Nat) hi h0 h (W : World) (k : Ext w W) => Lib.hid (show RetClass (ls.map (·.l)) x w (.returned (.tuple #[.int .i64 i, .int .i64 0])) W from ⟨by rw [clsN_some (ls := ls) (x := x) (i := i) hi h0 h]; rfl, k⟩)
  have HN := fun h0 (W : World) (k : Ext w W) => Lib.hid (show RetClass (ls.map (·.l)) x w (.returned (.tuple #[.int .i64 0, .int .i64 7])) W from ⟨by rw [clsN_none (ls := ls) (x := x) h0]; rfl, k⟩)
  go_enter Try.func30, Try.ntmps30
  go_wp2
  go_loopw [10] (fun v wr => ∃ i : Nat, v = .int .i64 i ∧ i ≤ ls.length ∧ Hid (∀ j (h : j < ls.length), j < i → has ls[j].l x = false) ∧ Ext w wr) (fun v _ => ls.length - (intOf v).toNat)
  case atStart => exact ⟨0, rfl, by omega, fun j _ hj => absurd hj (Nat.not_lt_zero _), Ext.rfl' _⟩
  case round =>
    obtain ⟨i, rfl, hi, HI, x1⟩ := hrel
    by_cases hlt : i < ls.length
    · have hiI : (i : Int) < ls.length := by omega
      obtain ⟨pb, po, rfl, g0⟩ := (hl.ext x1).get hlt
      have hsl := (hl.sl _ (List.getElem_mem hlt)).ext x1
      have HV := fun (W' : World) (k : Ext wr W') => Lib.hid (sHas_any _ _ _ x W' (hsl.ext k))
      have HI2 := Lib.hid (show has ls[i].l x = false → ∀ j (hj : j < ls.length), j < i + 1 → has ls[j].l x = false from fun h j hj hji => by
        rcases Nat.lt_or_ge j i with h1 | h1
        · exact HI.out j hj h1
        · have : j = i := by omega
          subst this; exact h)
      have HB := HY i hlt HI.out
      generalize ls[i] = hh at *
      obtain ⟨hA, hc, hl2⟩ := hh
      simp only at g0 HV HI2 HB
      by_cases he : has hl2 x = true
      · have HR := HB he
        rw [he] at HV
        clear HI2 HB HN HY HI he
        go_wp2_with fail
        refine (HV _ (Ext.rfl' _)).out.mono ?_
        rintro e w2 ⟨rfl, x2⟩
        have HE := HR w2 (x1.trans x2)
        clear HV g0 hsl HR
        go_wp2_with fail
        exact bodyPost_ret (v := .tuple #[.int .i64 i, .int .i64 0]) (by simp [results, Try.results30, go_sem]) rfl HE.out
      · have he' : has hl2 x = false := by simpa using he
        have HI3 := Lib.hid (HI2.out he')
        rw [he'] at HV
        clear HI2 HB HN HY HI he he'
        go_wp2_with fail
        refine (HV _ (Ext.rfl' _)).out.mono ?_
        rintro e w2 ⟨rfl, x2⟩
        have x4 := x1.trans x2
        clear HV g0 hsl x2
        go_wp2_with fail
        go_roundw
        case rel => exact ⟨i + 1, by go_num, by omega, HI3, x4⟩
        case measure => simp [intOf]; omega
    · have hiI : ¬ (i : Int) < ls.length := by omega
      have HE := HN (fun j hj => HI.out j hj (by omega)) wr x1
      clear HI HY HN
      go_wp2
      exact bodyPost_ret (v := .tuple #[.int .i64 0, .int .i64 7]) (by simp [results, Try.results30, go_sem]) rfl HE.out
set_option maxRecDepth 100000 in
set_option maxHeartbeats 4000000 in
theorem gClass_any (A : Option Addr) (c : Nat) (ls : List Hs) (x : Int) (w : World) (hl : LLS w A c ls) : Calls Try.prog 31 #[.slice A ls.length c, .int .i64 x] w (RetClass (ls.map (·.l)) x w) := by
  have hcap := hl.len
  have HY := fun (i : Nat) hi h0 h (W : World) (k : Ext w W) => Lib.hid (show RetClass (ls.map (·.l)) x w (.returned (.tuple #[.int .i64 i, .int .i64 0])) W from ⟨by rw [clsN_some (ls := ls) (x := x) (i := i) hi h0 h]; rfl, k⟩)
  have HN := fun h0 (W : World) (k : Ext w W) => Lib.hid (show RetClass (ls.map (·.l)) x w (.returned (.tuple #[.int .i64 0, .int .i64 7])) W from ⟨by rw [clsN_none (ls := ls) (x := x) h0]; rfl, k⟩)
  go_enter Try.func31, Try.ntmps31
  go_wp2
  go_loopw [6] (fun v wr => ∃ i : Nat, v = .int .i64 i ∧ i ≤ ls.length ∧ Hid (∀ j (h : j < ls.length), j < i → has ls[j].l x = false) ∧ Ext w wr) (fun v _ => ls.length - (intOf v).toNat)
  case atStart => exact ⟨0, rfl, by omega, fun j _ hj => absurd hj (Nat.not_lt_zero _), Ext.rfl' _⟩
  case round =>
    obtain ⟨i, rfl, hi, HI, x1⟩ := hrel
    by_cases hlt : i < ls.length
    · have hiI : (i : Int) < ls.length := by omega
      obtain ⟨pb, po, rfl, g0⟩ := (hl.ext x1).get hlt
      have hsl := (hl.sl _ (List.getElem_mem hlt)).ext x1
      have HV := fun (W' : World) (k : Ext wr W') => Lib.hid (gHas_any _ _ _ x W' (hsl.ext k))
      have HI2 := Lib.hid (show has ls[i].l x = false → ∀ j (hj : j < ls.length), j < i + 1 → has ls[j].l x = false from fun h j hj hji => by
        rcases Nat.lt_or_ge j i with h1 | h1
        · exact HI.out j hj h1
        · have : j = i := by omega
          subst this; exact h)
      have HB := HY i hlt HI.out
      generalize ls[i] = hh at *
      obtain ⟨hA, hc, hl2⟩ := hh
      simp only at g0 HV HI2 HB
      by_cases he : has hl2 x = true
      · have HR := HB he
        rw [he] at HV
        clear HI2 HB HN HY HI he
        go_wp2_with fail
        refine (HV _ (Ext.rfl' _)).out.mono ?_
        rintro e w2 ⟨rfl, x2⟩
        have HE := HR w2 (x1.trans x2)
        clear HV g0 hsl HR
        go_wp2_with fail
        exact bodyPost_ret (v := .tuple #[.int .i64 i, .int .i64 0]) (by simp [results, Try.results31, go_sem]) rfl HE.out
      · have he' : has hl2 x = false := by simpa using he
        have HI3 := Lib.hid (HI2.out he')
        rw [he'] at HV
        clear HI2 HB HN HY HI he he'
        go_wp2_with fail
        refine (HV _ (Ext.rfl' _)).out.mono ?_
        rintro e w2 ⟨rfl, x2⟩
        have x4 := x1.trans x2
        clear HV g0 hsl x2
        go_wp2_with fail
        go_roundw
        case rel => exact ⟨i + 1, by go_num, by omega, HI3, x4⟩
        case measure => simp [intOf]; omega
    · have hiI : ¬ (i : Int) < ls.length := by omega
      have HE := HN (fun j hj => HI.out j hj (by omega)) wr x1
      clear HI HY HN
      go_wp2
      exact bodyPost_ret (v := .tuple #[.int .i64 0, .int .i64 7]) (by simp [results, Try.results31, go_sem]) rfl HE.out
end Go.Proofs.Ytlbdjnbcoldjhaa
