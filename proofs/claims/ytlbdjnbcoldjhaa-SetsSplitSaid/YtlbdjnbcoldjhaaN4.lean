/- The walk of SetsSplit: for up to five sets made from numbers Split returns the classes or the error of the reference. -/
import Derived.Test.YtlbdjnbcoldjhaaHF
import Derived.Test.YtlbdjnbcoldjhaaH10
namespace Go.Proofs.Ytlbdjnbcoldjhaa
open Go.RowKit

theorem okL_good' {l : List Sp} (h : OkL l) : ∀ s ∈ l, goodS s := (okL_canon h).2
theorem ownL_lit0 (w : World) : OwnS (w.alloc (.cells #[] 24)) w.heap.size 24 1 (some ⟨w.heap.size, 0, none⟩) 0 0 [] :=
  OwnS.of_blk (size := 1) (c := 0) (n := 0) (Blk.new w 24 #[]) (Nat.le_refl _) rfl (Nat.le_refl _) (Nat.zero_le _)
theorem ints2 {w : World} {g T : Nat} {x y : Int} (h : Blk w g T #[.int .i64 x, .int .i64 y]) (hx : I64 x) (hy : I64 y) : IL w (some ⟨g, 0, none⟩) 2 [x, y] :=
  IL.of_blk (xs := [x, y]) h (fun z hz => by
    rcases List.mem_cons.1 hz with rfl | hz
    · exact hx
    · obtain rfl := List.mem_singleton.1 hz
      exact hy) (by unfold maxLen; simp)
theorem flat_len6 {hs : List Hs} (h : ∀ z ∈ hs, z.l.length ≤ 6 ∧ OkL z.l) : (hs.map (·.l)).flatten.length ≤ 6 * hs.length := by
  induction hs with
  | nil => simp
  | cons z hs ih =>
    have h1 := (h z List.mem_cons_self).1
    have h2 := ih (fun y hy => h y (List.mem_cons_of_mem _ hy))
    simp only [List.map_cons, List.flatten_cons, List.length_append, List.length_cons]
    omega
theorem flat_snoc {hs : List Hs} {z : Hs} : ((hs ++ [z]).map (·.l)).flatten.length = (hs.map (·.l)).flatten.length + z.l.length := by simp
/-- what is split: a list of sets in memory, and how many spans they have -/
def Good3 (wL : World) (A : Option Addr) (c : Nat) (hs : List Hs) : Prop := LLS wL A c hs ∧ hs.length ≤ 100 ∧ (hs.map (·.l)).flatten.length ≤ 400

set_option maxRecDepth 100000 in
set_option maxHeartbeats 16000000 in
theorem SetsSplit_any (A : Option Addr) (c : Nat) (rs : List Hi) (at_ by_ top n : Int) (w : World) (hl : LIL w A c rs) (ha : I64 at_) (hb : I64 by_) (ht : I64 top) (hn : I64 n) :
    Calls Try.prog 3 #[.slice A rs.length c, .int .i64 at_, .int .i64 by_, .int .i64 top, .int .i64 n] w (RetV (.bool true) w) := by
  have hcap := hl.len
  obtain ⟨i0, hi0, hz0, hz1, hz2⟩ := info_parts infoSl
  have HAR := fun (q m : Int) (W : World) hq h0 h1 => Lib.hid ((around_any q m W hq h0 h1).mono (fun _ _ h => RetQ.ext h))
  have HA1 := fun (W : World) => HAR n 5 W hn (by omega) (by omega)
  have HA2 := fun (W : World) => HAR n 9 W hn (by omega) (by omega)
  have HA3 := fun (W : World) => HAR top 300 W ht (by omega) (by omega)
  have B1 := around_bd n 5 (by omega)
  have B2 := around_bd n 9 (by omega)
  have B3 := around_bd top 300 (by omega)
  generalize around n 5 = n1 at *
  generalize around n 9 = n2 at *
  generalize around top 300 = t2 at *
  obtain ⟨m, hm⟩ : ∃ m : Nat, 61 + n1 = m := ⟨(61 + n1).toNat, by omega⟩
  have hwm : IntKind.i64.wrap (61 + n1) = (m : Int) := by rw [IntKind.wrap_i64]; omega
  clear HAR
  go_enter Try.func3, Try.ntmps3
  go_wp2_with fail
  go_loopw [11, 12] (fun v11 v12 wr => ∃ (i : Nat) (O : Option Addr) (cO : Nat) (hs : List Hs), v12 = .int .i64 i ∧ i ≤ 4 ∧ v11 = .slice O hs.length cO ∧ Hid (hs.length = i ∧ (∀ h ∈ hs, h.l.length ≤ 6 ∧ OkL h.l) ∧ AllI wr w.heap.size O cO hs) ∧ Ext w wr) (fun _ v _ => 4 - (intOf v).toNat)
  case atStart => exact ⟨0, none, 0, [], rfl, by omega, rfl, ⟨rfl, by simp, allI_nil _ _⟩, Ext.rfl' _⟩
  case round =>
    obtain ⟨i, O, cO, hs, rfl, hi, rfl, HX, x1⟩ := hrel
    have hhl : hs.length ≤ 4 := by rw [HX.out.1]; exact hi
    by_cases hlt : i < rs.length
    · have hiI : (i : Int) < rs.length := by omega
      by_cases h4 : i < 4
      · have h4I : (i : Int) < 4 := by omega
        obtain ⟨pb, po, rfl, g0⟩ := (hl.ext x1).get hlt
        have hil := (hl.il _ (List.getElem_mem hlt)).ext x1
        generalize rs[i] = r at *
        obtain ⟨rA, rc, rl⟩ := r
        simp only at g0 hil
        have HS := Lib.hid (gSetF_any rA rc rl 6 wr hil (by omega))
        go_wp2_with fail
        refine HS.out.mono ?_
        rintro e w2 ⟨S, cS, out, rfl, hS, hn6, _, hok, x2, hf⟩
        have x12 := x1.trans x2
        have HPU := fun (w8 : World) (O' : Option Addr) (cO' : Nat) hg how hat => Lib.hid (AllI.push (w8 := w8) (O' := O') (cO' := cO') (cs := #[.slice S out.length cS]) (T := 24) HX.out.2.2 x2 hS hf hg how hat)
        have hown6 := Lib.hid (OwnS.ext HX.out.2.2.own x2)
        have HPL := Lib.hid (show (hs ++ [(⟨S, cS, out⟩ : Hs)]).length = i + 1 ∧ ∀ h ∈ hs ++ [(⟨S, cS, out⟩ : Hs)], h.l.length ≤ 6 ∧ OkL h.l from ⟨by rw [List.length_append, HX.out.1]; rfl, fun h hh => by
          rcases List.mem_append.1 hh with hh | hh
          · exact HX.out.2.1 h hh
          · obtain rfl := List.mem_singleton.1 hh
            exact ⟨hn6, hok⟩⟩)
        have HLN := Lib.hid (show (hs ++ [(⟨S, cS, out⟩ : Hs)]).length = hs.length + 1 by simp)
        clear HX hS hf HS hok g0 hil
        go_wp2_with ((at_builtin; refine wpList_app _ rfl _ _ _ rfl w.heap.size 24 i0 (.slice none 0 0) 1 24 Try.underlying23 hi0 hz0 hz1 hz2 rfl (by omega) O hs.length cO (flatH hs) rfl (OwnS.ext hown6.out (Ext.alloc _ _)) _ 1 1 [.slice S out.length cS] rfl rfl (blk_cells (Blk.new _ _ _)) (by intro u hu; obtain rfl := List.mem_singleton.1 hu; rfl) (by unfold maxLen; omega) (by omega) (x12.trans (Ext.alloc _ _)).size ?_; intro E2 cE2 w8 ho8 hg8 hat8))
        have HR2 := HPU w8 E2 cE2 hg8 ho8 hat8
        have x8 := Ext.app (x12.trans (Ext.alloc _ _)) (OwnS.ext hown6.out (Ext.alloc _ _)) hg8
        clear HPU hown6 ho8 hg8 hat8
        go_roundw
        case rel => exact ⟨i + 1, E2, cE2, hs ++ [(⟨S, cS, out⟩ : Hs)], by go_num, by omega, by rw [HLN.out], ⟨HPL.out.1, HPL.out.2, HR2.out⟩, x8⟩
        case measure => simp [intOf]; omega
      · have h4I : ¬ (i : Int) < 4 := by omega
        clear hlt
        have HA0 := Lib.hid HX.out.2.2
        have HF6 := Lib.hid (flat_len6 HX.out.2.1)
        clear HX
        go_wp2_with ((at_builtin; refine wpList_app _ rfl _ _ _ rfl wr.heap.size 24 i0 (.slice none 0 0) 1 24 Try.underlying23 hi0 hz0 hz1 hz2 rfl (by omega) (some ⟨wr.heap.size, 0, none⟩) 0 0 [] rfl (ownL_lit0 wr) O hs.length cO (flatH hs) rfl (by simp [flatH]) (HA0.out.ext (Ext.alloc _ _)).cells (flatH_one _) (by unfold maxLen; omega) (by omega) (Ext.alloc _ _).size ?_; intro O1 c1 w2 ho1 hg1 ht1))
        have x2 := Ext.app (Ext.alloc wr (.cells #[] 24)) (ownL_lit0 wr) hg1
        have HA1' := Lib.hid (HA0.out.copy x2 (by simpa using ho1))
        clear ho1 hg1 ht1
        have bI := Blk.new w2 3 #[.int .i64 n, .int .i64 at_]
        have eI := Ext.alloc w2 (.cells #[.int .i64 n, .int .i64 at_] 3)
        have HS := Lib.hid (gSetF_any (some ⟨w2.heap.size, 0, none⟩) 2 [n, at_] 1 _ (ints2 bI hn ha) (by omega))
        go_wp2_with fail
        refine HS.out.mono ?_
        rintro e w3 ⟨S1, d1, l1, rfl, s1, ln1, _, ok1, x3, _⟩
        have x23 := eI.trans x3
        have hs1 := Lib.hid (show ∀ s ∈ l1, Small s from fun s hs => good_small (okL_good' ok1 s hs))
        have HP := Lib.hid (gSpoiltF_any S1 d1 l1 at_ by_ w3 s1 hs1.out (by omega) ha hb)
        have HA2' := Lib.hid (HA1'.out.ext x23)
        clear HS bI eI ok1
        go_wp2_with fail
        refine HP.out.mono ?_
        rintro e w4 ⟨S2, d2, l2, rfl, s2, ln2, x4, f2⟩
        have HPU := fun (w8 : World) (O' : Option Addr) (cO' : Nat) hg how hat => Lib.hid (AllI.push (w8 := w8) (O' := O') (cO' := cO') (cs := #[.slice S2 l2.length d2]) (T := 24) HA2'.out x4 s2 f2 hg how hat)
        have HA3' := Lib.hid (HA2'.out.ext x4)
        have x24 := (x2.trans x23).trans x4
        clear HP s1 s2 f2 HA1' hs1
        go_upto_region 7 with ((at_builtin; refine wpList_app _ rfl _ _ _ rfl wr.heap.size 24 i0 (.slice none 0 0) 1 24 Try.underlying23 hi0 hz0 hz1 hz2 rfl (by omega) O1 hs.length c1 (flatH hs) rfl (OwnS.ext HA3'.out.own (Ext.alloc _ _)) _ 1 1 [.slice S2 l2.length d2] rfl rfl (blk_cells (Blk.new _ _ _)) (by intro u hu; obtain rfl := List.mem_singleton.1 hu; rfl) (by unfold maxLen; omega) (by omega) (x24.trans (Ext.alloc _ _)).size ?_; intro OB cB w5 ho2 hg2 ht2))
        have HB := HPU w5 OB cB hg2 ho2 ht2
        have x25 := Ext.app (x24.trans (Ext.alloc _ _)) (OwnS.ext HA3'.out.own (Ext.alloc _ _)) hg2
        have HA5 := Lib.hid (HA0.out.ext x25)
        clear HPU HA2' HA3' ho2 hg2 ht2 x24 x23 x2 x3 x4 HA0
        have hLB : (hs ++ [(⟨S2, d2, l2⟩ : Hs)]).length = hs.length + 1 := by simp
        go_wp2_with ((at_builtin; refine wpList_app _ rfl _ _ _ rfl w5.heap.size 24 i0 (.slice none 0 0) 1 24 Try.underlying23 hi0 hz0 hz1 hz2 rfl (by omega) (some ⟨w5.heap.size, 0, none⟩) 0 0 [] rfl (ownL_lit0 w5) O hs.length cO (flatH hs) rfl (by simp [flatH]) (HA5.out.ext (Ext.alloc _ _)).cells (flatH_one _) (by unfold maxLen; omega) (by omega) (Ext.alloc _ _).size ?_; intro O3 c3 w6 ho1 hg1 ht1))
        have x6 := Ext.app (Ext.alloc w5 (.cells #[] 24)) (ownL_lit0 w5) hg1
        have HA6 := Lib.hid (HA5.out.copy x6 (by simpa using ho1))
        clear ho1 hg1 ht1
        refine (HA1 _).out.mono ?_
        rintro e w7 ⟨rfl, x7⟩
        clear HA1
        go_wp2_with fail
        refine (HA2 _).out.mono ?_
        rintro e w8 ⟨rfl, x8⟩
        have x78 := x7.trans x8
        have HM := Lib.hid (gManyF_any m n2 w8 (by omega) (by omega))
        have HA8 := Lib.hid (HA6.out.ext x78)
        clear HA2 HA6 x7 x8
        go_wp2_with fail
        refine HM.out.mono ?_
        rintro e w9 ⟨S3, d3, l3, rfl, s3, ln3, _, x9, f3⟩
        have HPU := fun (w8' : World) (O' : Option Addr) (cO' : Nat) hg how hat => Lib.hid (AllI.push (w8 := w8') (O' := O') (cO' := cO') (cs := #[.slice S3 l3.length d3]) (T := 24) HA8.out x9 s3 f3 hg how hat)
        have HA9 := Lib.hid (HA8.out.ext x9)
        have x69 := (x6.trans x78).trans x9
        clear HM s3 f3
        go_upto_region 8 with ((at_builtin; refine wpList_app _ rfl _ _ _ rfl w5.heap.size 24 i0 (.slice none 0 0) 1 24 Try.underlying23 hi0 hz0 hz1 hz2 rfl (by omega) O3 hs.length c3 (flatH hs) rfl (OwnS.ext HA9.out.own (Ext.alloc _ _)) _ 1 1 [.slice S3 l3.length d3] rfl rfl (blk_cells (Blk.new _ _ _)) (by intro u hu; obtain rfl := List.mem_singleton.1 hu; rfl) (by unfold maxLen; omega) (by omega) (x69.trans (Ext.alloc _ _)).size ?_; intro OW cW w10 ho2 hg2 ht2))
        have HW := HPU w10 OW cW hg2 ho2 ht2
        have x50 := Ext.app (x69.trans (Ext.alloc _ _)) (OwnS.ext HA9.out.own (Ext.alloc _ _)) hg2
        have HLA := Lib.hid (HA5.out.ext x50).lls
        have HLB := Lib.hid (HB.out.ext x50).lls
        have HLW := Lib.hid HW.out.lls
        have xA := (x1.trans x25).trans x50
        have hLW : (hs ++ [(⟨S3, d3, l3⟩ : Hs)]).length = hs.length + 1 := by simp
        clear HPU HA8 HA9 ho2 hg2 ht2 x69 x78 x6 x9 HA5 HB HW x50 x25
        have bT := Blk.new w10 23 #[.slice O hs.length cO, .slice OB (hs.length + 1) cB, .slice OW (hs.length + 1) cW]
        have eT := Ext.alloc w10 (.cells #[.slice O hs.length cO, .slice OB (hs.length + 1) cB, .slice OW (hs.length + 1) cW] 23)
        have HT3 := Lib.hid (show ∀ q, q < 3 → ∃ (A' : Option Addr) (c' : Nat) (hs' : List Hs), (w10.alloc (.cells #[.slice O hs.length cO, .slice OB (hs.length + 1) cB, .slice OW (hs.length + 1) cW] 23)).cell? ⟨w10.heap.size, q, none⟩ = some (.slice A' hs'.length c') ∧ Good3 (w10.alloc (.cells #[.slice O hs.length cO, .slice OB (hs.length + 1) cB, .slice OW (hs.length + 1) cW] 23)) A' c' hs' from fun q hq => by
          have hq3 : q = 0 ∨ q = 1 ∨ q = 2 := by omega
          have hf6 := HF6.out
          rcases hq3 with rfl | rfl | rfl
          · exact ⟨O, cO, hs, by rw [bT.cell]; rfl, HLA.out.ext eT, by omega, by omega⟩
          · exact ⟨OB, cB, hs ++ [⟨S2, d2, l2⟩], by rw [bT.cell, hLB]; rfl, HLB.out.ext eT, by omega, by rw [flat_snoc]; simp only; omega⟩
          · exact ⟨OW, cW, hs ++ [⟨S3, d3, l3⟩], by rw [bT.cell, hLW]; rfl, HLW.out.ext eT, by omega, by rw [flat_snoc]; simp only; omega⟩)
        replace xA := xA.trans eT
        go_upto_region 9 with fail
        obtain ⟨g, hg⟩ : ∃ g, g = w10.heap.size := ⟨_, rfl⟩
        rw [← hg] at HT3 ⊢
        clear hg bT eT HLA HLB HLW HF6
        generalize w10.alloc (.cells #[.slice O hs.length cO, .slice OB (hs.length + 1) cB, .slice OW (hs.length + 1) cW] 23) = w11 at *
        go_wp2_with fail
        refine (HA3 _).out.mono ?_
        rintro e w12 ⟨rfl, x12⟩
        clear HA3
        have bU := Blk.new w12 3 #[.int .i64 top, .int .i64 t2, .int .i64 1114111]
        have eU := Ext.alloc w12 (.cells #[.int .i64 top, .int .i64 t2, .int .i64 1114111] 3)
        have HU3 := Lib.hid (show ∀ q, q < 3 → ∃ t : Int, (w12.alloc (.cells #[.int .i64 top, .int .i64 t2, .int .i64 1114111] 3)).cell? ⟨w12.heap.size, q, none⟩ = some (.int .i64 t) ∧ I64 t from fun q hq => by
          have hq3 : q = 0 ∨ q = 1 ∨ q = 2 := by omega
          rcases hq3 with rfl | rfl | rfl
          · exact ⟨top, by rw [bU.cell]; rfl, ht⟩
          · exact ⟨t2, by rw [bU.cell]; rfl, by unfold I64; omega⟩
          · exact ⟨1114111, by rw [bU.cell]; rfl, by unfold I64; omega⟩)
        have xU := x12.trans eU
        replace xA := xA.trans xU
        go_upto_region 10 with fail
        obtain ⟨gu, hgu⟩ : ∃ gu, gu = w12.heap.size := ⟨_, rfl⟩
        rw [← hgu] at HU3 ⊢
        clear hgu bU eU
        generalize w12.alloc (.cells #[.int .i64 top, .int .i64 t2, .int .i64 1114111] 3) = wL at *
        clear hwm hm B1 B2 B3 hLB hLW ln1 ln2 ln3 x12
        go_wp2_with fail
        go_loopw [17] (fun v wr => ∃ i : Nat, v = .int .i64 i ∧ i ≤ 3 ∧ Ext wL wr) (fun v _ => 3 - (intOf v).toNat)
        case atStart => exact ⟨0, rfl, by omega, Ext.rfl' _⟩
        case round =>
          obtain ⟨i, rfl, hi, y1⟩ := hrel
          by_cases hlt : i < 3
          · have hiI : (i : Int) < 3 := by omega
            obtain ⟨TA, tc, ths, g0, hL3, hn3, hf3⟩ := HT3.out i hlt
            replace g0 := (xU.trans y1).cell g0
            have HLT := Lib.hid (hL3.ext (xU.trans y1))
            have HF3 := Lib.hid hf3
            clear hL3 hf3
            go_wp2_with fail
            go_loopw [18] (fun v wr2 => ∃ q : Nat, v = .int .i64 q ∧ q ≤ 3 ∧ Ext wr wr2) (fun v _ => 3 - (intOf v).toNat)
            case atStart => exact ⟨0, rfl, by omega, Ext.rfl' _⟩
            case round =>
              obtain ⟨q, rfl, hq, y2⟩ := hrel
              by_cases hqt : q < 3
              · have hqI : (q : Int) < 3 := by omega
                obtain ⟨tt, u0, htt⟩ := HU3.out q hqt
                replace u0 := (y1.trans y2).cell u0
                have g0k := y2.cell g0
                have HS1 := fun (W' : World) (x : Ext wr W') => Lib.hid (sSplit_any TA tc ths tt W' ((HLT.out.ext y2).ext x) htt hn3 HF3.out)
                have HS2 := fun (W' : World) (x : Ext wr W') => Lib.hid (gSplit_any TA tc ths tt W' ((HLT.out.ext y2).ext x) htt hn3 HF3.out)
                generalize hLS : ths.map (·.l) = LS at HS1 HS2
                clear hLS
                have k0 := fun (w' : World) (h : Kp [] wr w') => h.cell g0k (by simp)
                have k1 := fun (w' : World) (h : Kp [] wr w') => h.cell u0 (by simp)
                go_upto_region 16 with fail
                refine Xr.start [] (by kernel_rfl) ?_
                (refine Xr.take 0 (some 82) (v := ?_) rfl rfl (by decide +kernel) (by rfl) ?_ ?_; rotate_left; (focus (intro w' hk; go_simp; (try with_reducible rfl); done)); (try simp only [Act.put, List.setIfInBounds_toArray, List.set_cons_zero, List.set_cons_succ]))
                (refine Xr.take 1 (some 83) (v := ?_) rfl rfl (by decide +kernel) (by rfl) ?_ ?_; rotate_left; (focus (intro w' hk; go_simp; (try with_reducible rfl); done)); (try simp only [Act.put, List.setIfInBounds_toArray, List.set_cons_zero, List.set_cons_succ]))
                (refine Xr.take 2 (some 84) (v := ?_) rfl rfl (by decide +kernel) (by rfl) ?_ ?_; rotate_left; (focus (intro w' hk; go_simp; (try with_reducible rfl); done)); (try simp only [Act.put, List.setIfInBounds_toArray, List.set_cons_zero, List.set_cons_succ]))
                (refine Xr.take 3 (some 85) (v := ?_) rfl rfl (by decide +kernel) (by rfl) ?_ ?_; rotate_left; (focus (intro w' hk; go_simp; (try with_reducible rfl); done)); (try simp only [Act.put, List.setIfInBounds_toArray, List.set_cons_zero, List.set_cons_succ]))
                (refine Xr.take 4 (some 86) (v := ?_) rfl rfl (by decide +kernel) (by rfl) ?_ ?_; rotate_left; (focus (intro w' hk; go_simp; (try with_reducible rfl); done)); (try simp only [Act.put, List.setIfInBounds_toArray, List.set_cons_zero, List.set_cons_succ]))
                (refine Xr.take 5 (some 87) (v := ?_) rfl rfl (by decide +kernel) (by rfl) ?_ ?_; rotate_left; (focus (intro w' hk; go_simp; (try with_reducible rfl); done)); (try simp only [Act.put, List.setIfInBounds_toArray, List.set_cons_zero, List.set_cons_succ]))
                (refine Xr.take 6 (some 88) (v := ?_) rfl rfl (by decide +kernel) (by rfl) ?_ ?_; rotate_left; (focus (intro w' hk; go_simp; (try with_reducible rfl); done)); (try simp only [Act.put, List.setIfInBounds_toArray, List.set_cons_zero, List.set_cons_succ]))
                (refine Xr.take 7 (some 89) (v := ?_) rfl rfl (by decide +kernel) (by rfl) ?_ ?_; rotate_left; (focus (intro w' hk; go_simp; (try with_reducible rfl); done)); (try simp only [Act.put, List.setIfInBounds_toArray, List.set_cons_zero, List.set_cons_succ]))
                refine Xr.call 8 rfl (by decide +kernel) (by rfl) (fun a1 hE1 hK1 K hKK => ?_)
                go_simp
                refine (HS1 _ hK1.nil).out.mono ?_
                rintro e b1 ⟨Q1, r1, os1, rfl, hQ1, hc1, z2⟩
                refine hKK _ _ z2 ?_
                clear hKK HS1
                (try simp only [Act.put, List.setIfInBounds_toArray, List.set_cons_zero, List.set_cons_succ])
                (refine Xr.take 9 (some 81) (v := ?_) rfl rfl (by decide +kernel) (by rfl) ?_ ?_; rotate_left; (focus (intro w' hk; go_simp; (try with_reducible rfl); done)); (try simp only [Act.put, List.setIfInBounds_toArray, List.set_cons_zero, List.set_cons_succ]))
                (refine Xr.take 10 (some 91) (v := ?_) rfl rfl (by decide +kernel) (by rfl) ?_ ?_; rotate_left; (focus (intro w' hk; go_simp; (try with_reducible rfl); done)); (try simp only [Act.put, List.setIfInBounds_toArray, List.set_cons_zero, List.set_cons_succ]))
                (refine Xr.take 11 (some 92) (v := ?_) rfl rfl (by decide +kernel) (by rfl) ?_ ?_; rotate_left; (focus (intro w' hk; go_simp; (try with_reducible rfl); done)); (try simp only [Act.put, List.setIfInBounds_toArray, List.set_cons_zero, List.set_cons_succ]))
                (refine Xr.take 12 (some 19) (v := ?_) rfl rfl (by decide +kernel) (by rfl) ?_ ?_; rotate_left; (focus (intro w' hk; go_simp; (try with_reducible rfl); done)); (try simp only [Act.put, List.setIfInBounds_toArray, List.set_cons_zero, List.set_cons_succ]))
                (refine Xr.take 13 (some 20) (v := ?_) rfl rfl (by decide +kernel) (by rfl) ?_ ?_; rotate_left; (focus (intro w' hk; go_simp; (try with_reducible rfl); done)); (try simp only [Act.put, List.setIfInBounds_toArray, List.set_cons_zero, List.set_cons_succ]))
                refine Xr.done (by decide +kernel) (fun v1 hE2 hK2 => ?_)
                have z := hK2.nil
                replace g0k := z.cell g0k
                replace u0 := z.cell u0
                have HQ1 := Lib.hid (hQ1.ext hE2)
                have HC1 := Lib.hid hc1
                clear k0 k1 hE1 hK1 hE2 hK2 z2 hQ1 hc1
                have k0 := fun (w' : World) (h : Kp [] v1 w') => h.cell g0k (by simp)
                have k1 := fun (w' : World) (h : Kp [] v1 w') => h.cell u0 (by simp)
                go_upto_region 17 with fail
                refine Xr.start [] (by kernel_rfl) ?_
                (refine Xr.take 0 (some 94) (v := ?_) rfl rfl (by decide +kernel) (by rfl) ?_ ?_; rotate_left; (focus (intro w' hk; go_simp; (try with_reducible rfl); done)); (try simp only [Act.put, List.setIfInBounds_toArray, List.set_cons_zero, List.set_cons_succ]))
                (refine Xr.take 1 (some 95) (v := ?_) rfl rfl (by decide +kernel) (by rfl) ?_ ?_; rotate_left; (focus (intro w' hk; go_simp; (try with_reducible rfl); done)); (try simp only [Act.put, List.setIfInBounds_toArray, List.set_cons_zero, List.set_cons_succ]))
                (refine Xr.take 2 (some 96) (v := ?_) rfl rfl (by decide +kernel) (by rfl) ?_ ?_; rotate_left; (focus (intro w' hk; go_simp; (try with_reducible rfl); done)); (try simp only [Act.put, List.setIfInBounds_toArray, List.set_cons_zero, List.set_cons_succ]))
                (refine Xr.take 3 (some 97) (v := ?_) rfl rfl (by decide +kernel) (by rfl) ?_ ?_; rotate_left; (focus (intro w' hk; go_simp; (try with_reducible rfl); done)); (try simp only [Act.put, List.setIfInBounds_toArray, List.set_cons_zero, List.set_cons_succ]))
                (refine Xr.take 4 (some 98) (v := ?_) rfl rfl (by decide +kernel) (by rfl) ?_ ?_; rotate_left; (focus (intro w' hk; go_simp; (try with_reducible rfl); done)); (try simp only [Act.put, List.setIfInBounds_toArray, List.set_cons_zero, List.set_cons_succ]))
                (refine Xr.take 5 (some 99) (v := ?_) rfl rfl (by decide +kernel) (by rfl) ?_ ?_; rotate_left; (focus (intro w' hk; go_simp; (try with_reducible rfl); done)); (try simp only [Act.put, List.setIfInBounds_toArray, List.set_cons_zero, List.set_cons_succ]))
                (refine Xr.take 6 (some 100) (v := ?_) rfl rfl (by decide +kernel) (by rfl) ?_ ?_; rotate_left; (focus (intro w' hk; go_simp; (try with_reducible rfl); done)); (try simp only [Act.put, List.setIfInBounds_toArray, List.set_cons_zero, List.set_cons_succ]))
                (refine Xr.take 7 (some 101) (v := ?_) rfl rfl (by decide +kernel) (by rfl) ?_ ?_; rotate_left; (focus (intro w' hk; go_simp; (try with_reducible rfl); done)); (try simp only [Act.put, List.setIfInBounds_toArray, List.set_cons_zero, List.set_cons_succ]))
                refine Xr.call 8 rfl (by decide +kernel) (by rfl) (fun a2 hE1 hK1 K hKK => ?_)
                go_simp
                refine (HS2 _ (z.trans hK1.nil)).out.mono ?_
                rintro e b2 ⟨Q2, r2, os2, rfl, hQ2, hc2, z2⟩
                refine hKK _ _ z2 ?_
                clear hKK HS2
                (try simp only [Act.put, List.setIfInBounds_toArray, List.set_cons_zero, List.set_cons_succ])
                (refine Xr.take 9 (some 93) (v := ?_) rfl rfl (by decide +kernel) (by rfl) ?_ ?_; rotate_left; (focus (intro w' hk; go_simp; (try with_reducible rfl); done)); (try simp only [Act.put, List.setIfInBounds_toArray, List.set_cons_zero, List.set_cons_succ]))
                (refine Xr.take 10 (some 103) (v := ?_) rfl rfl (by decide +kernel) (by rfl) ?_ ?_; rotate_left; (focus (intro w' hk; go_simp; (try with_reducible rfl); done)); (try simp only [Act.put, List.setIfInBounds_toArray, List.set_cons_zero, List.set_cons_succ]))
                (refine Xr.take 11 (some 104) (v := ?_) rfl rfl (by decide +kernel) (by rfl) ?_ ?_; rotate_left; (focus (intro w' hk; go_simp; (try with_reducible rfl); done)); (try simp only [Act.put, List.setIfInBounds_toArray, List.set_cons_zero, List.set_cons_succ]))
                (refine Xr.take 12 (some 21) (v := ?_) rfl rfl (by decide +kernel) (by rfl) ?_ ?_; rotate_left; (focus (intro w' hk; go_simp; (try with_reducible rfl); done)); (try simp only [Act.put, List.setIfInBounds_toArray, List.set_cons_zero, List.set_cons_succ]))
                (refine Xr.take 13 (some 22) (v := ?_) rfl rfl (by decide +kernel) (by rfl) ?_ ?_; rotate_left; (focus (intro w' hk; go_simp; (try with_reducible rfl); done)); (try simp only [Act.put, List.setIfInBounds_toArray, List.set_cons_zero, List.set_cons_succ]))
                refine Xr.done (by decide +kernel) (fun v2 hE2 hK2 => ?_)
                have z3 := hK2.nil
                have HQ2 := Lib.hid (hQ2.ext hE2)
                have HQ3 := Lib.hid (HQ1.out.ext z3)
                have HMM := Lib.hid (show os1.map (·.l) = os2.map (·.l) by rw [HC1.out, hc2])
                have hl12 : os2.length = os1.length := by
                  have := congrArg List.length HMM.out
                  simpa using this.symm
                have HJJ := Lib.hid (show ∀ j (h1 : j < os1.length) (h2 : j < os2.length), os1[j].l = os2[j].l from fun j h1 h2 => by
                  have : (os1.map (·.l))[j]'(by simpa using h1) = (os2.map (·.l))[j]'(by simpa using h2) := by simp only [HMM.out]
                  simpa using this)
                have y3 := y2.trans (z.trans z3)
                clear k0 k1 hE1 hK1 hE2 hK2 z2 hQ2 hc2 z z3 HQ1 HC1 HMM g0k u0
                generalize splitE LS tt = er at *
                have hee : (er != er) = false := by simp
                have hll : ((os1.length : Int) != (os1.length : Int)) = false := by simp
                have hq1 := HQ3.out.len
                obtain ⟨o2n, ho2n⟩ : ∃ o2n, o2n = os2.length := ⟨_, rfl⟩
                rw [← ho2n] at hl12
                have HO2N := Lib.hid ho2n
                rw [← ho2n]
                clear ho2n
                subst hl12
                go_wp2_with fail
                go_loopw [23] (fun v wr3 => ∃ j : Nat, v = .int .i64 j ∧ j ≤ os1.length ∧ Ext v2 wr3) (fun v _ => os1.length - (intOf v).toNat)
                case atStart => exact ⟨0, rfl, by omega, Ext.rfl' _⟩
                case round =>
                  obtain ⟨j, rfl, hj, y4⟩ := hrel
                  by_cases hjt : j < os1.length
                  · have hjI : (j : Int) < os1.length := by omega
                    have hj2 : j < os2.length := by rw [← HO2N.out]; exact hjt
                    obtain ⟨pb1, po1, rfl, j0⟩ := (HQ3.out.ext y4).get hjt
                    obtain ⟨pb2, po2, rfl, j1⟩ := (HQ2.out.ext y4).get hj2
                    have sl1 := (HQ3.out.sl _ (List.getElem_mem hjt)).ext y4
                    have sl2 := (HQ2.out.sl _ (List.getElem_mem hj2)).ext y4
                    have hjj := HJJ.out j hjt hj2
                    generalize os1[j] = z1 at *
                    generalize os2[j] = z2 at *
                    obtain ⟨zA, zc, zl⟩ := z1
                    obtain ⟨yA, yc, yl⟩ := z2
                    simp only at j0 j1 sl1 sl2 hjj
                    subst hjj
                    have HE := fun (W' : World) (x : Ext wr W') => Lib.hid (gEqual_any zA yA zc yc zl zl W' (sl1.ext x) (sl2.ext x))
                    rw [decide_eq_true rfl] at HE
                    have k0 := fun (w' : World) (h : Kp [] wr w') => h.cell j0 (by simp)
                    have k1 := fun (w' : World) (h : Kp [] wr w') => h.cell j1 (by simp)
                    go_upto_region 23 with fail
                    refine Xr.start [] (by kernel_rfl) ?_
                    (refine Xr.take 0 (some 121) (v := ?_) rfl rfl (by decide +kernel) (by rfl) ?_ ?_; rotate_left; (focus (intro w' hk; go_simp; (try with_reducible rfl); done)); (try simp only [Act.put, List.setIfInBounds_toArray, List.set_cons_zero, List.set_cons_succ]))
                    (refine Xr.take 1 (some 122) (v := ?_) rfl rfl (by decide +kernel) (by rfl) ?_ ?_; rotate_left; (focus (intro w' hk; go_simp; (try with_reducible rfl); done)); (try simp only [Act.put, List.setIfInBounds_toArray, List.set_cons_zero, List.set_cons_succ]))
                    (refine Xr.take 2 (some 123) (v := ?_) rfl rfl (by decide +kernel) (by rfl) ?_ ?_; rotate_left; (focus (intro w' hk; go_simp; (try with_reducible rfl); done)); (try simp only [Act.put, List.setIfInBounds_toArray, List.set_cons_zero, List.set_cons_succ]))
                    (refine Xr.take 3 (some 124) (v := ?_) rfl rfl (by decide +kernel) (by rfl) ?_ ?_; rotate_left; (focus (intro w' hk; go_simp; (try with_reducible rfl); done)); (try simp only [Act.put, List.setIfInBounds_toArray, List.set_cons_zero, List.set_cons_succ]))
                    (refine Xr.take 4 (some 125) (v := ?_) rfl rfl (by decide +kernel) (by rfl) ?_ ?_; rotate_left; (focus (intro w' hk; go_simp; (try with_reducible rfl); done)); (try simp only [Act.put, List.setIfInBounds_toArray, List.set_cons_zero, List.set_cons_succ]))
                    (refine Xr.take 5 (some 126) (v := ?_) rfl rfl (by decide +kernel) (by rfl) ?_ ?_; rotate_left; (focus (intro w' hk; go_simp; (try with_reducible rfl); done)); (try simp only [Act.put, List.setIfInBounds_toArray, List.set_cons_zero, List.set_cons_succ]))
                    (refine Xr.take 6 (some 127) (v := ?_) rfl rfl (by decide +kernel) (by rfl) ?_ ?_; rotate_left; (focus (intro w' hk; go_simp; (try with_reducible rfl); done)); (try simp only [Act.put, List.setIfInBounds_toArray, List.set_cons_zero, List.set_cons_succ]))
                    (refine Xr.take 7 (some 128) (v := ?_) rfl rfl (by decide +kernel) (by rfl) ?_ ?_; rotate_left; (focus (intro w' hk; go_simp; (try with_reducible rfl); done)); (try simp only [Act.put, List.setIfInBounds_toArray, List.set_cons_zero, List.set_cons_succ]))
                    refine Xr.call 8 rfl (by decide +kernel) (by rfl) (fun a3 hE1 hK1 K hKK => ?_)
                    go_simp
                    refine (HE _ hK1.nil).out.mono ?_
                    rintro e b3 ⟨rfl, z2⟩
                    refine hKK _ _ z2 ?_
                    clear hKK HE
                    (try simp only [Act.put, List.setIfInBounds_toArray, List.set_cons_zero, List.set_cons_succ])
                    (refine Xr.take 9 (some 130) (v := ?_) rfl rfl (by decide +kernel) (by rfl) ?_ ?_; rotate_left; (focus (intro w' hk; go_simp; (try with_reducible rfl); done)); (try simp only [Act.put, List.setIfInBounds_toArray, List.set_cons_zero, List.set_cons_succ]))
                    refine Xr.done (by decide +kernel) (fun v3 hE2 hK2 => ?_)
                    have y5 := y4.trans hK2.nil
                    clear k0 k1 hE1 hK1 hE2 hK2 z2 sl1 sl2 j0 j1
                    go_wp2_with fail
                    go_roundw
                    case rel => exact ⟨j + 1, by go_num, by omega, y5⟩
                    case measure => simp [intOf]; omega
                  · have hjI : ¬ (j : Int) < os1.length := by omega
                    have y5 := y3.trans y4
                    clear HQ2 HQ3 HJJ
                    go_wp2_with fail
                    go_roundw
                    case rel => exact ⟨q + 1, by go_num, by omega, y5⟩
                    case measure => simp [intOf]; omega
              · have hqI : ¬ (q : Int) < 3 := by omega
                have z5 := y1.trans y2
                clear g0
                go_wp2_with fail
                go_roundw
                case rel => exact ⟨i + 1, by go_num, by omega, z5⟩
                case measure => simp [intOf]; omega
          · have hiI : ¬ (i : Int) < 3 := by omega
            go_wp2_with fail
            refine (slives_any _).mono ?_
            rintro e wz ⟨rfl, xz⟩
            have XX := (xA.trans y1).trans xz
            go_wp2_with fail
            go_ret
            exact ⟨rfl, XX⟩
    · have hiI : ¬ (i : Int) < rs.length := by omega
      have HA0 := Lib.hid HX.out.2.2
      have HF6 := Lib.hid (flat_len6 HX.out.2.1)
      clear HX
      go_wp2_with ((at_builtin; refine wpList_app _ rfl _ _ _ rfl wr.heap.size 24 i0 (.slice none 0 0) 1 24 Try.underlying23 hi0 hz0 hz1 hz2 rfl (by omega) (some ⟨wr.heap.size, 0, none⟩) 0 0 [] rfl (ownL_lit0 wr) O hs.length cO (flatH hs) rfl (by simp [flatH]) (HA0.out.ext (Ext.alloc _ _)).cells (flatH_one _) (by unfold maxLen; omega) (by omega) (Ext.alloc _ _).size ?_; intro O1 c1 w2 ho1 hg1 ht1))
      have x2 := Ext.app (Ext.alloc wr (.cells #[] 24)) (ownL_lit0 wr) hg1
      have HA1' := Lib.hid (HA0.out.copy x2 (by simpa using ho1))
      clear ho1 hg1 ht1
      have bI := Blk.new w2 3 #[.int .i64 n, .int .i64 at_]
      have eI := Ext.alloc w2 (.cells #[.int .i64 n, .int .i64 at_] 3)
      have HS := Lib.hid (gSetF_any (some ⟨w2.heap.size, 0, none⟩) 2 [n, at_] 1 _ (ints2 bI hn ha) (by omega))
      go_wp2_with fail
      refine HS.out.mono ?_
      rintro e w3 ⟨S1, d1, l1, rfl, s1, ln1, _, ok1, x3, _⟩
      have x23 := eI.trans x3
      have hs1 := Lib.hid (show ∀ s ∈ l1, Small s from fun s hs => good_small (okL_good' ok1 s hs))
      have HP := Lib.hid (gSpoiltF_any S1 d1 l1 at_ by_ w3 s1 hs1.out (by omega) ha hb)
      have HA2' := Lib.hid (HA1'.out.ext x23)
      clear HS bI eI ok1
      go_wp2_with fail
      refine HP.out.mono ?_
      rintro e w4 ⟨S2, d2, l2, rfl, s2, ln2, x4, f2⟩
      have HPU := fun (w8 : World) (O' : Option Addr) (cO' : Nat) hg how hat => Lib.hid (AllI.push (w8 := w8) (O' := O') (cO' := cO') (cs := #[.slice S2 l2.length d2]) (T := 24) HA2'.out x4 s2 f2 hg how hat)
      have HA3' := Lib.hid (HA2'.out.ext x4)
      have x24 := (x2.trans x23).trans x4
      clear HP s1 s2 f2 HA1' hs1
      go_upto_region 7 with ((at_builtin; refine wpList_app _ rfl _ _ _ rfl wr.heap.size 24 i0 (.slice none 0 0) 1 24 Try.underlying23 hi0 hz0 hz1 hz2 rfl (by omega) O1 hs.length c1 (flatH hs) rfl (OwnS.ext HA3'.out.own (Ext.alloc _ _)) _ 1 1 [.slice S2 l2.length d2] rfl rfl (blk_cells (Blk.new _ _ _)) (by intro u hu; obtain rfl := List.mem_singleton.1 hu; rfl) (by unfold maxLen; omega) (by omega) (x24.trans (Ext.alloc _ _)).size ?_; intro OB cB w5 ho2 hg2 ht2))
      have HB := HPU w5 OB cB hg2 ho2 ht2
      have x25 := Ext.app (x24.trans (Ext.alloc _ _)) (OwnS.ext HA3'.out.own (Ext.alloc _ _)) hg2
      have HA5 := Lib.hid (HA0.out.ext x25)
      clear HPU HA2' HA3' ho2 hg2 ht2 x24 x23 x2 x3 x4 HA0
      have hLB : (hs ++ [(⟨S2, d2, l2⟩ : Hs)]).length = hs.length + 1 := by simp
      go_wp2_with ((at_builtin; refine wpList_app _ rfl _ _ _ rfl w5.heap.size 24 i0 (.slice none 0 0) 1 24 Try.underlying23 hi0 hz0 hz1 hz2 rfl (by omega) (some ⟨w5.heap.size, 0, none⟩) 0 0 [] rfl (ownL_lit0 w5) O hs.length cO (flatH hs) rfl (by simp [flatH]) (HA5.out.ext (Ext.alloc _ _)).cells (flatH_one _) (by unfold maxLen; omega) (by omega) (Ext.alloc _ _).size ?_; intro O3 c3 w6 ho1 hg1 ht1))
      have x6 := Ext.app (Ext.alloc w5 (.cells #[] 24)) (ownL_lit0 w5) hg1
      have HA6 := Lib.hid (HA5.out.copy x6 (by simpa using ho1))
      clear ho1 hg1 ht1
      refine (HA1 _).out.mono ?_
      rintro e w7 ⟨rfl, x7⟩
      clear HA1
      go_wp2_with fail
      refine (HA2 _).out.mono ?_
      rintro e w8 ⟨rfl, x8⟩
      have x78 := x7.trans x8
      have HM := Lib.hid (gManyF_any m n2 w8 (by omega) (by omega))
      have HA8 := Lib.hid (HA6.out.ext x78)
      clear HA2 HA6 x7 x8
      go_wp2_with fail
      refine HM.out.mono ?_
      rintro e w9 ⟨S3, d3, l3, rfl, s3, ln3, _, x9, f3⟩
      have HPU := fun (w8' : World) (O' : Option Addr) (cO' : Nat) hg how hat => Lib.hid (AllI.push (w8 := w8') (O' := O') (cO' := cO') (cs := #[.slice S3 l3.length d3]) (T := 24) HA8.out x9 s3 f3 hg how hat)
      have HA9 := Lib.hid (HA8.out.ext x9)
      have x69 := (x6.trans x78).trans x9
      clear HM s3 f3
      go_upto_region 8 with ((at_builtin; refine wpList_app _ rfl _ _ _ rfl w5.heap.size 24 i0 (.slice none 0 0) 1 24 Try.underlying23 hi0 hz0 hz1 hz2 rfl (by omega) O3 hs.length c3 (flatH hs) rfl (OwnS.ext HA9.out.own (Ext.alloc _ _)) _ 1 1 [.slice S3 l3.length d3] rfl rfl (blk_cells (Blk.new _ _ _)) (by intro u hu; obtain rfl := List.mem_singleton.1 hu; rfl) (by unfold maxLen; omega) (by omega) (x69.trans (Ext.alloc _ _)).size ?_; intro OW cW w10 ho2 hg2 ht2))
      have HW := HPU w10 OW cW hg2 ho2 ht2
      have x50 := Ext.app (x69.trans (Ext.alloc _ _)) (OwnS.ext HA9.out.own (Ext.alloc _ _)) hg2
      have HLA := Lib.hid (HA5.out.ext x50).lls
      have HLB := Lib.hid (HB.out.ext x50).lls
      have HLW := Lib.hid HW.out.lls
      have xA := (x1.trans x25).trans x50
      have hLW : (hs ++ [(⟨S3, d3, l3⟩ : Hs)]).length = hs.length + 1 := by simp
      clear HPU HA8 HA9 ho2 hg2 ht2 x69 x78 x6 x9 HA5 HB HW x50 x25
      have bT := Blk.new w10 23 #[.slice O hs.length cO, .slice OB (hs.length + 1) cB, .slice OW (hs.length + 1) cW]
      have eT := Ext.alloc w10 (.cells #[.slice O hs.length cO, .slice OB (hs.length + 1) cB, .slice OW (hs.length + 1) cW] 23)
      have HT3 := Lib.hid (show ∀ q, q < 3 → ∃ (A' : Option Addr) (c' : Nat) (hs' : List Hs), (w10.alloc (.cells #[.slice O hs.length cO, .slice OB (hs.length + 1) cB, .slice OW (hs.length + 1) cW] 23)).cell? ⟨w10.heap.size, q, none⟩ = some (.slice A' hs'.length c') ∧ Good3 (w10.alloc (.cells #[.slice O hs.length cO, .slice OB (hs.length + 1) cB, .slice OW (hs.length + 1) cW] 23)) A' c' hs' from fun q hq => by
        have hq3 : q = 0 ∨ q = 1 ∨ q = 2 := by omega
        have hf6 := HF6.out
        rcases hq3 with rfl | rfl | rfl
        · exact ⟨O, cO, hs, by rw [bT.cell]; rfl, HLA.out.ext eT, by omega, by omega⟩
        · exact ⟨OB, cB, hs ++ [⟨S2, d2, l2⟩], by rw [bT.cell, hLB]; rfl, HLB.out.ext eT, by omega, by rw [flat_snoc]; simp only; omega⟩
        · exact ⟨OW, cW, hs ++ [⟨S3, d3, l3⟩], by rw [bT.cell, hLW]; rfl, HLW.out.ext eT, by omega, by rw [flat_snoc]; simp only; omega⟩)
      replace xA := xA.trans eT
      go_upto_region 9 with fail
      obtain ⟨g, hg⟩ : ∃ g, g = w10.heap.size := ⟨_, rfl⟩
      rw [← hg] at HT3 ⊢
      clear hg bT eT HLA HLB HLW HF6
      generalize w10.alloc (.cells #[.slice O hs.length cO, .slice OB (hs.length + 1) cB, .slice OW (hs.length + 1) cW] 23) = w11 at *
      go_wp2_with fail
      refine (HA3 _).out.mono ?_
      rintro e w12 ⟨rfl, x12⟩
      clear HA3
      have bU := Blk.new w12 3 #[.int .i64 top, .int .i64 t2, .int .i64 1114111]
      have eU := Ext.alloc w12 (.cells #[.int .i64 top, .int .i64 t2, .int .i64 1114111] 3)
      have HU3 := Lib.hid (show ∀ q, q < 3 → ∃ t : Int, (w12.alloc (.cells #[.int .i64 top, .int .i64 t2, .int .i64 1114111] 3)).cell? ⟨w12.heap.size, q, none⟩ = some (.int .i64 t) ∧ I64 t from fun q hq => by
        have hq3 : q = 0 ∨ q = 1 ∨ q = 2 := by omega
        rcases hq3 with rfl | rfl | rfl
        · exact ⟨top, by rw [bU.cell]; rfl, ht⟩
        · exact ⟨t2, by rw [bU.cell]; rfl, by unfold I64; omega⟩
        · exact ⟨1114111, by rw [bU.cell]; rfl, by unfold I64; omega⟩)
      have xU := x12.trans eU
      replace xA := xA.trans xU
      go_upto_region 10 with fail
      obtain ⟨gu, hgu⟩ : ∃ gu, gu = w12.heap.size := ⟨_, rfl⟩
      rw [← hgu] at HU3 ⊢
      clear hgu bU eU
      generalize w12.alloc (.cells #[.int .i64 top, .int .i64 t2, .int .i64 1114111] 3) = wL at *
      clear hwm hm B1 B2 B3 hLB hLW ln1 ln2 ln3 x12
      go_wp2_with fail
      go_loopw [17] (fun v wr => ∃ i : Nat, v = .int .i64 i ∧ i ≤ 3 ∧ Ext wL wr) (fun v _ => 3 - (intOf v).toNat)
      case atStart => exact ⟨0, rfl, by omega, Ext.rfl' _⟩
      case round =>
        obtain ⟨i, rfl, hi, y1⟩ := hrel
        by_cases hlt : i < 3
        · have hiI : (i : Int) < 3 := by omega
          obtain ⟨TA, tc, ths, g0, hL3, hn3, hf3⟩ := HT3.out i hlt
          replace g0 := (xU.trans y1).cell g0
          have HLT := Lib.hid (hL3.ext (xU.trans y1))
          have HF3 := Lib.hid hf3
          clear hL3 hf3
          go_wp2_with fail
          go_loopw [18] (fun v wr2 => ∃ q : Nat, v = .int .i64 q ∧ q ≤ 3 ∧ Ext wr wr2) (fun v _ => 3 - (intOf v).toNat)
          case atStart => exact ⟨0, rfl, by omega, Ext.rfl' _⟩
          case round =>
            obtain ⟨q, rfl, hq, y2⟩ := hrel
            by_cases hqt : q < 3
            · have hqI : (q : Int) < 3 := by omega
              obtain ⟨tt, u0, htt⟩ := HU3.out q hqt
              replace u0 := (y1.trans y2).cell u0
              have g0k := y2.cell g0
              have HS1 := fun (W' : World) (x : Ext wr W') => Lib.hid (sSplit_any TA tc ths tt W' ((HLT.out.ext y2).ext x) htt hn3 HF3.out)
              have HS2 := fun (W' : World) (x : Ext wr W') => Lib.hid (gSplit_any TA tc ths tt W' ((HLT.out.ext y2).ext x) htt hn3 HF3.out)
              generalize hLS : ths.map (·.l) = LS at HS1 HS2
              clear hLS
              have k0 := fun (w' : World) (h : Kp [] wr w') => h.cell g0k (by simp)
              have k1 := fun (w' : World) (h : Kp [] wr w') => h.cell u0 (by simp)
              go_upto_region 16 with fail
              refine Xr.start [] (by kernel_rfl) ?_
              (refine Xr.take 0 (some 82) (v := ?_) rfl rfl (by decide +kernel) (by rfl) ?_ ?_; rotate_left; (focus (intro w' hk; go_simp; (try with_reducible rfl); done)); (try simp only [Act.put, List.setIfInBounds_toArray, List.set_cons_zero, List.set_cons_succ]))
              (refine Xr.take 1 (some 83) (v := ?_) rfl rfl (by decide +kernel) (by rfl) ?_ ?_; rotate_left; (focus (intro w' hk; go_simp; (try with_reducible rfl); done)); (try simp only [Act.put, List.setIfInBounds_toArray, List.set_cons_zero, List.set_cons_succ]))
              (refine Xr.take 2 (some 84) (v := ?_) rfl rfl (by decide +kernel) (by rfl) ?_ ?_; rotate_left; (focus (intro w' hk; go_simp; (try with_reducible rfl); done)); (try simp only [Act.put, List.setIfInBounds_toArray, List.set_cons_zero, List.set_cons_succ]))
              (refine Xr.take 3 (some 85) (v := ?_) rfl rfl (by decide +kernel) (by rfl) ?_ ?_; rotate_left; (focus (intro w' hk; go_simp; (try with_reducible rfl); done)); (try simp only [Act.put, List.setIfInBounds_toArray, List.set_cons_zero, List.set_cons_succ]))
              (refine Xr.take 4 (some 86) (v := ?_) rfl rfl (by decide +kernel) (by rfl) ?_ ?_; rotate_left; (focus (intro w' hk; go_simp; (try with_reducible rfl); done)); (try simp only [Act.put, List.setIfInBounds_toArray, List.set_cons_zero, List.set_cons_succ]))
              (refine Xr.take 5 (some 87) (v := ?_) rfl rfl (by decide +kernel) (by rfl) ?_ ?_; rotate_left; (focus (intro w' hk; go_simp; (try with_reducible rfl); done)); (try simp only [Act.put, List.setIfInBounds_toArray, List.set_cons_zero, List.set_cons_succ]))
              (refine Xr.take 6 (some 88) (v := ?_) rfl rfl (by decide +kernel) (by rfl) ?_ ?_; rotate_left; (focus (intro w' hk; go_simp; (try with_reducible rfl); done)); (try simp only [Act.put, List.setIfInBounds_toArray, List.set_cons_zero, List.set_cons_succ]))
              (refine Xr.take 7 (some 89) (v := ?_) rfl rfl (by decide +kernel) (by rfl) ?_ ?_; rotate_left; (focus (intro w' hk; go_simp; (try with_reducible rfl); done)); (try simp only [Act.put, List.setIfInBounds_toArray, List.set_cons_zero, List.set_cons_succ]))
              refine Xr.call 8 rfl (by decide +kernel) (by rfl) (fun a1 hE1 hK1 K hKK => ?_)
              go_simp
              refine (HS1 _ hK1.nil).out.mono ?_
              rintro e b1 ⟨Q1, r1, os1, rfl, hQ1, hc1, z2⟩
              refine hKK _ _ z2 ?_
              clear hKK HS1
              (try simp only [Act.put, List.setIfInBounds_toArray, List.set_cons_zero, List.set_cons_succ])
              (refine Xr.take 9 (some 81) (v := ?_) rfl rfl (by decide +kernel) (by rfl) ?_ ?_; rotate_left; (focus (intro w' hk; go_simp; (try with_reducible rfl); done)); (try simp only [Act.put, List.setIfInBounds_toArray, List.set_cons_zero, List.set_cons_succ]))
              (refine Xr.take 10 (some 91) (v := ?_) rfl rfl (by decide +kernel) (by rfl) ?_ ?_; rotate_left; (focus (intro w' hk; go_simp; (try with_reducible rfl); done)); (try simp only [Act.put, List.setIfInBounds_toArray, List.set_cons_zero, List.set_cons_succ]))
              (refine Xr.take 11 (some 92) (v := ?_) rfl rfl (by decide +kernel) (by rfl) ?_ ?_; rotate_left; (focus (intro w' hk; go_simp; (try with_reducible rfl); done)); (try simp only [Act.put, List.setIfInBounds_toArray, List.set_cons_zero, List.set_cons_succ]))
              (refine Xr.take 12 (some 19) (v := ?_) rfl rfl (by decide +kernel) (by rfl) ?_ ?_; rotate_left; (focus (intro w' hk; go_simp; (try with_reducible rfl); done)); (try simp only [Act.put, List.setIfInBounds_toArray, List.set_cons_zero, List.set_cons_succ]))
              (refine Xr.take 13 (some 20) (v := ?_) rfl rfl (by decide +kernel) (by rfl) ?_ ?_; rotate_left; (focus (intro w' hk; go_simp; (try with_reducible rfl); done)); (try simp only [Act.put, List.setIfInBounds_toArray, List.set_cons_zero, List.set_cons_succ]))
              refine Xr.done (by decide +kernel) (fun v1 hE2 hK2 => ?_)
              have z := hK2.nil
              replace g0k := z.cell g0k
              replace u0 := z.cell u0
              have HQ1 := Lib.hid (hQ1.ext hE2)
              have HC1 := Lib.hid hc1
              clear k0 k1 hE1 hK1 hE2 hK2 z2 hQ1 hc1
              have k0 := fun (w' : World) (h : Kp [] v1 w') => h.cell g0k (by simp)
              have k1 := fun (w' : World) (h : Kp [] v1 w') => h.cell u0 (by simp)
              go_upto_region 17 with fail
              refine Xr.start [] (by kernel_rfl) ?_
              (refine Xr.take 0 (some 94) (v := ?_) rfl rfl (by decide +kernel) (by rfl) ?_ ?_; rotate_left; (focus (intro w' hk; go_simp; (try with_reducible rfl); done)); (try simp only [Act.put, List.setIfInBounds_toArray, List.set_cons_zero, List.set_cons_succ]))
              (refine Xr.take 1 (some 95) (v := ?_) rfl rfl (by decide +kernel) (by rfl) ?_ ?_; rotate_left; (focus (intro w' hk; go_simp; (try with_reducible rfl); done)); (try simp only [Act.put, List.setIfInBounds_toArray, List.set_cons_zero, List.set_cons_succ]))
              (refine Xr.take 2 (some 96) (v := ?_) rfl rfl (by decide +kernel) (by rfl) ?_ ?_; rotate_left; (focus (intro w' hk; go_simp; (try with_reducible rfl); done)); (try simp only [Act.put, List.setIfInBounds_toArray, List.set_cons_zero, List.set_cons_succ]))
              (refine Xr.take 3 (some 97) (v := ?_) rfl rfl (by decide +kernel) (by rfl) ?_ ?_; rotate_left; (focus (intro w' hk; go_simp; (try with_reducible rfl); done)); (try simp only [Act.put, List.setIfInBounds_toArray, List.set_cons_zero, List.set_cons_succ]))
              (refine Xr.take 4 (some 98) (v := ?_) rfl rfl (by decide +kernel) (by rfl) ?_ ?_; rotate_left; (focus (intro w' hk; go_simp; (try with_reducible rfl); done)); (try simp only [Act.put, List.setIfInBounds_toArray, List.set_cons_zero, List.set_cons_succ]))
              (refine Xr.take 5 (some 99) (v := ?_) rfl rfl (by decide +kernel) (by rfl) ?_ ?_; rotate_left; (focus (intro w' hk; go_simp; (try with_reducible rfl); done)); (try simp only [Act.put, List.setIfInBounds_toArray, List.set_cons_zero, List.set_cons_succ]))
              (refine Xr.take 6 (some 100) (v := ?_) rfl rfl (by decide +kernel) (by rfl) ?_ ?_; rotate_left; (focus (intro w' hk; go_simp; (try with_reducible rfl); done)); (try simp only [Act.put, List.setIfInBounds_toArray, List.set_cons_zero, List.set_cons_succ]))
              (refine Xr.take 7 (some 101) (v := ?_) rfl rfl (by decide +kernel) (by rfl) ?_ ?_; rotate_left; (focus (intro w' hk; go_simp; (try with_reducible rfl); done)); (try simp only [Act.put, List.setIfInBounds_toArray, List.set_cons_zero, List.set_cons_succ]))
              refine Xr.call 8 rfl (by decide +kernel) (by rfl) (fun a2 hE1 hK1 K hKK => ?_)
              go_simp
              refine (HS2 _ (z.trans hK1.nil)).out.mono ?_
              rintro e b2 ⟨Q2, r2, os2, rfl, hQ2, hc2, z2⟩
              refine hKK _ _ z2 ?_
              clear hKK HS2
              (try simp only [Act.put, List.setIfInBounds_toArray, List.set_cons_zero, List.set_cons_succ])
              (refine Xr.take 9 (some 93) (v := ?_) rfl rfl (by decide +kernel) (by rfl) ?_ ?_; rotate_left; (focus (intro w' hk; go_simp; (try with_reducible rfl); done)); (try simp only [Act.put, List.setIfInBounds_toArray, List.set_cons_zero, List.set_cons_succ]))
              (refine Xr.take 10 (some 103) (v := ?_) rfl rfl (by decide +kernel) (by rfl) ?_ ?_; rotate_left; (focus (intro w' hk; go_simp; (try with_reducible rfl); done)); (try simp only [Act.put, List.setIfInBounds_toArray, List.set_cons_zero, List.set_cons_succ]))
              (refine Xr.take 11 (some 104) (v := ?_) rfl rfl (by decide +kernel) (by rfl) ?_ ?_; rotate_left; (focus (intro w' hk; go_simp; (try with_reducible rfl); done)); (try simp only [Act.put, List.setIfInBounds_toArray, List.set_cons_zero, List.set_cons_succ]))
              (refine Xr.take 12 (some 21) (v := ?_) rfl rfl (by decide +kernel) (by rfl) ?_ ?_; rotate_left; (focus (intro w' hk; go_simp; (try with_reducible rfl); done)); (try simp only [Act.put, List.setIfInBounds_toArray, List.set_cons_zero, List.set_cons_succ]))
              (refine Xr.take 13 (some 22) (v := ?_) rfl rfl (by decide +kernel) (by rfl) ?_ ?_; rotate_left; (focus (intro w' hk; go_simp; (try with_reducible rfl); done)); (try simp only [Act.put, List.setIfInBounds_toArray, List.set_cons_zero, List.set_cons_succ]))
              refine Xr.done (by decide +kernel) (fun v2 hE2 hK2 => ?_)
              have z3 := hK2.nil
              have HQ2 := Lib.hid (hQ2.ext hE2)
              have HQ3 := Lib.hid (HQ1.out.ext z3)
              have HMM := Lib.hid (show os1.map (·.l) = os2.map (·.l) by rw [HC1.out, hc2])
              have hl12 : os2.length = os1.length := by
                have := congrArg List.length HMM.out
                simpa using this.symm
              have HJJ := Lib.hid (show ∀ j (h1 : j < os1.length) (h2 : j < os2.length), os1[j].l = os2[j].l from fun j h1 h2 => by
                have : (os1.map (·.l))[j]'(by simpa using h1) = (os2.map (·.l))[j]'(by simpa using h2) := by simp only [HMM.out]
                simpa using this)
              have y3 := y2.trans (z.trans z3)
              clear k0 k1 hE1 hK1 hE2 hK2 z2 hQ2 hc2 z z3 HQ1 HC1 HMM g0k u0
              generalize splitE LS tt = er at *
              have hee : (er != er) = false := by simp
              have hll : ((os1.length : Int) != (os1.length : Int)) = false := by simp
              have hq1 := HQ3.out.len
              obtain ⟨o2n, ho2n⟩ : ∃ o2n, o2n = os2.length := ⟨_, rfl⟩
              rw [← ho2n] at hl12
              have HO2N := Lib.hid ho2n
              rw [← ho2n]
              clear ho2n
              subst hl12
              go_wp2_with fail
              go_loopw [23] (fun v wr3 => ∃ j : Nat, v = .int .i64 j ∧ j ≤ os1.length ∧ Ext v2 wr3) (fun v _ => os1.length - (intOf v).toNat)
              case atStart => exact ⟨0, rfl, by omega, Ext.rfl' _⟩
              case round =>
                obtain ⟨j, rfl, hj, y4⟩ := hrel
                by_cases hjt : j < os1.length
                · have hjI : (j : Int) < os1.length := by omega
                  have hj2 : j < os2.length := by rw [← HO2N.out]; exact hjt
                  obtain ⟨pb1, po1, rfl, j0⟩ := (HQ3.out.ext y4).get hjt
                  obtain ⟨pb2, po2, rfl, j1⟩ := (HQ2.out.ext y4).get hj2
                  have sl1 := (HQ3.out.sl _ (List.getElem_mem hjt)).ext y4
                  have sl2 := (HQ2.out.sl _ (List.getElem_mem hj2)).ext y4
                  have hjj := HJJ.out j hjt hj2
                  generalize os1[j] = z1 at *
                  generalize os2[j] = z2 at *
                  obtain ⟨zA, zc, zl⟩ := z1
                  obtain ⟨yA, yc, yl⟩ := z2
                  simp only at j0 j1 sl1 sl2 hjj
                  subst hjj
                  have HE := fun (W' : World) (x : Ext wr W') => Lib.hid (gEqual_any zA yA zc yc zl zl W' (sl1.ext x) (sl2.ext x))
                  rw [decide_eq_true rfl] at HE
                  have k0 := fun (w' : World) (h : Kp [] wr w') => h.cell j0 (by simp)
                  have k1 := fun (w' : World) (h : Kp [] wr w') => h.cell j1 (by simp)
                  go_upto_region 23 with fail
                  refine Xr.start [] (by kernel_rfl) ?_
                  (refine Xr.take 0 (some 121) (v := ?_) rfl rfl (by decide +kernel) (by rfl) ?_ ?_; rotate_left; (focus (intro w' hk; go_simp; (try with_reducible rfl); done)); (try simp only [Act.put, List.setIfInBounds_toArray, List.set_cons_zero, List.set_cons_succ]))
                  (refine Xr.take 1 (some 122) (v := ?_) rfl rfl (by decide +kernel) (by rfl) ?_ ?_; rotate_left; (focus (intro w' hk; go_simp; (try with_reducible rfl); done)); (try simp only [Act.put, List.setIfInBounds_toArray, List.set_cons_zero, List.set_cons_succ]))
                  (refine Xr.take 2 (some 123) (v := ?_) rfl rfl (by decide +kernel) (by rfl) ?_ ?_; rotate_left; (focus (intro w' hk; go_simp; (try with_reducible rfl); done)); (try simp only [Act.put, List.setIfInBounds_toArray, List.set_cons_zero, List.set_cons_succ]))
                  (refine Xr.take 3 (some 124) (v := ?_) rfl rfl (by decide +kernel) (by rfl) ?_ ?_; rotate_left; (focus (intro w' hk; go_simp; (try with_reducible rfl); done)); (try simp only [Act.put, List.setIfInBounds_toArray, List.set_cons_zero, List.set_cons_succ]))
                  (refine Xr.take 4 (some 125) (v := ?_) rfl rfl (by decide +kernel) (by rfl) ?_ ?_; rotate_left; (focus (intro w' hk; go_simp; (try with_reducible rfl); done)); (try simp only [Act.put, List.setIfInBounds_toArray, List.set_cons_zero, List.set_cons_succ]))
                  (refine Xr.take 5 (some 126) (v := ?_) rfl rfl (by decide +kernel) (by rfl) ?_ ?_; rotate_left; (focus (intro w' hk; go_simp; (try with_reducible rfl); done)); (try simp only [Act.put, List.setIfInBounds_toArray, List.set_cons_zero, List.set_cons_succ]))
                  (refine Xr.take 6 (some 127) (v := ?_) rfl rfl (by decide +kernel) (by rfl) ?_ ?_; rotate_left; (focus (intro w' hk; go_simp; (try with_reducible rfl); done)); (try simp only [Act.put, List.setIfInBounds_toArray, List.set_cons_zero, List.set_cons_succ]))
                  (refine Xr.take 7 (some 128) (v := ?_) rfl rfl (by decide +kernel) (by rfl) ?_ ?_; rotate_left; (focus (intro w' hk; go_simp; (try with_reducible rfl); done)); (try simp only [Act.put, List.setIfInBounds_toArray, List.set_cons_zero, List.set_cons_succ]))
                  refine Xr.call 8 rfl (by decide +kernel) (by rfl) (fun a3 hE1 hK1 K hKK => ?_)
                  go_simp
                  refine (HE _ hK1.nil).out.mono ?_
                  rintro e b3 ⟨rfl, z2⟩
                  refine hKK _ _ z2 ?_
                  clear hKK HE
                  (try simp only [Act.put, List.setIfInBounds_toArray, List.set_cons_zero, List.set_cons_succ])
                  (refine Xr.take 9 (some 130) (v := ?_) rfl rfl (by decide +kernel) (by rfl) ?_ ?_; rotate_left; (focus (intro w' hk; go_simp; (try with_reducible rfl); done)); (try simp only [Act.put, List.setIfInBounds_toArray, List.set_cons_zero, List.set_cons_succ]))
                  refine Xr.done (by decide +kernel) (fun v3 hE2 hK2 => ?_)
                  have y5 := y4.trans hK2.nil
                  clear k0 k1 hE1 hK1 hE2 hK2 z2 sl1 sl2 j0 j1
                  go_wp2_with fail
                  go_roundw
                  case rel => exact ⟨j + 1, by go_num, by omega, y5⟩
                  case measure => simp [intOf]; omega
                · have hjI : ¬ (j : Int) < os1.length := by omega
                  have y5 := y3.trans y4
                  clear HQ2 HQ3 HJJ
                  go_wp2_with fail
                  go_roundw
                  case rel => exact ⟨q + 1, by go_num, by omega, y5⟩
                  case measure => simp [intOf]; omega
            · have hqI : ¬ (q : Int) < 3 := by omega
              have z5 := y1.trans y2
              clear g0
              go_wp2_with fail
              go_roundw
              case rel => exact ⟨i + 1, by go_num, by omega, z5⟩
              case measure => simp [intOf]; omega
        · have hiI : ¬ (i : Int) < 3 := by omega
          go_wp2_with fail
          refine (slives_any _).mono ?_
          rintro e wz ⟨rfl, xz⟩
          have XX := (xA.trans y1).trans xz
          go_wp2_with fail
          go_ret
          exact ⟨rfl, XX⟩
end Go.Proofs.Ytlbdjnbcoldjhaa
