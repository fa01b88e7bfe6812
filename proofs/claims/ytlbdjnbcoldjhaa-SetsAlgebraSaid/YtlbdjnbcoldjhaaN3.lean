/- The walk of SetsAlgebra: union and meet are commutative and associative, minus is meet with not, not undoes not, and the numbers of symbols add up. -/
import Derived.Test.YtlbdjnbcoldjhaaNA
namespace Go.Proofs.Ytlbdjnbcoldjhaa
open Go.RowKit

theorem cO_ok {va vb : Int} {o : List Sp} (h1 : va = 0) (h2 : vb = 0) (h : o.length ≤ 64) : cE va vb o = 0 ∧ cO va vb o = o := by
  have e : cE va vb o = 0 := by unfold cE; rw [if_neg (by simp [h1]), if_neg (by simp [h2]), if_neg (by omega)]
  exact ⟨e, by unfold cO; rw [e, if_pos rfl]⟩
theorem uOk {A B : Option Addr} {c d : Nat} {a b : List Sp} {w : World} (ha : SL w A c a) (hb : SL w B d b) (va : validE a = 0) (vb : validE b = 0) {o : List Sp} (ho : o = combo kOr [a, b]) (hn : o.length ≤ 64) :
    Calls Try.prog 25 #[.slice A a.length c, .slice B b.length d] w (RetN o 0 w) := by
  have H := sC0 A B c d a b w ha hb
  rw [← ho, (cO_ok va vb hn).1, (cO_ok va vb hn).2] at H
  exact H
theorem mOk {A B : Option Addr} {c d : Nat} {a b : List Sp} {w : World} (ha : SL w A c a) (hb : SL w B d b) (va : validE a = 0) (vb : validE b = 0) {o : List Sp} (ho : o = combo kAnd [a, b]) (hn : o.length ≤ 64) :
    Calls Try.prog 26 #[.slice A a.length c, .slice B b.length d] w (RetN o 0 w) := by
  have H := sC1 A B c d a b w ha hb
  rw [← ho, (cO_ok va vb hn).1, (cO_ok va vb hn).2] at H
  exact H
theorem dOk {A B : Option Addr} {c d : Nat} {a b : List Sp} {w : World} (ha : SL w A c a) (hb : SL w B d b) (va : validE a = 0) (vb : validE b = 0) {o : List Sp} (ho : o = combo kMinus [a, b]) (hn : o.length ≤ 64) :
    Calls Try.prog 27 #[.slice A a.length c, .slice B b.length d] w (RetN o 0 w) := by
  have H := sC2 A B c d a b w ha hb
  rw [← ho, (cO_ok va vb hn).1, (cO_ok va vb hn).2] at H
  exact H
theorem nOk {A : Option Addr} {c : Nat} {a : List Sp} {t : Int} {w : World} (ha : SL w A c a) (va : validE a = 0) (ht : 0 ≤ t ∧ t ≤ 1114111) {o : List Sp} (ho : o = notL a t) (hn : o.length ≤ 64) :
    Calls Try.prog 32 #[.slice A a.length c, .int .i64 t] w (RetN o 0 w) := by
  subst ho
  refine (not_any A c a t w ha va ht).mono ?_
  rintro e w' (⟨h64, _, _⟩ | ⟨_, S, cS, rfl, hS, x, _⟩)
  · omega
  · exact ⟨S, cS, rfl, hS, x⟩
theorem cOk {A : Option Addr} {c : Nat} {a : List Sp} {w : World} (ha : SL w A c a) (va : validE a = 0) {n : Int} (hn : n = cntS a) :
    Calls Try.prog 29 #[.slice A a.length c] w (fun e w' => e = .returned (.tuple #[.int .i64 n, .int .i64 0]) ∧ Ext w w') := by
  refine (sCount_any A c a w ha).mono ?_
  rintro e w' ⟨rfl, x⟩
  refine ⟨?_, x⟩
  rw [va, if_pos rfl, hn]
theorem eOk {A B : Option Addr} {c d : Nat} {a b : List Sp} {w : World} (ha : SL w A c a) (hb : SL w B d b) (h : a = b) :
    Calls Try.prog 24 #[.slice A a.length c, .slice B b.length d] w (RetV (.bool true) w) := by
  have H := sEqual_any A B c d a b w ha hb
  rw [decide_eq_true h] at H
  exact H
theorem cnt_small {a : List Sp} (ha : OkL a) (hn : a.length ≤ 64) : 0 ≤ cntS a ∧ cntS a ≤ 100000000 := by
  have := cntS_bound a (okL_good ha)
  omega

set_option maxRecDepth 100000 in
set_option maxHeartbeats 8000000 in
theorem SetsAlgebra_any (A : Option Addr) (c : Nat) (l : List Int) (B : Option Addr) (d : Nat) (k : List Int) (C : Option Addr) (f : Nat) (n : List Int) (w : World) (hl : IL w A c l) (hk : IL w B d k) (hn : IL w C f n) :
    Calls Try.prog 7 #[.slice A l.length c, .slice B k.length d, .slice C n.length f] w (RetV (.bool true) w) := by
  have hcap := hl.len
  have hcap2 := hk.len
  have hcap3 := hn.len
  have HS := Lib.hid (gSet_any A c l 8 w hl (by omega))
  go_enter Try.func7, Try.ntmps7
  go_wp2_with fail
  refine HS.out.mono ?_
  rintro e w1 ⟨Sa, ca, la, rfl, sa, na, _, oa, X⟩
  have HS2 := Lib.hid (gSet_any B d k 8 w1 (hk.ext X) (by omega))
  clear HS
  go_wp2_with fail
  refine HS2.out.mono ?_
  rintro e w2 ⟨Sb, cb, lb, rfl, sb, nb, _, ob, x⟩
  replace sa := sa.ext x
  replace X := X.trans x
  have HS3 := Lib.hid (gSet_any C f n 8 w2 (hn.ext X) (by omega))
  clear HS2 x
  go_wp2_with fail
  refine HS3.out.mono ?_
  rintro e w3 ⟨Sc, cc, lc, rfl, sc, nc, _, oc, x⟩
  replace sa := sa.ext x
  replace sb := sb.ext x
  replace X := X.trans x
  clear HS3 x hl hk hn
  obtain ⟨lab, hab⟩ : ∃ x, x = combo kOr [la, lb] := ⟨_, rfl⟩
  obtain ⟨lba, hba⟩ : ∃ x, x = combo kOr [lb, la] := ⟨_, rfl⟩
  obtain ⟨lm, hm⟩ : ∃ x, x = combo kAnd [la, lb] := ⟨_, rfl⟩
  obtain ⟨lo, ho⟩ : ∃ x, x = combo kAnd [lb, la] := ⟨_, rfl⟩
  obtain ⟨ld, hd⟩ : ∃ x, x = combo kMinus [la, lb] := ⟨_, rfl⟩
  obtain ⟨lt, ht⟩ : ∃ x, x = notL lb 1114111 := ⟨_, rfl⟩
  obtain ⟨lh, hh⟩ : ∃ x, x = combo kAnd [la, lt] := ⟨_, rfl⟩
  obtain ⟨lk, hk⟩ : ∃ x, x = notL lt 1114111 := ⟨_, rfl⟩
  obtain ⟨ll, hl⟩ : ∃ x, x = combo kOr [lab, lc] := ⟨_, rfl⟩
  obtain ⟨lbc, hbc⟩ : ∃ x, x = combo kOr [lb, lc] := ⟨_, rfl⟩
  obtain ⟨lr, hr⟩ : ∃ x, x = combo kOr [la, lbc] := ⟨_, rfl⟩
  have oab : OkL lab := hab ▸ two_okl rfl oa ob
  have oba : OkL lba := hba ▸ two_okl rfl ob oa
  have om : OkL lm := hm ▸ two_okl rfl oa ob
  have oo : OkL lo := ho ▸ two_okl rfl ob oa
  have od : OkL ld := hd ▸ two_okl rfl oa ob
  have ot : OkL lt := ht ▸ not_okl ob (by omega)
  have oh : OkL lh := hh ▸ two_okl rfl oa ot
  have ok : OkL lk := hk ▸ not_okl ot (by omega)
  have ol : OkL ll := hl ▸ two_okl rfl oab oc
  have obc : OkL lbc := hbc ▸ two_okl rfl ob oc
  have or_ : OkL lr := hr ▸ two_okl rfl oa obc
  have nab : lab.length ≤ 16 := by have := or_len oa ob; rw [← hab] at this; omega
  have nba : lba.length ≤ 16 := by have := or_len ob oa; rw [← hba] at this; omega
  have nm : lm.length ≤ 32 := by have := (two_law (k := kAnd) rfl oa ob).2.2.2; rw [← hm] at this; omega
  have no : lo.length ≤ 32 := by have := (two_law (k := kAnd) rfl ob oa).2.2.2; rw [← ho] at this; omega
  have nd : ld.length ≤ 32 := by have := (two_law (k := kMinus) rfl oa ob).2.2.2; rw [← hd] at this; omega
  have nt : lt.length ≤ 18 := by have := not_len (t := 1114111) ob (by omega); rw [← ht] at this; omega
  have nh : lh.length ≤ 52 := by have := (two_law (k := kAnd) rfl oa ot).2.2.2; rw [← hh] at this; omega
  have nk : lk.length ≤ 38 := by have := not_len (t := 1114111) ot (by omega); rw [← hk] at this; omega
  have nl : ll.length ≤ 24 := by have := or_len oab oc; rw [← hl] at this; omega
  have nbc : lbc.length ≤ 16 := by have := or_len ob oc; rw [← hbc] at this; omega
  have nr : lr.length ≤ 24 := by have := or_len oa obc; rw [← hr] at this; omega
  have q1 : lab = lba := by rw [hab, hba]; exact alg_comm rfl (fun x y => Bool.or_comm x y) oa ob
  have q2 : lm = lo := by rw [hm, ho]; exact alg_comm rfl (fun x y => Bool.and_comm x y) oa ob
  have q3 : lh = ld := by rw [hh, hd, ht]; exact alg_minus oa ob
  have q4 : lk = lb := by rw [hk, ht]; exact alg_back ob
  have q5 : ll = lr := by rw [hl, hr, hab, hbc]; exact alg_assoc oa ob oc
  obtain ⟨nx, hnx⟩ : ∃ x, x = cntS lab := ⟨_, rfl⟩
  obtain ⟨ny, hny⟩ : ∃ x, x = cntS lm := ⟨_, rfl⟩
  obtain ⟨nz, hnz⟩ : ∃ x, x = cntS la := ⟨_, rfl⟩
  obtain ⟨nu, hnu⟩ : ∃ x, x = cntS lb := ⟨_, rfl⟩
  obtain ⟨nv, hnv⟩ : ∃ x, x = cntS lt := ⟨_, rfl⟩
  obtain ⟨nw, hnw⟩ : ∃ x, x = cntS ld := ⟨_, rfl⟩
  have bx := cnt_small oab (by omega)
  have by_ := cnt_small om (by omega)
  have bz := cnt_small oa (by omega)
  have bu := cnt_small ob (by omega)
  have bv := cnt_small ot (by omega)
  have bw := cnt_small od (by omega)
  have r1 : nx + ny = nz + nu := by rw [hnx, hny, hnz, hnu, hab, hm]; exact alg_cnt oa ob
  have r2 : nv + nu = 1114112 := by rw [hnv, hnu, ht]; exact alg_cntN ob
  have r3 : nw + ny = nz := by rw [hnw, hny, hnz, hd, hm]; exact alg_cntM oa ob
  rw [← hnx] at bx
  rw [← hny] at by_
  rw [← hnz] at bz
  rw [← hnu] at bu
  rw [← hnv] at bv
  rw [← hnw] at bw
  replace hab := Lib.hid hab
  replace hba := Lib.hid hba
  replace hm := Lib.hid hm
  replace ho := Lib.hid ho
  replace hd := Lib.hid hd
  replace ht := Lib.hid ht
  replace hh := Lib.hid hh
  replace hk := Lib.hid hk
  replace hl := Lib.hid hl
  replace hbc := Lib.hid hbc
  replace hr := Lib.hid hr
  replace q1 := Lib.hid q1
  replace q2 := Lib.hid q2
  replace q3 := Lib.hid q3
  replace q4 := Lib.hid q4
  replace q5 := Lib.hid q5
  replace hnx := Lib.hid hnx
  replace hny := Lib.hid hny
  replace hnz := Lib.hid hnz
  replace hnu := Lib.hid hnu
  replace hnv := Lib.hid hnv
  replace hnw := Lib.hid hnw
  replace r1 := Lib.hid r1
  replace r2 := Lib.hid r2
  replace r3 := Lib.hid r3
  have va := Lib.hid (okl_set oa (by omega))
  have vb := Lib.hid (okl_set ob (by omega))
  have vc := Lib.hid (okl_set oc (by omega))
  have vab := Lib.hid (okl_set oab (by omega))
  have vt := Lib.hid (okl_set ot (by omega))
  have vbc := Lib.hid (okl_set obc (by omega))
  have vm := Lib.hid (okl_set om (by omega))
  have vd := Lib.hid (okl_set od (by omega))
  clear oa ob oc oab oba om oo od ot oh ok ol obc or_
  have HX := Lib.hid (uOk sa sb va.out vb.out hab.out (by omega))
  go_wp2_with fail
  refine HX.out.mono ?_
  rintro e w4 ⟨Sab, cab, rfl, sab, x⟩
  replace sa := sa.ext x
  replace sb := sb.ext x
  replace sc := sc.ext x
  replace X := X.trans x
  clear HX x
  have HX := Lib.hid (uOk sb sa vb.out va.out hba.out (by omega))
  go_wp2_with fail
  refine HX.out.mono ?_
  rintro e w5 ⟨Sba, cba, rfl, sba, x⟩
  replace sa := sa.ext x
  replace sb := sb.ext x
  replace sc := sc.ext x
  replace sab := sab.ext x
  replace X := X.trans x
  clear HX x
  have HX := Lib.hid (mOk sa sb va.out vb.out hm.out (by omega))
  go_wp2_with fail
  refine HX.out.mono ?_
  rintro e w6 ⟨Sm, cm, rfl, sm, x⟩
  replace sa := sa.ext x
  replace sb := sb.ext x
  replace sc := sc.ext x
  replace sab := sab.ext x
  replace sba := sba.ext x
  replace X := X.trans x
  clear HX x
  have HX := Lib.hid (mOk sb sa vb.out va.out ho.out (by omega))
  go_wp2_with fail
  refine HX.out.mono ?_
  rintro e w7 ⟨So, co, rfl, so, x⟩
  replace sa := sa.ext x
  replace sb := sb.ext x
  replace sc := sc.ext x
  replace sab := sab.ext x
  replace sba := sba.ext x
  replace sm := sm.ext x
  replace X := X.trans x
  clear HX x
  have HX := Lib.hid (dOk sa sb va.out vb.out hd.out (by omega))
  go_wp2_with fail
  refine HX.out.mono ?_
  rintro e w8 ⟨Sd, cd, rfl, sd, x⟩
  replace sa := sa.ext x
  replace sb := sb.ext x
  replace sc := sc.ext x
  replace sab := sab.ext x
  replace sba := sba.ext x
  replace sm := sm.ext x
  replace so := so.ext x
  replace X := X.trans x
  clear HX x
  have HX := Lib.hid (nOk sb vb.out (by omega) ht.out (by omega))
  go_wp2_with fail
  refine HX.out.mono ?_
  rintro e w9 ⟨St, ct, rfl, st, x⟩
  replace sa := sa.ext x
  replace sb := sb.ext x
  replace sc := sc.ext x
  replace sab := sab.ext x
  replace sba := sba.ext x
  replace sm := sm.ext x
  replace so := so.ext x
  replace sd := sd.ext x
  replace X := X.trans x
  clear HX x
  have HX := Lib.hid (eOk sab sba q1.out)
  go_wp2_with fail
  refine HX.out.mono ?_
  rintro e w10 ⟨rfl, x⟩
  replace sa := sa.ext x
  replace sb := sb.ext x
  replace sc := sc.ext x
  replace sab := sab.ext x
  replace sm := sm.ext x
  replace so := so.ext x
  replace sd := sd.ext x
  replace st := st.ext x
  replace X := X.trans x
  clear HX x sba
  have HX := Lib.hid (eOk sm so q2.out)
  go_wp2_with fail
  refine HX.out.mono ?_
  rintro e w11 ⟨rfl, x⟩
  replace sa := sa.ext x
  replace sb := sb.ext x
  replace sc := sc.ext x
  replace sab := sab.ext x
  replace sm := sm.ext x
  replace sd := sd.ext x
  replace st := st.ext x
  replace X := X.trans x
  clear HX x so
  have HX := Lib.hid (mOk sa st va.out vt.out hh.out (by omega))
  go_wp2_with fail
  refine HX.out.mono ?_
  rintro e w12 ⟨Sh, ch, rfl, sh, x⟩
  replace sa := sa.ext x
  replace sb := sb.ext x
  replace sc := sc.ext x
  replace sab := sab.ext x
  replace sm := sm.ext x
  replace sd := sd.ext x
  replace st := st.ext x
  replace X := X.trans x
  clear HX x
  have HX := Lib.hid (nOk st vt.out (by omega) hk.out (by omega))
  go_wp2_with fail
  refine HX.out.mono ?_
  rintro e w13 ⟨Sk, ck, rfl, sk, x⟩
  replace sa := sa.ext x
  replace sb := sb.ext x
  replace sc := sc.ext x
  replace sab := sab.ext x
  replace sm := sm.ext x
  replace sd := sd.ext x
  replace st := st.ext x
  replace sh := sh.ext x
  replace X := X.trans x
  clear HX x
  have HX := Lib.hid (uOk sab sc vab.out vc.out hl.out (by omega))
  go_wp2_with fail
  refine HX.out.mono ?_
  rintro e w14 ⟨Sl, cl, rfl, sl, x⟩
  replace sa := sa.ext x
  replace sb := sb.ext x
  replace sc := sc.ext x
  replace sab := sab.ext x
  replace sm := sm.ext x
  replace sd := sd.ext x
  replace st := st.ext x
  replace sh := sh.ext x
  replace sk := sk.ext x
  replace X := X.trans x
  clear HX x
  have HX := Lib.hid (uOk sb sc vb.out vc.out hbc.out (by omega))
  go_wp2_with fail
  refine HX.out.mono ?_
  rintro e w15 ⟨Sbc, cbc, rfl, sbc, x⟩
  replace sa := sa.ext x
  replace sb := sb.ext x
  replace sc := sc.ext x
  replace sab := sab.ext x
  replace sm := sm.ext x
  replace sd := sd.ext x
  replace st := st.ext x
  replace sh := sh.ext x
  replace sk := sk.ext x
  replace sl := sl.ext x
  replace X := X.trans x
  clear HX x
  have HX := Lib.hid (uOk sa sbc va.out vbc.out hr.out (by omega))
  go_wp2_with fail
  refine HX.out.mono ?_
  rintro e w16 ⟨Sr, cr, rfl, sr, x⟩
  replace sa := sa.ext x
  replace sb := sb.ext x
  replace sc := sc.ext x
  replace sab := sab.ext x
  replace sm := sm.ext x
  replace sd := sd.ext x
  replace st := st.ext x
  replace sh := sh.ext x
  replace sk := sk.ext x
  replace sl := sl.ext x
  replace sbc := sbc.ext x
  replace X := X.trans x
  clear HX x
  have HX := Lib.hid (cOk sab vab.out hnx.out)
  go_wp2_with fail
  refine HX.out.mono ?_
  rintro e w17 ⟨rfl, x⟩
  replace sa := sa.ext x
  replace sb := sb.ext x
  replace sc := sc.ext x
  replace sab := sab.ext x
  replace sm := sm.ext x
  replace sd := sd.ext x
  replace st := st.ext x
  replace sh := sh.ext x
  replace sk := sk.ext x
  replace sl := sl.ext x
  replace sbc := sbc.ext x
  replace sr := sr.ext x
  replace X := X.trans x
  clear HX x
  have HX := Lib.hid (cOk sm vm.out hny.out)
  go_wp2_with fail
  refine HX.out.mono ?_
  rintro e w18 ⟨rfl, x⟩
  replace sa := sa.ext x
  replace sb := sb.ext x
  replace sc := sc.ext x
  replace sab := sab.ext x
  replace sm := sm.ext x
  replace sd := sd.ext x
  replace st := st.ext x
  replace sh := sh.ext x
  replace sk := sk.ext x
  replace sl := sl.ext x
  replace sbc := sbc.ext x
  replace sr := sr.ext x
  replace X := X.trans x
  clear HX x
  have HX := Lib.hid (cOk sa va.out hnz.out)
  go_wp2_with fail
  refine HX.out.mono ?_
  rintro e w19 ⟨rfl, x⟩
  replace sa := sa.ext x
  replace sb := sb.ext x
  replace sc := sc.ext x
  replace sab := sab.ext x
  replace sm := sm.ext x
  replace sd := sd.ext x
  replace st := st.ext x
  replace sh := sh.ext x
  replace sk := sk.ext x
  replace sl := sl.ext x
  replace sbc := sbc.ext x
  replace sr := sr.ext x
  replace X := X.trans x
  clear HX x
  have HX := Lib.hid (cOk sb vb.out hnu.out)
  go_wp2_with fail
  refine HX.out.mono ?_
  rintro e w20 ⟨rfl, x⟩
  replace sa := sa.ext x
  replace sb := sb.ext x
  replace sc := sc.ext x
  replace sab := sab.ext x
  replace sm := sm.ext x
  replace sd := sd.ext x
  replace st := st.ext x
  replace sh := sh.ext x
  replace sk := sk.ext x
  replace sl := sl.ext x
  replace sbc := sbc.ext x
  replace sr := sr.ext x
  replace X := X.trans x
  clear HX x
  have HX := Lib.hid (cOk st vt.out hnv.out)
  go_wp2_with fail
  refine HX.out.mono ?_
  rintro e w21 ⟨rfl, x⟩
  replace sa := sa.ext x
  replace sb := sb.ext x
  replace sc := sc.ext x
  replace sab := sab.ext x
  replace sm := sm.ext x
  replace sd := sd.ext x
  replace st := st.ext x
  replace sh := sh.ext x
  replace sk := sk.ext x
  replace sl := sl.ext x
  replace sbc := sbc.ext x
  replace sr := sr.ext x
  replace X := X.trans x
  clear HX x
  have HX := Lib.hid (cOk sd vd.out hnw.out)
  go_wp2_with fail
  refine HX.out.mono ?_
  rintro e w22 ⟨rfl, x⟩
  replace sa := sa.ext x
  replace sb := sb.ext x
  replace sc := sc.ext x
  replace sab := sab.ext x
  replace sm := sm.ext x
  replace sd := sd.ext x
  replace st := st.ext x
  replace sh := sh.ext x
  replace sk := sk.ext x
  replace sl := sl.ext x
  replace sbc := sbc.ext x
  replace sr := sr.ext x
  replace X := X.trans x
  clear HX x
  have HX := Lib.hid (eOk sh sd q3.out)
  go_wp2_with fail
  refine HX.out.mono ?_
  rintro e w23 ⟨rfl, x⟩
  replace sa := sa.ext x
  replace sb := sb.ext x
  replace sc := sc.ext x
  replace sab := sab.ext x
  replace sm := sm.ext x
  replace st := st.ext x
  replace sk := sk.ext x
  replace sl := sl.ext x
  replace sbc := sbc.ext x
  replace sr := sr.ext x
  replace X := X.trans x
  clear HX x sh sd
  have HX := Lib.hid (eOk sk sb q4.out)
  go_wp2_with fail
  refine HX.out.mono ?_
  rintro e w24 ⟨rfl, x⟩
  replace sa := sa.ext x
  replace sc := sc.ext x
  replace sab := sab.ext x
  replace sm := sm.ext x
  replace st := st.ext x
  replace sl := sl.ext x
  replace sbc := sbc.ext x
  replace sr := sr.ext x
  replace X := X.trans x
  clear HX x sk sb
  have wr1 : IntKind.i64.wrap (nx + ny) = nx + ny := by rw [IntKind.wrap_i64]; omega
  have wr2 : IntKind.i64.wrap (nz + nu) = nz + nu := by rw [IntKind.wrap_i64]; omega
  have wr3 : IntKind.i64.wrap (nv + nu) = nv + nu := by rw [IntKind.wrap_i64]; omega
  have wr4 : IntKind.i64.wrap (nw + ny) = nw + ny := by rw [IntKind.wrap_i64]; omega
  have tr1 : (nx + ny == nz + nu) = true := by rw [r1.out]; simp
  have tr2 : (nv + nu == 1114112) = true := by rw [r2.out]; rfl
  have tr3 : (nw + ny == nz) = true := by rw [r3.out]; simp
  have HX := Lib.hid (eOk sl sr q5.out)
  go_wp2_with fail
  refine HX.out.mono ?_
  rintro e w25 ⟨rfl, x⟩
  replace sa := sa.ext x
  replace sc := sc.ext x
  replace sab := sab.ext x
  replace sm := sm.ext x
  replace st := st.ext x
  replace sbc := sbc.ext x
  replace X := X.trans x
  clear HX x sl sr
  clear sa sc sab sm st sbc
  go_wp2_with fail
  refine (slives_any _).mono ?_
  rintro e wz ⟨rfl, x⟩
  replace X := X.trans x
  go_wp2_with fail
  go_ret
  exact ⟨rfl, X⟩
end Go.Proofs.Ytlbdjnbcoldjhaa
