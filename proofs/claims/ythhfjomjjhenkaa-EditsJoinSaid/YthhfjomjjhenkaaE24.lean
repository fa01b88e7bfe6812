/- The plain law of joining, and the walk of EditsJoin. -/
import Derived.Test.YthhfjomjjhenkaaE23
import Derived.Test.YthhfjomjjhenkaaE20
import Derived.Test.YthhfjomjjhenkaaE12
import Derived.Test.YthhfjomjjhenkaaE13
namespace Go.Proofs.Ythhfjomjjhenkaa
open Go.RowKit
attribute [local go_sem ↓] Go.wp_at_zero Go.wp_at_succ

theorem spliceL_take {t : List Int} {a d : Int} {l : List Int} {k : Nat} (hk : (k : Int) ≤ a) (hk2 : a ≤ t.length) : (spliceL t a d l).take k = t.take k := by
  simp only [spliceL]
  rw [List.append_assoc, List.take_append_of_le_length (by simp; omega), List.take_take, Nat.min_eq_left (by omega)]
theorem spliceL_drop {t : List Int} {a d : Int} {l : List Int} {k : Nat} (ha : 0 ≤ a) (hd : 0 ≤ d) (had : a + d ≤ t.length) (hk : (k : Int) ≤ t.length - a - d) : (spliceL t a d l).drop ((spliceL t a d l).length - k) = t.drop (t.length - k) := by
  have h1 := spliceL_len (l := l) ha hd had
  have e : (spliceL t a d l).length - k = a.toNat + l.length + (t.length - k - (a + d).toNat) := by omega
  rw [e]
  simp only [spliceL]
  have e2 : (List.take a.toNat t ++ l).length = a.toNat + l.length := by simp; omega
  rw [List.drop_append, List.drop_eq_nil_of_le (by omega), e2, List.nil_append, List.drop_drop]
  congr 1; omega
theorem splice_ends {t s : List Int} {p q : Nat} (h1 : t.take p = s.take p) (h2 : t.drop (t.length - q) = s.drop (s.length - q)) (h3 : p + q ≤ t.length) (h4 : p + q ≤ s.length) :
    spliceL t p ((t.length : Int) - q - p) ((s.drop p).take (s.length - q - p)) = s := by
  have e2 : ((p : Int) + ((t.length : Int) - q - p)).toNat = t.length - q := by omega
  have e3 : s.length - q - p + p = s.length - q := by omega
  have e4 : s.take p ++ (s.drop p).take (s.length - q - p) = s.take (s.length - q) := by
    conv => rhs; rw [show s.length - q = p + (s.length - q - p) by omega, List.take_add]
  simp only [spliceL, Int.toNat_natCast]
  rw [e2, h1, h2, e4, List.take_append_drop]

theorem join_law {t : List Int} {a b : Ed} (ht : t.all symOk = true) (ha : EdOf t.length a) (hb : EdOf (spliceE t a).length b) :
    spliceE t (joinE t a b) = spliceE (spliceE t a) b ∧ EdOf t.length (joinE t a b) := by
  have hbd := join_bd ha hb
  have hs : (spliceE (spliceE t a) b).all symOk = true := spliceL_sym (spliceL_sym ht ha.2.2.2) hb.2.2.2
  have k1 : (spliceE (spliceE t a) b).take (joinAt a b) = t.take (joinAt a b) := by
    have := ha.1; have := hb.1; have := ha.2.1; have := ha.2.2.1; have := hb.2.1; have := hb.2.2.1
    exact (spliceL_take (by unfold joinAt; omega) (by change b.at_ ≤ ((spliceE t a).length : Int); omega)).trans (spliceL_take (by unfold joinAt; omega) (by omega))
  have k2 : (spliceE (spliceE t a) b).drop ((spliceE (spliceE t a) b).length - joinStay t a b) = t.drop (t.length - joinStay t a b) := by
    have h1 := ha.1; have h2 := hb.1; have h3 := ha.2.1; have h4 := ha.2.2.1; have h5 := hb.2.1; have h6 := hb.2.2.1
    exact (spliceL_drop h2 h5 h6 (by unfold joinStay; change _ ≤ ((spliceE t a).length : Int) - _ - _; omega)).trans (spliceL_drop h1 h3 h4 (by unfold joinStay; omega))
  refine ⟨splice_ends k1.symm k2.symm hbd.2 hbd.1, by simp [joinE], ?_, ?_, ?_⟩
  · simp only [joinE]; omega
  · simp only [joinE]; omega
  · rw [List.all_eq_true] at hs ⊢
    intro x hx
    exact hs x (List.mem_of_mem_drop (List.mem_of_mem_take hx))
theorem editErr_zero' {n : Nat} {e : Ed} (h : EdOf n e) (hn : (n : Int) - e.del + e.ins.length ≤ 65536) : editErr n e.at_ e.del e.ins = 0 := by
  obtain ⟨h1, h2, h3, h4⟩ := h
  unfold editErr
  rw [if_pos (by omega), if_pos h4, if_neg (by omega)]

/-- what is known of the two ways to join -/
structure JoinF (t s : List Int) (a o : Ed) (x : Ed) (err : Int) (u : List Int) : Prop where
  yes : err = 0 → x = joinE t a o ∧ u = spliceE t x ∧ EdOf s.length o ∧ editErr t.length x.at_ x.del x.ins = 0 ∧ EdOf t.length x
  no : err ≠ 0 → x = ⟨0, 0, []⟩
  xd : I64 x.del
  xl : x.ins.length ≤ 1000000

theorem joins_any (T S : Option Addr) (tc sc : Nat) (t s : List Int) (a o : Ed) (A B : Option Addr) (c c' : Nat) (w : World) (ht : IL w T tc t) (hs : IL w S sc s) (hl : IL w A c a.ins) (hl' : IL w B c' o.ins)
    (hsy : t.all symOk = true) (hss : s = spliceE t a) (ea : EdOf t.length a) (h1 : t.length ≤ 1000) (h2 : a.ins.length ≤ 1000) (h3 : o.ins.length ≤ 1000) (hd : I64 o.del) :
    ∃ x err u, JoinF t s a o x err u ∧
      (∀ W, Ext w W → Calls Try.prog 28 #[.slice T t.length tc, .agg #[.int .i64 a.at_, .int .i64 a.del, .slice A a.ins.length c], .agg #[.int .i64 o.at_, .int .i64 o.del, .slice B o.ins.length c']] W (RetEdE x err W)) ∧
      (∀ W, Ext w W → Calls Try.prog 23 #[.slice S s.length sc, .agg #[.int .i64 o.at_, .int .i64 o.del, .slice B o.ins.length c']] W (RetSp u err W)) := by
  subst hss
  have hsl := spliceE_len ea
  have g1 := ea.1
  have g2 := ea.2.1
  have g3 := ea.2.2.1
  have z1 := editErr_zero ea (by omega)
  have hda : I64 a.del := I64_of (by omega)
  by_cases he : editErr (spliceE t a).length o.at_ o.del o.ins = 0
  · have eo := EdOf_of_err he
    have jl := join_law hsy ea eo
    have hbd := join_bd ea eo
    have h5 := (editErr_ok he).2.2.2.2
    have hsl2 := spliceE_len eo
    have jz : editErr t.length (joinE t a o).at_ (joinE t a o).del (joinE t a o).ins = 0 := by
      refine editErr_zero' jl.2 ?_
      have := spliceE_len jl.2
      rw [jl.1] at this
      omega
    have jd := jl.2.2.1
    have jd2 := jl.2.2.2.1
    have jd3 := jl.2.1
    refine ⟨joinE t a o, 0, spliceE (spliceE t a) o, ⟨fun _ => ⟨rfl, jl.1.symm, eo, jz, jl.2⟩, fun h => absurd rfl h, I64_of (by omega), ?_⟩, fun W hW => ?_, fun W hW => ?_⟩
    · simp only [joinE, List.length_take, List.length_drop]; omega
    · exact join_ok T tc t a o A B c c' W (ht.ext hW) (hl.ext hW) (hl'.ext hW) hda hd (by omega) (by omega) (by omega) z1 he
    · exact splice_ok S sc _ o.at_ o.del B c' o.ins W (hs.ext hW) (hl'.ext hW) hd (by omega) (by omega) he
  · refine ⟨⟨0, 0, []⟩, _, [], ⟨fun h => absurd h he, fun _ => rfl, I64_of (by simp), by simp⟩, fun W hW => ?_, fun W hW => ?_⟩
    · exact join_no2 T tc t a o A B c c' W (ht.ext hW) (hl.ext hW) (hl'.ext hW) hda hd (by omega) (by omega) (by omega) z1 he
    · exact splice_no S sc _ o.at_ o.del B c' o.ins W (hs.ext hW) (hl'.ext hW) hd (by omega) (by omega) he

theorem joins_back (T : Option Addr) (tc : Nat) (t : List Int) (a o : Ed) (A B : Option Addr) (c c' : Nat) (w : World) (ht : IL w T tc t) (hl : IL w A c a.ins) (hl' : IL w B c' o.ins)
    (ea : EdOf t.length a) (h1 : t.length ≤ 1000) (h2 : a.ins.length ≤ 1000) (h3 : o.ins.length ≤ 1000) (hd : I64 o.del) :
    ∃ x err, (editErr t.length o.at_ o.del o.ins = 0 ∨ err = editErr t.length o.at_ o.del o.ins) ∧
      (∀ W, Ext w W → Calls Try.prog 28 #[.slice T t.length tc, .agg #[.int .i64 o.at_, .int .i64 o.del, .slice B o.ins.length c'], .agg #[.int .i64 a.at_, .int .i64 a.del, .slice A a.ins.length c]] W (RetEdE x err W)) := by
  have g1 := ea.1
  have g2 := ea.2.1
  have g3 := ea.2.2.1
  have hda : I64 a.del := I64_of (by omega)
  by_cases he : editErr t.length o.at_ o.del o.ins = 0
  · by_cases he2 : editErr (spliceE t o).length a.at_ a.del a.ins = 0
    · exact ⟨_, _, .inl he, fun W hW => join_ok T tc t o a B A c' c W (ht.ext hW) (hl'.ext hW) (hl.ext hW) hd hda (by omega) (by omega) (by omega) he he2⟩
    · exact ⟨_, _, .inl he, fun W hW => join_no2 T tc t o a B A c' c W (ht.ext hW) (hl'.ext hW) (hl.ext hW) hd hda (by omega) (by omega) (by omega) he he2⟩
  · exact ⟨_, _, .inr rfl, fun W hW => join_no1 T tc t o a B A c' c W (ht.ext hW) (hl'.ext hW) hd (by omega) (by omega) he⟩
end Go.Proofs.Ythhfjomjjhenkaa
