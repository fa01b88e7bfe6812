/- Small laws for the generators of the reference: appending one span, what a generator returns. -/
import Derived.Test.YtlbdjnbcoldjhaaG8
namespace Go.Proofs.Ytlbdjnbcoldjhaa
open Go.RowKit

def Small (s : Sp) : Prop := (-1000000000 ≤ s.1 ∧ s.1 ≤ 1000000000) ∧ -1000000000 ≤ s.2 ∧ s.2 ≤ 1000000000
theorem Small.s64 {s : Sp} (h : Small s) : S64 s := by
  unfold Small at h; exact ⟨by unfold I64; omega, by unfold I64; omega⟩
theorem good_small {s : Sp} (h : goodS s) : Small s := by
  unfold goodS at h; unfold Small; omega

/-- 'xs = append(xs, s)', one span that lies in a new block of its own; ys: how the new list is to be written -/
theorem wpList_app1S {w1 w : World} {ops : Array Oper} {rest : List Oper} {o : Oper} {a : Act} {Q : Exit → Act → World → Prop} (hgd : o.guard = none) (s x : Operand) (t : Nat)
    (ho : o.op = .call { callee := .builtin .append, args := #[s, x], argTypes := #[t, t] }) (ht : Try.prog.underlying t = some (.slice 48))
    (a0 : World) (hext : Ext a0 w1) (v : Sp) (hw : w = w1.alloc (.cells #[.int .i64 v.1, .int .i64 v.2] 48))
    (A : Option Addr) (c : Nat) (xs : List Sp) (hs : a.eval s = .slice A xs.length c) (hown : OwnP w1 a0.heap.size A c xs)
    (hx : a.eval x = .slice (some ⟨w1.heap.size, 0, none⟩) 1 1) (hb : xs.length ≤ 1000000) (ys : List Sp) (hys : ys = xs ++ [v])
    (h : ∀ A' c' w', OwnP w' a0.heap.size A' c' ys → Ext a0 w' → wpList Try.prog ops Q rest (a.put o.dst (.slice A' ys.length c')) w') : wpList Try.prog ops Q (o :: rest) a w := by
  obtain ⟨iS, jS0, jS1, jS2, jS3⟩ := info_parts infoS
  subst hw
  have e1 := Ext.alloc w1 (.cells #[.int .i64 v.1, .int .i64 v.2] 48)
  have hnb := Blk.new w1 48 (flatS [v]).toArray
  refine wpList_app _ hgd s x t ho a0.heap.size 48 iS _ 2 16 ht jS0 jS1 jS2 jS3 rfl (by omega) A xs.length c (flatS xs) hs (OwnS.ext hown e1) _ 1 1 (flatS [v]) hx rfl (blk_cells hnb) (flatS_one _) (by unfold maxLen; omega) (by omega) (hext.trans e1).size ?_
  intro A' c' w' ho' hg hat
  have hl : ys.length = xs.length + 1 := by rw [hys]; simp
  rw [← hl] at ho' ⊢
  refine h A' c' w' ?_ (Ext.app (hext.trans e1) (OwnS.ext hown e1) hg)
  subst hys
  unfold OwnP
  rw [flatS_append]
  exact ho'

/-- what a generator returns: spans, at most n of them, none of them with great ends -/
def RetGen (n : Nat) (w : World) (e : Ending) (w' : World) : Prop := ∃ (A : Option Addr) (c : Nat) (l : List Sp), e = .returned (.slice A l.length c) ∧ SL w' A c l ∧ l.length ≤ n ∧ (∀ s ∈ l, Small s) ∧ Ext w w'
theorem OwnP.small {w : World} {base c : Nat} {A : Option Addr} {l : List Sp} (h : OwnP w base A c l) (hg : ∀ s ∈ l, Small s) : SL w A c l := SL.of_own h (fun s hs => (hg s hs).s64)

def around (n m : Int) : Int := (if n < 0 then -(n+1) else n) % m

theorem around_bd (n m : Int) (h : 1 ≤ m) : 0 ≤ around n m ∧ around n m < m :=
  ⟨Int.emod_nonneg _ (by omega), Int.emod_lt_of_pos _ (by omega)⟩

set_option maxHeartbeats 400000 in
theorem around_any (n m : Int) (w : World) (hn : I64 n) (h0 : 1 ≤ m) (h1 : m ≤ 4294967296) :
    Calls Try.prog 12 #[.int .i64 n, .int .i64 m] w (RetQ (.int .i64 (around n m)) w) := by
  obtain ⟨h2, h3⟩ := hn
  by_cases h : n < 0
  · have e : around n m = -(n + 1) % m := by simp [around, h]
    have E := Lib.hid e
    clear e
    have h4 : -(n + 1) ≥ 0 := by omega
    go_enter Try.func12, Try.ntmps12
    go_wp2
    go_ret
    refine ⟨?_, 0, rfl⟩
    rw [E.out]
    show Ending.returned (Value.int IntKind.i64 _) = _
    rw [← Int.neg_tmod, Int.tmod_eq_emod_of_nonneg h4]
  · have e : around n m = n % m := by simp [around, h]
    have E := Lib.hid e
    clear e
    go_enter Try.func12, Try.ntmps12
    go_wp2
    go_ret
    exact ⟨by rw [E.out]; rfl, 0, rfl⟩

def manyL (n : Nat) (from_ : Int) : List Sp := (List.range n).map (fun (i : Nat) => (from_ + 2 * (i : Int), from_ + 2 * (i : Int)))
theorem manyL_succ (n : Nat) (f : Int) : manyL (n + 1) f = manyL n f ++ [(f + 2 * (n : Int), f + 2 * (n : Int))] := by
  unfold manyL; rw [List.range_succ, List.map_append]; rfl
theorem manyL_len (n : Nat) (f : Int) : (manyL n f).length = n := by simp [manyL]
theorem manyL_small {n : Nat} {f : Int} (hn : n ≤ 1000) (hf : -100000 ≤ f ∧ f ≤ 100000) : ∀ s ∈ manyL n f, Small s := fun s hs => by
  obtain ⟨i, hi, rfl⟩ := List.mem_map.1 hs
  have := List.mem_range.1 hi
  unfold Small
  simp only
  omega

set_option maxRecDepth 100000 in
set_option maxHeartbeats 4000000 in
/-- the reference's Many -/
theorem gMany_any (n : Nat) (f : Int) (w : World) (hn : n ≤ 1000) (hf : -100000 ≤ f ∧ f ≤ 100000) : Calls Try.prog 11 #[.int .i64 (n : Int), .int .i64 f] w (RetGen n w) := by
  go_enter Try.func11, Try.ntmps11
  go_wp2
  go_loopw [5, 6] (fun v5 v6 wr => ∃ (i : Nat) (O : Option Addr) (cO : Nat) (xs : List Sp), v6 = .int .i64 i ∧ i ≤ n ∧ v5 = .slice O xs.length cO ∧ Hid (xs = manyL i f ∧ OwnP wr w.heap.size O cO xs) ∧ Ext w wr) (fun _ v _ => n - (intOf v).toNat)
  case atStart => exact ⟨0, none, 0, [], rfl, by omega, rfl, ⟨rfl, OwnP.nil _ _⟩, Ext.rfl' _⟩
  case round =>
    obtain ⟨i, O, cO, xs, rfl, hi, rfl, HX, x1⟩ := hrel
    by_cases hlt : i < n
    · have hiI : (i : Int) < (n : Int) := by omega
      have hxb : xs.length ≤ 1000000 := by rw [HX.out.1, manyL_len]; omega
      have HY := Lib.hid (show manyL (i + 1) f = xs ++ [(f + 2 * (i : Int), f + 2 * (i : Int))] by rw [manyL_succ, HX.out.1])
      go_wp2_with ((at_builtin; refine wpList_app1S (w1 := wr) rfl _ _ _ rfl Try.underlying24 w x1 (f + 2 * (i : Int), f + 2 * (i : Int)) rfl O cO xs rfl HX.out.2 rfl hxb _ HY.out ?_; intro O2 cO2 w2 ho2 x2))
      have HO2 := Lib.hid ho2
      clear ho2
      go_roundw
      case rel => exact ⟨i + 1, O2, cO2, manyL (i + 1) f, by go_num, by omega, rfl, ⟨rfl, HO2.out⟩, x2⟩
      case measure => simp [intOf]; omega
    · have hiI : ¬ (i : Int) < (n : Int) := by omega
      go_wp2
      go_ret
      refine ⟨O, cO, xs, rfl, ?_, ?_, ?_, x1⟩
      · exact OwnP.small HX.out.2 (by rw [HX.out.1]; exact manyL_small (by omega) hf)
      · rw [HX.out.1, manyL_len]; omega
      · rw [HX.out.1]; exact manyL_small (by omega) hf
end Go.Proofs.Ytlbdjnbcoldjhaa
