/- slices.Clone of spans; adding spans keeps them good. -/
import Derived.Test.YtlbdjnbcoldjhaaG10
import Derived.Test.YtlbdjnbcoldjhaaG9
namespace Go.Proofs.Ytlbdjnbcoldjhaa
open Go.RowKit

/-- what Clone leaves -/
def RetCl (l : List Sp) (w : World) (e : Ending) (w' : World) : Prop := ∃ (A' : Option Addr) (c' : Nat), e = .returned (.slice A' l.length c') ∧ OwnP w' w.heap.size A' c' l ∧ Ext w w'

set_option maxHeartbeats 1000000 in
theorem cloneS_any (A : Option Addr) (c : Nat) (l : List Sp) (w : World) (hl : SL w A c l) (hb : l.length ≤ 1000000) :
    Calls Try.prog 46 #[.slice A l.length c] w (RetCl l w) := by
  obtain ⟨iS, jS0, jS1, jS2, jS3⟩ := info_parts infoS
  cases A with
  | none =>
    have hl0 : l = [] := by
      rcases l with _ | ⟨x, l⟩
      · rfl
      · obtain ⟨b, o, h, _⟩ := hl.at_ (by simp)
        cases h
    subst hl0
    have hn := fun wx => Lib.run_eql_slice_nil (P := Try.prog) wx 24 48 none 0 c 0 0 Try.underlying24
    go_enter Try.func46, Try.ntmps46
    go_wp2
    go_ret
    exact ⟨none, 0, rfl, OwnP.nil _ _, Ext.rfl' _⟩
  | some ad =>
    have hn := fun wx => Lib.run_eql_slice_nil (P := Try.prog) wx 24 48 (some ad) l.length c 0 0 Try.underlying24
    simp only [Option.isNone_some] at hn
    have hm := hl.len
    have hown : OwnS (w.alloc (.cells #[] 48)) w.heap.size 48 2 (some ⟨w.heap.size, 0, none⟩) 0 0 [] :=
      OwnS.of_blk (Blk.new w 48 #[]) (Nat.le_refl _) rfl (Nat.le_refl _) (Nat.zero_le _)
    have hcl := (hl.ext (Ext.alloc w (.cells #[] 48))).cells
    have h1 := flatS_one l
    have HFL := Lib.hid (flatS_len l)
    have H63 := Lib.hid (show 0 + l.length ≤ maxLen by unfold maxLen; omega)
    have H8 := Lib.hid (show (0 + l.length) * 16 ≤ 140737488355328 by omega)
    clear hb
    go_enter Try.func46, Try.ntmps46
    go_wp2_with ((at_builtin; refine wpList_app _ rfl _ _ _ rfl w.heap.size 48 iS _ 2 16 Try.underlying24 jS0 jS1 jS2 jS3 rfl (by omega) _ 0 0 [] rfl hown _ l.length c (flatS l) rfl HFL.out hcl h1 H63.out H8.out (by simp) ?_; intro A' c' w' hown' hg hat))
    go_ret
    simp only [List.nil_append, Nat.zero_add] at hown'
    have hE : Ext w w' := (Ext.alloc w (.cells #[] 48)).grown hg (by simp)
    exact ⟨A', c', by simp, hown', hE⟩

theorem addS_good {l : List Sp} {s : Sp} (h : ∀ t ∈ l, goodS t) (hs : goodS s) : ∀ t ∈ addS l s, goodS t := by
  rcases List.eq_nil_or_concat l with rfl | ⟨l0, u, rfl⟩
  · rw [addS_nil]; simpa using hs
  · rw [List.concat_eq_append] at *
    rw [addS_snoc]
    intro t ht
    split at ht
    · rcases List.mem_append.1 ht with ht | ht
      · exact h t (by simp [ht])
      · obtain rfl := List.mem_singleton.1 ht
        have := h u (by simp)
        unfold goodS at *
        simp only
        omega
    · rcases List.mem_append.1 ht with ht | ht
      · exact h t ht
      · obtain rfl := List.mem_singleton.1 ht
        exact hs
theorem addAll_good : ∀ {b l : List Sp}, (∀ t ∈ l, goodS t) → (∀ t ∈ b, goodS t) → ∀ t ∈ b.foldl addS l, goodS t
  | [], _, h, _ => h
  | s :: b, _, h, hb => addAll_good (b := b) (addS_good h (hb s (by simp))) (fun t ht => hb t (by simp [ht]))
theorem addAll_len : ∀ (b l : List Sp), (b.foldl addS l).length ≤ l.length + b.length
  | [], l => by simp
  | s :: b, l => by
    have h1 := addAll_len b (addS l s)
    have h2 := (addS_len l s).2
    rw [List.foldl_cons, List.length_cons]; omega
end Go.Proofs.Ytlbdjnbcoldjhaa
