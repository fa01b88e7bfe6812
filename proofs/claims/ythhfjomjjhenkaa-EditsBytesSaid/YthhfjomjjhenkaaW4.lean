/- Package wire's Reader: what its block holds; Read, octet, End. -/
import Derived.Test.YthhfjomjjhenkaaW2
namespace Go.Proofs.Ythhfjomjjhenkaa
open Go.RowKit
attribute [local go_sem ↓] Go.wp_at_zero Go.wp_at_succ

/-- the reader in block g over bs: what is left to be read; none: an error stands -/
structure RdAt (w : World) (g : Nat) (A : Option Addr) (c : Nat) (bs : List Int) (st : Option (List Int)) : Prop where
  blk : ∃ (k : Nat) (wr : Int), Blk w g 108 #[.slice A bs.length c, .int .i64 k, .int .i64 wr] ∧ k ≤ bs.length ∧ (wr ≠ 0 ∧ st = none ∨ wr = 0 ∧ st = some (bs.drop k))
  bl : BL w A c bs
  off : bs ≠ [] → A.map (·.block) ≠ some g
namespace RdAt
variable {w w' : World} {g : Nat} {A : Option Addr} {c : Nat} {bs : List Int} {st : Option (List Int)}
theorem ext (h : RdAt w g A c bs st) (x : Ext w w') : RdAt w' g A c bs st := by
  obtain ⟨k, wr, hb, hr⟩ := h.blk
  exact ⟨⟨k, wr, hb.ext x, hr⟩, h.bl.ext x, h.off⟩
theorem lt (h : RdAt w g A c bs st) : g < w.heap.size := by obtain ⟨k, wr, hb, _⟩ := h.blk; exact hb.lt
/-- blocks that are written elsewhere -/
theorem kp {p : Nat → Prop} (h : RdAt w g A c bs st) (k : KpP p w w') (hg : ¬ p g) (hA : bs ≠ [] → ∀ b, A.map (·.block) = some b → ¬ p b) : RdAt w' g A c bs st := by
  obtain ⟨i, wr, hb, hr⟩ := h.blk
  exact ⟨⟨i, wr, k.blk hb hg, hr⟩, h.bl.kp k hA, h.off⟩
theorem set1 (h : RdAt w g A c bs st) {k : Nat} {wr : Int} (hb : Blk w g 108 #[.slice A bs.length c, .int .i64 k, .int .i64 wr]) {k' : Nat} (hk : k' ≤ bs.length) (hw : wr = 0) {v : Int} (hv : v = k') :
    RdAt (w.setCell ⟨g, 1, none⟩ (.int .i64 v)) g A c bs (some (bs.drop k')) ∧ KpP (· = g) w (w.setCell ⟨g, 1, none⟩ (.int .i64 v)) := by
  subst hv
  have kk : KpP (· = g) w (w.setCell ⟨g, 1, none⟩ (.int .i64 k')) := KpP.set (p := (· = g)) (KpP.refl _ _) (.inl rfl) _
  have h1 := hb.set 1 (.int .i64 k')
  simp only [List.setIfInBounds_toArray, List.set_cons_zero, List.set_cons_succ] at h1
  exact ⟨⟨⟨k', wr, h1, hk, .inr ⟨hw, rfl⟩⟩, h.bl.kp kk (fun hx b hb e => h.off hx (by rw [hb, e])), h.off⟩, kk⟩
theorem set2 (h : RdAt w g A c bs st) {k : Nat} {wr : Int} (hb : Blk w g 108 #[.slice A bs.length c, .int .i64 k, .int .i64 wr]) (hk : k ≤ bs.length) {e : Int} (he : e ≠ 0) :
    RdAt (w.setCell ⟨g, 2, none⟩ (.int .i64 e)) g A c bs none ∧ KpP (· = g) w (w.setCell ⟨g, 2, none⟩ (.int .i64 e)) := by
  have kk : KpP (· = g) w (w.setCell ⟨g, 2, none⟩ (.int .i64 e)) := KpP.set (p := (· = g)) (KpP.refl _ _) (.inl rfl) _
  have h1 := hb.set 2 (.int .i64 e)
  simp only [List.setIfInBounds_toArray, List.set_cons_zero, List.set_cons_succ] at h1
  exact ⟨⟨⟨k, e, h1, hk, .inl ⟨he, rfl⟩⟩, h.bl.kp kk (fun hx b hb e => h.off hx (by rw [hb, e])), h.off⟩, kk⟩
end RdAt

def octP : Option (List Int) → Int × Option (List Int)
  | some (b :: r) => (b, some r)
  | some [] => (0, none)
  | none => (0, none)
def RetRd (g : Nat) (A : Option Addr) (c : Nat) (bs : List Int) (v : Value) (st : Option (List Int)) (w : World) (e : Ending) (w' : World) : Prop := e = .returned v ∧ RdAt w' g A c bs st ∧ KpP (· = g) w w'

set_option maxHeartbeats 2000000 in
theorem octet_any (g : Nat) (A : Option Addr) (c : Nat) (bs : List Int) (st : Option (List Int)) (w : World) (hR : RdAt w g A c bs st) :
    Calls Try.prog 64 #[.pointer (some ⟨g, 0, none⟩)] w (RetRd g A c bs (.int .u8 (octP st).1) (octP st).2 w) := by
  obtain ⟨k, wr, hB, hk, hst⟩ := hR.blk
  have hlen := hR.bl.len
  have q0 := hB.c3.1
  have q1 := hB.c3.2.1
  have q2 := hB.c3.2.2.1
  have q0f := hB.c3.2.2.2.1
  have q1f := hB.c3.2.2.2.2.1
  have q2f := hB.c3.2.2.2.2.2.1
  have qz := hB.lt
  rcases hst with ⟨hw, rfl⟩ | ⟨rfl, rfl⟩
  · have hb1 : (wr != 0) = true := by simpa using hw
    have hb2 : (wr == 0) = false := by simpa using hw
    clear hw
    go_enter Try.func64, Try.ntmps64
    go_wp2_with fail
    go_ret
    exact ⟨rfl, hR, KpP.refl _ _⟩
  · by_cases hlt : k < bs.length
    · obtain ⟨b, o, rfl, p0⟩ := hR.bl.get hlt
      have hd : bs.drop k = bs[k] :: bs.drop (k + 1) := List.drop_eq_getElem_cons hlt
      rw [hd]
      generalize bs[k] = v at *
      have hI : ¬ (k : Int) ≥ bs.length := by omega
      have hwn : IntKind.i64.wrap ((k : Int) + 1) = (k : Int) + 1 := by rw [IntKind.wrap_i64]; omega
      have hbg : b ≠ g := fun e => hR.off (by rintro rfl; simp at hlt) (by simp [e])
      have HS := fun (W : World) (x : Ext w W) => Lib.hid ((hR.ext x).set1 (hB.ext x) (k' := k + 1) (by omega) rfl (v := (k : Int) + 1) (by omega))
      clear hd
      go_enter Try.func64, Try.ntmps64
      go_wp2_with (go_quiet (fail))
      go_ret
      exact ⟨rfl, (HS _ (Ext.drewN _ _)).out.1.ext (Ext.drewN _ _), (KpP.of_ext (Ext.drewN _ _)).trans ((HS _ (Ext.drewN _ _)).out.2.trans (KpP.of_ext (Ext.drewN _ _)))⟩
    · have hI : (k : Int) ≥ bs.length := by omega
      have hd : bs.drop k = [] := List.drop_eq_nil_of_le (by omega)
      rw [hd]
      have HS := fun (W : World) (x : Ext w W) => Lib.hid ((hR.ext x).set2 (hB.ext x) hk (e := 3) (by omega))
      clear hd
      go_enter Try.func64, Try.ntmps64
      go_wp2_with (go_quiet (fail))
      go_ret
      exact ⟨rfl, (HS _ (Ext.drewN _ _)).out.1, (KpP.of_ext (Ext.drewN _ _)).trans (HS _ (Ext.drewN _ _)).out.2⟩

def RetRead (bs : List Int) (w : World) (e : Ending) (w' : World) : Prop := ∃ g A c, e = .returned (.pointer (some ⟨g, 0, none⟩)) ∧ RdAt w' g A c bs (some bs) ∧ Ext w w' ∧ w.heap.size ≤ g ∧ Fr w A
set_option maxHeartbeats 2000000 in
theorem wRead_any (B : Option Addr) (cB : Nat) (bs : List Int) (w : World) (hB : BL w B cB bs) (hl : bs.length ≤ 1099511627776) :
    Calls Try.prog 36 #[.slice B bs.length cB] w (RetRead bs w) := by
  obtain ⟨iB, jB0, jB1, jB2, jB3⟩ := info_parts infoB
  have HB8 := Lib.hid (show 0 + bs.length ≤ maxLen ∧ (0 + bs.length) * 1 ≤ 140737488355328 by unfold maxLen; omega)
  have e1 := Ext.alloc w (.cells #[] 5)
  have hown : OwnS (w.alloc (.cells #[] 5)) w.heap.size 5 1 (some ⟨w.heap.size, 0, none⟩) 0 0 [] :=
    OwnS.of_blk (Blk.new w 5 #[]) (Nat.le_refl _) rfl (Nat.le_refl _) (Nat.zero_le _)
  have hcl := (hB.ext e1).cells
  have hrng := hB.rng
  go_enter Try.func36, Try.ntmps36
  go_wp2_with ((at_builtin; refine wpList_app _ rfl _ _ _ rfl w.heap.size 5 iB _ 1 1 Try.underlying64 jB0 jB1 jB2 jB3 rfl (by omega) _ 0 0 [] rfl hown B bs.length cB (bs.map (Value.int .u8)) rfl (by simp) hcl (bytes_one _) HB8.out.1 HB8.out.2 (by simp) ?_; intro A' c' w' ho' hg' hat'))
  simp only [List.nil_append, Nat.zero_add] at ho'
  have hE : Ext w w' := e1.grown hg' (by simp)
  have hbl : BL w' A' c' bs := BL.of_own ho' hrng
  go_ret
  exact ⟨w'.heap.size, A', c', rfl, ⟨⟨0, 0, Blk.new _ _ _, Nat.zero_le _, .inr ⟨rfl, rfl⟩⟩, hbl.ext (Ext.alloc _ _), fun _ e => by have := (OwnS.blt ho' e).1; omega⟩, hE.trans (Ext.alloc _ _), hE.size, OwnS.row ho'⟩

set_option maxHeartbeats 2000000 in
theorem rdEnd_any (g : Nat) (A : Option Addr) (c : Nat) (bs : List Int) (st : Option (List Int)) (w : World) (hR : RdAt w g A c bs st) :
    Calls Try.prog 62 #[.pointer (some ⟨g, 0, none⟩)] w (fun e w' => ∃ k : Int, e = .returned (.int .i64 k) ∧ (k = 0 ↔ st = some []) ∧ Ext w w') := by
  obtain ⟨k, wr, hB, hk, hst⟩ := hR.blk
  have hlen := hR.bl.len
  have q0 := hB.c3.1
  have q1 := hB.c3.2.1
  have q2 := hB.c3.2.2.1
  have qz := hB.lt
  rcases hst with ⟨hw, rfl⟩ | ⟨rfl, rfl⟩
  · have hb1 : (wr != 0) = true := by simpa using hw
    have hb2 : (wr == 0) = false := by simpa using hw
    have HW := Lib.hid hw
    clear hw
    go_enter Try.func62, Try.ntmps62
    go_wp2_with fail
    go_ret
    exact ⟨wr, rfl, by simp [HW.out], Ext.rfl' _⟩
  · by_cases hlt : k < bs.length
    · have hI : (k : Int) < bs.length := by omega
      have HD : Hid (bs.drop k ≠ []) := fun h => by have := List.length_drop (i := k) (l := bs); rw [h] at this; simp at this; omega
      go_enter Try.func62, Try.ntmps62
      go_wp2_with (go_quiet (fail))
      go_ret
      exact ⟨2, rfl, by simp; omega, by first | exact Ext.rfl' _ | exact Ext.drewN _ _⟩
    · have hI : ¬ (k : Int) < bs.length := by omega
      have HD : Hid (bs.drop k = []) := List.drop_eq_nil_of_le (by omega)
      go_enter Try.func62, Try.ntmps62
      go_wp2_with (go_quiet (fail))
      go_ret
      exact ⟨0, rfl, by simp; omega, by first | exact Ext.rfl' _ | exact Ext.drewN _ _⟩

end Go.Proofs.Ythhfjomjjhenkaa
