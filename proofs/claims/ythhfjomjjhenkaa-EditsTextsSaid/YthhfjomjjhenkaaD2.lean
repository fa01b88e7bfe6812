/- (*Desk).Take: what it does, in plain words; New and Version; Take of an item that is there already. -/
import Derived.Test.YthhfjomjjhenkaaD1
namespace Go.Proofs.Ythhfjomjjhenkaa
open Go.RowKit
attribute [local go_sem ↓] Go.wp_at_zero Go.wp_at_succ

/-- an edit that is handed out: its symbols lie at A -/
structure Oe where
  e : Ed
  A : Option Addr
  c : Nat

/-- the desk's state -/
structure Ds where
  ap : List (Int × Int × Int)
  nx : List (Int × Int)
  hd : List ((Int × Int) × Hv)

def noRdy (s : Ds) : Prop := ∀ q ∈ s.hd, ¬ isRdy s.nx s.ap.length q
/-- the item p, moved over what was applied since -/
def movedOf (s : Ds) (h : Hv) : Int × Int := overAll (h.it.e.at_, h.it.e.del) (s.ap.drop h.it.base.toNat)
def stepOf (s : Ds) (p : (Int × Int) × Hv) : Ds :=
  ⟨s.ap ++ [((movedOf s p.2).1, (movedOf s p.2).2, (p.2.it.e.ins.length : Int))], putL s.nx p.1.1 (nxOf s.nx p.1.1 + 1), delL s.hd p.1⟩
def outOf (s : Ds) (p : (Int × Int) × Hv) : Oe := ⟨⟨(movedOf s p.2).1, (movedOf s p.2).2, p.2.it.e.ins⟩, p.2.A, p.2.c⟩
inductive Steps : Ds → List Oe → Ds → Prop
  | refl (s : Ds) : Steps s [] s
  | snoc {s s1 : Ds} {out : List Oe} (p : (Int × Int) × Hv) (h : Steps s out s1) (hp : p ∈ s1.hd) (hr : isRdy s1.nx s1.ap.length p) (hmin : ∀ q ∈ s1.hd, isRdy s1.nx s1.ap.length q → p.1.1 ≤ q.1.1) : Steps s (out ++ [outOf s1 p]) (stepOf s1 p)

/-- an item that Take accepts -/
def ItOk (x : It) : Prop := 0 ≤ x.client ∧ x.client ≤ 1023 ∧ 0 ≤ x.number ∧ x.number ≤ 4095 ∧ 0 ≤ x.base ∧ x.base ≤ 4095 ∧ formed x.e.at_ x.e.del x.e.ins = true

theorem new_any (w : World) : Calls Try.prog 18 #[] w (fun e w' => ∃ g m1 m2, e = .returned (.pointer (some ⟨g, 0, none⟩)) ∧ Ext w w' ∧ DeskAt w' w.heap.size g m1 m2 none 0 [] [] [] ∧ w.heap.size ≤ m1 ∧ w.heap.size ≤ m2 ∧ w.heap.size ≤ g) := by
  have hmm := @run_makeMap Try.prog
  go_enter Try.func18, Try.ntmps18
  go_wp2
  go_ret
  have x1 := Ext.alloc w (.map #[] 0)
  have x2 := Ext.alloc (w.alloc (.map #[] 0)) (.map #[] 0)
  have x3 := Ext.alloc ((w.alloc (.map #[] 0)).alloc (.map #[] 0)) (.cells #[.slice none 0 0, .map (some w.heap.size), .map (some (w.heap.size + 1))] 90)
  have hb := Blk.new ((w.alloc (.map #[] 0)).alloc (.map #[] 0)) 90 #[.slice none 0 0, .map (some w.heap.size), .map (some (w.heap.size + 1))]
  refine ⟨w.heap.size + 1 + 1, w.heap.size, w.heap.size + 1, rfl, (x1.trans x2).trans x3, ⟨by simpa using hb, OwnS.nil _ _ _ _, ((MapAt.made w _ _).ext x2).ext x3, ?_, by simp [Off], by omega, by simp, by omega⟩, by omega, by omega, by omega⟩
  have := (MapAt.made (w.alloc (.map #[] 0)) keyV hvV).ext x3
  simpa using this

theorem version_any (base g m1 m2 : Nat) (A : Option Addr) (c : Nat) (ap : List (Int × Int × Int)) (nx : List (Int × Int)) (hd : List ((Int × Int) × Hv)) (w : World) (hD : DeskAt w base g m1 m2 A c ap nx hd) :
    Calls Try.prog 20 #[.pointer (some ⟨g, 0, none⟩)] w (RetV (.int .i64 ap.length) w) := by
  obtain ⟨d0, d1, d2, d0f, d1f, d2f, dz⟩ := hD.blk.c3
  go_enter Try.func20, Try.ntmps20
  go_wp2
  go_ret
  exact ⟨rfl, Ext.rfl' _⟩
end Go.Proofs.Ythhfjomjjhenkaa
