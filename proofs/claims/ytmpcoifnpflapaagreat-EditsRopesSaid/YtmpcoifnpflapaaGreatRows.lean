/-
  No cell of these rows narrows 'for every input' (looked for: loops, veiled, ifaces, maps, wideKeys, modest, calm, conditions, laid).
  DERIVED. THE GIVEN ROWS OF THIS SEAT. 9 by the template 'for every input the law returns true; each argument reads behind the call as it read before'; 0 by the template 'total and deterministic' (their statements: YtmpcoifnpflapaaGreatTotals.lean).
  GIVEN WITH THE SEED: the statements are not yours to turn. If you find one false, say at which input.
  Laid BY PROGRAM, IN A SANDBOX (cutbox-rows.mjs): the forced cells as the released guide's own fill.sh prints them over the translation 78b7bea2b58d6ba2… (all of the seat's roots in one cut). By AI agents, Wed Nov 11 2026. No macro, syntax, notation, axiom, sorry.
-/
import Derived.Test.YtmpcoifnpflapaaGreatChecked
import GoSem.Claim
import GoSem.ClaimJoined
import GoSem.ClaimMapViews
import Derived.JoinedTies
import Derived.KernelRfl
namespace Go.Proofs.YtmpcoifnpflapaaGreat
/- THE CELL 'sum', in the pinned program and in every row, IS THE sha256 OF THE DUMP (.gsa) THAT YtmpcoifnpflapaaGreatProg.lean LOADS. Nothing in Lean hashes anything: it is a label: what it is worth is what the hold of that sum in a sandbox is worth. -/
noncomputable def Tryz.pinned : Pinned := { name := "ytmpcoifnpflapaagreat", sum := "78b7bea2b58d6ba22725f967d53635953c76df30c9138f04c9e0374de2f6ca0f", checked := Tryz.checked }
namespace Rows
def none {H : Type} : Left H := { results := [], args := [] }

/-- 'rexmilllaw27.EditsRopes': WHATEVER THE INPUT: true; the input reads as it did. -/
def editsRopesSpec : ChangeSpec := { name := "editsRopes", fn := fun _ => fun
  | [d1, d2] => { results := [.lit (.bool true)], args := [d1, d2] }
  | _ => none }
def editsRopesRow : OpenClaim := { program := "ytmpcoifnpflapaagreat", sum := "78b7bea2b58d6ba22725f967d53635953c76df30c9138f04c9e0374de2f6ca0f", func := "rexmill/rexmilllaw27.EditsRopes", spec := "editsRopes", unfollowed := true, recurses := true, plainKeys := false, apart := false }
def EditsRopesSaid : Prop := editsRopesRow.holds Tryz.pinned (OpenSpec.ofChange editsRopesSpec)

/-- ITS FALSE NEIGHBOUR: 'it returns false'. Refute it at one input. -/
def editsRopesWrong : ChangeSpec := { name := "editsRopes", fn := fun _ => fun
  | [d1, d2] => { results := [.lit (.bool false)], args := [d1, d2] }
  | _ => none }
def EditsRopesWrongFalsely : Prop := editsRopesRow.holds Tryz.pinned (OpenSpec.ofChange editsRopesWrong)

/-- 'rexmilllaw24.MonoidNew': WHATEVER THE INPUT: true; the input reads as it did. -/
def monoidNewSpec : ChangeSpec := { name := "monoidNew", fn := fun _ => fun
  | [d1, d2, d3, d4, d5, d6] => { results := [.lit (.bool true)], args := [d1, d2, d3, d4, d5, d6] }
  | _ => none }
def monoidNewRow : OpenClaim := { program := "ytmpcoifnpflapaagreat", sum := "78b7bea2b58d6ba22725f967d53635953c76df30c9138f04c9e0374de2f6ca0f", func := "rexmill/rexmilllaw24.MonoidNew", spec := "monoidNew", unfollowed := true, recurses := true, plainKeys := false, apart := false }
def MonoidNewSaid : Prop := monoidNewRow.holds Tryz.pinned (OpenSpec.ofChange monoidNewSpec)

/-- ITS FALSE NEIGHBOUR: 'it returns false'. Refute it at one input. -/
def monoidNewWrong : ChangeSpec := { name := "monoidNew", fn := fun _ => fun
  | [d1, d2, d3, d4, d5, d6] => { results := [.lit (.bool false)], args := [d1, d2, d3, d4, d5, d6] }
  | _ => none }
def MonoidNewWrongFalsely : Prop := monoidNewRow.holds Tryz.pinned (OpenSpec.ofChange monoidNewWrong)

/-- 'rexmilllaw24.MonoidFound': WHATEVER THE INPUT: true; the input reads as it did. -/
def monoidFoundSpec : ChangeSpec := { name := "monoidFound", fn := fun _ => fun
  | [d1, d2, d3, d4, d5] => { results := [.lit (.bool true)], args := [d1, d2, d3, d4, d5] }
  | _ => none }
def monoidFoundRow : OpenClaim := { program := "ytmpcoifnpflapaagreat", sum := "78b7bea2b58d6ba22725f967d53635953c76df30c9138f04c9e0374de2f6ca0f", func := "rexmill/rexmilllaw24.MonoidFound", spec := "monoidFound", unfollowed := true, recurses := true, plainKeys := false, apart := false }
def MonoidFoundSaid : Prop := monoidFoundRow.holds Tryz.pinned (OpenSpec.ofChange monoidFoundSpec)

/-- ITS FALSE NEIGHBOUR: 'it returns false'. Refute it at one input. -/
def monoidFoundWrong : ChangeSpec := { name := "monoidFound", fn := fun _ => fun
  | [d1, d2, d3, d4, d5] => { results := [.lit (.bool false)], args := [d1, d2, d3, d4, d5] }
  | _ => none }
def MonoidFoundWrongFalsely : Prop := monoidFoundRow.holds Tryz.pinned (OpenSpec.ofChange monoidFoundWrong)

/-- 'rexmilllaw24.MonoidJoins': WHATEVER THE INPUT: true; the input reads as it did. -/
def monoidJoinsSpec : ChangeSpec := { name := "monoidJoins", fn := fun _ => fun
  | [d1, d2, d3, d4] => { results := [.lit (.bool true)], args := [d1, d2, d3, d4] }
  | _ => none }
def monoidJoinsRow : OpenClaim := { program := "ytmpcoifnpflapaagreat", sum := "78b7bea2b58d6ba22725f967d53635953c76df30c9138f04c9e0374de2f6ca0f", func := "rexmill/rexmilllaw24.MonoidJoins", spec := "monoidJoins", unfollowed := true, recurses := true, plainKeys := false, apart := false }
def MonoidJoinsSaid : Prop := monoidJoinsRow.holds Tryz.pinned (OpenSpec.ofChange monoidJoinsSpec)

/-- ITS FALSE NEIGHBOUR: 'it returns false'. Refute it at one input. -/
def monoidJoinsWrong : ChangeSpec := { name := "monoidJoins", fn := fun _ => fun
  | [d1, d2, d3, d4] => { results := [.lit (.bool false)], args := [d1, d2, d3, d4] }
  | _ => none }
def MonoidJoinsWrongFalsely : Prop := monoidJoinsRow.holds Tryz.pinned (OpenSpec.ofChange monoidJoinsWrong)

/-- 'rexmilllaw24.MonoidSure': WHATEVER THE INPUT: true; the input reads as it did. -/
def monoidSureSpec : ChangeSpec := { name := "monoidSure", fn := fun _ => fun
  | [d1, d2, d3, d4] => { results := [.lit (.bool true)], args := [d1, d2, d3, d4] }
  | _ => none }
def monoidSureRow : OpenClaim := { program := "ytmpcoifnpflapaagreat", sum := "78b7bea2b58d6ba22725f967d53635953c76df30c9138f04c9e0374de2f6ca0f", func := "rexmill/rexmilllaw24.MonoidSure", spec := "monoidSure", unfollowed := true, recurses := true, plainKeys := false, apart := false }
def MonoidSureSaid : Prop := monoidSureRow.holds Tryz.pinned (OpenSpec.ofChange monoidSureSpec)

/-- ITS FALSE NEIGHBOUR: 'it returns false'. Refute it at one input. -/
def monoidSureWrong : ChangeSpec := { name := "monoidSure", fn := fun _ => fun
  | [d1, d2, d3, d4] => { results := [.lit (.bool false)], args := [d1, d2, d3, d4] }
  | _ => none }
def MonoidSureWrongFalsely : Prop := monoidSureRow.holds Tryz.pinned (OpenSpec.ofChange monoidSureWrong)

/-- 'rexmilllaw25.RopeBounds': WHATEVER THE INPUT: true; the input reads as it did. -/
def ropeBoundsSpec : ChangeSpec := { name := "ropeBounds", fn := fun _ => fun
  | [d1, d2, d3, d4] => { results := [.lit (.bool true)], args := [d1, d2, d3, d4] }
  | _ => none }
def ropeBoundsRow : OpenClaim := { program := "ytmpcoifnpflapaagreat", sum := "78b7bea2b58d6ba22725f967d53635953c76df30c9138f04c9e0374de2f6ca0f", func := "rexmill/rexmilllaw25.RopeBounds", spec := "ropeBounds", unfollowed := true, recurses := true, plainKeys := false, apart := false }
def RopeBoundsSaid : Prop := ropeBoundsRow.holds Tryz.pinned (OpenSpec.ofChange ropeBoundsSpec)

/-- ITS FALSE NEIGHBOUR: 'it returns false'. Refute it at one input. -/
def ropeBoundsWrong : ChangeSpec := { name := "ropeBounds", fn := fun _ => fun
  | [d1, d2, d3, d4] => { results := [.lit (.bool false)], args := [d1, d2, d3, d4] }
  | _ => none }
def RopeBoundsWrongFalsely : Prop := ropeBoundsRow.holds Tryz.pinned (OpenSpec.ofChange ropeBoundsWrong)

/-- 'rexmilllaw25.RopeEdits': WHATEVER THE INPUT: true; the input reads as it did. -/
def ropeEditsSpec : ChangeSpec := { name := "ropeEdits", fn := fun _ => fun
  | [d1, d2, d3, d4, d5] => { results := [.lit (.bool true)], args := [d1, d2, d3, d4, d5] }
  | _ => none }
def ropeEditsRow : OpenClaim := { program := "ytmpcoifnpflapaagreat", sum := "78b7bea2b58d6ba22725f967d53635953c76df30c9138f04c9e0374de2f6ca0f", func := "rexmill/rexmilllaw25.RopeEdits", spec := "ropeEdits", unfollowed := true, recurses := true, plainKeys := false, apart := false }
def RopeEditsSaid : Prop := ropeEditsRow.holds Tryz.pinned (OpenSpec.ofChange ropeEditsSpec)

/-- ITS FALSE NEIGHBOUR: 'it returns false'. Refute it at one input. -/
def ropeEditsWrong : ChangeSpec := { name := "ropeEdits", fn := fun _ => fun
  | [d1, d2, d3, d4, d5] => { results := [.lit (.bool false)], args := [d1, d2, d3, d4, d5] }
  | _ => none }
def RopeEditsWrongFalsely : Prop := ropeEditsRow.holds Tryz.pinned (OpenSpec.ofChange ropeEditsWrong)

/-- 'rexmilllaw25.RopeSummaries': WHATEVER THE INPUT: true; the input reads as it did. -/
def ropeSummariesSpec : ChangeSpec := { name := "ropeSummaries", fn := fun _ => fun
  | [d1, d2, d3] => { results := [.lit (.bool true)], args := [d1, d2, d3] }
  | _ => none }
def ropeSummariesRow : OpenClaim := { program := "ytmpcoifnpflapaagreat", sum := "78b7bea2b58d6ba22725f967d53635953c76df30c9138f04c9e0374de2f6ca0f", func := "rexmill/rexmilllaw25.RopeSummaries", spec := "ropeSummaries", unfollowed := true, recurses := true, plainKeys := false, apart := false }
def RopeSummariesSaid : Prop := ropeSummariesRow.holds Tryz.pinned (OpenSpec.ofChange ropeSummariesSpec)

/-- ITS FALSE NEIGHBOUR: 'it returns false'. Refute it at one input. -/
def ropeSummariesWrong : ChangeSpec := { name := "ropeSummaries", fn := fun _ => fun
  | [d1, d2, d3] => { results := [.lit (.bool false)], args := [d1, d2, d3] }
  | _ => none }
def RopeSummariesWrongFalsely : Prop := ropeSummariesRow.holds Tryz.pinned (OpenSpec.ofChange ropeSummariesWrong)

/-- 'rexmilllaw25.RopeUndo': WHATEVER THE INPUT: true; the input reads as it did. -/
def ropeUndoSpec : ChangeSpec := { name := "ropeUndo", fn := fun _ => fun
  | [d1, d2, d3] => { results := [.lit (.bool true)], args := [d1, d2, d3] }
  | _ => none }
def ropeUndoRow : OpenClaim := { program := "ytmpcoifnpflapaagreat", sum := "78b7bea2b58d6ba22725f967d53635953c76df30c9138f04c9e0374de2f6ca0f", func := "rexmill/rexmilllaw25.RopeUndo", spec := "ropeUndo", unfollowed := true, recurses := true, plainKeys := false, apart := false }
def RopeUndoSaid : Prop := ropeUndoRow.holds Tryz.pinned (OpenSpec.ofChange ropeUndoSpec)

/-- ITS FALSE NEIGHBOUR: 'it returns false'. Refute it at one input. -/
def ropeUndoWrong : ChangeSpec := { name := "ropeUndo", fn := fun _ => fun
  | [d1, d2, d3] => { results := [.lit (.bool false)], args := [d1, d2, d3] }
  | _ => none }
def RopeUndoWrongFalsely : Prop := ropeUndoRow.holds Tryz.pinned (OpenSpec.ofChange ropeUndoWrong)

/- THE SECOND FORM. 'bulk': how many values and letters a reading holds, each counted each time it is reached (what is shared counts as often as it is met; a slice's spare places count too). A statement '..UptoSaid' is the law's where the arguments, and the package variables that the reading takes, are together of bulk at most 1048576: NARROWER than '..Said'. Prove '..Said' where nothing that the law and all that it calls make is longer than what came in: it says more and counts as full. Else prove '..UptoSaid'. A law counts once. -/
mutual
def uptoBulk {H : Type} : DataW H → Nat
  | .lit (.string bytes) => bytes.length + 1
  | .lit _ => 1
  | .nil => 1
  | .ptr d => uptoBulk d + 1
  | .slice elems spare => uptoBulkAll elems + uptoBulkAll spare + 1
  | .agg parts => uptoBulkAll parts + 1
  | .iface _ d => uptoBulk d + 1
  | .map entries => uptoBulkEntries entries + 1
  | .held _ => 1
def uptoBulkAll {H : Type} : List (DataW H) → Nat
  | [] => 0
  | d :: r => uptoBulk d + uptoBulkAll r
def uptoBulkEntries {H : Type} : List (Lit × DataW H) → Nat
  | [] => 0
  | x :: r => uptoBulkEntry x + uptoBulkEntries r
def uptoBulkEntry {H : Type} : Lit × DataW H → Nat
  | (.string bytes, d) => bytes.length + uptoBulk d + 1
  | (_, d) => uptoBulk d + 1
 end
def uptoSmall : (H : Type) → List (DataW H) → Bool := fun _ ds => decide (uptoBulkAll ds ≤ 1048576)
def OpenSpec.upto (s : _root_.Go.ChangeSpec) : _root_.Go.OpenSpec := { _root_.Go.OpenSpec.ofChange s with cond := some uptoSmall }

/-- 'rexmilllaw27.EditsRopes', WHERE WHAT IT READS IS OF BULK AT MOST 1048576: true; the input reads as it did. -/
def editsRopesUptoRow : OpenClaim := { program := "ytmpcoifnpflapaagreat", sum := "78b7bea2b58d6ba22725f967d53635953c76df30c9138f04c9e0374de2f6ca0f", func := "rexmill/rexmilllaw27.EditsRopes", spec := "editsRopes", unfollowed := true, recurses := true, plainKeys := false, apart := false, narrowed := true }
def EditsRopesUptoSaid : Prop := editsRopesUptoRow.holds Tryz.pinned (OpenSpec.upto editsRopesSpec)

/-- 'rexmilllaw24.MonoidNew', WHERE WHAT IT READS IS OF BULK AT MOST 1048576: true; the input reads as it did. -/
def monoidNewUptoRow : OpenClaim := { program := "ytmpcoifnpflapaagreat", sum := "78b7bea2b58d6ba22725f967d53635953c76df30c9138f04c9e0374de2f6ca0f", func := "rexmill/rexmilllaw24.MonoidNew", spec := "monoidNew", unfollowed := true, recurses := true, plainKeys := false, apart := false, narrowed := true }
def MonoidNewUptoSaid : Prop := monoidNewUptoRow.holds Tryz.pinned (OpenSpec.upto monoidNewSpec)

/-- 'rexmilllaw24.MonoidFound', WHERE WHAT IT READS IS OF BULK AT MOST 1048576: true; the input reads as it did. -/
def monoidFoundUptoRow : OpenClaim := { program := "ytmpcoifnpflapaagreat", sum := "78b7bea2b58d6ba22725f967d53635953c76df30c9138f04c9e0374de2f6ca0f", func := "rexmill/rexmilllaw24.MonoidFound", spec := "monoidFound", unfollowed := true, recurses := true, plainKeys := false, apart := false, narrowed := true }
def MonoidFoundUptoSaid : Prop := monoidFoundUptoRow.holds Tryz.pinned (OpenSpec.upto monoidFoundSpec)

/-- 'rexmilllaw24.MonoidJoins', WHERE WHAT IT READS IS OF BULK AT MOST 1048576: true; the input reads as it did. -/
def monoidJoinsUptoRow : OpenClaim := { program := "ytmpcoifnpflapaagreat", sum := "78b7bea2b58d6ba22725f967d53635953c76df30c9138f04c9e0374de2f6ca0f", func := "rexmill/rexmilllaw24.MonoidJoins", spec := "monoidJoins", unfollowed := true, recurses := true, plainKeys := false, apart := false, narrowed := true }
def MonoidJoinsUptoSaid : Prop := monoidJoinsUptoRow.holds Tryz.pinned (OpenSpec.upto monoidJoinsSpec)

/-- 'rexmilllaw24.MonoidSure', WHERE WHAT IT READS IS OF BULK AT MOST 1048576: true; the input reads as it did. -/
def monoidSureUptoRow : OpenClaim := { program := "ytmpcoifnpflapaagreat", sum := "78b7bea2b58d6ba22725f967d53635953c76df30c9138f04c9e0374de2f6ca0f", func := "rexmill/rexmilllaw24.MonoidSure", spec := "monoidSure", unfollowed := true, recurses := true, plainKeys := false, apart := false, narrowed := true }
def MonoidSureUptoSaid : Prop := monoidSureUptoRow.holds Tryz.pinned (OpenSpec.upto monoidSureSpec)

/-- 'rexmilllaw25.RopeBounds', WHERE WHAT IT READS IS OF BULK AT MOST 1048576: true; the input reads as it did. -/
def ropeBoundsUptoRow : OpenClaim := { program := "ytmpcoifnpflapaagreat", sum := "78b7bea2b58d6ba22725f967d53635953c76df30c9138f04c9e0374de2f6ca0f", func := "rexmill/rexmilllaw25.RopeBounds", spec := "ropeBounds", unfollowed := true, recurses := true, plainKeys := false, apart := false, narrowed := true }
def RopeBoundsUptoSaid : Prop := ropeBoundsUptoRow.holds Tryz.pinned (OpenSpec.upto ropeBoundsSpec)

/-- 'rexmilllaw25.RopeEdits', WHERE WHAT IT READS IS OF BULK AT MOST 1048576: true; the input reads as it did. -/
def ropeEditsUptoRow : OpenClaim := { program := "ytmpcoifnpflapaagreat", sum := "78b7bea2b58d6ba22725f967d53635953c76df30c9138f04c9e0374de2f6ca0f", func := "rexmill/rexmilllaw25.RopeEdits", spec := "ropeEdits", unfollowed := true, recurses := true, plainKeys := false, apart := false, narrowed := true }
def RopeEditsUptoSaid : Prop := ropeEditsUptoRow.holds Tryz.pinned (OpenSpec.upto ropeEditsSpec)

/-- 'rexmilllaw25.RopeSummaries', WHERE WHAT IT READS IS OF BULK AT MOST 1048576: true; the input reads as it did. -/
def ropeSummariesUptoRow : OpenClaim := { program := "ytmpcoifnpflapaagreat", sum := "78b7bea2b58d6ba22725f967d53635953c76df30c9138f04c9e0374de2f6ca0f", func := "rexmill/rexmilllaw25.RopeSummaries", spec := "ropeSummaries", unfollowed := true, recurses := true, plainKeys := false, apart := false, narrowed := true }
def RopeSummariesUptoSaid : Prop := ropeSummariesUptoRow.holds Tryz.pinned (OpenSpec.upto ropeSummariesSpec)

/-- 'rexmilllaw25.RopeUndo', WHERE WHAT IT READS IS OF BULK AT MOST 1048576: true; the input reads as it did. -/
def ropeUndoUptoRow : OpenClaim := { program := "ytmpcoifnpflapaagreat", sum := "78b7bea2b58d6ba22725f967d53635953c76df30c9138f04c9e0374de2f6ca0f", func := "rexmill/rexmilllaw25.RopeUndo", spec := "ropeUndo", unfollowed := true, recurses := true, plainKeys := false, apart := false, narrowed := true }
def RopeUndoUptoSaid : Prop := ropeUndoUptoRow.holds Tryz.pinned (OpenSpec.upto ropeUndoSpec)

end Rows
end Go.Proofs.YtmpcoifnpflapaaGreat
