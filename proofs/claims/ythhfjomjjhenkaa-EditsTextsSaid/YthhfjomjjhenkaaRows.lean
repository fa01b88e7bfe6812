/-
  No cell of these rows narrows 'for every input' (looked for: loops, veiled, ifaces, maps, wideKeys, modest, calm, conditions, laid).
  DERIVED. THE GIVEN ROWS OF THIS SEAT. 7 by the template 'for every input the law returns true; each argument reads behind the call as it read before'; 0 by the template 'total and deterministic' (their statements: YthhfjomjjhenkaaTotals.lean).
  GIVEN WITH THE SEED: the statements are not yours to turn. If you find one false, say at which input.
  Laid BY PROGRAM, IN A SANDBOX (cutbox-rows.mjs): the forced cells as the released guide's own fill.sh prints them over the translation 8f256c75a36be43c… (all of the seat's roots in one cut). By AI agents, Wed Nov 11 2026. No macro, syntax, notation, axiom, sorry.
-/
import Derived.Test.YthhfjomjjhenkaaChecked
import GoSem.Claim
import GoSem.ClaimJoined
import GoSem.ClaimMapViews
import Derived.JoinedTies
import Derived.KernelRfl
namespace Go.Proofs.Ythhfjomjjhenkaa
/- THE CELL 'sum', in the pinned program and in every row, IS THE sha256 OF THE DUMP (.gsa) THAT YthhfjomjjhenkaaProg.lean LOADS. Nothing in Lean hashes anything: it is a label: what it is worth is what the hold of that sum in a sandbox is worth. -/
noncomputable def Try.pinned : Pinned := { name := "ythhfjomjjhenkaa", sum := "8f256c75a36be43ce5e2eef556446090beddd3bd809fd612beee230436d00dc2", checked := Try.checked }
namespace Rows
def none {H : Type} : Left H := { results := [], args := [] }

/-- 'rexmilllaw27.EditsMove': WHATEVER THE INPUT: true; the input reads as it did. -/
def editsMoveSpec : ChangeSpec := { name := "editsMove", fn := fun _ => fun
  | [d1, d2, d3, d4, d5] => { results := [.lit (.bool true)], args := [d1, d2, d3, d4, d5] }
  | _ => none }
def editsMoveRow : OpenClaim := { program := "ythhfjomjjhenkaa", sum := "8f256c75a36be43ce5e2eef556446090beddd3bd809fd612beee230436d00dc2", func := "rexmill/rexmilllaw27.EditsMove", spec := "editsMove", plainKeys := false, apart := false }
def EditsMoveSaid : Prop := editsMoveRow.holds Try.pinned (OpenSpec.ofChange editsMoveSpec)

/-- ITS FALSE NEIGHBOUR: 'it returns false'. Refute it at one input. -/
def editsMoveWrong : ChangeSpec := { name := "editsMove", fn := fun _ => fun
  | [d1, d2, d3, d4, d5] => { results := [.lit (.bool false)], args := [d1, d2, d3, d4, d5] }
  | _ => none }
def EditsMoveWrongFalsely : Prop := editsMoveRow.holds Try.pinned (OpenSpec.ofChange editsMoveWrong)

/-- 'rexmilllaw27.EditsOnce': WHATEVER THE INPUT: true; the input reads as it did. -/
def editsOnceSpec : ChangeSpec := { name := "editsOnce", fn := fun _ => fun
  | [d1, d2, d3] => { results := [.lit (.bool true)], args := [d1, d2, d3] }
  | _ => none }
def editsOnceRow : OpenClaim := { program := "ythhfjomjjhenkaa", sum := "8f256c75a36be43ce5e2eef556446090beddd3bd809fd612beee230436d00dc2", func := "rexmill/rexmilllaw27.EditsOnce", spec := "editsOnce", plainKeys := false, apart := false }
def EditsOnceSaid : Prop := editsOnceRow.holds Try.pinned (OpenSpec.ofChange editsOnceSpec)

/-- ITS FALSE NEIGHBOUR: 'it returns false'. Refute it at one input. -/
def editsOnceWrong : ChangeSpec := { name := "editsOnce", fn := fun _ => fun
  | [d1, d2, d3] => { results := [.lit (.bool false)], args := [d1, d2, d3] }
  | _ => none }
def EditsOnceWrongFalsely : Prop := editsOnceRow.holds Try.pinned (OpenSpec.ofChange editsOnceWrong)

/-- 'rexmilllaw27.EditsMoved': WHATEVER THE INPUT: true; the input reads as it did. -/
def editsMovedSpec : ChangeSpec := { name := "editsMoved", fn := fun _ => fun
  | [d1, d2] => { results := [.lit (.bool true)], args := [d1, d2] }
  | _ => none }
def editsMovedRow : OpenClaim := { program := "ythhfjomjjhenkaa", sum := "8f256c75a36be43ce5e2eef556446090beddd3bd809fd612beee230436d00dc2", func := "rexmill/rexmilllaw27.EditsMoved", spec := "editsMoved", unfollowed := true, recurses := true, plainKeys := false, apart := false }
def EditsMovedSaid : Prop := editsMovedRow.holds Try.pinned (OpenSpec.ofChange editsMovedSpec)

/-- ITS FALSE NEIGHBOUR: 'it returns false'. Refute it at one input. -/
def editsMovedWrong : ChangeSpec := { name := "editsMoved", fn := fun _ => fun
  | [d1, d2] => { results := [.lit (.bool false)], args := [d1, d2] }
  | _ => none }
def EditsMovedWrongFalsely : Prop := editsMovedRow.holds Try.pinned (OpenSpec.ofChange editsMovedWrong)

/-- 'rexmilllaw27.EditsDiff': WHATEVER THE INPUT: true; the input reads as it did. -/
def editsDiffSpec : ChangeSpec := { name := "editsDiff", fn := fun _ => fun
  | [d1, d2, d3] => { results := [.lit (.bool true)], args := [d1, d2, d3] }
  | _ => none }
def editsDiffRow : OpenClaim := { program := "ythhfjomjjhenkaa", sum := "8f256c75a36be43ce5e2eef556446090beddd3bd809fd612beee230436d00dc2", func := "rexmill/rexmilllaw27.EditsDiff", spec := "editsDiff", unfollowed := true, recurses := true, plainKeys := false, apart := false }
def EditsDiffSaid : Prop := editsDiffRow.holds Try.pinned (OpenSpec.ofChange editsDiffSpec)

/-- ITS FALSE NEIGHBOUR: 'it returns false'. Refute it at one input. -/
def editsDiffWrong : ChangeSpec := { name := "editsDiff", fn := fun _ => fun
  | [d1, d2, d3] => { results := [.lit (.bool false)], args := [d1, d2, d3] }
  | _ => none }
def EditsDiffWrongFalsely : Prop := editsDiffRow.holds Try.pinned (OpenSpec.ofChange editsDiffWrong)

/-- 'rexmilllaw27.EditsJoin': WHATEVER THE INPUT: true; the input reads as it did. -/
def editsJoinSpec : ChangeSpec := { name := "editsJoin", fn := fun _ => fun
  | [d1, d2, d3, d4] => { results := [.lit (.bool true)], args := [d1, d2, d3, d4] }
  | _ => none }
def editsJoinRow : OpenClaim := { program := "ythhfjomjjhenkaa", sum := "8f256c75a36be43ce5e2eef556446090beddd3bd809fd612beee230436d00dc2", func := "rexmill/rexmilllaw27.EditsJoin", spec := "editsJoin", unfollowed := true, recurses := true, plainKeys := false, apart := false }
def EditsJoinSaid : Prop := editsJoinRow.holds Try.pinned (OpenSpec.ofChange editsJoinSpec)

/-- ITS FALSE NEIGHBOUR: 'it returns false'. Refute it at one input. -/
def editsJoinWrong : ChangeSpec := { name := "editsJoin", fn := fun _ => fun
  | [d1, d2, d3, d4] => { results := [.lit (.bool false)], args := [d1, d2, d3, d4] }
  | _ => none }
def EditsJoinWrongFalsely : Prop := editsJoinRow.holds Try.pinned (OpenSpec.ofChange editsJoinWrong)

/-- 'rexmilllaw27.EditsTexts': WHATEVER THE INPUT: true; the input reads as it did. -/
def editsTextsSpec : ChangeSpec := { name := "editsTexts", fn := fun _ => fun
  | [d1, d2, d3] => { results := [.lit (.bool true)], args := [d1, d2, d3] }
  | _ => none }
def editsTextsRow : OpenClaim := { program := "ythhfjomjjhenkaa", sum := "8f256c75a36be43ce5e2eef556446090beddd3bd809fd612beee230436d00dc2", func := "rexmill/rexmilllaw27.EditsTexts", spec := "editsTexts", unfollowed := true, recurses := true, plainKeys := false, apart := false }
def EditsTextsSaid : Prop := editsTextsRow.holds Try.pinned (OpenSpec.ofChange editsTextsSpec)

/-- ITS FALSE NEIGHBOUR: 'it returns false'. Refute it at one input. -/
def editsTextsWrong : ChangeSpec := { name := "editsTexts", fn := fun _ => fun
  | [d1, d2, d3] => { results := [.lit (.bool false)], args := [d1, d2, d3] }
  | _ => none }
def EditsTextsWrongFalsely : Prop := editsTextsRow.holds Try.pinned (OpenSpec.ofChange editsTextsWrong)

/-- 'rexmilllaw27.EditsBytes': WHATEVER THE INPUT: true; the input reads as it did. -/
def editsBytesSpec : ChangeSpec := { name := "editsBytes", fn := fun _ => fun
  | [d1, d2, d3, d4, d5, d6] => { results := [.lit (.bool true)], args := [d1, d2, d3, d4, d5, d6] }
  | _ => none }
def editsBytesRow : OpenClaim := { program := "ythhfjomjjhenkaa", sum := "8f256c75a36be43ce5e2eef556446090beddd3bd809fd612beee230436d00dc2", func := "rexmill/rexmilllaw27.EditsBytes", spec := "editsBytes", unfollowed := true, recurses := true, plainKeys := false, apart := false }
def EditsBytesSaid : Prop := editsBytesRow.holds Try.pinned (OpenSpec.ofChange editsBytesSpec)

/-- ITS FALSE NEIGHBOUR: 'it returns false'. Refute it at one input. -/
def editsBytesWrong : ChangeSpec := { name := "editsBytes", fn := fun _ => fun
  | [d1, d2, d3, d4, d5, d6] => { results := [.lit (.bool false)], args := [d1, d2, d3, d4, d5, d6] }
  | _ => none }
def EditsBytesWrongFalsely : Prop := editsBytesRow.holds Try.pinned (OpenSpec.ofChange editsBytesWrong)

/- THE SECOND FORM. 'bulk': how many values and letters a reading holds, each counted each time it is reached (what is shared counts as often as it is met; a slice's spare places count too). A statement '..UptoSaid' is the law's where the arguments, and the package variables that the reading takes, are together of bulk at most 1048576: NARROWER than '..Said'. Prove '..Said' where nothing that the law and all that it calls make is longer than what came in: it says more and counts as full. Else prove '..UptoSaid'. A law counts once. -/
mutual
def uptoBulk {H : Type} : DataW H → Nat
  | .lit (.string bytes) => bytes.length + 1
  | .lit _ => 1
  | .nil => 1
  | .ptr d => uptoBulk d + 1
  | .slice elems spare => uptoBulkAll elems + uptoBulkAll spare + 1
  | .agg parts => uptoBulkAll parts + 1
  | .iface _ d => uptoBulk d + 1
  | .map entries => uptoBulkEntries entries + 1
  | .held _ => 1
def uptoBulkAll {H : Type} : List (DataW H) → Nat
  | [] => 0
  | d :: r => uptoBulk d + uptoBulkAll r
def uptoBulkEntries {H : Type} : List (Lit × DataW H) → Nat
  | [] => 0
  | x :: r => uptoBulkEntry x + uptoBulkEntries r
def uptoBulkEntry {H : Type} : Lit × DataW H → Nat
  | (.string bytes, d) => bytes.length + uptoBulk d + 1
  | (_, d) => uptoBulk d + 1
 end
def uptoSmall : (H : Type) → List (DataW H) → Bool := fun _ ds => decide (uptoBulkAll ds ≤ 1048576)
def OpenSpec.upto (s : _root_.Go.ChangeSpec) : _root_.Go.OpenSpec := { _root_.Go.OpenSpec.ofChange s with cond := some uptoSmall }

/-- 'rexmilllaw27.EditsMove', WHERE WHAT IT READS IS OF BULK AT MOST 1048576: true; the input reads as it did. -/
def editsMoveUptoRow : OpenClaim := { program := "ythhfjomjjhenkaa", sum := "8f256c75a36be43ce5e2eef556446090beddd3bd809fd612beee230436d00dc2", func := "rexmill/rexmilllaw27.EditsMove", spec := "editsMove", plainKeys := false, apart := false, narrowed := true }
def EditsMoveUptoSaid : Prop := editsMoveUptoRow.holds Try.pinned (OpenSpec.upto editsMoveSpec)

/-- 'rexmilllaw27.EditsOnce', WHERE WHAT IT READS IS OF BULK AT MOST 1048576: true; the input reads as it did. -/
def editsOnceUptoRow : OpenClaim := { program := "ythhfjomjjhenkaa", sum := "8f256c75a36be43ce5e2eef556446090beddd3bd809fd612beee230436d00dc2", func := "rexmill/rexmilllaw27.EditsOnce", spec := "editsOnce", plainKeys := false, apart := false, narrowed := true }
def EditsOnceUptoSaid : Prop := editsOnceUptoRow.holds Try.pinned (OpenSpec.upto editsOnceSpec)

/-- 'rexmilllaw27.EditsMoved', WHERE WHAT IT READS IS OF BULK AT MOST 1048576: true; the input reads as it did. -/
def editsMovedUptoRow : OpenClaim := { program := "ythhfjomjjhenkaa", sum := "8f256c75a36be43ce5e2eef556446090beddd3bd809fd612beee230436d00dc2", func := "rexmill/rexmilllaw27.EditsMoved", spec := "editsMoved", unfollowed := true, recurses := true, plainKeys := false, apart := false, narrowed := true }
def EditsMovedUptoSaid : Prop := editsMovedUptoRow.holds Try.pinned (OpenSpec.upto editsMovedSpec)

/-- 'rexmilllaw27.EditsDiff', WHERE WHAT IT READS IS OF BULK AT MOST 1048576: true; the input reads as it did. -/
def editsDiffUptoRow : OpenClaim := { program := "ythhfjomjjhenkaa", sum := "8f256c75a36be43ce5e2eef556446090beddd3bd809fd612beee230436d00dc2", func := "rexmill/rexmilllaw27.EditsDiff", spec := "editsDiff", unfollowed := true, recurses := true, plainKeys := false, apart := false, narrowed := true }
def EditsDiffUptoSaid : Prop := editsDiffUptoRow.holds Try.pinned (OpenSpec.upto editsDiffSpec)

/-- 'rexmilllaw27.EditsJoin', WHERE WHAT IT READS IS OF BULK AT MOST 1048576: true; the input reads as it did. -/
def editsJoinUptoRow : OpenClaim := { program := "ythhfjomjjhenkaa", sum := "8f256c75a36be43ce5e2eef556446090beddd3bd809fd612beee230436d00dc2", func := "rexmill/rexmilllaw27.EditsJoin", spec := "editsJoin", unfollowed := true, recurses := true, plainKeys := false, apart := false, narrowed := true }
def EditsJoinUptoSaid : Prop := editsJoinUptoRow.holds Try.pinned (OpenSpec.upto editsJoinSpec)

/-- 'rexmilllaw27.EditsTexts', WHERE WHAT IT READS IS OF BULK AT MOST 1048576: true; the input reads as it did. -/
def editsTextsUptoRow : OpenClaim := { program := "ythhfjomjjhenkaa", sum := "8f256c75a36be43ce5e2eef556446090beddd3bd809fd612beee230436d00dc2", func := "rexmill/rexmilllaw27.EditsTexts", spec := "editsTexts", unfollowed := true, recurses := true, plainKeys := false, apart := false, narrowed := true }
def EditsTextsUptoSaid : Prop := editsTextsUptoRow.holds Try.pinned (OpenSpec.upto editsTextsSpec)

/-- 'rexmilllaw27.EditsBytes', WHERE WHAT IT READS IS OF BULK AT MOST 1048576: true; the input reads as it did. -/
def editsBytesUptoRow : OpenClaim := { program := "ythhfjomjjhenkaa", sum := "8f256c75a36be43ce5e2eef556446090beddd3bd809fd612beee230436d00dc2", func := "rexmill/rexmilllaw27.EditsBytes", spec := "editsBytes", unfollowed := true, recurses := true, plainKeys := false, apart := false, narrowed := true }
def EditsBytesUptoSaid : Prop := editsBytesUptoRow.holds Try.pinned (OpenSpec.upto editsBytesSpec)

end Rows
end Go.Proofs.Ythhfjomjjhenkaa
