/-
  No cell of these rows narrows 'for every input' (looked for: loops, veiled, ifaces, maps, wideKeys, modest, calm, conditions, laid).
  DERIVED. THE GIVEN ROWS OF THIS SEAT. 6 by the template 'for every input the law returns true; each argument reads behind the call as it read before'; 0 by the template 'total and deterministic' (their statements: YtlbdjnbcoldjhaaTotals.lean).
  GIVEN WITH THE SEED: the statements are not yours to turn. If you find one false, say at which input.
  Laid BY PROGRAM, IN A SANDBOX (cutbox-rows.mjs): the forced cells as the released guide's own fill.sh prints them over the translation d8a70b165c66e471… (all of the seat's roots in one cut). By AI agents, Wed Nov 11 2026. No macro, syntax, notation, axiom, sorry.
-/
import Derived.Test.YtlbdjnbcoldjhaaChecked
import GoSem.Claim
import GoSem.ClaimJoined
import GoSem.ClaimMapViews
import Derived.JoinedTies
import Derived.KernelRfl
namespace Go.Proofs.Ytlbdjnbcoldjhaa
/- THE CELL 'sum', in the pinned program and in every row, IS THE sha256 OF THE DUMP (.gsa) THAT YtlbdjnbcoldjhaaProg.lean LOADS. Nothing in Lean hashes anything: it is a label: what it is worth is what the hold of that sum in a sandbox is worth. -/
noncomputable def Try.pinned : Pinned := { name := "ytlbdjnbcoldjhaa", sum := "d8a70b165c66e4712dbc9634c2381b1f723c862e9d339ba5fab6de879972ed70", checked := Try.checked }
namespace Rows
def none {H : Type} : Left H := { results := [], args := [] }

/-- 'rexmilllaw03.SetsSplit': WHATEVER THE INPUT: true; the input reads as it did. -/
def setsSplitSpec : ChangeSpec := { name := "setsSplit", fn := fun _ => fun
  | [d1, d2, d3, d4, d5] => { results := [.lit (.bool true)], args := [d1, d2, d3, d4, d5] }
  | _ => none }
def setsSplitRow : OpenClaim := { program := "ytlbdjnbcoldjhaa", sum := "d8a70b165c66e4712dbc9634c2381b1f723c862e9d339ba5fab6de879972ed70", func := "rexmill/rexmilllaw03.SetsSplit", spec := "setsSplit", unfollowed := true, recurses := true, plainKeys := false, apart := false }
def SetsSplitSaid : Prop := setsSplitRow.holds Try.pinned (OpenSpec.ofChange setsSplitSpec)

/-- ITS FALSE NEIGHBOUR: 'it returns false'. Refute it at one input. -/
def setsSplitWrong : ChangeSpec := { name := "setsSplit", fn := fun _ => fun
  | [d1, d2, d3, d4, d5] => { results := [.lit (.bool false)], args := [d1, d2, d3, d4, d5] }
  | _ => none }
def SetsSplitWrongFalsely : Prop := setsSplitRow.holds Try.pinned (OpenSpec.ofChange setsSplitWrong)

/-- 'rexmilllaw03.SetsNormal': WHATEVER THE INPUT: true; the input reads as it did. -/
def setsNormalSpec : ChangeSpec := { name := "setsNormal", fn := fun _ => fun
  | [d1, d2, d3, d4, d5] => { results := [.lit (.bool true)], args := [d1, d2, d3, d4, d5] }
  | _ => none }
def setsNormalRow : OpenClaim := { program := "ytlbdjnbcoldjhaa", sum := "d8a70b165c66e4712dbc9634c2381b1f723c862e9d339ba5fab6de879972ed70", func := "rexmill/rexmilllaw03.SetsNormal", spec := "setsNormal", unfollowed := true, recurses := true, plainKeys := false, apart := false }
def SetsNormalSaid : Prop := setsNormalRow.holds Try.pinned (OpenSpec.ofChange setsNormalSpec)

/-- ITS FALSE NEIGHBOUR: 'it returns false'. Refute it at one input. -/
def setsNormalWrong : ChangeSpec := { name := "setsNormal", fn := fun _ => fun
  | [d1, d2, d3, d4, d5] => { results := [.lit (.bool false)], args := [d1, d2, d3, d4, d5] }
  | _ => none }
def SetsNormalWrongFalsely : Prop := setsNormalRow.holds Try.pinned (OpenSpec.ofChange setsNormalWrong)

/-- 'rexmilllaw03.SetsCombine': WHATEVER THE INPUT: true; the input reads as it did. -/
def setsCombineSpec : ChangeSpec := { name := "setsCombine", fn := fun _ => fun
  | [d1, d2, d3, d4, d5] => { results := [.lit (.bool true)], args := [d1, d2, d3, d4, d5] }
  | _ => none }
def setsCombineRow : OpenClaim := { program := "ytlbdjnbcoldjhaa", sum := "d8a70b165c66e4712dbc9634c2381b1f723c862e9d339ba5fab6de879972ed70", func := "rexmill/rexmilllaw03.SetsCombine", spec := "setsCombine", unfollowed := true, recurses := true, plainKeys := false, apart := false }
def SetsCombineSaid : Prop := setsCombineRow.holds Try.pinned (OpenSpec.ofChange setsCombineSpec)

/-- ITS FALSE NEIGHBOUR: 'it returns false'. Refute it at one input. -/
def setsCombineWrong : ChangeSpec := { name := "setsCombine", fn := fun _ => fun
  | [d1, d2, d3, d4, d5] => { results := [.lit (.bool false)], args := [d1, d2, d3, d4, d5] }
  | _ => none }
def SetsCombineWrongFalsely : Prop := setsCombineRow.holds Try.pinned (OpenSpec.ofChange setsCombineWrong)

/-- 'rexmilllaw03.SetsClasses': WHATEVER THE INPUT: true; the input reads as it did. -/
def setsClassesSpec : ChangeSpec := { name := "setsClasses", fn := fun _ => fun
  | [d1, d2, d3] => { results := [.lit (.bool true)], args := [d1, d2, d3] }
  | _ => none }
def setsClassesRow : OpenClaim := { program := "ytlbdjnbcoldjhaa", sum := "d8a70b165c66e4712dbc9634c2381b1f723c862e9d339ba5fab6de879972ed70", func := "rexmill/rexmilllaw03.SetsClasses", spec := "setsClasses", unfollowed := true, recurses := true, plainKeys := false, apart := false }
def SetsClassesSaid : Prop := setsClassesRow.holds Try.pinned (OpenSpec.ofChange setsClassesSpec)

/-- ITS FALSE NEIGHBOUR: 'it returns false'. Refute it at one input. -/
def setsClassesWrong : ChangeSpec := { name := "setsClasses", fn := fun _ => fun
  | [d1, d2, d3] => { results := [.lit (.bool false)], args := [d1, d2, d3] }
  | _ => none }
def SetsClassesWrongFalsely : Prop := setsClassesRow.holds Try.pinned (OpenSpec.ofChange setsClassesWrong)

/-- 'rexmilllaw03.SetsAlgebra': WHATEVER THE INPUT: true; the input reads as it did. -/
def setsAlgebraSpec : ChangeSpec := { name := "setsAlgebra", fn := fun _ => fun
  | [d1, d2, d3] => { results := [.lit (.bool true)], args := [d1, d2, d3] }
  | _ => none }
def setsAlgebraRow : OpenClaim := { program := "ytlbdjnbcoldjhaa", sum := "d8a70b165c66e4712dbc9634c2381b1f723c862e9d339ba5fab6de879972ed70", func := "rexmill/rexmilllaw03.SetsAlgebra", spec := "setsAlgebra", unfollowed := true, recurses := true, plainKeys := false, apart := false }
def SetsAlgebraSaid : Prop := setsAlgebraRow.holds Try.pinned (OpenSpec.ofChange setsAlgebraSpec)

/-- ITS FALSE NEIGHBOUR: 'it returns false'. Refute it at one input. -/
def setsAlgebraWrong : ChangeSpec := { name := "setsAlgebra", fn := fun _ => fun
  | [d1, d2, d3] => { results := [.lit (.bool false)], args := [d1, d2, d3] }
  | _ => none }
def SetsAlgebraWrongFalsely : Prop := setsAlgebraRow.holds Try.pinned (OpenSpec.ofChange setsAlgebraWrong)

/-- 'rexmilllaw03.SetsBytes': WHATEVER THE INPUT: true; the input reads as it did. -/
def setsBytesSpec : ChangeSpec := { name := "setsBytes", fn := fun _ => fun
  | [d1, d2, d3, d4, d5, d6] => { results := [.lit (.bool true)], args := [d1, d2, d3, d4, d5, d6] }
  | _ => none }
def setsBytesRow : OpenClaim := { program := "ytlbdjnbcoldjhaa", sum := "d8a70b165c66e4712dbc9634c2381b1f723c862e9d339ba5fab6de879972ed70", func := "rexmill/rexmilllaw03.SetsBytes", spec := "setsBytes", unfollowed := true, recurses := true, plainKeys := false, apart := false }
def SetsBytesSaid : Prop := setsBytesRow.holds Try.pinned (OpenSpec.ofChange setsBytesSpec)

/-- ITS FALSE NEIGHBOUR: 'it returns false'. Refute it at one input. -/
def setsBytesWrong : ChangeSpec := { name := "setsBytes", fn := fun _ => fun
  | [d1, d2, d3, d4, d5, d6] => { results := [.lit (.bool false)], args := [d1, d2, d3, d4, d5, d6] }
  | _ => none }
def SetsBytesWrongFalsely : Prop := setsBytesRow.holds Try.pinned (OpenSpec.ofChange setsBytesWrong)

/- THE SECOND FORM. 'bulk': how many values and letters a reading holds, each counted each time it is reached (what is shared counts as often as it is met; a slice's spare places count too). A statement '..UptoSaid' is the law's where the arguments, and the package variables that the reading takes, are together of bulk at most 1048576: NARROWER than '..Said'. Prove '..Said' where nothing that the law and all that it calls make is longer than what came in: it says more and counts as full. Else prove '..UptoSaid'. A law counts once. -/
mutual
def uptoBulk {H : Type} : DataW H → Nat
  | .lit (.string bytes) => bytes.length + 1
  | .lit _ => 1
  | .nil => 1
  | .ptr d => uptoBulk d + 1
  | .slice elems spare => uptoBulkAll elems + uptoBulkAll spare + 1
  | .agg parts => uptoBulkAll parts + 1
  | .iface _ d => uptoBulk d + 1
  | .map entries => uptoBulkEntries entries + 1
  | .held _ => 1
def uptoBulkAll {H : Type} : List (DataW H) → Nat
  | [] => 0
  | d :: r => uptoBulk d + uptoBulkAll r
def uptoBulkEntries {H : Type} : List (Lit × DataW H) → Nat
  | [] => 0
  | x :: r => uptoBulkEntry x + uptoBulkEntries r
def uptoBulkEntry {H : Type} : Lit × DataW H → Nat
  | (.string bytes, d) => bytes.length + uptoBulk d + 1
  | (_, d) => uptoBulk d + 1
 end
def uptoSmall : (H : Type) → List (DataW H) → Bool := fun _ ds => decide (uptoBulkAll ds ≤ 1048576)
def OpenSpec.upto (s : _root_.Go.ChangeSpec) : _root_.Go.OpenSpec := { _root_.Go.OpenSpec.ofChange s with cond := some uptoSmall }

/-- 'rexmilllaw03.SetsSplit', WHERE WHAT IT READS IS OF BULK AT MOST 1048576: true; the input reads as it did. -/
def setsSplitUptoRow : OpenClaim := { program := "ytlbdjnbcoldjhaa", sum := "d8a70b165c66e4712dbc9634c2381b1f723c862e9d339ba5fab6de879972ed70", func := "rexmill/rexmilllaw03.SetsSplit", spec := "setsSplit", unfollowed := true, recurses := true, plainKeys := false, apart := false, narrowed := true }
def SetsSplitUptoSaid : Prop := setsSplitUptoRow.holds Try.pinned (OpenSpec.upto setsSplitSpec)

/-- 'rexmilllaw03.SetsNormal', WHERE WHAT IT READS IS OF BULK AT MOST 1048576: true; the input reads as it did. -/
def setsNormalUptoRow : OpenClaim := { program := "ytlbdjnbcoldjhaa", sum := "d8a70b165c66e4712dbc9634c2381b1f723c862e9d339ba5fab6de879972ed70", func := "rexmill/rexmilllaw03.SetsNormal", spec := "setsNormal", unfollowed := true, recurses := true, plainKeys := false, apart := false, narrowed := true }
def SetsNormalUptoSaid : Prop := setsNormalUptoRow.holds Try.pinned (OpenSpec.upto setsNormalSpec)

/-- 'rexmilllaw03.SetsCombine', WHERE WHAT IT READS IS OF BULK AT MOST 1048576: true; the input reads as it did. -/
def setsCombineUptoRow : OpenClaim := { program := "ytlbdjnbcoldjhaa", sum := "d8a70b165c66e4712dbc9634c2381b1f723c862e9d339ba5fab6de879972ed70", func := "rexmill/rexmilllaw03.SetsCombine", spec := "setsCombine", unfollowed := true, recurses := true, plainKeys := false, apart := false, narrowed := true }
def SetsCombineUptoSaid : Prop := setsCombineUptoRow.holds Try.pinned (OpenSpec.upto setsCombineSpec)

/-- 'rexmilllaw03.SetsClasses', WHERE WHAT IT READS IS OF BULK AT MOST 1048576: true; the input reads as it did. -/
def setsClassesUptoRow : OpenClaim := { program := "ytlbdjnbcoldjhaa", sum := "d8a70b165c66e4712dbc9634c2381b1f723c862e9d339ba5fab6de879972ed70", func := "rexmill/rexmilllaw03.SetsClasses", spec := "setsClasses", unfollowed := true, recurses := true, plainKeys := false, apart := false, narrowed := true }
def SetsClassesUptoSaid : Prop := setsClassesUptoRow.holds Try.pinned (OpenSpec.upto setsClassesSpec)

/-- 'rexmilllaw03.SetsAlgebra', WHERE WHAT IT READS IS OF BULK AT MOST 1048576: true; the input reads as it did. -/
def setsAlgebraUptoRow : OpenClaim := { program := "ytlbdjnbcoldjhaa", sum := "d8a70b165c66e4712dbc9634c2381b1f723c862e9d339ba5fab6de879972ed70", func := "rexmill/rexmilllaw03.SetsAlgebra", spec := "setsAlgebra", unfollowed := true, recurses := true, plainKeys := false, apart := false, narrowed := true }
def SetsAlgebraUptoSaid : Prop := setsAlgebraUptoRow.holds Try.pinned (OpenSpec.upto setsAlgebraSpec)

/-- 'rexmilllaw03.SetsBytes', WHERE WHAT IT READS IS OF BULK AT MOST 1048576: true; the input reads as it did. -/
def setsBytesUptoRow : OpenClaim := { program := "ytlbdjnbcoldjhaa", sum := "d8a70b165c66e4712dbc9634c2381b1f723c862e9d339ba5fab6de879972ed70", func := "rexmill/rexmilllaw03.SetsBytes", spec := "setsBytes", unfollowed := true, recurses := true, plainKeys := false, apart := false, narrowed := true }
def SetsBytesUptoSaid : Prop := setsBytesUptoRow.holds Try.pinned (OpenSpec.upto setsBytesSpec)

end Rows
end Go.Proofs.Ytlbdjnbcoldjhaa
