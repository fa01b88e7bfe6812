/-
  No cell of these rows narrows 'for every input' (looked for: loops, veiled, ifaces, maps, wideKeys, modest, calm, conditions, laid).
  DERIVED. THE GIVEN ROWS OF THIS SEAT. 8 by the template 'for every input the law returns true; each argument reads behind the call as it read before'; 0 by the template 'total and deterministic' (their statements: YtmgpefenkilffaaGreatTotals.lean).
  GIVEN WITH THE SEED: the statements are not yours to turn. If you find one false, say at which input.
  Laid BY PROGRAM, IN A SANDBOX (cutbox-rows.mjs): the forced cells as the released guide's own fill.sh prints them over the translation c8ec18b60299058b… (all of the seat's roots in one cut). By AI agents, Wed Nov 11 2026. No macro, syntax, notation, axiom, sorry.
-/
import Derived.Test.YtmgpefenkilffaaGreatChecked
import GoSem.Claim
import GoSem.ClaimJoined
import GoSem.ClaimMapViews
import Derived.JoinedTies
import Derived.KernelRfl
namespace Go.Proofs.YtmgpefenkilffaaGreat
/- THE CELL 'sum', in the pinned program and in every row, IS THE sha256 OF THE DUMP (.gsa) THAT YtmgpefenkilffaaGreatProg.lean LOADS. Nothing in Lean hashes anything: it is a label: what it is worth is what the hold of that sum in a sandbox is worth. -/
noncomputable def Tryz.pinned : Pinned := { name := "ytmgpefenkilffaagreat", sum := "c8ec18b60299058b28a099dc51e583797aa2bc780f984364e21e34882a987092", checked := Tryz.checked }
namespace Rows
def none {H : Type} : Left H := { results := [], args := [] }

/-- 'rexmilllaw28.StreamPieces': WHATEVER THE INPUT: true; the input reads as it did. -/
def streamPiecesSpec : ChangeSpec := { name := "streamPieces", fn := fun _ => fun
  | [d1, d2, d3, d4] => { results := [.lit (.bool true)], args := [d1, d2, d3, d4] }
  | _ => none }
def streamPiecesRow : OpenClaim := { program := "ytmgpefenkilffaagreat", sum := "c8ec18b60299058b28a099dc51e583797aa2bc780f984364e21e34882a987092", func := "rexmill/rexmilllaw28.StreamPieces", spec := "streamPieces", unfollowed := true, recurses := true, plainKeys := false, apart := false }
def StreamPiecesSaid : Prop := streamPiecesRow.holds Tryz.pinned (OpenSpec.ofChange streamPiecesSpec)

/-- ITS FALSE NEIGHBOUR: 'it returns false'. Refute it at one input. -/
def streamPiecesWrong : ChangeSpec := { name := "streamPieces", fn := fun _ => fun
  | [d1, d2, d3, d4] => { results := [.lit (.bool false)], args := [d1, d2, d3, d4] }
  | _ => none }
def StreamPiecesWrongFalsely : Prop := streamPiecesRow.holds Tryz.pinned (OpenSpec.ofChange streamPiecesWrong)

/-- 'rexmilllaw28.StreamWhole': WHATEVER THE INPUT: true; the input reads as it did. -/
def streamWholeSpec : ChangeSpec := { name := "streamWhole", fn := fun _ => fun
  | [d1, d2, d3, d4] => { results := [.lit (.bool true)], args := [d1, d2, d3, d4] }
  | _ => none }
def streamWholeRow : OpenClaim := { program := "ytmgpefenkilffaagreat", sum := "c8ec18b60299058b28a099dc51e583797aa2bc780f984364e21e34882a987092", func := "rexmill/rexmilllaw28.StreamWhole", spec := "streamWhole", unfollowed := true, recurses := true, plainKeys := false, apart := false }
def StreamWholeSaid : Prop := streamWholeRow.holds Tryz.pinned (OpenSpec.ofChange streamWholeSpec)

/-- ITS FALSE NEIGHBOUR: 'it returns false'. Refute it at one input. -/
def streamWholeWrong : ChangeSpec := { name := "streamWhole", fn := fun _ => fun
  | [d1, d2, d3, d4] => { results := [.lit (.bool false)], args := [d1, d2, d3, d4] }
  | _ => none }
def StreamWholeWrongFalsely : Prop := streamWholeRow.holds Tryz.pinned (OpenSpec.ofChange streamWholeWrong)

/-- 'rexmilllaw28.StreamMonoid': WHATEVER THE INPUT: true; the input reads as it did. -/
def streamMonoidSpec : ChangeSpec := { name := "streamMonoid", fn := fun _ => fun
  | [d1, d2] => { results := [.lit (.bool true)], args := [d1, d2] }
  | _ => none }
def streamMonoidRow : OpenClaim := { program := "ytmgpefenkilffaagreat", sum := "c8ec18b60299058b28a099dc51e583797aa2bc780f984364e21e34882a987092", func := "rexmill/rexmilllaw28.StreamMonoid", spec := "streamMonoid", unfollowed := true, recurses := true, plainKeys := false, apart := false }
def StreamMonoidSaid : Prop := streamMonoidRow.holds Tryz.pinned (OpenSpec.ofChange streamMonoidSpec)

/-- ITS FALSE NEIGHBOUR: 'it returns false'. Refute it at one input. -/
def streamMonoidWrong : ChangeSpec := { name := "streamMonoid", fn := fun _ => fun
  | [d1, d2] => { results := [.lit (.bool false)], args := [d1, d2] }
  | _ => none }
def StreamMonoidWrongFalsely : Prop := streamMonoidRow.holds Tryz.pinned (OpenSpec.ofChange streamMonoidWrong)

/-- 'rexmilllaw28.StreamSem': WHATEVER THE INPUT: true; the input reads as it did. -/
def streamSemSpec : ChangeSpec := { name := "streamSem", fn := fun _ => fun
  | [d1, d2, d3] => { results := [.lit (.bool true)], args := [d1, d2, d3] }
  | _ => none }
def streamSemRow : OpenClaim := { program := "ytmgpefenkilffaagreat", sum := "c8ec18b60299058b28a099dc51e583797aa2bc780f984364e21e34882a987092", func := "rexmill/rexmilllaw28.StreamSem", spec := "streamSem", unfollowed := true, recurses := true, plainKeys := false, apart := false }
def StreamSemSaid : Prop := streamSemRow.holds Tryz.pinned (OpenSpec.ofChange streamSemSpec)

/-- ITS FALSE NEIGHBOUR: 'it returns false'. Refute it at one input. -/
def streamSemWrong : ChangeSpec := { name := "streamSem", fn := fun _ => fun
  | [d1, d2, d3] => { results := [.lit (.bool false)], args := [d1, d2, d3] }
  | _ => none }
def StreamSemWrongFalsely : Prop := streamSemRow.holds Tryz.pinned (OpenSpec.ofChange streamSemWrong)

/-- 'rexmilllaw24.MonoidNew': WHATEVER THE INPUT: true; the input reads as it did. -/
def monoidNewSpec : ChangeSpec := { name := "monoidNew", fn := fun _ => fun
  | [d1, d2, d3, d4, d5, d6] => { results := [.lit (.bool true)], args := [d1, d2, d3, d4, d5, d6] }
  | _ => none }
def monoidNewRow : OpenClaim := { program := "ytmgpefenkilffaagreat", sum := "c8ec18b60299058b28a099dc51e583797aa2bc780f984364e21e34882a987092", func := "rexmill/rexmilllaw24.MonoidNew", spec := "monoidNew", unfollowed := true, recurses := true, plainKeys := false, apart := false }
def MonoidNewSaid : Prop := monoidNewRow.holds Tryz.pinned (OpenSpec.ofChange monoidNewSpec)

/-- ITS FALSE NEIGHBOUR: 'it returns false'. Refute it at one input. -/
def monoidNewWrong : ChangeSpec := { name := "monoidNew", fn := fun _ => fun
  | [d1, d2, d3, d4, d5, d6] => { results := [.lit (.bool false)], args := [d1, d2, d3, d4, d5, d6] }
  | _ => none }
def MonoidNewWrongFalsely : Prop := monoidNewRow.holds Tryz.pinned (OpenSpec.ofChange monoidNewWrong)

/-- 'rexmilllaw24.MonoidFound': WHATEVER THE INPUT: true; the input reads as it did. -/
def monoidFoundSpec : ChangeSpec := { name := "monoidFound", fn := fun _ => fun
  | [d1, d2, d3, d4, d5] => { results := [.lit (.bool true)], args := [d1, d2, d3, d4, d5] }
  | _ => none }
def monoidFoundRow : OpenClaim := { program := "ytmgpefenkilffaagreat", sum := "c8ec18b60299058b28a099dc51e583797aa2bc780f984364e21e34882a987092", func := "rexmill/rexmilllaw24.MonoidFound", spec := "monoidFound", unfollowed := true, recurses := true, plainKeys := false, apart := false }
def MonoidFoundSaid : Prop := monoidFoundRow.holds Tryz.pinned (OpenSpec.ofChange monoidFoundSpec)

/-- ITS FALSE NEIGHBOUR: 'it returns false'. Refute it at one input. -/
def monoidFoundWrong : ChangeSpec := { name := "monoidFound", fn := fun _ => fun
  | [d1, d2, d3, d4, d5] => { results := [.lit (.bool false)], args := [d1, d2, d3, d4, d5] }
  | _ => none }
def MonoidFoundWrongFalsely : Prop := monoidFoundRow.holds Tryz.pinned (OpenSpec.ofChange monoidFoundWrong)

/-- 'rexmilllaw24.MonoidSure': WHATEVER THE INPUT: true; the input reads as it did. -/
def monoidSureSpec : ChangeSpec := { name := "monoidSure", fn := fun _ => fun
  | [d1, d2, d3, d4] => { results := [.lit (.bool true)], args := [d1, d2, d3, d4] }
  | _ => none }
def monoidSureRow : OpenClaim := { program := "ytmgpefenkilffaagreat", sum := "c8ec18b60299058b28a099dc51e583797aa2bc780f984364e21e34882a987092", func := "rexmill/rexmilllaw24.MonoidSure", spec := "monoidSure", unfollowed := true, recurses := true, plainKeys := false, apart := false }
def MonoidSureSaid : Prop := monoidSureRow.holds Tryz.pinned (OpenSpec.ofChange monoidSureSpec)

/-- ITS FALSE NEIGHBOUR: 'it returns false'. Refute it at one input. -/
def monoidSureWrong : ChangeSpec := { name := "monoidSure", fn := fun _ => fun
  | [d1, d2, d3, d4] => { results := [.lit (.bool false)], args := [d1, d2, d3, d4] }
  | _ => none }
def MonoidSureWrongFalsely : Prop := monoidSureRow.holds Tryz.pinned (OpenSpec.ofChange monoidSureWrong)

/-- 'rexmilllaw25.RopeSummaries': WHATEVER THE INPUT: true; the input reads as it did. -/
def ropeSummariesSpec : ChangeSpec := { name := "ropeSummaries", fn := fun _ => fun
  | [d1, d2, d3] => { results := [.lit (.bool true)], args := [d1, d2, d3] }
  | _ => none }
def ropeSummariesRow : OpenClaim := { program := "ytmgpefenkilffaagreat", sum := "c8ec18b60299058b28a099dc51e583797aa2bc780f984364e21e34882a987092", func := "rexmill/rexmilllaw25.RopeSummaries", spec := "ropeSummaries", unfollowed := true, recurses := true, plainKeys := false, apart := false }
def RopeSummariesSaid : Prop := ropeSummariesRow.holds Tryz.pinned (OpenSpec.ofChange ropeSummariesSpec)

/-- ITS FALSE NEIGHBOUR: 'it returns false'. Refute it at one input. -/
def ropeSummariesWrong : ChangeSpec := { name := "ropeSummaries", fn := fun _ => fun
  | [d1, d2, d3] => { results := [.lit (.bool false)], args := [d1, d2, d3] }
  | _ => none }
def RopeSummariesWrongFalsely : Prop := ropeSummariesRow.holds Tryz.pinned (OpenSpec.ofChange ropeSummariesWrong)

/- THE SECOND FORM. 'bulk': how many values and letters a reading holds, each counted each time it is reached (what is shared counts as often as it is met; a slice's spare places count too). A statement '..UptoSaid' is the law's where the arguments, and the package variables that the reading takes, are together of bulk at most 1048576: NARROWER than '..Said'. Prove '..Said' where nothing that the law and all that it calls make is longer than what came in: it says more and counts as full. Else prove '..UptoSaid'. A law counts once. -/
mutual
def uptoBulk {H : Type} : DataW H → Nat
  | .lit (.string bytes) => bytes.length + 1
  | .lit _ => 1
  | .nil => 1
  | .ptr d => uptoBulk d + 1
  | .slice elems spare => uptoBulkAll elems + uptoBulkAll spare + 1
  | .agg parts => uptoBulkAll parts + 1
  | .iface _ d => uptoBulk d + 1
  | .map entries => uptoBulkEntries entries + 1
  | .held _ => 1
def uptoBulkAll {H : Type} : List (DataW H) → Nat
  | [] => 0
  | d :: r => uptoBulk d + uptoBulkAll r
def uptoBulkEntries {H : Type} : List (Lit × DataW H) → Nat
  | [] => 0
  | x :: r => uptoBulkEntry x + uptoBulkEntries r
def uptoBulkEntry {H : Type} : Lit × DataW H → Nat
  | (.string bytes, d) => bytes.length + uptoBulk d + 1
  | (_, d) => uptoBulk d + 1
 end
def uptoSmall : (H : Type) → List (DataW H) → Bool := fun _ ds => decide (uptoBulkAll ds ≤ 1048576)
def OpenSpec.upto (s : _root_.Go.ChangeSpec) : _root_.Go.OpenSpec := { _root_.Go.OpenSpec.ofChange s with cond := some uptoSmall }

/-- 'rexmilllaw28.StreamPieces', WHERE WHAT IT READS IS OF BULK AT MOST 1048576: true; the input reads as it did. -/
def streamPiecesUptoRow : OpenClaim := { program := "ytmgpefenkilffaagreat", sum := "c8ec18b60299058b28a099dc51e583797aa2bc780f984364e21e34882a987092", func := "rexmill/rexmilllaw28.StreamPieces", spec := "streamPieces", unfollowed := true, recurses := true, plainKeys := false, apart := false, narrowed := true }
def StreamPiecesUptoSaid : Prop := streamPiecesUptoRow.holds Tryz.pinned (OpenSpec.upto streamPiecesSpec)

/-- 'rexmilllaw28.StreamWhole', WHERE WHAT IT READS IS OF BULK AT MOST 1048576: true; the input reads as it did. -/
def streamWholeUptoRow : OpenClaim := { program := "ytmgpefenkilffaagreat", sum := "c8ec18b60299058b28a099dc51e583797aa2bc780f984364e21e34882a987092", func := "rexmill/rexmilllaw28.StreamWhole", spec := "streamWhole", unfollowed := true, recurses := true, plainKeys := false, apart := false, narrowed := true }
def StreamWholeUptoSaid : Prop := streamWholeUptoRow.holds Tryz.pinned (OpenSpec.upto streamWholeSpec)

/-- 'rexmilllaw28.StreamMonoid', WHERE WHAT IT READS IS OF BULK AT MOST 1048576: true; the input reads as it did. -/
def streamMonoidUptoRow : OpenClaim := { program := "ytmgpefenkilffaagreat", sum := "c8ec18b60299058b28a099dc51e583797aa2bc780f984364e21e34882a987092", func := "rexmill/rexmilllaw28.StreamMonoid", spec := "streamMonoid", unfollowed := true, recurses := true, plainKeys := false, apart := false, narrowed := true }
def StreamMonoidUptoSaid : Prop := streamMonoidUptoRow.holds Tryz.pinned (OpenSpec.upto streamMonoidSpec)

/-- 'rexmilllaw28.StreamSem', WHERE WHAT IT READS IS OF BULK AT MOST 1048576: true; the input reads as it did. -/
def streamSemUptoRow : OpenClaim := { program := "ytmgpefenkilffaagreat", sum := "c8ec18b60299058b28a099dc51e583797aa2bc780f984364e21e34882a987092", func := "rexmill/rexmilllaw28.StreamSem", spec := "streamSem", unfollowed := true, recurses := true, plainKeys := false, apart := false, narrowed := true }
def StreamSemUptoSaid : Prop := streamSemUptoRow.holds Tryz.pinned (OpenSpec.upto streamSemSpec)

/-- 'rexmilllaw24.MonoidNew', WHERE WHAT IT READS IS OF BULK AT MOST 1048576: true; the input reads as it did. -/
def monoidNewUptoRow : OpenClaim := { program := "ytmgpefenkilffaagreat", sum := "c8ec18b60299058b28a099dc51e583797aa2bc780f984364e21e34882a987092", func := "rexmill/rexmilllaw24.MonoidNew", spec := "monoidNew", unfollowed := true, recurses := true, plainKeys := false, apart := false, narrowed := true }
def MonoidNewUptoSaid : Prop := monoidNewUptoRow.holds Tryz.pinned (OpenSpec.upto monoidNewSpec)

/-- 'rexmilllaw24.MonoidFound', WHERE WHAT IT READS IS OF BULK AT MOST 1048576: true; the input reads as it did. -/
def monoidFoundUptoRow : OpenClaim := { program := "ytmgpefenkilffaagreat", sum := "c8ec18b60299058b28a099dc51e583797aa2bc780f984364e21e34882a987092", func := "rexmill/rexmilllaw24.MonoidFound", spec := "monoidFound", unfollowed := true, recurses := true, plainKeys := false, apart := false, narrowed := true }
def MonoidFoundUptoSaid : Prop := monoidFoundUptoRow.holds Tryz.pinned (OpenSpec.upto monoidFoundSpec)

/-- 'rexmilllaw24.MonoidSure', WHERE WHAT IT READS IS OF BULK AT MOST 1048576: true; the input reads as it did. -/
def monoidSureUptoRow : OpenClaim := { program := "ytmgpefenkilffaagreat", sum := "c8ec18b60299058b28a099dc51e583797aa2bc780f984364e21e34882a987092", func := "rexmill/rexmilllaw24.MonoidSure", spec := "monoidSure", unfollowed := true, recurses := true, plainKeys := false, apart := false, narrowed := true }
def MonoidSureUptoSaid : Prop := monoidSureUptoRow.holds Tryz.pinned (OpenSpec.upto monoidSureSpec)

/-- 'rexmilllaw25.RopeSummaries', WHERE WHAT IT READS IS OF BULK AT MOST 1048576: true; the input reads as it did. -/
def ropeSummariesUptoRow : OpenClaim := { program := "ytmgpefenkilffaagreat", sum := "c8ec18b60299058b28a099dc51e583797aa2bc780f984364e21e34882a987092", func := "rexmill/rexmilllaw25.RopeSummaries", spec := "ropeSummaries", unfollowed := true, recurses := true, plainKeys := false, apart := false, narrowed := true }
def RopeSummariesUptoSaid : Prop := ropeSummariesUptoRow.holds Tryz.pinned (OpenSpec.upto ropeSummariesSpec)

end Rows
end Go.Proofs.YtmgpefenkilffaaGreat
