/-
  No cell of these rows narrows 'for every input' (looked for: loops, veiled, ifaces, maps, wideKeys, modest, calm, conditions, laid).
  DERIVED. THE GIVEN ROWS OF THIS SEAT. 12 by the template 'for every input the law returns true; each argument reads behind the call as it read before'; 0 by the template 'total and deterministic' (their statements: YtchmbcembbbplabTotals.lean).
  GIVEN WITH THE SEED: the statements are not yours to turn. If you find one false, say at which input.
  Laid BY PROGRAM, IN A SANDBOX (cutbox-rows.mjs): the forced cells as the released guide's own fill.sh prints them over the translation 260d0375f730067c… (all of the seat's roots in one cut). By AI agents, Wed Nov 11 2026. No macro, syntax, notation, axiom, sorry.
-/
import Derived.Test.YtchmbcembbbplabChecked
import GoSem.Claim
import GoSem.ClaimJoined
import GoSem.ClaimMapViews
import Derived.JoinedTies
import Derived.KernelRfl
namespace Go.Proofs.Ytchmbcembbbplab
/- THE CELL 'sum', in the pinned program and in every row, IS THE sha256 OF THE DUMP (.gsa) THAT YtchmbcembbbplabProg.lean LOADS. Nothing in Lean hashes anything: it is a label: what it is worth is what the hold of that sum in a sandbox is worth. -/
noncomputable def Try.pinned : Pinned := { name := "ytchmbcembbbplab", sum := "260d0375f730067c4e786fc2e7ee3d4b8d548130a88257864e4ee53119c2ba80", checked := Try.checked }
namespace Rows
def none {H : Type} : Left H := { results := [], args := [] }

/-- 'laws.FnBoxes': WHATEVER THE INPUT: true; the input reads as it did. -/
def fnBoxesSpec : ChangeSpec := { name := "fnBoxes", fn := fun _ => fun
  | [d] => { results := [.lit (.bool true)], args := [d] }
  | _ => none }
def fnBoxesRow : OpenClaim := { program := "ytchmbcembbbplab", sum := "260d0375f730067c4e786fc2e7ee3d4b8d548130a88257864e4ee53119c2ba80", func := "loop.example/g03005/laws.FnBoxes", spec := "fnBoxes", apart := false }
def FnBoxesSaid : Prop := fnBoxesRow.holds Try.pinned (OpenSpec.ofChange fnBoxesSpec)

/-- ITS FALSE NEIGHBOUR: 'it returns false'. Refute it at one input. -/
def fnBoxesWrong : ChangeSpec := { name := "fnBoxes", fn := fun _ => fun
  | [d] => { results := [.lit (.bool false)], args := [d] }
  | _ => none }
def FnBoxesWrongFalsely : Prop := fnBoxesRow.holds Try.pinned (OpenSpec.ofChange fnBoxesWrong)

/-- 'laws.FnExactEqualSources': WHATEVER THE INPUT: true; the input reads as it did. -/
def fnExactEqualSourcesSpec : ChangeSpec := { name := "fnExactEqualSources", fn := fun _ => fun
  | [d1, d2] => { results := [.lit (.bool true)], args := [d1, d2] }
  | _ => none }
def fnExactEqualSourcesRow : OpenClaim := { program := "ytchmbcembbbplab", sum := "260d0375f730067c4e786fc2e7ee3d4b8d548130a88257864e4ee53119c2ba80", func := "loop.example/g03005/laws.FnExactEqualSources", spec := "fnExactEqualSources", unfollowed := true, recurses := true, apart := false }
def FnExactEqualSourcesSaid : Prop := fnExactEqualSourcesRow.holds Try.pinned (OpenSpec.ofChange fnExactEqualSourcesSpec)

/-- ITS FALSE NEIGHBOUR: 'it returns false'. Refute it at one input. -/
def fnExactEqualSourcesWrong : ChangeSpec := { name := "fnExactEqualSources", fn := fun _ => fun
  | [d1, d2] => { results := [.lit (.bool false)], args := [d1, d2] }
  | _ => none }
def FnExactEqualSourcesWrongFalsely : Prop := fnExactEqualSourcesRow.holds Try.pinned (OpenSpec.ofChange fnExactEqualSourcesWrong)

/-- 'laws.FnExactIsFaithful': WHATEVER THE INPUT: true; the input reads as it did. -/
def fnExactIsFaithfulSpec : ChangeSpec := { name := "fnExactIsFaithful", fn := fun _ => fun
  | [d1, d2, d3] => { results := [.lit (.bool true)], args := [d1, d2, d3] }
  | _ => none }
def fnExactIsFaithfulRow : OpenClaim := { program := "ytchmbcembbbplab", sum := "260d0375f730067c4e786fc2e7ee3d4b8d548130a88257864e4ee53119c2ba80", func := "loop.example/g03005/laws.FnExactIsFaithful", spec := "fnExactIsFaithful", apart := false }
def FnExactIsFaithfulSaid : Prop := fnExactIsFaithfulRow.holds Try.pinned (OpenSpec.ofChange fnExactIsFaithfulSpec)

/-- ITS FALSE NEIGHBOUR: 'it returns false'. Refute it at one input. -/
def fnExactIsFaithfulWrong : ChangeSpec := { name := "fnExactIsFaithful", fn := fun _ => fun
  | [d1, d2, d3] => { results := [.lit (.bool false)], args := [d1, d2, d3] }
  | _ => none }
def FnExactIsFaithfulWrongFalsely : Prop := fnExactIsFaithfulRow.holds Try.pinned (OpenSpec.ofChange fnExactIsFaithfulWrong)

/-- 'laws.FnExactCountLeftOut': WHATEVER THE INPUT: true; the input reads as it did. -/
def fnExactCountLeftOutSpec : ChangeSpec := { name := "fnExactCountLeftOut", fn := fun _ => fun
  | [d1, d2] => { results := [.lit (.bool true)], args := [d1, d2] }
  | _ => none }
def fnExactCountLeftOutRow : OpenClaim := { program := "ytchmbcembbbplab", sum := "260d0375f730067c4e786fc2e7ee3d4b8d548130a88257864e4ee53119c2ba80", func := "loop.example/g03005/laws.FnExactCountLeftOut", spec := "fnExactCountLeftOut", recurses := true, apart := false }
def FnExactCountLeftOutSaid : Prop := fnExactCountLeftOutRow.holds Try.pinned (OpenSpec.ofChange fnExactCountLeftOutSpec)

/-- ITS FALSE NEIGHBOUR: 'it returns false'. Refute it at one input. -/
def fnExactCountLeftOutWrong : ChangeSpec := { name := "fnExactCountLeftOut", fn := fun _ => fun
  | [d1, d2] => { results := [.lit (.bool false)], args := [d1, d2] }
  | _ => none }
def FnExactCountLeftOutWrongFalsely : Prop := fnExactCountLeftOutRow.holds Try.pinned (OpenSpec.ofChange fnExactCountLeftOutWrong)

/-- 'laws.FnExactSimplifyLine': WHATEVER THE INPUT: true; the input reads as it did. -/
def fnExactSimplifyLineSpec : ChangeSpec := { name := "fnExactSimplifyLine", fn := fun _ => fun
  | [d1, d2] => { results := [.lit (.bool true)], args := [d1, d2] }
  | _ => none }
def fnExactSimplifyLineRow : OpenClaim := { program := "ytchmbcembbbplab", sum := "260d0375f730067c4e786fc2e7ee3d4b8d548130a88257864e4ee53119c2ba80", func := "loop.example/g03005/laws.FnExactSimplifyLine", spec := "fnExactSimplifyLine", recurses := true, apart := false }
def FnExactSimplifyLineSaid : Prop := fnExactSimplifyLineRow.holds Try.pinned (OpenSpec.ofChange fnExactSimplifyLineSpec)

/-- ITS FALSE NEIGHBOUR: 'it returns false'. Refute it at one input. -/
def fnExactSimplifyLineWrong : ChangeSpec := { name := "fnExactSimplifyLine", fn := fun _ => fun
  | [d1, d2] => { results := [.lit (.bool false)], args := [d1, d2] }
  | _ => none }
def FnExactSimplifyLineWrongFalsely : Prop := fnExactSimplifyLineRow.holds Try.pinned (OpenSpec.ofChange fnExactSimplifyLineWrong)

/-- 'laws.FnSimplified': WHATEVER THE INPUT: true; the input reads as it did. -/
def fnSimplifiedSpec : ChangeSpec := { name := "fnSimplified", fn := fun _ => fun
  | [d] => { results := [.lit (.bool true)], args := [d] }
  | _ => none }
def fnSimplifiedRow : OpenClaim := { program := "ytchmbcembbbplab", sum := "260d0375f730067c4e786fc2e7ee3d4b8d548130a88257864e4ee53119c2ba80", func := "loop.example/g03005/laws.FnSimplified", spec := "fnSimplified", recurses := true, apart := false }
def FnSimplifiedSaid : Prop := fnSimplifiedRow.holds Try.pinned (OpenSpec.ofChange fnSimplifiedSpec)

/-- ITS FALSE NEIGHBOUR: 'it returns false'. Refute it at one input. -/
def fnSimplifiedWrong : ChangeSpec := { name := "fnSimplified", fn := fun _ => fun
  | [d] => { results := [.lit (.bool false)], args := [d] }
  | _ => none }
def FnSimplifiedWrongFalsely : Prop := fnSimplifiedRow.holds Try.pinned (OpenSpec.ofChange fnSimplifiedWrong)

/-- 'laws.FnExactCornerSize': WHATEVER THE INPUT: true; the input reads as it did. -/
def fnExactCornerSizeSpec : ChangeSpec := { name := "fnExactCornerSize", fn := fun _ => fun
  | [d1, d2] => { results := [.lit (.bool true)], args := [d1, d2] }
  | _ => none }
def fnExactCornerSizeRow : OpenClaim := { program := "ytchmbcembbbplab", sum := "260d0375f730067c4e786fc2e7ee3d4b8d548130a88257864e4ee53119c2ba80", func := "loop.example/g03005/laws.FnExactCornerSize", spec := "fnExactCornerSize", apart := false }
def FnExactCornerSizeSaid : Prop := fnExactCornerSizeRow.holds Try.pinned (OpenSpec.ofChange fnExactCornerSizeSpec)

/-- ITS FALSE NEIGHBOUR: 'it returns false'. Refute it at one input. -/
def fnExactCornerSizeWrong : ChangeSpec := { name := "fnExactCornerSize", fn := fun _ => fun
  | [d1, d2] => { results := [.lit (.bool false)], args := [d1, d2] }
  | _ => none }
def FnExactCornerSizeWrongFalsely : Prop := fnExactCornerSizeRow.holds Try.pinned (OpenSpec.ofChange fnExactCornerSizeWrong)

/-- 'laws.FnExactRingMiddle': WHATEVER THE INPUT: true; the input reads as it did. -/
def fnExactRingMiddleSpec : ChangeSpec := { name := "fnExactRingMiddle", fn := fun _ => fun
  | [d] => { results := [.lit (.bool true)], args := [d] }
  | _ => none }
def fnExactRingMiddleRow : OpenClaim := { program := "ytchmbcembbbplab", sum := "260d0375f730067c4e786fc2e7ee3d4b8d548130a88257864e4ee53119c2ba80", func := "loop.example/g03005/laws.FnExactRingMiddle", spec := "fnExactRingMiddle", apart := false }
def FnExactRingMiddleSaid : Prop := fnExactRingMiddleRow.holds Try.pinned (OpenSpec.ofChange fnExactRingMiddleSpec)

/-- ITS FALSE NEIGHBOUR: 'it returns false'. Refute it at one input. -/
def fnExactRingMiddleWrong : ChangeSpec := { name := "fnExactRingMiddle", fn := fun _ => fun
  | [d] => { results := [.lit (.bool false)], args := [d] }
  | _ => none }
def FnExactRingMiddleWrongFalsely : Prop := fnExactRingMiddleRow.holds Try.pinned (OpenSpec.ofChange fnExactRingMiddleWrong)

/-- 'laws.FnExactSameTurn': WHATEVER THE INPUT: true; the input reads as it did. -/
def fnExactSameTurnSpec : ChangeSpec := { name := "fnExactSameTurn", fn := fun _ => fun
  | [d1, d2] => { results := [.lit (.bool true)], args := [d1, d2] }
  | _ => none }
def fnExactSameTurnRow : OpenClaim := { program := "ytchmbcembbbplab", sum := "260d0375f730067c4e786fc2e7ee3d4b8d548130a88257864e4ee53119c2ba80", func := "loop.example/g03005/laws.FnExactSameTurn", spec := "fnExactSameTurn", apart := false }
def FnExactSameTurnSaid : Prop := fnExactSameTurnRow.holds Try.pinned (OpenSpec.ofChange fnExactSameTurnSpec)

/-- ITS FALSE NEIGHBOUR: 'it returns false'. Refute it at one input. -/
def fnExactSameTurnWrong : ChangeSpec := { name := "fnExactSameTurn", fn := fun _ => fun
  | [d1, d2] => { results := [.lit (.bool false)], args := [d1, d2] }
  | _ => none }
def FnExactSameTurnWrongFalsely : Prop := fnExactSameTurnRow.holds Try.pinned (OpenSpec.ofChange fnExactSameTurnWrong)

/-- 'laws.FnRings': WHATEVER THE INPUT: true; the input reads as it did. -/
def fnRingsSpec : ChangeSpec := { name := "fnRings", fn := fun _ => fun
  | [d] => { results := [.lit (.bool true)], args := [d] }
  | _ => none }
def fnRingsRow : OpenClaim := { program := "ytchmbcembbbplab", sum := "260d0375f730067c4e786fc2e7ee3d4b8d548130a88257864e4ee53119c2ba80", func := "loop.example/g03005/laws.FnRings", spec := "fnRings", apart := false }
def FnRingsSaid : Prop := fnRingsRow.holds Try.pinned (OpenSpec.ofChange fnRingsSpec)

/-- ITS FALSE NEIGHBOUR: 'it returns false'. Refute it at one input. -/
def fnRingsWrong : ChangeSpec := { name := "fnRings", fn := fun _ => fun
  | [d] => { results := [.lit (.bool false)], args := [d] }
  | _ => none }
def FnRingsWrongFalsely : Prop := fnRingsRow.holds Try.pinned (OpenSpec.ofChange fnRingsWrong)

/-- 'laws.FnExactIsInside': WHATEVER THE INPUT: true; the input reads as it did. -/
def fnExactIsInsideSpec : ChangeSpec := { name := "fnExactIsInside", fn := fun _ => fun
  | [d1, d2] => { results := [.lit (.bool true)], args := [d1, d2] }
  | _ => none }
def fnExactIsInsideRow : OpenClaim := { program := "ytchmbcembbbplab", sum := "260d0375f730067c4e786fc2e7ee3d4b8d548130a88257864e4ee53119c2ba80", func := "loop.example/g03005/laws.FnExactIsInside", spec := "fnExactIsInside", apart := false }
def FnExactIsInsideSaid : Prop := fnExactIsInsideRow.holds Try.pinned (OpenSpec.ofChange fnExactIsInsideSpec)

/-- ITS FALSE NEIGHBOUR: 'it returns false'. Refute it at one input. -/
def fnExactIsInsideWrong : ChangeSpec := { name := "fnExactIsInside", fn := fun _ => fun
  | [d1, d2] => { results := [.lit (.bool false)], args := [d1, d2] }
  | _ => none }
def FnExactIsInsideWrongFalsely : Prop := fnExactIsInsideRow.holds Try.pinned (OpenSpec.ofChange fnExactIsInsideWrong)

/-- 'laws.FnExactRingSegments': WHATEVER THE INPUT: true; the input reads as it did. -/
def fnExactRingSegmentsSpec : ChangeSpec := { name := "fnExactRingSegments", fn := fun _ => fun
  | [d] => { results := [.lit (.bool true)], args := [d] }
  | _ => none }
def fnExactRingSegmentsRow : OpenClaim := { program := "ytchmbcembbbplab", sum := "260d0375f730067c4e786fc2e7ee3d4b8d548130a88257864e4ee53119c2ba80", func := "loop.example/g03005/laws.FnExactRingSegments", spec := "fnExactRingSegments", apart := false }
def FnExactRingSegmentsSaid : Prop := fnExactRingSegmentsRow.holds Try.pinned (OpenSpec.ofChange fnExactRingSegmentsSpec)

/-- ITS FALSE NEIGHBOUR: 'it returns false'. Refute it at one input. -/
def fnExactRingSegmentsWrong : ChangeSpec := { name := "fnExactRingSegments", fn := fun _ => fun
  | [d] => { results := [.lit (.bool false)], args := [d] }
  | _ => none }
def FnExactRingSegmentsWrongFalsely : Prop := fnExactRingSegmentsRow.holds Try.pinned (OpenSpec.ofChange fnExactRingSegmentsWrong)

/- THE SECOND FORM. 'bulk': how many values and letters a reading holds, each counted each time it is reached (what is shared counts as often as it is met; a slice's spare places count too). A statement '..UptoSaid' is the law's where the arguments, and the package variables that the reading takes, are together of bulk at most 1048576: NARROWER than '..Said'. Prove '..Said' where nothing that the law and all that it calls make is longer than what came in: it says more and counts as full. Else prove '..UptoSaid'. A law counts once. -/
mutual
def uptoBulk {H : Type} : DataW H → Nat
  | .lit (.string bytes) => bytes.length + 1
  | .lit _ => 1
  | .nil => 1
  | .ptr d => uptoBulk d + 1
  | .slice elems spare => uptoBulkAll elems + uptoBulkAll spare + 1
  | .agg parts => uptoBulkAll parts + 1
  | .iface _ d => uptoBulk d + 1
  | .map entries => uptoBulkEntries entries + 1
  | .held _ => 1
def uptoBulkAll {H : Type} : List (DataW H) → Nat
  | [] => 0
  | d :: r => uptoBulk d + uptoBulkAll r
def uptoBulkEntries {H : Type} : List (Lit × DataW H) → Nat
  | [] => 0
  | x :: r => uptoBulkEntry x + uptoBulkEntries r
def uptoBulkEntry {H : Type} : Lit × DataW H → Nat
  | (.string bytes, d) => bytes.length + uptoBulk d + 1
  | (_, d) => uptoBulk d + 1
 end
def uptoSmall : (H : Type) → List (DataW H) → Bool := fun _ ds => decide (uptoBulkAll ds ≤ 1048576)
def OpenSpec.upto (s : _root_.Go.ChangeSpec) : _root_.Go.OpenSpec := { _root_.Go.OpenSpec.ofChange s with cond := some uptoSmall }

/-- 'laws.FnBoxes', WHERE WHAT IT READS IS OF BULK AT MOST 1048576: true; the input reads as it did. -/
def fnBoxesUptoRow : OpenClaim := { program := "ytchmbcembbbplab", sum := "260d0375f730067c4e786fc2e7ee3d4b8d548130a88257864e4ee53119c2ba80", func := "loop.example/g03005/laws.FnBoxes", spec := "fnBoxes", apart := false, narrowed := true }
def FnBoxesUptoSaid : Prop := fnBoxesUptoRow.holds Try.pinned (OpenSpec.upto fnBoxesSpec)

/-- 'laws.FnExactEqualSources', WHERE WHAT IT READS IS OF BULK AT MOST 1048576: true; the input reads as it did. -/
def fnExactEqualSourcesUptoRow : OpenClaim := { program := "ytchmbcembbbplab", sum := "260d0375f730067c4e786fc2e7ee3d4b8d548130a88257864e4ee53119c2ba80", func := "loop.example/g03005/laws.FnExactEqualSources", spec := "fnExactEqualSources", unfollowed := true, recurses := true, apart := false, narrowed := true }
def FnExactEqualSourcesUptoSaid : Prop := fnExactEqualSourcesUptoRow.holds Try.pinned (OpenSpec.upto fnExactEqualSourcesSpec)

/-- 'laws.FnExactIsFaithful', WHERE WHAT IT READS IS OF BULK AT MOST 1048576: true; the input reads as it did. -/
def fnExactIsFaithfulUptoRow : OpenClaim := { program := "ytchmbcembbbplab", sum := "260d0375f730067c4e786fc2e7ee3d4b8d548130a88257864e4ee53119c2ba80", func := "loop.example/g03005/laws.FnExactIsFaithful", spec := "fnExactIsFaithful", apart := false, narrowed := true }
def FnExactIsFaithfulUptoSaid : Prop := fnExactIsFaithfulUptoRow.holds Try.pinned (OpenSpec.upto fnExactIsFaithfulSpec)

/-- 'laws.FnExactCountLeftOut', WHERE WHAT IT READS IS OF BULK AT MOST 1048576: true; the input reads as it did. -/
def fnExactCountLeftOutUptoRow : OpenClaim := { program := "ytchmbcembbbplab", sum := "260d0375f730067c4e786fc2e7ee3d4b8d548130a88257864e4ee53119c2ba80", func := "loop.example/g03005/laws.FnExactCountLeftOut", spec := "fnExactCountLeftOut", recurses := true, apart := false, narrowed := true }
def FnExactCountLeftOutUptoSaid : Prop := fnExactCountLeftOutUptoRow.holds Try.pinned (OpenSpec.upto fnExactCountLeftOutSpec)

/-- 'laws.FnExactSimplifyLine', WHERE WHAT IT READS IS OF BULK AT MOST 1048576: true; the input reads as it did. -/
def fnExactSimplifyLineUptoRow : OpenClaim := { program := "ytchmbcembbbplab", sum := "260d0375f730067c4e786fc2e7ee3d4b8d548130a88257864e4ee53119c2ba80", func := "loop.example/g03005/laws.FnExactSimplifyLine", spec := "fnExactSimplifyLine", recurses := true, apart := false, narrowed := true }
def FnExactSimplifyLineUptoSaid : Prop := fnExactSimplifyLineUptoRow.holds Try.pinned (OpenSpec.upto fnExactSimplifyLineSpec)

/-- 'laws.FnSimplified', WHERE WHAT IT READS IS OF BULK AT MOST 1048576: true; the input reads as it did. -/
def fnSimplifiedUptoRow : OpenClaim := { program := "ytchmbcembbbplab", sum := "260d0375f730067c4e786fc2e7ee3d4b8d548130a88257864e4ee53119c2ba80", func := "loop.example/g03005/laws.FnSimplified", spec := "fnSimplified", recurses := true, apart := false, narrowed := true }
def FnSimplifiedUptoSaid : Prop := fnSimplifiedUptoRow.holds Try.pinned (OpenSpec.upto fnSimplifiedSpec)

/-- 'laws.FnExactCornerSize', WHERE WHAT IT READS IS OF BULK AT MOST 1048576: true; the input reads as it did. -/
def fnExactCornerSizeUptoRow : OpenClaim := { program := "ytchmbcembbbplab", sum := "260d0375f730067c4e786fc2e7ee3d4b8d548130a88257864e4ee53119c2ba80", func := "loop.example/g03005/laws.FnExactCornerSize", spec := "fnExactCornerSize", apart := false, narrowed := true }
def FnExactCornerSizeUptoSaid : Prop := fnExactCornerSizeUptoRow.holds Try.pinned (OpenSpec.upto fnExactCornerSizeSpec)

/-- 'laws.FnExactRingMiddle', WHERE WHAT IT READS IS OF BULK AT MOST 1048576: true; the input reads as it did. -/
def fnExactRingMiddleUptoRow : OpenClaim := { program := "ytchmbcembbbplab", sum := "260d0375f730067c4e786fc2e7ee3d4b8d548130a88257864e4ee53119c2ba80", func := "loop.example/g03005/laws.FnExactRingMiddle", spec := "fnExactRingMiddle", apart := false, narrowed := true }
def FnExactRingMiddleUptoSaid : Prop := fnExactRingMiddleUptoRow.holds Try.pinned (OpenSpec.upto fnExactRingMiddleSpec)

/-- 'laws.FnExactSameTurn', WHERE WHAT IT READS IS OF BULK AT MOST 1048576: true; the input reads as it did. -/
def fnExactSameTurnUptoRow : OpenClaim := { program := "ytchmbcembbbplab", sum := "260d0375f730067c4e786fc2e7ee3d4b8d548130a88257864e4ee53119c2ba80", func := "loop.example/g03005/laws.FnExactSameTurn", spec := "fnExactSameTurn", apart := false, narrowed := true }
def FnExactSameTurnUptoSaid : Prop := fnExactSameTurnUptoRow.holds Try.pinned (OpenSpec.upto fnExactSameTurnSpec)

/-- 'laws.FnRings', WHERE WHAT IT READS IS OF BULK AT MOST 1048576: true; the input reads as it did. -/
def fnRingsUptoRow : OpenClaim := { program := "ytchmbcembbbplab", sum := "260d0375f730067c4e786fc2e7ee3d4b8d548130a88257864e4ee53119c2ba80", func := "loop.example/g03005/laws.FnRings", spec := "fnRings", apart := false, narrowed := true }
def FnRingsUptoSaid : Prop := fnRingsUptoRow.holds Try.pinned (OpenSpec.upto fnRingsSpec)

/-- 'laws.FnExactIsInside', WHERE WHAT IT READS IS OF BULK AT MOST 1048576: true; the input reads as it did. -/
def fnExactIsInsideUptoRow : OpenClaim := { program := "ytchmbcembbbplab", sum := "260d0375f730067c4e786fc2e7ee3d4b8d548130a88257864e4ee53119c2ba80", func := "loop.example/g03005/laws.FnExactIsInside", spec := "fnExactIsInside", apart := false, narrowed := true }
def FnExactIsInsideUptoSaid : Prop := fnExactIsInsideUptoRow.holds Try.pinned (OpenSpec.upto fnExactIsInsideSpec)

/-- 'laws.FnExactRingSegments', WHERE WHAT IT READS IS OF BULK AT MOST 1048576: true; the input reads as it did. -/
def fnExactRingSegmentsUptoRow : OpenClaim := { program := "ytchmbcembbbplab", sum := "260d0375f730067c4e786fc2e7ee3d4b8d548130a88257864e4ee53119c2ba80", func := "loop.example/g03005/laws.FnExactRingSegments", spec := "fnExactRingSegments", apart := false, narrowed := true }
def FnExactRingSegmentsUptoSaid : Prop := fnExactRingSegmentsUptoRow.holds Try.pinned (OpenSpec.upto fnExactRingSegmentsSpec)

end Rows
end Go.Proofs.Ytchmbcembbbplab
