/-
  No cell of these rows narrows 'for every input' (looked for: loops, veiled, ifaces, maps, wideKeys, modest, calm, conditions, laid).
  DERIVED. THE GIVEN ROWS OF THIS SEAT. 7 by the template 'for every input the law returns true; each argument reads behind the call as it read before'; 0 by the template 'total and deterministic' (their statements: YtbackoeakepngaaTotals.lean).
  GIVEN WITH THE SEED: the statements are not yours to turn. If you find one false, say at which input.
  Laid BY PROGRAM, IN A SANDBOX (cutbox-rows.mjs): the forced cells as the released guide's own fill.sh prints them over the translation 67ce5c36c4d4cccd… (all of the seat's roots in one cut). By AI agents, Wed Nov 11 2026. No macro, syntax, notation, axiom, sorry.
-/
import Derived.Test.YtbackoeakepngaaChecked
import GoSem.Claim
import GoSem.ClaimJoined
import GoSem.ClaimMapViews
import Derived.JoinedTies
import Derived.KernelRfl
namespace Go.Proofs.Ytbackoeakepngaa
/- THE CELL 'sum', in the pinned program and in every row, IS THE sha256 OF THE DUMP (.gsa) THAT YtbackoeakepngaaProg.lean LOADS. Nothing in Lean hashes anything: it is a label: what it is worth is what the hold of that sum in a sandbox is worth. -/
noncomputable def Try.pinned : Pinned := { name := "ytbackoeakepngaa", sum := "67ce5c36c4d4cccdc416db72d91ddf50b43206ddb2c33bea9a82fa35259e7141", checked := Try.checked }
namespace Rows
def none {H : Type} : Left H := { results := [], args := [] }

/-- 'laws.FnBoxes': WHATEVER THE INPUT: true; the input reads as it did. -/
def fnBoxesSpec : ChangeSpec := { name := "fnBoxes", fn := fun _ => fun
  | [d] => { results := [.lit (.bool true)], args := [d] }
  | _ => none }
def fnBoxesRow : OpenClaim := { program := "ytbackoeakepngaa", sum := "67ce5c36c4d4cccdc416db72d91ddf50b43206ddb2c33bea9a82fa35259e7141", func := "loop.example/g03005/laws.FnBoxes", spec := "fnBoxes", apart := false }
def FnBoxesSaid : Prop := fnBoxesRow.holds Try.pinned (OpenSpec.ofChange fnBoxesSpec)

/-- ITS FALSE NEIGHBOUR: 'it returns false'. Refute it at one input. -/
def fnBoxesWrong : ChangeSpec := { name := "fnBoxes", fn := fun _ => fun
  | [d] => { results := [.lit (.bool false)], args := [d] }
  | _ => none }
def FnBoxesWrongFalsely : Prop := fnBoxesRow.holds Try.pinned (OpenSpec.ofChange fnBoxesWrong)

/-- 'laws.FnExactCountLeftOut': WHATEVER THE INPUT: true; the input reads as it did. -/
def fnExactCountLeftOutSpec : ChangeSpec := { name := "fnExactCountLeftOut", fn := fun _ => fun
  | [d1, d2] => { results := [.lit (.bool true)], args := [d1, d2] }
  | _ => none }
def fnExactCountLeftOutRow : OpenClaim := { program := "ytbackoeakepngaa", sum := "67ce5c36c4d4cccdc416db72d91ddf50b43206ddb2c33bea9a82fa35259e7141", func := "loop.example/g03005/laws.FnExactCountLeftOut", spec := "fnExactCountLeftOut", recurses := true, apart := false }
def FnExactCountLeftOutSaid : Prop := fnExactCountLeftOutRow.holds Try.pinned (OpenSpec.ofChange fnExactCountLeftOutSpec)

/-- ITS FALSE NEIGHBOUR: 'it returns false'. Refute it at one input. -/
def fnExactCountLeftOutWrong : ChangeSpec := { name := "fnExactCountLeftOut", fn := fun _ => fun
  | [d1, d2] => { results := [.lit (.bool false)], args := [d1, d2] }
  | _ => none }
def FnExactCountLeftOutWrongFalsely : Prop := fnExactCountLeftOutRow.holds Try.pinned (OpenSpec.ofChange fnExactCountLeftOutWrong)

/-- 'laws.FnExactSimplifyLine': WHATEVER THE INPUT: true; the input reads as it did. -/
def fnExactSimplifyLineSpec : ChangeSpec := { name := "fnExactSimplifyLine", fn := fun _ => fun
  | [d1, d2] => { results := [.lit (.bool true)], args := [d1, d2] }
  | _ => none }
def fnExactSimplifyLineRow : OpenClaim := { program := "ytbackoeakepngaa", sum := "67ce5c36c4d4cccdc416db72d91ddf50b43206ddb2c33bea9a82fa35259e7141", func := "loop.example/g03005/laws.FnExactSimplifyLine", spec := "fnExactSimplifyLine", recurses := true, apart := false }
def FnExactSimplifyLineSaid : Prop := fnExactSimplifyLineRow.holds Try.pinned (OpenSpec.ofChange fnExactSimplifyLineSpec)

/-- ITS FALSE NEIGHBOUR: 'it returns false'. Refute it at one input. -/
def fnExactSimplifyLineWrong : ChangeSpec := { name := "fnExactSimplifyLine", fn := fun _ => fun
  | [d1, d2] => { results := [.lit (.bool false)], args := [d1, d2] }
  | _ => none }
def FnExactSimplifyLineWrongFalsely : Prop := fnExactSimplifyLineRow.holds Try.pinned (OpenSpec.ofChange fnExactSimplifyLineWrong)

/-- 'laws.FnSimplified': WHATEVER THE INPUT: true; the input reads as it did. -/
def fnSimplifiedSpec : ChangeSpec := { name := "fnSimplified", fn := fun _ => fun
  | [d] => { results := [.lit (.bool true)], args := [d] }
  | _ => none }
def fnSimplifiedRow : OpenClaim := { program := "ytbackoeakepngaa", sum := "67ce5c36c4d4cccdc416db72d91ddf50b43206ddb2c33bea9a82fa35259e7141", func := "loop.example/g03005/laws.FnSimplified", spec := "fnSimplified", recurses := true, apart := false }
def FnSimplifiedSaid : Prop := fnSimplifiedRow.holds Try.pinned (OpenSpec.ofChange fnSimplifiedSpec)

/-- ITS FALSE NEIGHBOUR: 'it returns false'. Refute it at one input. -/
def fnSimplifiedWrong : ChangeSpec := { name := "fnSimplified", fn := fun _ => fun
  | [d] => { results := [.lit (.bool false)], args := [d] }
  | _ => none }
def FnSimplifiedWrongFalsely : Prop := fnSimplifiedRow.holds Try.pinned (OpenSpec.ofChange fnSimplifiedWrong)

/-- 'laws.FnRings': WHATEVER THE INPUT: true; the input reads as it did. -/
def fnRingsSpec : ChangeSpec := { name := "fnRings", fn := fun _ => fun
  | [d] => { results := [.lit (.bool true)], args := [d] }
  | _ => none }
def fnRingsRow : OpenClaim := { program := "ytbackoeakepngaa", sum := "67ce5c36c4d4cccdc416db72d91ddf50b43206ddb2c33bea9a82fa35259e7141", func := "loop.example/g03005/laws.FnRings", spec := "fnRings", apart := false }
def FnRingsSaid : Prop := fnRingsRow.holds Try.pinned (OpenSpec.ofChange fnRingsSpec)

/-- ITS FALSE NEIGHBOUR: 'it returns false'. Refute it at one input. -/
def fnRingsWrong : ChangeSpec := { name := "fnRings", fn := fun _ => fun
  | [d] => { results := [.lit (.bool false)], args := [d] }
  | _ => none }
def FnRingsWrongFalsely : Prop := fnRingsRow.holds Try.pinned (OpenSpec.ofChange fnRingsWrong)

/-- 'laws.FnSafe': WHATEVER THE INPUT: true; the input reads as it did. -/
def fnSafeSpec : ChangeSpec := { name := "fnSafe", fn := fun _ => fun
  | [d] => { results := [.lit (.bool true)], args := [d] }
  | _ => none }
def fnSafeRow : OpenClaim := { program := "ytbackoeakepngaa", sum := "67ce5c36c4d4cccdc416db72d91ddf50b43206ddb2c33bea9a82fa35259e7141", func := "loop.example/g03005/laws.FnSafe", spec := "fnSafe", apart := false }
def FnSafeSaid : Prop := fnSafeRow.holds Try.pinned (OpenSpec.ofChange fnSafeSpec)

/-- ITS FALSE NEIGHBOUR: 'it returns false'. Refute it at one input. -/
def fnSafeWrong : ChangeSpec := { name := "fnSafe", fn := fun _ => fun
  | [d] => { results := [.lit (.bool false)], args := [d] }
  | _ => none }
def FnSafeWrongFalsely : Prop := fnSafeRow.holds Try.pinned (OpenSpec.ofChange fnSafeWrong)

/-- 'laws.FnAreas': WHATEVER THE INPUT: true; the input reads as it did. -/
def fnAreasSpec : ChangeSpec := { name := "fnAreas", fn := fun _ => fun
  | [d] => { results := [.lit (.bool true)], args := [d] }
  | _ => none }
def fnAreasRow : OpenClaim := { program := "ytbackoeakepngaa", sum := "67ce5c36c4d4cccdc416db72d91ddf50b43206ddb2c33bea9a82fa35259e7141", func := "loop.example/g03005/laws.FnAreas", spec := "fnAreas", apart := false }
def FnAreasSaid : Prop := fnAreasRow.holds Try.pinned (OpenSpec.ofChange fnAreasSpec)

/-- ITS FALSE NEIGHBOUR: 'it returns false'. Refute it at one input. -/
def fnAreasWrong : ChangeSpec := { name := "fnAreas", fn := fun _ => fun
  | [d] => { results := [.lit (.bool false)], args := [d] }
  | _ => none }
def FnAreasWrongFalsely : Prop := fnAreasRow.holds Try.pinned (OpenSpec.ofChange fnAreasWrong)

/- THE SECOND FORM. 'bulk': how many values and letters a reading holds, each counted each time it is reached (what is shared counts as often as it is met; a slice's spare places count too). A statement '..UptoSaid' is the law's where the arguments, and the package variables that the reading takes, are together of bulk at most 1048576: NARROWER than '..Said'. Prove '..Said' where nothing that the law and all that it calls make is longer than what came in: it says more and counts as full. Else prove '..UptoSaid'. A law counts once. -/
mutual
def uptoBulk {H : Type} : DataW H → Nat
  | .lit (.string bytes) => bytes.length + 1
  | .lit _ => 1
  | .nil => 1
  | .ptr d => uptoBulk d + 1
  | .slice elems spare => uptoBulkAll elems + uptoBulkAll spare + 1
  | .agg parts => uptoBulkAll parts + 1
  | .iface _ d => uptoBulk d + 1
  | .map entries => uptoBulkEntries entries + 1
  | .held _ => 1
def uptoBulkAll {H : Type} : List (DataW H) → Nat
  | [] => 0
  | d :: r => uptoBulk d + uptoBulkAll r
def uptoBulkEntries {H : Type} : List (Lit × DataW H) → Nat
  | [] => 0
  | x :: r => uptoBulkEntry x + uptoBulkEntries r
def uptoBulkEntry {H : Type} : Lit × DataW H → Nat
  | (.string bytes, d) => bytes.length + uptoBulk d + 1
  | (_, d) => uptoBulk d + 1
 end
def uptoSmall : (H : Type) → List (DataW H) → Bool := fun _ ds => decide (uptoBulkAll ds ≤ 1048576)
def OpenSpec.upto (s : _root_.Go.ChangeSpec) : _root_.Go.OpenSpec := { _root_.Go.OpenSpec.ofChange s with cond := some uptoSmall }

/-- 'laws.FnBoxes', WHERE WHAT IT READS IS OF BULK AT MOST 1048576: true; the input reads as it did. -/
def fnBoxesUptoRow : OpenClaim := { program := "ytbackoeakepngaa", sum := "67ce5c36c4d4cccdc416db72d91ddf50b43206ddb2c33bea9a82fa35259e7141", func := "loop.example/g03005/laws.FnBoxes", spec := "fnBoxes", apart := false, narrowed := true }
def FnBoxesUptoSaid : Prop := fnBoxesUptoRow.holds Try.pinned (OpenSpec.upto fnBoxesSpec)

/-- 'laws.FnExactCountLeftOut', WHERE WHAT IT READS IS OF BULK AT MOST 1048576: true; the input reads as it did. -/
def fnExactCountLeftOutUptoRow : OpenClaim := { program := "ytbackoeakepngaa", sum := "67ce5c36c4d4cccdc416db72d91ddf50b43206ddb2c33bea9a82fa35259e7141", func := "loop.example/g03005/laws.FnExactCountLeftOut", spec := "fnExactCountLeftOut", recurses := true, apart := false, narrowed := true }
def FnExactCountLeftOutUptoSaid : Prop := fnExactCountLeftOutUptoRow.holds Try.pinned (OpenSpec.upto fnExactCountLeftOutSpec)

/-- 'laws.FnExactSimplifyLine', WHERE WHAT IT READS IS OF BULK AT MOST 1048576: true; the input reads as it did. -/
def fnExactSimplifyLineUptoRow : OpenClaim := { program := "ytbackoeakepngaa", sum := "67ce5c36c4d4cccdc416db72d91ddf50b43206ddb2c33bea9a82fa35259e7141", func := "loop.example/g03005/laws.FnExactSimplifyLine", spec := "fnExactSimplifyLine", recurses := true, apart := false, narrowed := true }
def FnExactSimplifyLineUptoSaid : Prop := fnExactSimplifyLineUptoRow.holds Try.pinned (OpenSpec.upto fnExactSimplifyLineSpec)

/-- 'laws.FnSimplified', WHERE WHAT IT READS IS OF BULK AT MOST 1048576: true; the input reads as it did. -/
def fnSimplifiedUptoRow : OpenClaim := { program := "ytbackoeakepngaa", sum := "67ce5c36c4d4cccdc416db72d91ddf50b43206ddb2c33bea9a82fa35259e7141", func := "loop.example/g03005/laws.FnSimplified", spec := "fnSimplified", recurses := true, apart := false, narrowed := true }
def FnSimplifiedUptoSaid : Prop := fnSimplifiedUptoRow.holds Try.pinned (OpenSpec.upto fnSimplifiedSpec)

/-- 'laws.FnRings', WHERE WHAT IT READS IS OF BULK AT MOST 1048576: true; the input reads as it did. -/
def fnRingsUptoRow : OpenClaim := { program := "ytbackoeakepngaa", sum := "67ce5c36c4d4cccdc416db72d91ddf50b43206ddb2c33bea9a82fa35259e7141", func := "loop.example/g03005/laws.FnRings", spec := "fnRings", apart := false, narrowed := true }
def FnRingsUptoSaid : Prop := fnRingsUptoRow.holds Try.pinned (OpenSpec.upto fnRingsSpec)

/-- 'laws.FnSafe', WHERE WHAT IT READS IS OF BULK AT MOST 1048576: true; the input reads as it did. -/
def fnSafeUptoRow : OpenClaim := { program := "ytbackoeakepngaa", sum := "67ce5c36c4d4cccdc416db72d91ddf50b43206ddb2c33bea9a82fa35259e7141", func := "loop.example/g03005/laws.FnSafe", spec := "fnSafe", apart := false, narrowed := true }
def FnSafeUptoSaid : Prop := fnSafeUptoRow.holds Try.pinned (OpenSpec.upto fnSafeSpec)

/-- 'laws.FnAreas', WHERE WHAT IT READS IS OF BULK AT MOST 1048576: true; the input reads as it did. -/
def fnAreasUptoRow : OpenClaim := { program := "ytbackoeakepngaa", sum := "67ce5c36c4d4cccdc416db72d91ddf50b43206ddb2c33bea9a82fa35259e7141", func := "loop.example/g03005/laws.FnAreas", spec := "fnAreas", apart := false, narrowed := true }
def FnAreasUptoSaid : Prop := fnAreasUptoRow.holds Try.pinned (OpenSpec.upto fnAreasSpec)

end Rows
end Go.Proofs.Ytbackoeakepngaa
