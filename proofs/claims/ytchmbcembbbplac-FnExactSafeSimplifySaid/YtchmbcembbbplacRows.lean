/-
  No cell of these rows narrows 'for every input' (looked for: loops, veiled, ifaces, maps, wideKeys, modest, calm, conditions, laid).
  DERIVED. THE GIVEN ROWS OF THIS SEAT. 12 by the template 'for every input the law returns true; each argument reads behind the call as it read before'; 0 by the template 'total and deterministic' (their statements: YtchmbcembbbplacTotals.lean).
  GIVEN WITH THE SEED: the statements are not yours to turn. If you find one false, say at which input.
  Laid BY PROGRAM, IN A SANDBOX (cutbox-rows.mjs): the forced cells as the released guide's own fill.sh prints them over the translation 9da6b024b87e7867… (all of the seat's roots in one cut). By AI agents, Wed Nov 11 2026. No macro, syntax, notation, axiom, sorry.
-/
import Derived.Test.YtchmbcembbbplacChecked
import GoSem.Claim
import GoSem.ClaimJoined
import GoSem.ClaimMapViews
import Derived.JoinedTies
import Derived.KernelRfl
namespace Go.Proofs.Ytchmbcembbbplac
/- THE CELL 'sum', in the pinned program and in every row, IS THE sha256 OF THE DUMP (.gsa) THAT YtchmbcembbbplacProg.lean LOADS. Nothing in Lean hashes anything: it is a label: what it is worth is what the hold of that sum in a sandbox is worth. -/
noncomputable def Try.pinned : Pinned := { name := "ytchmbcembbbplac", sum := "9da6b024b87e7867950932fbf4f7378e2e9ad3b44449495a262d4b6420da2468", checked := Try.checked }
namespace Rows
def none {H : Type} : Left H := { results := [], args := [] }

/-- 'laws.FnExactMeetsAll': WHATEVER THE INPUT: true; the input reads as it did. -/
def fnExactMeetsAllSpec : ChangeSpec := { name := "fnExactMeetsAll", fn := fun _ => fun
  | [d1, d2] => { results := [.lit (.bool true)], args := [d1, d2] }
  | _ => none }
def fnExactMeetsAllRow : OpenClaim := { program := "ytchmbcembbbplac", sum := "9da6b024b87e7867950932fbf4f7378e2e9ad3b44449495a262d4b6420da2468", func := "loop.example/g03005/laws.FnExactMeetsAll", spec := "fnExactMeetsAll", apart := false }
def FnExactMeetsAllSaid : Prop := fnExactMeetsAllRow.holds Try.pinned (OpenSpec.ofChange fnExactMeetsAllSpec)

/-- ITS FALSE NEIGHBOUR: 'it returns false'. Refute it at one input. -/
def fnExactMeetsAllWrong : ChangeSpec := { name := "fnExactMeetsAll", fn := fun _ => fun
  | [d1, d2] => { results := [.lit (.bool false)], args := [d1, d2] }
  | _ => none }
def FnExactMeetsAllWrongFalsely : Prop := fnExactMeetsAllRow.holds Try.pinned (OpenSpec.ofChange fnExactMeetsAllWrong)

/-- 'laws.FnExactDropCorner': WHATEVER THE INPUT: true; the input reads as it did. -/
def fnExactDropCornerSpec : ChangeSpec := { name := "fnExactDropCorner", fn := fun _ => fun
  | [d1, d2] => { results := [.lit (.bool true)], args := [d1, d2] }
  | _ => none }
def fnExactDropCornerRow : OpenClaim := { program := "ytchmbcembbbplac", sum := "9da6b024b87e7867950932fbf4f7378e2e9ad3b44449495a262d4b6420da2468", func := "loop.example/g03005/laws.FnExactDropCorner", spec := "fnExactDropCorner", apart := false }
def FnExactDropCornerSaid : Prop := fnExactDropCornerRow.holds Try.pinned (OpenSpec.ofChange fnExactDropCornerSpec)

/-- ITS FALSE NEIGHBOUR: 'it returns false'. Refute it at one input. -/
def fnExactDropCornerWrong : ChangeSpec := { name := "fnExactDropCorner", fn := fun _ => fun
  | [d1, d2] => { results := [.lit (.bool false)], args := [d1, d2] }
  | _ => none }
def FnExactDropCornerWrongFalsely : Prop := fnExactDropCornerRow.holds Try.pinned (OpenSpec.ofChange fnExactDropCornerWrong)

/-- 'laws.FnSafe': WHATEVER THE INPUT: true; the input reads as it did. -/
def fnSafeSpec : ChangeSpec := { name := "fnSafe", fn := fun _ => fun
  | [d] => { results := [.lit (.bool true)], args := [d] }
  | _ => none }
def fnSafeRow : OpenClaim := { program := "ytchmbcembbbplac", sum := "9da6b024b87e7867950932fbf4f7378e2e9ad3b44449495a262d4b6420da2468", func := "loop.example/g03005/laws.FnSafe", spec := "fnSafe", apart := false }
def FnSafeSaid : Prop := fnSafeRow.holds Try.pinned (OpenSpec.ofChange fnSafeSpec)

/-- ITS FALSE NEIGHBOUR: 'it returns false'. Refute it at one input. -/
def fnSafeWrong : ChangeSpec := { name := "fnSafe", fn := fun _ => fun
  | [d] => { results := [.lit (.bool false)], args := [d] }
  | _ => none }
def FnSafeWrongFalsely : Prop := fnSafeRow.holds Try.pinned (OpenSpec.ofChange fnSafeWrong)

/-- 'laws.FnAreas': WHATEVER THE INPUT: true; the input reads as it did. -/
def fnAreasSpec : ChangeSpec := { name := "fnAreas", fn := fun _ => fun
  | [d] => { results := [.lit (.bool true)], args := [d] }
  | _ => none }
def fnAreasRow : OpenClaim := { program := "ytchmbcembbbplac", sum := "9da6b024b87e7867950932fbf4f7378e2e9ad3b44449495a262d4b6420da2468", func := "loop.example/g03005/laws.FnAreas", spec := "fnAreas", apart := false }
def FnAreasSaid : Prop := fnAreasRow.holds Try.pinned (OpenSpec.ofChange fnAreasSpec)

/-- ITS FALSE NEIGHBOUR: 'it returns false'. Refute it at one input. -/
def fnAreasWrong : ChangeSpec := { name := "fnAreas", fn := fun _ => fun
  | [d] => { results := [.lit (.bool false)], args := [d] }
  | _ => none }
def FnAreasWrongFalsely : Prop := fnAreasRow.holds Try.pinned (OpenSpec.ofChange fnAreasWrong)

/-- 'laws.FnExactHiddenBy': WHATEVER THE INPUT: true; the input reads as it did. -/
def fnExactHiddenBySpec : ChangeSpec := { name := "fnExactHiddenBy", fn := fun _ => fun
  | [d1, d2, d3] => { results := [.lit (.bool true)], args := [d1, d2, d3] }
  | _ => none }
def fnExactHiddenByRow : OpenClaim := { program := "ytchmbcembbbplac", sum := "9da6b024b87e7867950932fbf4f7378e2e9ad3b44449495a262d4b6420da2468", func := "loop.example/g03005/laws.FnExactHiddenBy", spec := "fnExactHiddenBy", unfollowed := true, recurses := true, apart := false }
def FnExactHiddenBySaid : Prop := fnExactHiddenByRow.holds Try.pinned (OpenSpec.ofChange fnExactHiddenBySpec)

/-- ITS FALSE NEIGHBOUR: 'it returns false'. Refute it at one input. -/
def fnExactHiddenByWrong : ChangeSpec := { name := "fnExactHiddenBy", fn := fun _ => fun
  | [d1, d2, d3] => { results := [.lit (.bool false)], args := [d1, d2, d3] }
  | _ => none }
def FnExactHiddenByWrongFalsely : Prop := fnExactHiddenByRow.holds Try.pinned (OpenSpec.ofChange fnExactHiddenByWrong)

/-- 'laws.FnExactCanDrop': WHATEVER THE INPUT: true; the input reads as it did. -/
def fnExactCanDropSpec : ChangeSpec := { name := "fnExactCanDrop", fn := fun _ => fun
  | [d1, d2, d3] => { results := [.lit (.bool true)], args := [d1, d2, d3] }
  | _ => none }
def fnExactCanDropRow : OpenClaim := { program := "ytchmbcembbbplac", sum := "9da6b024b87e7867950932fbf4f7378e2e9ad3b44449495a262d4b6420da2468", func := "loop.example/g03005/laws.FnExactCanDrop", spec := "fnExactCanDrop", apart := false }
def FnExactCanDropSaid : Prop := fnExactCanDropRow.holds Try.pinned (OpenSpec.ofChange fnExactCanDropSpec)

/-- ITS FALSE NEIGHBOUR: 'it returns false'. Refute it at one input. -/
def fnExactCanDropWrong : ChangeSpec := { name := "fnExactCanDrop", fn := fun _ => fun
  | [d1, d2, d3] => { results := [.lit (.bool false)], args := [d1, d2, d3] }
  | _ => none }
def FnExactCanDropWrongFalsely : Prop := fnExactCanDropRow.holds Try.pinned (OpenSpec.ofChange fnExactCanDropWrong)

/-- 'laws.FnExactIsFeature': WHATEVER THE INPUT: true; the input reads as it did. -/
def fnExactIsFeatureSpec : ChangeSpec := { name := "fnExactIsFeature", fn := fun _ => fun
  | [d] => { results := [.lit (.bool true)], args := [d] }
  | _ => none }
def fnExactIsFeatureRow : OpenClaim := { program := "ytchmbcembbbplac", sum := "9da6b024b87e7867950932fbf4f7378e2e9ad3b44449495a262d4b6420da2468", func := "loop.example/g03005/laws.FnExactIsFeature", spec := "fnExactIsFeature", apart := false }
def FnExactIsFeatureSaid : Prop := fnExactIsFeatureRow.holds Try.pinned (OpenSpec.ofChange fnExactIsFeatureSpec)

/-- ITS FALSE NEIGHBOUR: 'it returns false'. Refute it at one input. -/
def fnExactIsFeatureWrong : ChangeSpec := { name := "fnExactIsFeature", fn := fun _ => fun
  | [d] => { results := [.lit (.bool false)], args := [d] }
  | _ => none }
def FnExactIsFeatureWrongFalsely : Prop := fnExactIsFeatureRow.holds Try.pinned (OpenSpec.ofChange fnExactIsFeatureWrong)

/-- 'laws.FnExactSafeRing': WHATEVER THE INPUT: true; the input reads as it did. -/
def fnExactSafeRingSpec : ChangeSpec := { name := "fnExactSafeRing", fn := fun _ => fun
  | [d1, d2] => { results := [.lit (.bool true)], args := [d1, d2] }
  | _ => none }
def fnExactSafeRingRow : OpenClaim := { program := "ytchmbcembbbplac", sum := "9da6b024b87e7867950932fbf4f7378e2e9ad3b44449495a262d4b6420da2468", func := "loop.example/g03005/laws.FnExactSafeRing", spec := "fnExactSafeRing", apart := false }
def FnExactSafeRingSaid : Prop := fnExactSafeRingRow.holds Try.pinned (OpenSpec.ofChange fnExactSafeRingSpec)

/-- ITS FALSE NEIGHBOUR: 'it returns false'. Refute it at one input. -/
def fnExactSafeRingWrong : ChangeSpec := { name := "fnExactSafeRing", fn := fun _ => fun
  | [d1, d2] => { results := [.lit (.bool false)], args := [d1, d2] }
  | _ => none }
def FnExactSafeRingWrongFalsely : Prop := fnExactSafeRingRow.holds Try.pinned (OpenSpec.ofChange fnExactSafeRingWrong)

/-- 'laws.FnExactIsSource': WHATEVER THE INPUT: true; the input reads as it did. -/
def fnExactIsSourceSpec : ChangeSpec := { name := "fnExactIsSource", fn := fun _ => fun
  | [d] => { results := [.lit (.bool true)], args := [d] }
  | _ => none }
def fnExactIsSourceRow : OpenClaim := { program := "ytchmbcembbbplac", sum := "9da6b024b87e7867950932fbf4f7378e2e9ad3b44449495a262d4b6420da2468", func := "loop.example/g03005/laws.FnExactIsSource", spec := "fnExactIsSource", apart := false }
def FnExactIsSourceSaid : Prop := fnExactIsSourceRow.holds Try.pinned (OpenSpec.ofChange fnExactIsSourceSpec)

/-- ITS FALSE NEIGHBOUR: 'it returns false'. Refute it at one input. -/
def fnExactIsSourceWrong : ChangeSpec := { name := "fnExactIsSource", fn := fun _ => fun
  | [d] => { results := [.lit (.bool false)], args := [d] }
  | _ => none }
def FnExactIsSourceWrongFalsely : Prop := fnExactIsSourceRow.holds Try.pinned (OpenSpec.ofChange fnExactIsSourceWrong)

/-- 'laws.FnExactFeaturesMeet': WHATEVER THE INPUT: true; the input reads as it did. -/
def fnExactFeaturesMeetSpec : ChangeSpec := { name := "fnExactFeaturesMeet", fn := fun _ => fun
  | [d1, d2] => { results := [.lit (.bool true)], args := [d1, d2] }
  | _ => none }
def fnExactFeaturesMeetRow : OpenClaim := { program := "ytchmbcembbbplac", sum := "9da6b024b87e7867950932fbf4f7378e2e9ad3b44449495a262d4b6420da2468", func := "loop.example/g03005/laws.FnExactFeaturesMeet", spec := "fnExactFeaturesMeet", apart := false }
def FnExactFeaturesMeetSaid : Prop := fnExactFeaturesMeetRow.holds Try.pinned (OpenSpec.ofChange fnExactFeaturesMeetSpec)

/-- ITS FALSE NEIGHBOUR: 'it returns false'. Refute it at one input. -/
def fnExactFeaturesMeetWrong : ChangeSpec := { name := "fnExactFeaturesMeet", fn := fun _ => fun
  | [d1, d2] => { results := [.lit (.bool false)], args := [d1, d2] }
  | _ => none }
def FnExactFeaturesMeetWrongFalsely : Prop := fnExactFeaturesMeetRow.holds Try.pinned (OpenSpec.ofChange fnExactFeaturesMeetWrong)

/-- 'laws.FnExactSafeSimplify': WHATEVER THE INPUT: true; the input reads as it did. -/
def fnExactSafeSimplifySpec : ChangeSpec := { name := "fnExactSafeSimplify", fn := fun _ => fun
  | [d1, d2, d3] => { results := [.lit (.bool true)], args := [d1, d2, d3] }
  | _ => none }
def fnExactSafeSimplifyRow : OpenClaim := { program := "ytchmbcembbbplac", sum := "9da6b024b87e7867950932fbf4f7378e2e9ad3b44449495a262d4b6420da2468", func := "loop.example/g03005/laws.FnExactSafeSimplify", spec := "fnExactSafeSimplify", apart := false }
def FnExactSafeSimplifySaid : Prop := fnExactSafeSimplifyRow.holds Try.pinned (OpenSpec.ofChange fnExactSafeSimplifySpec)

/-- ITS FALSE NEIGHBOUR: 'it returns false'. Refute it at one input. -/
def fnExactSafeSimplifyWrong : ChangeSpec := { name := "fnExactSafeSimplify", fn := fun _ => fun
  | [d1, d2, d3] => { results := [.lit (.bool false)], args := [d1, d2, d3] }
  | _ => none }
def FnExactSafeSimplifyWrongFalsely : Prop := fnExactSafeSimplifyRow.holds Try.pinned (OpenSpec.ofChange fnExactSafeSimplifyWrong)

/-- 'laws.FnExactPartsOf': WHATEVER THE INPUT: true; the input reads as it did. -/
def fnExactPartsOfSpec : ChangeSpec := { name := "fnExactPartsOf", fn := fun _ => fun
  | [d] => { results := [.lit (.bool true)], args := [d] }
  | _ => none }
def fnExactPartsOfRow : OpenClaim := { program := "ytchmbcembbbplac", sum := "9da6b024b87e7867950932fbf4f7378e2e9ad3b44449495a262d4b6420da2468", func := "loop.example/g03005/laws.FnExactPartsOf", spec := "fnExactPartsOf", apart := false }
def FnExactPartsOfSaid : Prop := fnExactPartsOfRow.holds Try.pinned (OpenSpec.ofChange fnExactPartsOfSpec)

/-- ITS FALSE NEIGHBOUR: 'it returns false'. Refute it at one input. -/
def fnExactPartsOfWrong : ChangeSpec := { name := "fnExactPartsOf", fn := fun _ => fun
  | [d] => { results := [.lit (.bool false)], args := [d] }
  | _ => none }
def FnExactPartsOfWrongFalsely : Prop := fnExactPartsOfRow.holds Try.pinned (OpenSpec.ofChange fnExactPartsOfWrong)

/- THE SECOND FORM. 'bulk': how many values and letters a reading holds, each counted each time it is reached (what is shared counts as often as it is met; a slice's spare places count too). A statement '..UptoSaid' is the law's where the arguments, and the package variables that the reading takes, are together of bulk at most 1048576: NARROWER than '..Said'. Prove '..Said' where nothing that the law and all that it calls make is longer than what came in: it says more and counts as full. Else prove '..UptoSaid'. A law counts once. -/
mutual
def uptoBulk {H : Type} : DataW H → Nat
  | .lit (.string bytes) => bytes.length + 1
  | .lit _ => 1
  | .nil => 1
  | .ptr d => uptoBulk d + 1
  | .slice elems spare => uptoBulkAll elems + uptoBulkAll spare + 1
  | .agg parts => uptoBulkAll parts + 1
  | .iface _ d => uptoBulk d + 1
  | .map entries => uptoBulkEntries entries + 1
  | .held _ => 1
def uptoBulkAll {H : Type} : List (DataW H) → Nat
  | [] => 0
  | d :: r => uptoBulk d + uptoBulkAll r
def uptoBulkEntries {H : Type} : List (Lit × DataW H) → Nat
  | [] => 0
  | x :: r => uptoBulkEntry x + uptoBulkEntries r
def uptoBulkEntry {H : Type} : Lit × DataW H → Nat
  | (.string bytes, d) => bytes.length + uptoBulk d + 1
  | (_, d) => uptoBulk d + 1
 end
def uptoSmall : (H : Type) → List (DataW H) → Bool := fun _ ds => decide (uptoBulkAll ds ≤ 1048576)
def OpenSpec.upto (s : _root_.Go.ChangeSpec) : _root_.Go.OpenSpec := { _root_.Go.OpenSpec.ofChange s with cond := some uptoSmall }

/-- 'laws.FnExactMeetsAll', WHERE WHAT IT READS IS OF BULK AT MOST 1048576: true; the input reads as it did. -/
def fnExactMeetsAllUptoRow : OpenClaim := { program := "ytchmbcembbbplac", sum := "9da6b024b87e7867950932fbf4f7378e2e9ad3b44449495a262d4b6420da2468", func := "loop.example/g03005/laws.FnExactMeetsAll", spec := "fnExactMeetsAll", apart := false, narrowed := true }
def FnExactMeetsAllUptoSaid : Prop := fnExactMeetsAllUptoRow.holds Try.pinned (OpenSpec.upto fnExactMeetsAllSpec)

/-- 'laws.FnExactDropCorner', WHERE WHAT IT READS IS OF BULK AT MOST 1048576: true; the input reads as it did. -/
def fnExactDropCornerUptoRow : OpenClaim := { program := "ytchmbcembbbplac", sum := "9da6b024b87e7867950932fbf4f7378e2e9ad3b44449495a262d4b6420da2468", func := "loop.example/g03005/laws.FnExactDropCorner", spec := "fnExactDropCorner", apart := false, narrowed := true }
def FnExactDropCornerUptoSaid : Prop := fnExactDropCornerUptoRow.holds Try.pinned (OpenSpec.upto fnExactDropCornerSpec)

/-- 'laws.FnSafe', WHERE WHAT IT READS IS OF BULK AT MOST 1048576: true; the input reads as it did. -/
def fnSafeUptoRow : OpenClaim := { program := "ytchmbcembbbplac", sum := "9da6b024b87e7867950932fbf4f7378e2e9ad3b44449495a262d4b6420da2468", func := "loop.example/g03005/laws.FnSafe", spec := "fnSafe", apart := false, narrowed := true }
def FnSafeUptoSaid : Prop := fnSafeUptoRow.holds Try.pinned (OpenSpec.upto fnSafeSpec)

/-- 'laws.FnAreas', WHERE WHAT IT READS IS OF BULK AT MOST 1048576: true; the input reads as it did. -/
def fnAreasUptoRow : OpenClaim := { program := "ytchmbcembbbplac", sum := "9da6b024b87e7867950932fbf4f7378e2e9ad3b44449495a262d4b6420da2468", func := "loop.example/g03005/laws.FnAreas", spec := "fnAreas", apart := false, narrowed := true }
def FnAreasUptoSaid : Prop := fnAreasUptoRow.holds Try.pinned (OpenSpec.upto fnAreasSpec)

/-- 'laws.FnExactHiddenBy', WHERE WHAT IT READS IS OF BULK AT MOST 1048576: true; the input reads as it did. -/
def fnExactHiddenByUptoRow : OpenClaim := { program := "ytchmbcembbbplac", sum := "9da6b024b87e7867950932fbf4f7378e2e9ad3b44449495a262d4b6420da2468", func := "loop.example/g03005/laws.FnExactHiddenBy", spec := "fnExactHiddenBy", unfollowed := true, recurses := true, apart := false, narrowed := true }
def FnExactHiddenByUptoSaid : Prop := fnExactHiddenByUptoRow.holds Try.pinned (OpenSpec.upto fnExactHiddenBySpec)

/-- 'laws.FnExactCanDrop', WHERE WHAT IT READS IS OF BULK AT MOST 1048576: true; the input reads as it did. -/
def fnExactCanDropUptoRow : OpenClaim := { program := "ytchmbcembbbplac", sum := "9da6b024b87e7867950932fbf4f7378e2e9ad3b44449495a262d4b6420da2468", func := "loop.example/g03005/laws.FnExactCanDrop", spec := "fnExactCanDrop", apart := false, narrowed := true }
def FnExactCanDropUptoSaid : Prop := fnExactCanDropUptoRow.holds Try.pinned (OpenSpec.upto fnExactCanDropSpec)

/-- 'laws.FnExactIsFeature', WHERE WHAT IT READS IS OF BULK AT MOST 1048576: true; the input reads as it did. -/
def fnExactIsFeatureUptoRow : OpenClaim := { program := "ytchmbcembbbplac", sum := "9da6b024b87e7867950932fbf4f7378e2e9ad3b44449495a262d4b6420da2468", func := "loop.example/g03005/laws.FnExactIsFeature", spec := "fnExactIsFeature", apart := false, narrowed := true }
def FnExactIsFeatureUptoSaid : Prop := fnExactIsFeatureUptoRow.holds Try.pinned (OpenSpec.upto fnExactIsFeatureSpec)

/-- 'laws.FnExactSafeRing', WHERE WHAT IT READS IS OF BULK AT MOST 1048576: true; the input reads as it did. -/
def fnExactSafeRingUptoRow : OpenClaim := { program := "ytchmbcembbbplac", sum := "9da6b024b87e7867950932fbf4f7378e2e9ad3b44449495a262d4b6420da2468", func := "loop.example/g03005/laws.FnExactSafeRing", spec := "fnExactSafeRing", apart := false, narrowed := true }
def FnExactSafeRingUptoSaid : Prop := fnExactSafeRingUptoRow.holds Try.pinned (OpenSpec.upto fnExactSafeRingSpec)

/-- 'laws.FnExactIsSource', WHERE WHAT IT READS IS OF BULK AT MOST 1048576: true; the input reads as it did. -/
def fnExactIsSourceUptoRow : OpenClaim := { program := "ytchmbcembbbplac", sum := "9da6b024b87e7867950932fbf4f7378e2e9ad3b44449495a262d4b6420da2468", func := "loop.example/g03005/laws.FnExactIsSource", spec := "fnExactIsSource", apart := false, narrowed := true }
def FnExactIsSourceUptoSaid : Prop := fnExactIsSourceUptoRow.holds Try.pinned (OpenSpec.upto fnExactIsSourceSpec)

/-- 'laws.FnExactFeaturesMeet', WHERE WHAT IT READS IS OF BULK AT MOST 1048576: true; the input reads as it did. -/
def fnExactFeaturesMeetUptoRow : OpenClaim := { program := "ytchmbcembbbplac", sum := "9da6b024b87e7867950932fbf4f7378e2e9ad3b44449495a262d4b6420da2468", func := "loop.example/g03005/laws.FnExactFeaturesMeet", spec := "fnExactFeaturesMeet", apart := false, narrowed := true }
def FnExactFeaturesMeetUptoSaid : Prop := fnExactFeaturesMeetUptoRow.holds Try.pinned (OpenSpec.upto fnExactFeaturesMeetSpec)

/-- 'laws.FnExactSafeSimplify', WHERE WHAT IT READS IS OF BULK AT MOST 1048576: true; the input reads as it did. -/
def fnExactSafeSimplifyUptoRow : OpenClaim := { program := "ytchmbcembbbplac", sum := "9da6b024b87e7867950932fbf4f7378e2e9ad3b44449495a262d4b6420da2468", func := "loop.example/g03005/laws.FnExactSafeSimplify", spec := "fnExactSafeSimplify", apart := false, narrowed := true }
def FnExactSafeSimplifyUptoSaid : Prop := fnExactSafeSimplifyUptoRow.holds Try.pinned (OpenSpec.upto fnExactSafeSimplifySpec)

/-- 'laws.FnExactPartsOf', WHERE WHAT IT READS IS OF BULK AT MOST 1048576: true; the input reads as it did. -/
def fnExactPartsOfUptoRow : OpenClaim := { program := "ytchmbcembbbplac", sum := "9da6b024b87e7867950932fbf4f7378e2e9ad3b44449495a262d4b6420da2468", func := "loop.example/g03005/laws.FnExactPartsOf", spec := "fnExactPartsOf", apart := false, narrowed := true }
def FnExactPartsOfUptoSaid : Prop := fnExactPartsOfUptoRow.holds Try.pinned (OpenSpec.upto fnExactPartsOfSpec)

end Rows
end Go.Proofs.Ytchmbcembbbplac
