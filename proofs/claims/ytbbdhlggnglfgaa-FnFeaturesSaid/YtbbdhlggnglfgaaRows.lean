/-
  No cell of these rows narrows 'for every input' (looked for: loops, veiled, ifaces, maps, wideKeys, modest, calm, conditions, laid).
  DERIVED. THE GIVEN ROWS OF THIS SEAT. 4 by the template 'for every input the law returns true; each argument reads behind the call as it read before'; 0 by the template 'total and deterministic' (their statements: YtbbdhlggnglfgaaTotals.lean).
  GIVEN WITH THE SEED: the statements are not yours to turn. If you find one false, say at which input.
  Laid BY PROGRAM, IN A SANDBOX (cutbox-rows.mjs): the forced cells as the released guide's own fill.sh prints them over the translation 7e71bed57f814cb7… (all of the seat's roots in one cut). By AI agents, Wed Nov 11 2026. No macro, syntax, notation, axiom, sorry.
-/
import Derived.Test.YtbbdhlggnglfgaaChecked
import GoSem.Claim
import GoSem.ClaimJoined
import GoSem.ClaimMapViews
import Derived.JoinedTies
import Derived.KernelRfl
namespace Go.Proofs.Ytbbdhlggnglfgaa
/- THE CELL 'sum', in the pinned program and in every row, IS THE sha256 OF THE DUMP (.gsa) THAT YtbbdhlggnglfgaaProg.lean LOADS. Nothing in Lean hashes anything: it is a label: what it is worth is what the hold of that sum in a sandbox is worth. -/
noncomputable def Try.pinned : Pinned := { name := "ytbbdhlggnglfgaa", sum := "7e71bed57f814cb79012190dcff83b054dd81a9d774e791bf76682c5eed1c027", checked := Try.checked }
namespace Rows
def none {H : Type} : Left H := { results := [], args := [] }

/-- 'laws.FnExactPutFeature': WHATEVER THE INPUT: true; the input reads as it did. -/
def fnExactPutFeatureSpec : ChangeSpec := { name := "fnExactPutFeature", fn := fun _ => fun
  | [d1, d2] => { results := [.lit (.bool true)], args := [d1, d2] }
  | _ => none }
def fnExactPutFeatureRow : OpenClaim := { program := "ytbbdhlggnglfgaa", sum := "7e71bed57f814cb79012190dcff83b054dd81a9d774e791bf76682c5eed1c027", func := "loop.example/g03005/laws.FnExactPutFeature", spec := "fnExactPutFeature", inPlace := ["slices.overlaps[loop.example/g03005/impl.Feature]"], unfollowed := true, recurses := true, apart := false }
def FnExactPutFeatureSaid : Prop := fnExactPutFeatureRow.holds Try.pinned (OpenSpec.ofChange fnExactPutFeatureSpec)

/-- ITS FALSE NEIGHBOUR: 'it returns false'. Refute it at one input. -/
def fnExactPutFeatureWrong : ChangeSpec := { name := "fnExactPutFeature", fn := fun _ => fun
  | [d1, d2] => { results := [.lit (.bool false)], args := [d1, d2] }
  | _ => none }
def FnExactPutFeatureWrongFalsely : Prop := fnExactPutFeatureRow.holds Try.pinned (OpenSpec.ofChange fnExactPutFeatureWrong)

/-- 'laws.FnFeatures': WHATEVER THE INPUT: true; the input reads as it did. -/
def fnFeaturesSpec : ChangeSpec := { name := "fnFeatures", fn := fun _ => fun
  | [d] => { results := [.lit (.bool true)], args := [d] }
  | _ => none }
def fnFeaturesRow : OpenClaim := { program := "ytbbdhlggnglfgaa", sum := "7e71bed57f814cb79012190dcff83b054dd81a9d774e791bf76682c5eed1c027", func := "loop.example/g03005/laws.FnFeatures", spec := "fnFeatures", inPlace := ["slices.overlaps[loop.example/g03005/impl.Feature]"], unfollowed := true, recurses := true, apart := false }
def FnFeaturesSaid : Prop := fnFeaturesRow.holds Try.pinned (OpenSpec.ofChange fnFeaturesSpec)

/-- ITS FALSE NEIGHBOUR: 'it returns false'. Refute it at one input. -/
def fnFeaturesWrong : ChangeSpec := { name := "fnFeatures", fn := fun _ => fun
  | [d] => { results := [.lit (.bool false)], args := [d] }
  | _ => none }
def FnFeaturesWrongFalsely : Prop := fnFeaturesRow.holds Try.pinned (OpenSpec.ofChange fnFeaturesWrong)

/-- 'laws.FnMeets': WHATEVER THE INPUT: true; the input reads as it did. -/
def fnMeetsSpec : ChangeSpec := { name := "fnMeets", fn := fun _ => fun
  | [d] => { results := [.lit (.bool true)], args := [d] }
  | _ => none }
def fnMeetsRow : OpenClaim := { program := "ytbbdhlggnglfgaa", sum := "7e71bed57f814cb79012190dcff83b054dd81a9d774e791bf76682c5eed1c027", func := "loop.example/g03005/laws.FnMeets", spec := "fnMeets", apart := false }
def FnMeetsSaid : Prop := fnMeetsRow.holds Try.pinned (OpenSpec.ofChange fnMeetsSpec)

/-- ITS FALSE NEIGHBOUR: 'it returns false'. Refute it at one input. -/
def fnMeetsWrong : ChangeSpec := { name := "fnMeets", fn := fun _ => fun
  | [d] => { results := [.lit (.bool false)], args := [d] }
  | _ => none }
def FnMeetsWrongFalsely : Prop := fnMeetsRow.holds Try.pinned (OpenSpec.ofChange fnMeetsWrong)

/-- 'laws.FnExactTakeFeature': WHATEVER THE INPUT: true; the input reads as it did. -/
def fnExactTakeFeatureSpec : ChangeSpec := { name := "fnExactTakeFeature", fn := fun _ => fun
  | [d1, d2] => { results := [.lit (.bool true)], args := [d1, d2] }
  | _ => none }
def fnExactTakeFeatureRow : OpenClaim := { program := "ytbbdhlggnglfgaa", sum := "7e71bed57f814cb79012190dcff83b054dd81a9d774e791bf76682c5eed1c027", func := "loop.example/g03005/laws.FnExactTakeFeature", spec := "fnExactTakeFeature", unfollowed := true, recurses := true, apart := false }
def FnExactTakeFeatureSaid : Prop := fnExactTakeFeatureRow.holds Try.pinned (OpenSpec.ofChange fnExactTakeFeatureSpec)

/-- ITS FALSE NEIGHBOUR: 'it returns false'. Refute it at one input. -/
def fnExactTakeFeatureWrong : ChangeSpec := { name := "fnExactTakeFeature", fn := fun _ => fun
  | [d1, d2] => { results := [.lit (.bool false)], args := [d1, d2] }
  | _ => none }
def FnExactTakeFeatureWrongFalsely : Prop := fnExactTakeFeatureRow.holds Try.pinned (OpenSpec.ofChange fnExactTakeFeatureWrong)

/- THE SECOND FORM. 'bulk': how many values and letters a reading holds, each counted each time it is reached (what is shared counts as often as it is met; a slice's spare places count too). A statement '..UptoSaid' is the law's where the arguments, and the package variables that the reading takes, are together of bulk at most 1048576: NARROWER than '..Said'. Prove '..Said' where nothing that the law and all that it calls make is longer than what came in: it says more and counts as full. Else prove '..UptoSaid'. A law counts once. -/
mutual
def uptoBulk {H : Type} : DataW H → Nat
  | .lit (.string bytes) => bytes.length + 1
  | .lit _ => 1
  | .nil => 1
  | .ptr d => uptoBulk d + 1
  | .slice elems spare => uptoBulkAll elems + uptoBulkAll spare + 1
  | .agg parts => uptoBulkAll parts + 1
  | .iface _ d => uptoBulk d + 1
  | .map entries => uptoBulkEntries entries + 1
  | .held _ => 1
def uptoBulkAll {H : Type} : List (DataW H) → Nat
  | [] => 0
  | d :: r => uptoBulk d + uptoBulkAll r
def uptoBulkEntries {H : Type} : List (Lit × DataW H) → Nat
  | [] => 0
  | x :: r => uptoBulkEntry x + uptoBulkEntries r
def uptoBulkEntry {H : Type} : Lit × DataW H → Nat
  | (.string bytes, d) => bytes.length + uptoBulk d + 1
  | (_, d) => uptoBulk d + 1
 end
def uptoSmall : (H : Type) → List (DataW H) → Bool := fun _ ds => decide (uptoBulkAll ds ≤ 1048576)
def OpenSpec.upto (s : _root_.Go.ChangeSpec) : _root_.Go.OpenSpec := { _root_.Go.OpenSpec.ofChange s with cond := some uptoSmall }

/-- 'laws.FnExactPutFeature', WHERE WHAT IT READS IS OF BULK AT MOST 1048576: true; the input reads as it did. -/
def fnExactPutFeatureUptoRow : OpenClaim := { program := "ytbbdhlggnglfgaa", sum := "7e71bed57f814cb79012190dcff83b054dd81a9d774e791bf76682c5eed1c027", func := "loop.example/g03005/laws.FnExactPutFeature", spec := "fnExactPutFeature", inPlace := ["slices.overlaps[loop.example/g03005/impl.Feature]"], unfollowed := true, recurses := true, apart := false, narrowed := true }
def FnExactPutFeatureUptoSaid : Prop := fnExactPutFeatureUptoRow.holds Try.pinned (OpenSpec.upto fnExactPutFeatureSpec)

/-- 'laws.FnFeatures', WHERE WHAT IT READS IS OF BULK AT MOST 1048576: true; the input reads as it did. -/
def fnFeaturesUptoRow : OpenClaim := { program := "ytbbdhlggnglfgaa", sum := "7e71bed57f814cb79012190dcff83b054dd81a9d774e791bf76682c5eed1c027", func := "loop.example/g03005/laws.FnFeatures", spec := "fnFeatures", inPlace := ["slices.overlaps[loop.example/g03005/impl.Feature]"], unfollowed := true, recurses := true, apart := false, narrowed := true }
def FnFeaturesUptoSaid : Prop := fnFeaturesUptoRow.holds Try.pinned (OpenSpec.upto fnFeaturesSpec)

/-- 'laws.FnMeets', WHERE WHAT IT READS IS OF BULK AT MOST 1048576: true; the input reads as it did. -/
def fnMeetsUptoRow : OpenClaim := { program := "ytbbdhlggnglfgaa", sum := "7e71bed57f814cb79012190dcff83b054dd81a9d774e791bf76682c5eed1c027", func := "loop.example/g03005/laws.FnMeets", spec := "fnMeets", apart := false, narrowed := true }
def FnMeetsUptoSaid : Prop := fnMeetsUptoRow.holds Try.pinned (OpenSpec.upto fnMeetsSpec)

/-- 'laws.FnExactTakeFeature', WHERE WHAT IT READS IS OF BULK AT MOST 1048576: true; the input reads as it did. -/
def fnExactTakeFeatureUptoRow : OpenClaim := { program := "ytbbdhlggnglfgaa", sum := "7e71bed57f814cb79012190dcff83b054dd81a9d774e791bf76682c5eed1c027", func := "loop.example/g03005/laws.FnExactTakeFeature", spec := "fnExactTakeFeature", unfollowed := true, recurses := true, apart := false, narrowed := true }
def FnExactTakeFeatureUptoSaid : Prop := fnExactTakeFeatureUptoRow.holds Try.pinned (OpenSpec.upto fnExactTakeFeatureSpec)

end Rows
end Go.Proofs.Ytbbdhlggnglfgaa
