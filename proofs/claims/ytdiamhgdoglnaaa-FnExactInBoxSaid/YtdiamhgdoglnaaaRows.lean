/-
  No cell of these rows narrows 'for every input' (looked for: loops, veiled, ifaces, maps, wideKeys, modest, calm, conditions, laid).
  DERIVED. THE GIVEN ROWS OF THIS SEAT. 12 by the template 'for every input the law returns true; each argument reads behind the call as it read before'; 0 by the template 'total and deterministic' (their statements: YtdiamhgdoglnaaaTotals.lean).
  GIVEN WITH THE SEED: the statements are not yours to turn. If you find one false, say at which input.
  Laid BY PROGRAM, IN A SANDBOX (cutbox-rows.mjs): the forced cells as the released guide's own fill.sh prints them over the translation ed88b5d25fe5d2d0… (all of the seat's roots in one cut). By AI agents, Wed Nov 11 2026. No macro, syntax, notation, axiom, sorry.
-/
import Derived.Test.YtdiamhgdoglnaaaChecked
import GoSem.Claim
import GoSem.ClaimJoined
import GoSem.ClaimMapViews
import Derived.JoinedTies
import Derived.KernelRfl
namespace Go.Proofs.Ytdiamhgdoglnaaa
/- THE CELL 'sum', in the pinned program and in every row, IS THE sha256 OF THE DUMP (.gsa) THAT YtdiamhgdoglnaaaProg.lean LOADS. Nothing in Lean hashes anything: it is a label: what it is worth is what the hold of that sum in a sandbox is worth. -/
noncomputable def Try.pinned : Pinned := { name := "ytdiamhgdoglnaaa", sum := "ed88b5d25fe5d2d04a5f5b00c3146a3bc2e89825cf373b236c023dec05c11877", checked := Try.checked }
namespace Rows
def none {H : Type} : Left H := { results := [], args := [] }

/-- 'laws.FnExactIsAbove': WHATEVER THE INPUT: true; the input reads as it did. -/
def fnExactIsAboveSpec : ChangeSpec := { name := "fnExactIsAbove", fn := fun _ => fun
  | [d1, d2] => { results := [.lit (.bool true)], args := [d1, d2] }
  | _ => none }
def fnExactIsAboveRow : OpenClaim := { program := "ytdiamhgdoglnaaa", sum := "ed88b5d25fe5d2d04a5f5b00c3146a3bc2e89825cf373b236c023dec05c11877", func := "loop.example/g03005/laws.FnExactIsAbove", spec := "fnExactIsAbove", apart := false }
def FnExactIsAboveSaid : Prop := fnExactIsAboveRow.holds Try.pinned (OpenSpec.ofChange fnExactIsAboveSpec)

/-- ITS FALSE NEIGHBOUR: 'it returns false'. Refute it at one input. -/
def fnExactIsAboveWrong : ChangeSpec := { name := "fnExactIsAbove", fn := fun _ => fun
  | [d1, d2] => { results := [.lit (.bool false)], args := [d1, d2] }
  | _ => none }
def FnExactIsAboveWrongFalsely : Prop := fnExactIsAboveRow.holds Try.pinned (OpenSpec.ofChange fnExactIsAboveWrong)

/-- 'laws.FnExactIsName': WHATEVER THE INPUT: true; the input reads as it did. -/
def fnExactIsNameSpec : ChangeSpec := { name := "fnExactIsName", fn := fun _ => fun
  | [d] => { results := [.lit (.bool true)], args := [d] }
  | _ => none }
def fnExactIsNameRow : OpenClaim := { program := "ytdiamhgdoglnaaa", sum := "ed88b5d25fe5d2d04a5f5b00c3146a3bc2e89825cf373b236c023dec05c11877", func := "loop.example/g03005/laws.FnExactIsName", spec := "fnExactIsName", apart := false }
def FnExactIsNameSaid : Prop := fnExactIsNameRow.holds Try.pinned (OpenSpec.ofChange fnExactIsNameSpec)

/-- ITS FALSE NEIGHBOUR: 'it returns false'. Refute it at one input. -/
def fnExactIsNameWrong : ChangeSpec := { name := "fnExactIsName", fn := fun _ => fun
  | [d] => { results := [.lit (.bool false)], args := [d] }
  | _ => none }
def FnExactIsNameWrongFalsely : Prop := fnExactIsNameRow.holds Try.pinned (OpenSpec.ofChange fnExactIsNameWrong)

/-- 'laws.FnExactIsBox': WHATEVER THE INPUT: true; the input reads as it did. -/
def fnExactIsBoxSpec : ChangeSpec := { name := "fnExactIsBox", fn := fun _ => fun
  | [d] => { results := [.lit (.bool true)], args := [d] }
  | _ => none }
def fnExactIsBoxRow : OpenClaim := { program := "ytdiamhgdoglnaaa", sum := "ed88b5d25fe5d2d04a5f5b00c3146a3bc2e89825cf373b236c023dec05c11877", func := "loop.example/g03005/laws.FnExactIsBox", spec := "fnExactIsBox", apart := false }
def FnExactIsBoxSaid : Prop := fnExactIsBoxRow.holds Try.pinned (OpenSpec.ofChange fnExactIsBoxSpec)

/-- ITS FALSE NEIGHBOUR: 'it returns false'. Refute it at one input. -/
def fnExactIsBoxWrong : ChangeSpec := { name := "fnExactIsBox", fn := fun _ => fun
  | [d] => { results := [.lit (.bool false)], args := [d] }
  | _ => none }
def FnExactIsBoxWrongFalsely : Prop := fnExactIsBoxRow.holds Try.pinned (OpenSpec.ofChange fnExactIsBoxWrong)

/-- 'laws.FnExactInBox': WHATEVER THE INPUT: true; the input reads as it did. -/
def fnExactInBoxSpec : ChangeSpec := { name := "fnExactInBox", fn := fun _ => fun
  | [d1, d2] => { results := [.lit (.bool true)], args := [d1, d2] }
  | _ => none }
def fnExactInBoxRow : OpenClaim := { program := "ytdiamhgdoglnaaa", sum := "ed88b5d25fe5d2d04a5f5b00c3146a3bc2e89825cf373b236c023dec05c11877", func := "loop.example/g03005/laws.FnExactInBox", spec := "fnExactInBox", apart := false }
def FnExactInBoxSaid : Prop := fnExactInBoxRow.holds Try.pinned (OpenSpec.ofChange fnExactInBoxSpec)

/-- ITS FALSE NEIGHBOUR: 'it returns false'. Refute it at one input. -/
def fnExactInBoxWrong : ChangeSpec := { name := "fnExactInBox", fn := fun _ => fun
  | [d1, d2] => { results := [.lit (.bool false)], args := [d1, d2] }
  | _ => none }
def FnExactInBoxWrongFalsely : Prop := fnExactInBoxRow.holds Try.pinned (OpenSpec.ofChange fnExactInBoxWrong)

/-- 'laws.FnExactBoxesMeet': WHATEVER THE INPUT: true; the input reads as it did. -/
def fnExactBoxesMeetSpec : ChangeSpec := { name := "fnExactBoxesMeet", fn := fun _ => fun
  | [d1, d2] => { results := [.lit (.bool true)], args := [d1, d2] }
  | _ => none }
def fnExactBoxesMeetRow : OpenClaim := { program := "ytdiamhgdoglnaaa", sum := "ed88b5d25fe5d2d04a5f5b00c3146a3bc2e89825cf373b236c023dec05c11877", func := "loop.example/g03005/laws.FnExactBoxesMeet", spec := "fnExactBoxesMeet", apart := false }
def FnExactBoxesMeetSaid : Prop := fnExactBoxesMeetRow.holds Try.pinned (OpenSpec.ofChange fnExactBoxesMeetSpec)

/-- ITS FALSE NEIGHBOUR: 'it returns false'. Refute it at one input. -/
def fnExactBoxesMeetWrong : ChangeSpec := { name := "fnExactBoxesMeet", fn := fun _ => fun
  | [d1, d2] => { results := [.lit (.bool false)], args := [d1, d2] }
  | _ => none }
def FnExactBoxesMeetWrongFalsely : Prop := fnExactBoxesMeetRow.holds Try.pinned (OpenSpec.ofChange fnExactBoxesMeetWrong)

/-- 'laws.FnExactIsCover': WHATEVER THE INPUT: true; the input reads as it did. -/
def fnExactIsCoverSpec : ChangeSpec := { name := "fnExactIsCover", fn := fun _ => fun
  | [d] => { results := [.lit (.bool true)], args := [d] }
  | _ => none }
def fnExactIsCoverRow : OpenClaim := { program := "ytdiamhgdoglnaaa", sum := "ed88b5d25fe5d2d04a5f5b00c3146a3bc2e89825cf373b236c023dec05c11877", func := "loop.example/g03005/laws.FnExactIsCover", spec := "fnExactIsCover", apart := false }
def FnExactIsCoverSaid : Prop := fnExactIsCoverRow.holds Try.pinned (OpenSpec.ofChange fnExactIsCoverSpec)

/-- ITS FALSE NEIGHBOUR: 'it returns false'. Refute it at one input. -/
def fnExactIsCoverWrong : ChangeSpec := { name := "fnExactIsCover", fn := fun _ => fun
  | [d] => { results := [.lit (.bool false)], args := [d] }
  | _ => none }
def FnExactIsCoverWrongFalsely : Prop := fnExactIsCoverRow.holds Try.pinned (OpenSpec.ofChange fnExactIsCoverWrong)

/-- 'laws.FnExactPutFeature': WHATEVER THE INPUT: true; the input reads as it did. -/
def fnExactPutFeatureSpec : ChangeSpec := { name := "fnExactPutFeature", fn := fun _ => fun
  | [d1, d2] => { results := [.lit (.bool true)], args := [d1, d2] }
  | _ => none }
def fnExactPutFeatureRow : OpenClaim := { program := "ytdiamhgdoglnaaa", sum := "ed88b5d25fe5d2d04a5f5b00c3146a3bc2e89825cf373b236c023dec05c11877", func := "loop.example/g03005/laws.FnExactPutFeature", spec := "fnExactPutFeature", inPlace := ["slices.overlaps[loop.example/g03005/impl.Feature]"], unfollowed := true, recurses := true, apart := false }
def FnExactPutFeatureSaid : Prop := fnExactPutFeatureRow.holds Try.pinned (OpenSpec.ofChange fnExactPutFeatureSpec)

/-- ITS FALSE NEIGHBOUR: 'it returns false'. Refute it at one input. -/
def fnExactPutFeatureWrong : ChangeSpec := { name := "fnExactPutFeature", fn := fun _ => fun
  | [d1, d2] => { results := [.lit (.bool false)], args := [d1, d2] }
  | _ => none }
def FnExactPutFeatureWrongFalsely : Prop := fnExactPutFeatureRow.holds Try.pinned (OpenSpec.ofChange fnExactPutFeatureWrong)

/-- 'laws.FnExactBoxesOverlap': WHATEVER THE INPUT: true; the input reads as it did. -/
def fnExactBoxesOverlapSpec : ChangeSpec := { name := "fnExactBoxesOverlap", fn := fun _ => fun
  | [d1, d2] => { results := [.lit (.bool true)], args := [d1, d2] }
  | _ => none }
def fnExactBoxesOverlapRow : OpenClaim := { program := "ytdiamhgdoglnaaa", sum := "ed88b5d25fe5d2d04a5f5b00c3146a3bc2e89825cf373b236c023dec05c11877", func := "loop.example/g03005/laws.FnExactBoxesOverlap", spec := "fnExactBoxesOverlap", apart := false }
def FnExactBoxesOverlapSaid : Prop := fnExactBoxesOverlapRow.holds Try.pinned (OpenSpec.ofChange fnExactBoxesOverlapSpec)

/-- ITS FALSE NEIGHBOUR: 'it returns false'. Refute it at one input. -/
def fnExactBoxesOverlapWrong : ChangeSpec := { name := "fnExactBoxesOverlap", fn := fun _ => fun
  | [d1, d2] => { results := [.lit (.bool false)], args := [d1, d2] }
  | _ => none }
def FnExactBoxesOverlapWrongFalsely : Prop := fnExactBoxesOverlapRow.holds Try.pinned (OpenSpec.ofChange fnExactBoxesOverlapWrong)

/-- 'laws.FnExactIsPartOf': WHATEVER THE INPUT: true; the input reads as it did. -/
def fnExactIsPartOfSpec : ChangeSpec := { name := "fnExactIsPartOf", fn := fun _ => fun
  | [d1, d2] => { results := [.lit (.bool true)], args := [d1, d2] }
  | _ => none }
def fnExactIsPartOfRow : OpenClaim := { program := "ytdiamhgdoglnaaa", sum := "ed88b5d25fe5d2d04a5f5b00c3146a3bc2e89825cf373b236c023dec05c11877", func := "loop.example/g03005/laws.FnExactIsPartOf", spec := "fnExactIsPartOf", apart := false }
def FnExactIsPartOfSaid : Prop := fnExactIsPartOfRow.holds Try.pinned (OpenSpec.ofChange fnExactIsPartOfSpec)

/-- ITS FALSE NEIGHBOUR: 'it returns false'. Refute it at one input. -/
def fnExactIsPartOfWrong : ChangeSpec := { name := "fnExactIsPartOf", fn := fun _ => fun
  | [d1, d2] => { results := [.lit (.bool false)], args := [d1, d2] }
  | _ => none }
def FnExactIsPartOfWrongFalsely : Prop := fnExactIsPartOfRow.holds Try.pinned (OpenSpec.ofChange fnExactIsPartOfWrong)

/-- 'laws.FnExactCountMeets': WHATEVER THE INPUT: true; the input reads as it did. -/
def fnExactCountMeetsSpec : ChangeSpec := { name := "fnExactCountMeets", fn := fun _ => fun
  | [d1, d2] => { results := [.lit (.bool true)], args := [d1, d2] }
  | _ => none }
def fnExactCountMeetsRow : OpenClaim := { program := "ytdiamhgdoglnaaa", sum := "ed88b5d25fe5d2d04a5f5b00c3146a3bc2e89825cf373b236c023dec05c11877", func := "loop.example/g03005/laws.FnExactCountMeets", spec := "fnExactCountMeets", apart := false }
def FnExactCountMeetsSaid : Prop := fnExactCountMeetsRow.holds Try.pinned (OpenSpec.ofChange fnExactCountMeetsSpec)

/-- ITS FALSE NEIGHBOUR: 'it returns false'. Refute it at one input. -/
def fnExactCountMeetsWrong : ChangeSpec := { name := "fnExactCountMeets", fn := fun _ => fun
  | [d1, d2] => { results := [.lit (.bool false)], args := [d1, d2] }
  | _ => none }
def FnExactCountMeetsWrongFalsely : Prop := fnExactCountMeetsRow.holds Try.pinned (OpenSpec.ofChange fnExactCountMeetsWrong)

/-- 'laws.FnExactGrowBox': WHATEVER THE INPUT: true; the input reads as it did. -/
def fnExactGrowBoxSpec : ChangeSpec := { name := "fnExactGrowBox", fn := fun _ => fun
  | [d1, d2] => { results := [.lit (.bool true)], args := [d1, d2] }
  | _ => none }
def fnExactGrowBoxRow : OpenClaim := { program := "ytdiamhgdoglnaaa", sum := "ed88b5d25fe5d2d04a5f5b00c3146a3bc2e89825cf373b236c023dec05c11877", func := "loop.example/g03005/laws.FnExactGrowBox", spec := "fnExactGrowBox", apart := false }
def FnExactGrowBoxSaid : Prop := fnExactGrowBoxRow.holds Try.pinned (OpenSpec.ofChange fnExactGrowBoxSpec)

/-- ITS FALSE NEIGHBOUR: 'it returns false'. Refute it at one input. -/
def fnExactGrowBoxWrong : ChangeSpec := { name := "fnExactGrowBox", fn := fun _ => fun
  | [d1, d2] => { results := [.lit (.bool false)], args := [d1, d2] }
  | _ => none }
def FnExactGrowBoxWrongFalsely : Prop := fnExactGrowBoxRow.holds Try.pinned (OpenSpec.ofChange fnExactGrowBoxWrong)

/-- 'laws.FnExactNoMore': WHATEVER THE INPUT: true; the input reads as it did. -/
def fnExactNoMoreSpec : ChangeSpec := { name := "fnExactNoMore", fn := fun _ => fun
  | [d1, d2] => { results := [.lit (.bool true)], args := [d1, d2] }
  | _ => none }
def fnExactNoMoreRow : OpenClaim := { program := "ytdiamhgdoglnaaa", sum := "ed88b5d25fe5d2d04a5f5b00c3146a3bc2e89825cf373b236c023dec05c11877", func := "loop.example/g03005/laws.FnExactNoMore", spec := "fnExactNoMore", apart := false }
def FnExactNoMoreSaid : Prop := fnExactNoMoreRow.holds Try.pinned (OpenSpec.ofChange fnExactNoMoreSpec)

/-- ITS FALSE NEIGHBOUR: 'it returns false'. Refute it at one input. -/
def fnExactNoMoreWrong : ChangeSpec := { name := "fnExactNoMore", fn := fun _ => fun
  | [d1, d2] => { results := [.lit (.bool false)], args := [d1, d2] }
  | _ => none }
def FnExactNoMoreWrongFalsely : Prop := fnExactNoMoreRow.holds Try.pinned (OpenSpec.ofChange fnExactNoMoreWrong)

/- THE SECOND FORM. 'bulk': how many values and letters a reading holds, each counted each time it is reached (what is shared counts as often as it is met; a slice's spare places count too). A statement '..UptoSaid' is the law's where the arguments, and the package variables that the reading takes, are together of bulk at most 1048576: NARROWER than '..Said'. Prove '..Said' where nothing that the law and all that it calls make is longer than what came in: it says more and counts as full. Else prove '..UptoSaid'. A law counts once. -/
mutual
def uptoBulk {H : Type} : DataW H → Nat
  | .lit (.string bytes) => bytes.length + 1
  | .lit _ => 1
  | .nil => 1
  | .ptr d => uptoBulk d + 1
  | .slice elems spare => uptoBulkAll elems + uptoBulkAll spare + 1
  | .agg parts => uptoBulkAll parts + 1
  | .iface _ d => uptoBulk d + 1
  | .map entries => uptoBulkEntries entries + 1
  | .held _ => 1
def uptoBulkAll {H : Type} : List (DataW H) → Nat
  | [] => 0
  | d :: r => uptoBulk d + uptoBulkAll r
def uptoBulkEntries {H : Type} : List (Lit × DataW H) → Nat
  | [] => 0
  | x :: r => uptoBulkEntry x + uptoBulkEntries r
def uptoBulkEntry {H : Type} : Lit × DataW H → Nat
  | (.string bytes, d) => bytes.length + uptoBulk d + 1
  | (_, d) => uptoBulk d + 1
 end
def uptoSmall : (H : Type) → List (DataW H) → Bool := fun _ ds => decide (uptoBulkAll ds ≤ 1048576)
def OpenSpec.upto (s : _root_.Go.ChangeSpec) : _root_.Go.OpenSpec := { _root_.Go.OpenSpec.ofChange s with cond := some uptoSmall }

/-- 'laws.FnExactIsAbove', WHERE WHAT IT READS IS OF BULK AT MOST 1048576: true; the input reads as it did. -/
def fnExactIsAboveUptoRow : OpenClaim := { program := "ytdiamhgdoglnaaa", sum := "ed88b5d25fe5d2d04a5f5b00c3146a3bc2e89825cf373b236c023dec05c11877", func := "loop.example/g03005/laws.FnExactIsAbove", spec := "fnExactIsAbove", apart := false, narrowed := true }
def FnExactIsAboveUptoSaid : Prop := fnExactIsAboveUptoRow.holds Try.pinned (OpenSpec.upto fnExactIsAboveSpec)

/-- 'laws.FnExactIsName', WHERE WHAT IT READS IS OF BULK AT MOST 1048576: true; the input reads as it did. -/
def fnExactIsNameUptoRow : OpenClaim := { program := "ytdiamhgdoglnaaa", sum := "ed88b5d25fe5d2d04a5f5b00c3146a3bc2e89825cf373b236c023dec05c11877", func := "loop.example/g03005/laws.FnExactIsName", spec := "fnExactIsName", apart := false, narrowed := true }
def FnExactIsNameUptoSaid : Prop := fnExactIsNameUptoRow.holds Try.pinned (OpenSpec.upto fnExactIsNameSpec)

/-- 'laws.FnExactIsBox', WHERE WHAT IT READS IS OF BULK AT MOST 1048576: true; the input reads as it did. -/
def fnExactIsBoxUptoRow : OpenClaim := { program := "ytdiamhgdoglnaaa", sum := "ed88b5d25fe5d2d04a5f5b00c3146a3bc2e89825cf373b236c023dec05c11877", func := "loop.example/g03005/laws.FnExactIsBox", spec := "fnExactIsBox", apart := false, narrowed := true }
def FnExactIsBoxUptoSaid : Prop := fnExactIsBoxUptoRow.holds Try.pinned (OpenSpec.upto fnExactIsBoxSpec)

/-- 'laws.FnExactInBox', WHERE WHAT IT READS IS OF BULK AT MOST 1048576: true; the input reads as it did. -/
def fnExactInBoxUptoRow : OpenClaim := { program := "ytdiamhgdoglnaaa", sum := "ed88b5d25fe5d2d04a5f5b00c3146a3bc2e89825cf373b236c023dec05c11877", func := "loop.example/g03005/laws.FnExactInBox", spec := "fnExactInBox", apart := false, narrowed := true }
def FnExactInBoxUptoSaid : Prop := fnExactInBoxUptoRow.holds Try.pinned (OpenSpec.upto fnExactInBoxSpec)

/-- 'laws.FnExactBoxesMeet', WHERE WHAT IT READS IS OF BULK AT MOST 1048576: true; the input reads as it did. -/
def fnExactBoxesMeetUptoRow : OpenClaim := { program := "ytdiamhgdoglnaaa", sum := "ed88b5d25fe5d2d04a5f5b00c3146a3bc2e89825cf373b236c023dec05c11877", func := "loop.example/g03005/laws.FnExactBoxesMeet", spec := "fnExactBoxesMeet", apart := false, narrowed := true }
def FnExactBoxesMeetUptoSaid : Prop := fnExactBoxesMeetUptoRow.holds Try.pinned (OpenSpec.upto fnExactBoxesMeetSpec)

/-- 'laws.FnExactIsCover', WHERE WHAT IT READS IS OF BULK AT MOST 1048576: true; the input reads as it did. -/
def fnExactIsCoverUptoRow : OpenClaim := { program := "ytdiamhgdoglnaaa", sum := "ed88b5d25fe5d2d04a5f5b00c3146a3bc2e89825cf373b236c023dec05c11877", func := "loop.example/g03005/laws.FnExactIsCover", spec := "fnExactIsCover", apart := false, narrowed := true }
def FnExactIsCoverUptoSaid : Prop := fnExactIsCoverUptoRow.holds Try.pinned (OpenSpec.upto fnExactIsCoverSpec)

/-- 'laws.FnExactPutFeature', WHERE WHAT IT READS IS OF BULK AT MOST 1048576: true; the input reads as it did. -/
def fnExactPutFeatureUptoRow : OpenClaim := { program := "ytdiamhgdoglnaaa", sum := "ed88b5d25fe5d2d04a5f5b00c3146a3bc2e89825cf373b236c023dec05c11877", func := "loop.example/g03005/laws.FnExactPutFeature", spec := "fnExactPutFeature", inPlace := ["slices.overlaps[loop.example/g03005/impl.Feature]"], unfollowed := true, recurses := true, apart := false, narrowed := true }
def FnExactPutFeatureUptoSaid : Prop := fnExactPutFeatureUptoRow.holds Try.pinned (OpenSpec.upto fnExactPutFeatureSpec)

/-- 'laws.FnExactBoxesOverlap', WHERE WHAT IT READS IS OF BULK AT MOST 1048576: true; the input reads as it did. -/
def fnExactBoxesOverlapUptoRow : OpenClaim := { program := "ytdiamhgdoglnaaa", sum := "ed88b5d25fe5d2d04a5f5b00c3146a3bc2e89825cf373b236c023dec05c11877", func := "loop.example/g03005/laws.FnExactBoxesOverlap", spec := "fnExactBoxesOverlap", apart := false, narrowed := true }
def FnExactBoxesOverlapUptoSaid : Prop := fnExactBoxesOverlapUptoRow.holds Try.pinned (OpenSpec.upto fnExactBoxesOverlapSpec)

/-- 'laws.FnExactIsPartOf', WHERE WHAT IT READS IS OF BULK AT MOST 1048576: true; the input reads as it did. -/
def fnExactIsPartOfUptoRow : OpenClaim := { program := "ytdiamhgdoglnaaa", sum := "ed88b5d25fe5d2d04a5f5b00c3146a3bc2e89825cf373b236c023dec05c11877", func := "loop.example/g03005/laws.FnExactIsPartOf", spec := "fnExactIsPartOf", apart := false, narrowed := true }
def FnExactIsPartOfUptoSaid : Prop := fnExactIsPartOfUptoRow.holds Try.pinned (OpenSpec.upto fnExactIsPartOfSpec)

/-- 'laws.FnExactCountMeets', WHERE WHAT IT READS IS OF BULK AT MOST 1048576: true; the input reads as it did. -/
def fnExactCountMeetsUptoRow : OpenClaim := { program := "ytdiamhgdoglnaaa", sum := "ed88b5d25fe5d2d04a5f5b00c3146a3bc2e89825cf373b236c023dec05c11877", func := "loop.example/g03005/laws.FnExactCountMeets", spec := "fnExactCountMeets", apart := false, narrowed := true }
def FnExactCountMeetsUptoSaid : Prop := fnExactCountMeetsUptoRow.holds Try.pinned (OpenSpec.upto fnExactCountMeetsSpec)

/-- 'laws.FnExactGrowBox', WHERE WHAT IT READS IS OF BULK AT MOST 1048576: true; the input reads as it did. -/
def fnExactGrowBoxUptoRow : OpenClaim := { program := "ytdiamhgdoglnaaa", sum := "ed88b5d25fe5d2d04a5f5b00c3146a3bc2e89825cf373b236c023dec05c11877", func := "loop.example/g03005/laws.FnExactGrowBox", spec := "fnExactGrowBox", apart := false, narrowed := true }
def FnExactGrowBoxUptoSaid : Prop := fnExactGrowBoxUptoRow.holds Try.pinned (OpenSpec.upto fnExactGrowBoxSpec)

/-- 'laws.FnExactNoMore', WHERE WHAT IT READS IS OF BULK AT MOST 1048576: true; the input reads as it did. -/
def fnExactNoMoreUptoRow : OpenClaim := { program := "ytdiamhgdoglnaaa", sum := "ed88b5d25fe5d2d04a5f5b00c3146a3bc2e89825cf373b236c023dec05c11877", func := "loop.example/g03005/laws.FnExactNoMore", spec := "fnExactNoMore", apart := false, narrowed := true }
def FnExactNoMoreUptoSaid : Prop := fnExactNoMoreUptoRow.holds Try.pinned (OpenSpec.upto fnExactNoMoreSpec)

end Rows
end Go.Proofs.Ytdiamhgdoglnaaa
