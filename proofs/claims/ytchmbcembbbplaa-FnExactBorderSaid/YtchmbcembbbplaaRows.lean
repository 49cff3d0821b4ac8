/-
  No cell of these rows narrows 'for every input' (looked for: loops, veiled, ifaces, maps, wideKeys, modest, calm, conditions, laid).
  DERIVED. THE GIVEN ROWS OF THIS SEAT. 12 by the template 'for every input the law returns true; each argument reads behind the call as it read before'; 0 by the template 'total and deterministic' (their statements: YtchmbcembbbplaaTotals.lean).
  GIVEN WITH THE SEED: the statements are not yours to turn. If you find one false, say at which input.
  Laid BY PROGRAM, IN A SANDBOX (cutbox-rows.mjs): the forced cells as the released guide's own fill.sh prints them over the translation 6ab7ab30613ceb41… (all of the seat's roots in one cut). By AI agents, Wed Nov 11 2026. No macro, syntax, notation, axiom, sorry.
-/
import Derived.Test.YtchmbcembbbplaaChecked
import GoSem.Claim
import GoSem.ClaimJoined
import GoSem.ClaimMapViews
import Derived.JoinedTies
import Derived.KernelRfl
namespace Go.Proofs.Ytchmbcembbbplaa
/- THE CELL 'sum', in the pinned program and in every row, IS THE sha256 OF THE DUMP (.gsa) THAT YtchmbcembbbplaaProg.lean LOADS. Nothing in Lean hashes anything: it is a label: what it is worth is what the hold of that sum in a sandbox is worth. -/
noncomputable def Try.pinned : Pinned := { name := "ytchmbcembbbplaa", sum := "6ab7ab30613ceb41620762f9b1fa490639e026fd9089d64faee1824076aa1e36", checked := Try.checked }
namespace Rows
def none {H : Type} : Left H := { results := [], args := [] }

/-- 'laws.FnFeatures': WHATEVER THE INPUT: true; the input reads as it did. -/
def fnFeaturesSpec : ChangeSpec := { name := "fnFeatures", fn := fun _ => fun
  | [d] => { results := [.lit (.bool true)], args := [d] }
  | _ => none }
def fnFeaturesRow : OpenClaim := { program := "ytchmbcembbbplaa", sum := "6ab7ab30613ceb41620762f9b1fa490639e026fd9089d64faee1824076aa1e36", func := "loop.example/g03005/laws.FnFeatures", spec := "fnFeatures", inPlace := ["slices.overlaps[loop.example/g03005/impl.Feature]"], unfollowed := true, recurses := true, apart := false }
def FnFeaturesSaid : Prop := fnFeaturesRow.holds Try.pinned (OpenSpec.ofChange fnFeaturesSpec)

/-- ITS FALSE NEIGHBOUR: 'it returns false'. Refute it at one input. -/
def fnFeaturesWrong : ChangeSpec := { name := "fnFeatures", fn := fun _ => fun
  | [d] => { results := [.lit (.bool false)], args := [d] }
  | _ => none }
def FnFeaturesWrongFalsely : Prop := fnFeaturesRow.holds Try.pinned (OpenSpec.ofChange fnFeaturesWrong)

/-- 'laws.FnExactIsNear': WHATEVER THE INPUT: true; the input reads as it did. -/
def fnExactIsNearSpec : ChangeSpec := { name := "fnExactIsNear", fn := fun _ => fun
  | [d1, d2, d3] => { results := [.lit (.bool true)], args := [d1, d2, d3] }
  | _ => none }
def fnExactIsNearRow : OpenClaim := { program := "ytchmbcembbbplaa", sum := "6ab7ab30613ceb41620762f9b1fa490639e026fd9089d64faee1824076aa1e36", func := "loop.example/g03005/laws.FnExactIsNear", spec := "fnExactIsNear", apart := false }
def FnExactIsNearSaid : Prop := fnExactIsNearRow.holds Try.pinned (OpenSpec.ofChange fnExactIsNearSpec)

/-- ITS FALSE NEIGHBOUR: 'it returns false'. Refute it at one input. -/
def fnExactIsNearWrong : ChangeSpec := { name := "fnExactIsNear", fn := fun _ => fun
  | [d1, d2, d3] => { results := [.lit (.bool false)], args := [d1, d2, d3] }
  | _ => none }
def FnExactIsNearWrongFalsely : Prop := fnExactIsNearRow.holds Try.pinned (OpenSpec.ofChange fnExactIsNearWrong)

/-- 'laws.FnExactArePlaces': WHATEVER THE INPUT: true; the input reads as it did. -/
def fnExactArePlacesSpec : ChangeSpec := { name := "fnExactArePlaces", fn := fun _ => fun
  | [d] => { results := [.lit (.bool true)], args := [d] }
  | _ => none }
def fnExactArePlacesRow : OpenClaim := { program := "ytchmbcembbbplaa", sum := "6ab7ab30613ceb41620762f9b1fa490639e026fd9089d64faee1824076aa1e36", func := "loop.example/g03005/laws.FnExactArePlaces", spec := "fnExactArePlaces", apart := false }
def FnExactArePlacesSaid : Prop := fnExactArePlacesRow.holds Try.pinned (OpenSpec.ofChange fnExactArePlacesSpec)

/-- ITS FALSE NEIGHBOUR: 'it returns false'. Refute it at one input. -/
def fnExactArePlacesWrong : ChangeSpec := { name := "fnExactArePlaces", fn := fun _ => fun
  | [d] => { results := [.lit (.bool false)], args := [d] }
  | _ => none }
def FnExactArePlacesWrongFalsely : Prop := fnExactArePlacesRow.holds Try.pinned (OpenSpec.ofChange fnExactArePlacesWrong)

/-- 'laws.FnExactCornerArea': WHATEVER THE INPUT: true; the input reads as it did. -/
def fnExactCornerAreaSpec : ChangeSpec := { name := "fnExactCornerArea", fn := fun _ => fun
  | [d1, d2] => { results := [.lit (.bool true)], args := [d1, d2] }
  | _ => none }
def fnExactCornerAreaRow : OpenClaim := { program := "ytchmbcembbbplaa", sum := "6ab7ab30613ceb41620762f9b1fa490639e026fd9089d64faee1824076aa1e36", func := "loop.example/g03005/laws.FnExactCornerArea", spec := "fnExactCornerArea", apart := false }
def FnExactCornerAreaSaid : Prop := fnExactCornerAreaRow.holds Try.pinned (OpenSpec.ofChange fnExactCornerAreaSpec)

/-- ITS FALSE NEIGHBOUR: 'it returns false'. Refute it at one input. -/
def fnExactCornerAreaWrong : ChangeSpec := { name := "fnExactCornerArea", fn := fun _ => fun
  | [d1, d2] => { results := [.lit (.bool false)], args := [d1, d2] }
  | _ => none }
def FnExactCornerAreaWrongFalsely : Prop := fnExactCornerAreaRow.holds Try.pinned (OpenSpec.ofChange fnExactCornerAreaWrong)

/-- 'laws.FnExactJoinBoxes': WHATEVER THE INPUT: true; the input reads as it did. -/
def fnExactJoinBoxesSpec : ChangeSpec := { name := "fnExactJoinBoxes", fn := fun _ => fun
  | [d1, d2] => { results := [.lit (.bool true)], args := [d1, d2] }
  | _ => none }
def fnExactJoinBoxesRow : OpenClaim := { program := "ytchmbcembbbplaa", sum := "6ab7ab30613ceb41620762f9b1fa490639e026fd9089d64faee1824076aa1e36", func := "loop.example/g03005/laws.FnExactJoinBoxes", spec := "fnExactJoinBoxes", apart := false }
def FnExactJoinBoxesSaid : Prop := fnExactJoinBoxesRow.holds Try.pinned (OpenSpec.ofChange fnExactJoinBoxesSpec)

/-- ITS FALSE NEIGHBOUR: 'it returns false'. Refute it at one input. -/
def fnExactJoinBoxesWrong : ChangeSpec := { name := "fnExactJoinBoxes", fn := fun _ => fun
  | [d1, d2] => { results := [.lit (.bool false)], args := [d1, d2] }
  | _ => none }
def FnExactJoinBoxesWrongFalsely : Prop := fnExactJoinBoxesRow.holds Try.pinned (OpenSpec.ofChange fnExactJoinBoxesWrong)

/-- 'laws.FnExactBoxOf': WHATEVER THE INPUT: true; the input reads as it did. -/
def fnExactBoxOfSpec : ChangeSpec := { name := "fnExactBoxOf", fn := fun _ => fun
  | [d] => { results := [.lit (.bool true)], args := [d] }
  | _ => none }
def fnExactBoxOfRow : OpenClaim := { program := "ytchmbcembbbplaa", sum := "6ab7ab30613ceb41620762f9b1fa490639e026fd9089d64faee1824076aa1e36", func := "loop.example/g03005/laws.FnExactBoxOf", spec := "fnExactBoxOf", apart := false }
def FnExactBoxOfSaid : Prop := fnExactBoxOfRow.holds Try.pinned (OpenSpec.ofChange fnExactBoxOfSpec)

/-- ITS FALSE NEIGHBOUR: 'it returns false'. Refute it at one input. -/
def fnExactBoxOfWrong : ChangeSpec := { name := "fnExactBoxOf", fn := fun _ => fun
  | [d] => { results := [.lit (.bool false)], args := [d] }
  | _ => none }
def FnExactBoxOfWrongFalsely : Prop := fnExactBoxOfRow.holds Try.pinned (OpenSpec.ofChange fnExactBoxOfWrong)

/-- 'laws.FnExactEqualFeatures': WHATEVER THE INPUT: true; the input reads as it did. -/
def fnExactEqualFeaturesSpec : ChangeSpec := { name := "fnExactEqualFeatures", fn := fun _ => fun
  | [d1, d2] => { results := [.lit (.bool true)], args := [d1, d2] }
  | _ => none }
def fnExactEqualFeaturesRow : OpenClaim := { program := "ytchmbcembbbplaa", sum := "6ab7ab30613ceb41620762f9b1fa490639e026fd9089d64faee1824076aa1e36", func := "loop.example/g03005/laws.FnExactEqualFeatures", spec := "fnExactEqualFeatures", apart := false }
def FnExactEqualFeaturesSaid : Prop := fnExactEqualFeaturesRow.holds Try.pinned (OpenSpec.ofChange fnExactEqualFeaturesSpec)

/-- ITS FALSE NEIGHBOUR: 'it returns false'. Refute it at one input. -/
def fnExactEqualFeaturesWrong : ChangeSpec := { name := "fnExactEqualFeatures", fn := fun _ => fun
  | [d1, d2] => { results := [.lit (.bool false)], args := [d1, d2] }
  | _ => none }
def FnExactEqualFeaturesWrongFalsely : Prop := fnExactEqualFeaturesRow.holds Try.pinned (OpenSpec.ofChange fnExactEqualFeaturesWrong)

/-- 'laws.FnThinned': WHATEVER THE INPUT: true; the input reads as it did. -/
def fnThinnedSpec : ChangeSpec := { name := "fnThinned", fn := fun _ => fun
  | [d] => { results := [.lit (.bool true)], args := [d] }
  | _ => none }
def fnThinnedRow : OpenClaim := { program := "ytchmbcembbbplaa", sum := "6ab7ab30613ceb41620762f9b1fa490639e026fd9089d64faee1824076aa1e36", func := "loop.example/g03005/laws.FnThinned", spec := "fnThinned", unfollowed := true, recurses := true, apart := false }
def FnThinnedSaid : Prop := fnThinnedRow.holds Try.pinned (OpenSpec.ofChange fnThinnedSpec)

/-- ITS FALSE NEIGHBOUR: 'it returns false'. Refute it at one input. -/
def fnThinnedWrong : ChangeSpec := { name := "fnThinned", fn := fun _ => fun
  | [d] => { results := [.lit (.bool false)], args := [d] }
  | _ => none }
def FnThinnedWrongFalsely : Prop := fnThinnedRow.holds Try.pinned (OpenSpec.ofChange fnThinnedWrong)

/-- 'laws.FnExactRegionOf': WHATEVER THE INPUT: true; the input reads as it did. -/
def fnExactRegionOfSpec : ChangeSpec := { name := "fnExactRegionOf", fn := fun _ => fun
  | [d1, d2] => { results := [.lit (.bool true)], args := [d1, d2] }
  | _ => none }
def fnExactRegionOfRow : OpenClaim := { program := "ytchmbcembbbplaa", sum := "6ab7ab30613ceb41620762f9b1fa490639e026fd9089d64faee1824076aa1e36", func := "loop.example/g03005/laws.FnExactRegionOf", spec := "fnExactRegionOf", apart := false }
def FnExactRegionOfSaid : Prop := fnExactRegionOfRow.holds Try.pinned (OpenSpec.ofChange fnExactRegionOfSpec)

/-- ITS FALSE NEIGHBOUR: 'it returns false'. Refute it at one input. -/
def fnExactRegionOfWrong : ChangeSpec := { name := "fnExactRegionOf", fn := fun _ => fun
  | [d1, d2] => { results := [.lit (.bool false)], args := [d1, d2] }
  | _ => none }
def FnExactRegionOfWrongFalsely : Prop := fnExactRegionOfRow.holds Try.pinned (OpenSpec.ofChange fnExactRegionOfWrong)

/-- 'laws.FnExactFindFeature': WHATEVER THE INPUT: true; the input reads as it did. -/
def fnExactFindFeatureSpec : ChangeSpec := { name := "fnExactFindFeature", fn := fun _ => fun
  | [d1, d2] => { results := [.lit (.bool true)], args := [d1, d2] }
  | _ => none }
def fnExactFindFeatureRow : OpenClaim := { program := "ytchmbcembbbplaa", sum := "6ab7ab30613ceb41620762f9b1fa490639e026fd9089d64faee1824076aa1e36", func := "loop.example/g03005/laws.FnExactFindFeature", spec := "fnExactFindFeature", unfollowed := true, recurses := true, apart := false }
def FnExactFindFeatureSaid : Prop := fnExactFindFeatureRow.holds Try.pinned (OpenSpec.ofChange fnExactFindFeatureSpec)

/-- ITS FALSE NEIGHBOUR: 'it returns false'. Refute it at one input. -/
def fnExactFindFeatureWrong : ChangeSpec := { name := "fnExactFindFeature", fn := fun _ => fun
  | [d1, d2] => { results := [.lit (.bool false)], args := [d1, d2] }
  | _ => none }
def FnExactFindFeatureWrongFalsely : Prop := fnExactFindFeatureRow.holds Try.pinned (OpenSpec.ofChange fnExactFindFeatureWrong)

/-- 'laws.FnExactDropPoint': WHATEVER THE INPUT: true; the input reads as it did. -/
def fnExactDropPointSpec : ChangeSpec := { name := "fnExactDropPoint", fn := fun _ => fun
  | [d1, d2] => { results := [.lit (.bool true)], args := [d1, d2] }
  | _ => none }
def fnExactDropPointRow : OpenClaim := { program := "ytchmbcembbbplaa", sum := "6ab7ab30613ceb41620762f9b1fa490639e026fd9089d64faee1824076aa1e36", func := "loop.example/g03005/laws.FnExactDropPoint", spec := "fnExactDropPoint", apart := false }
def FnExactDropPointSaid : Prop := fnExactDropPointRow.holds Try.pinned (OpenSpec.ofChange fnExactDropPointSpec)

/-- ITS FALSE NEIGHBOUR: 'it returns false'. Refute it at one input. -/
def fnExactDropPointWrong : ChangeSpec := { name := "fnExactDropPoint", fn := fun _ => fun
  | [d1, d2] => { results := [.lit (.bool false)], args := [d1, d2] }
  | _ => none }
def FnExactDropPointWrongFalsely : Prop := fnExactDropPointRow.holds Try.pinned (OpenSpec.ofChange fnExactDropPointWrong)

/-- 'laws.FnExactBorder': WHATEVER THE INPUT: true; the input reads as it did. -/
def fnExactBorderSpec : ChangeSpec := { name := "fnExactBorder", fn := fun _ => fun
  | [d1, d2, d3] => { results := [.lit (.bool true)], args := [d1, d2, d3] }
  | _ => none }
def fnExactBorderRow : OpenClaim := { program := "ytchmbcembbbplaa", sum := "6ab7ab30613ceb41620762f9b1fa490639e026fd9089d64faee1824076aa1e36", func := "loop.example/g03005/laws.FnExactBorder", spec := "fnExactBorder", apart := false }
def FnExactBorderSaid : Prop := fnExactBorderRow.holds Try.pinned (OpenSpec.ofChange fnExactBorderSpec)

/-- ITS FALSE NEIGHBOUR: 'it returns false'. Refute it at one input. -/
def fnExactBorderWrong : ChangeSpec := { name := "fnExactBorder", fn := fun _ => fun
  | [d1, d2, d3] => { results := [.lit (.bool false)], args := [d1, d2, d3] }
  | _ => none }
def FnExactBorderWrongFalsely : Prop := fnExactBorderRow.holds Try.pinned (OpenSpec.ofChange fnExactBorderWrong)

/- THE SECOND FORM. 'bulk': how many values and letters a reading holds, each counted each time it is reached (what is shared counts as often as it is met; a slice's spare places count too). A statement '..UptoSaid' is the law's where the arguments, and the package variables that the reading takes, are together of bulk at most 1048576: NARROWER than '..Said'. Prove '..Said' where nothing that the law and all that it calls make is longer than what came in: it says more and counts as full. Else prove '..UptoSaid'. A law counts once. -/
mutual
def uptoBulk {H : Type} : DataW H → Nat
  | .lit (.string bytes) => bytes.length + 1
  | .lit _ => 1
  | .nil => 1
  | .ptr d => uptoBulk d + 1
  | .slice elems spare => uptoBulkAll elems + uptoBulkAll spare + 1
  | .agg parts => uptoBulkAll parts + 1
  | .iface _ d => uptoBulk d + 1
  | .map entries => uptoBulkEntries entries + 1
  | .held _ => 1
def uptoBulkAll {H : Type} : List (DataW H) → Nat
  | [] => 0
  | d :: r => uptoBulk d + uptoBulkAll r
def uptoBulkEntries {H : Type} : List (Lit × DataW H) → Nat
  | [] => 0
  | x :: r => uptoBulkEntry x + uptoBulkEntries r
def uptoBulkEntry {H : Type} : Lit × DataW H → Nat
  | (.string bytes, d) => bytes.length + uptoBulk d + 1
  | (_, d) => uptoBulk d + 1
 end
def uptoSmall : (H : Type) → List (DataW H) → Bool := fun _ ds => decide (uptoBulkAll ds ≤ 1048576)
def OpenSpec.upto (s : _root_.Go.ChangeSpec) : _root_.Go.OpenSpec := { _root_.Go.OpenSpec.ofChange s with cond := some uptoSmall }

/-- 'laws.FnFeatures', WHERE WHAT IT READS IS OF BULK AT MOST 1048576: true; the input reads as it did. -/
def fnFeaturesUptoRow : OpenClaim := { program := "ytchmbcembbbplaa", sum := "6ab7ab30613ceb41620762f9b1fa490639e026fd9089d64faee1824076aa1e36", func := "loop.example/g03005/laws.FnFeatures", spec := "fnFeatures", inPlace := ["slices.overlaps[loop.example/g03005/impl.Feature]"], unfollowed := true, recurses := true, apart := false, narrowed := true }
def FnFeaturesUptoSaid : Prop := fnFeaturesUptoRow.holds Try.pinned (OpenSpec.upto fnFeaturesSpec)

/-- 'laws.FnExactIsNear', WHERE WHAT IT READS IS OF BULK AT MOST 1048576: true; the input reads as it did. -/
def fnExactIsNearUptoRow : OpenClaim := { program := "ytchmbcembbbplaa", sum := "6ab7ab30613ceb41620762f9b1fa490639e026fd9089d64faee1824076aa1e36", func := "loop.example/g03005/laws.FnExactIsNear", spec := "fnExactIsNear", apart := false, narrowed := true }
def FnExactIsNearUptoSaid : Prop := fnExactIsNearUptoRow.holds Try.pinned (OpenSpec.upto fnExactIsNearSpec)

/-- 'laws.FnExactArePlaces', WHERE WHAT IT READS IS OF BULK AT MOST 1048576: true; the input reads as it did. -/
def fnExactArePlacesUptoRow : OpenClaim := { program := "ytchmbcembbbplaa", sum := "6ab7ab30613ceb41620762f9b1fa490639e026fd9089d64faee1824076aa1e36", func := "loop.example/g03005/laws.FnExactArePlaces", spec := "fnExactArePlaces", apart := false, narrowed := true }
def FnExactArePlacesUptoSaid : Prop := fnExactArePlacesUptoRow.holds Try.pinned (OpenSpec.upto fnExactArePlacesSpec)

/-- 'laws.FnExactCornerArea', WHERE WHAT IT READS IS OF BULK AT MOST 1048576: true; the input reads as it did. -/
def fnExactCornerAreaUptoRow : OpenClaim := { program := "ytchmbcembbbplaa", sum := "6ab7ab30613ceb41620762f9b1fa490639e026fd9089d64faee1824076aa1e36", func := "loop.example/g03005/laws.FnExactCornerArea", spec := "fnExactCornerArea", apart := false, narrowed := true }
def FnExactCornerAreaUptoSaid : Prop := fnExactCornerAreaUptoRow.holds Try.pinned (OpenSpec.upto fnExactCornerAreaSpec)

/-- 'laws.FnExactJoinBoxes', WHERE WHAT IT READS IS OF BULK AT MOST 1048576: true; the input reads as it did. -/
def fnExactJoinBoxesUptoRow : OpenClaim := { program := "ytchmbcembbbplaa", sum := "6ab7ab30613ceb41620762f9b1fa490639e026fd9089d64faee1824076aa1e36", func := "loop.example/g03005/laws.FnExactJoinBoxes", spec := "fnExactJoinBoxes", apart := false, narrowed := true }
def FnExactJoinBoxesUptoSaid : Prop := fnExactJoinBoxesUptoRow.holds Try.pinned (OpenSpec.upto fnExactJoinBoxesSpec)

/-- 'laws.FnExactBoxOf', WHERE WHAT IT READS IS OF BULK AT MOST 1048576: true; the input reads as it did. -/
def fnExactBoxOfUptoRow : OpenClaim := { program := "ytchmbcembbbplaa", sum := "6ab7ab30613ceb41620762f9b1fa490639e026fd9089d64faee1824076aa1e36", func := "loop.example/g03005/laws.FnExactBoxOf", spec := "fnExactBoxOf", apart := false, narrowed := true }
def FnExactBoxOfUptoSaid : Prop := fnExactBoxOfUptoRow.holds Try.pinned (OpenSpec.upto fnExactBoxOfSpec)

/-- 'laws.FnExactEqualFeatures', WHERE WHAT IT READS IS OF BULK AT MOST 1048576: true; the input reads as it did. -/
def fnExactEqualFeaturesUptoRow : OpenClaim := { program := "ytchmbcembbbplaa", sum := "6ab7ab30613ceb41620762f9b1fa490639e026fd9089d64faee1824076aa1e36", func := "loop.example/g03005/laws.FnExactEqualFeatures", spec := "fnExactEqualFeatures", apart := false, narrowed := true }
def FnExactEqualFeaturesUptoSaid : Prop := fnExactEqualFeaturesUptoRow.holds Try.pinned (OpenSpec.upto fnExactEqualFeaturesSpec)

/-- 'laws.FnThinned', WHERE WHAT IT READS IS OF BULK AT MOST 1048576: true; the input reads as it did. -/
def fnThinnedUptoRow : OpenClaim := { program := "ytchmbcembbbplaa", sum := "6ab7ab30613ceb41620762f9b1fa490639e026fd9089d64faee1824076aa1e36", func := "loop.example/g03005/laws.FnThinned", spec := "fnThinned", unfollowed := true, recurses := true, apart := false, narrowed := true }
def FnThinnedUptoSaid : Prop := fnThinnedUptoRow.holds Try.pinned (OpenSpec.upto fnThinnedSpec)

/-- 'laws.FnExactRegionOf', WHERE WHAT IT READS IS OF BULK AT MOST 1048576: true; the input reads as it did. -/
def fnExactRegionOfUptoRow : OpenClaim := { program := "ytchmbcembbbplaa", sum := "6ab7ab30613ceb41620762f9b1fa490639e026fd9089d64faee1824076aa1e36", func := "loop.example/g03005/laws.FnExactRegionOf", spec := "fnExactRegionOf", apart := false, narrowed := true }
def FnExactRegionOfUptoSaid : Prop := fnExactRegionOfUptoRow.holds Try.pinned (OpenSpec.upto fnExactRegionOfSpec)

/-- 'laws.FnExactFindFeature', WHERE WHAT IT READS IS OF BULK AT MOST 1048576: true; the input reads as it did. -/
def fnExactFindFeatureUptoRow : OpenClaim := { program := "ytchmbcembbbplaa", sum := "6ab7ab30613ceb41620762f9b1fa490639e026fd9089d64faee1824076aa1e36", func := "loop.example/g03005/laws.FnExactFindFeature", spec := "fnExactFindFeature", unfollowed := true, recurses := true, apart := false, narrowed := true }
def FnExactFindFeatureUptoSaid : Prop := fnExactFindFeatureUptoRow.holds Try.pinned (OpenSpec.upto fnExactFindFeatureSpec)

/-- 'laws.FnExactDropPoint', WHERE WHAT IT READS IS OF BULK AT MOST 1048576: true; the input reads as it did. -/
def fnExactDropPointUptoRow : OpenClaim := { program := "ytchmbcembbbplaa", sum := "6ab7ab30613ceb41620762f9b1fa490639e026fd9089d64faee1824076aa1e36", func := "loop.example/g03005/laws.FnExactDropPoint", spec := "fnExactDropPoint", apart := false, narrowed := true }
def FnExactDropPointUptoSaid : Prop := fnExactDropPointUptoRow.holds Try.pinned (OpenSpec.upto fnExactDropPointSpec)

/-- 'laws.FnExactBorder', WHERE WHAT IT READS IS OF BULK AT MOST 1048576: true; the input reads as it did. -/
def fnExactBorderUptoRow : OpenClaim := { program := "ytchmbcembbbplaa", sum := "6ab7ab30613ceb41620762f9b1fa490639e026fd9089d64faee1824076aa1e36", func := "loop.example/g03005/laws.FnExactBorder", spec := "fnExactBorder", apart := false, narrowed := true }
def FnExactBorderUptoSaid : Prop := fnExactBorderUptoRow.holds Try.pinned (OpenSpec.upto fnExactBorderSpec)

end Rows
end Go.Proofs.Ytchmbcembbbplaa
