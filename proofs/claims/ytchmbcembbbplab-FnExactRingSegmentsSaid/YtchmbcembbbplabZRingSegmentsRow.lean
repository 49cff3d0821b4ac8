/- The law FnExactRingSegments returns true for every input; no condition. -/
import Derived.Test.YtchmbcembbbplabZRingSegmentsOpen
import Derived.Test.YtchmbcembbbplabZRingSegmentsOpn
import Derived.Test.YtchmbcembbbplabZRingSegmentsMx10
import Derived.Test.YtchmbcembbbplabZRingSegmentsPure
namespace Go.Proofs.Ytchmbcembbbplab.RowFnExactRingSegments
open Go Go.ChangeShapes Go.WideShapes Go.ChangeAt Go.RowKit Go.Proofs.YtchmbcembbbplabW.PrintWords Go.Proofs.Ytchmbcembbbplab.Open Go.Proofs.Ytchmbcembbbplab.MFnExactRingSegments
set_option linter.unusedVariables false
set_option maxRecDepth 100000 in
theorem lifted (os : Os) (started : os.Started) (H : Type) (enc : TypeId × Value → H) :
    ReturnsInHanded {} Try.checked os 14 .any (Rows.fnExactRingSegmentsSpec.pre6 enc Try.prog Try.f14 Rows.fnExactRingSegmentsRow.domain false) (Rows.fnExactRingSegmentsSpec.post enc Try.prog Try.f14 false true false false) := by
  refine returnsInHanded_of_change_sized (C := Try.checked) own started (by kernel_rfl) Try.func14
    (ChangeSpec.witness6 (enc := enc) (C := Try.checked) false ⟨#[], #[.slice none 0 0], []⟩ 8 (by kernel_rfl) (by kernel_rfl) (by kernel_rfl) (by kernel_rfl)) ?_
  intro W base args ds gs before hval0 hW hcnd hsz0 _
  have hval : ∀ (j : Nat) t v, Try.f14.params[j]? = some t → args[j]? = some v → Value.okWide Try.prog W .any base t v := hval0
  have hW' := hW
  obtain ⟨p, q, hA0, hV, rfl, hfz, hnd⟩ := hW
  have hA : DataW.TrodAll enc Try.prog W 0 (fun _ => true) true Try.f14.params.toList args.toList ds p := hA0
  rw [Try.params14] at hA hval
  have hstay : ∀ W', Below W.heap.size W W' → DataW.TrodAll enc Try.prog W' 0 (fun b => decide (b < W.heap.size)) true Try.f14.params.toList args.toList ds p := fun W' bel => args_stay kids full bel (fun b hb => decide_eq_true hb) (by rw [Try.params14]; exact of_decide_eq_true (by kernel_rfl)) hA0
  obtain ⟨v0, vs0, d0, ds0, p0, q0, hargs, rfl, rfl, h0, r0⟩ := trodAll_cons hA
  obtain ⟨rfl, rfl, rfl⟩ := trodAll_nil r0
  obtain rfl : args = #[v0] := by cases args; simp_all
  obtain ⟨rfl, rfl⟩ := trodVars_none hV
  obtain ⟨A0, l0, c0, rfl, hc0, hr0, g0⟩ := arg_slice Try.underlying47 (opens_slice Try.underlying47 (by kernel_rfl) opens77) (hval 0 47 v0 rfl rfl) h0
  clear hA0 hval0 hsz0
  obtain ⟨k, hp⟩ := pure_FnExactRingSegments l0 g0
  refine (laws_FnExactRingSegments.calls k _ _ _ true W hr0 hc0 hp).mono fun e W' ⟨he, bel0⟩ => ?_
  have bel : Below W.heap.size W W' := bel0
  subst he
  exact ⟨_, rfl, _, _, _, [], _, [], hW', trodAll_mk1 (shut_bool Try.underlying4 _), hstay W' bel, rfl, bel.frame _, fun h => by cases h⟩
theorem over : Rows.fnExactRingSegmentsRow.holds Try.pinned (OpenSpec.ofChange Rows.fnExactRingSegmentsSpec) :=
  OpenClaim.holds_of_wide 14 Try.f14 rfl rfl rfl rfl rfl rfl rfl ⟨rfl, rfl, rfl, rfl, rfl⟩ rfl rfl rfl rfl rfl (by kernel_rfl) Try.func14 (by kernel_rfl)
    (of_decide_eq_true (by kernel_rfl)) (by unfold Func.isWrapper; first | (rw [if_pos (by decide +kernel)]; kernel_rfl) | (rw [if_neg (by decide +kernel)]; exact ⟨rfl, rfl⟩))
    (fun os started H enc _ => lifted os started H enc)
end Go.Proofs.Ytchmbcembbbplab.RowFnExactRingSegments
namespace Go.Proofs.Ytchmbcembbbplab
theorem fnExactRingSegments_holds : Rows.FnExactRingSegmentsSaid := RowFnExactRingSegments.over
#print axioms fnExactRingSegments_holds
end Go.Proofs.Ytchmbcembbbplab
