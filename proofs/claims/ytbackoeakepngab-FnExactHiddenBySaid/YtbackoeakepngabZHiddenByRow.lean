/- The law FnExactHiddenBy returns true for every input; no condition. -/
import Derived.Test.YtbackoeakepngabZHiddenByOpen
import Derived.Test.YtbackoeakepngabZHiddenByOpn
import Derived.Test.YtbackoeakepngabZHiddenByMx9
import Derived.Test.YtbackoeakepngabZHiddenByPure
namespace Go.Proofs.Ytbackoeakepngab.RowFnExactHiddenBy
open Go Go.ChangeShapes Go.WideShapes Go.ChangeAt Go.RowKit Go.Proofs.YtbackoeakepngabW.PrintWords Go.Proofs.Ytbackoeakepngab.Open Go.Proofs.Ytbackoeakepngab.MFnExactHiddenBy
set_option linter.unusedVariables false
set_option maxRecDepth 100000 in
theorem lifted (os : Os) (started : os.Started) (H : Type) (enc : TypeId × Value → H) :
    ReturnsInHanded {} Try.checked os 7 .any (Rows.fnExactHiddenBySpec.pre6 enc Try.prog Try.f7 Rows.fnExactHiddenByRow.domain false) (Rows.fnExactHiddenBySpec.post enc Try.prog Try.f7 false true false false) := by
  refine returnsInHanded_of_change_sized (C := Try.checked) own started (by kernel_rfl) Try.func7
    (ChangeSpec.witness6 (enc := enc) (C := Try.checked) false ⟨#[], #[.slice none 0 0, .int .i64 0, .int .i64 0], []⟩ 8 (by kernel_rfl) (by kernel_rfl) (by kernel_rfl) (by kernel_rfl)) ?_
  intro W base args ds gs before hval0 hW hcnd hsz0 _
  have hval : ∀ (j : Nat) t v, Try.f7.params[j]? = some t → args[j]? = some v → Value.okWide Try.prog W .any base t v := hval0
  have hW' := hW
  obtain ⟨p, q, hA0, hV, rfl, hfz, hnd⟩ := hW
  have hA : DataW.TrodAll enc Try.prog W 0 (fun _ => true) true Try.f7.params.toList args.toList ds p := hA0
  rw [Try.params7] at hA hval
  have hstay : ∀ W', Below W.heap.size W W' → DataW.TrodAll enc Try.prog W' 0 (fun b => decide (b < W.heap.size)) true Try.f7.params.toList args.toList ds p := fun W' bel => args_stay kids full bel (fun b hb => decide_eq_true hb) (by rw [Try.params7]; exact of_decide_eq_true (by kernel_rfl)) hA0
  obtain ⟨v0, vs0, d0, ds0, p0, q0, hargs, rfl, rfl, h0, r0⟩ := trodAll_cons hA
  obtain ⟨v1, vs1, d1, ds1, p1, q1, rfl, rfl, rfl, h1, r1⟩ := trodAll_cons r0
  obtain ⟨v2, vs2, d2, ds2, p2, q2, rfl, rfl, rfl, h2, r2⟩ := trodAll_cons r1
  obtain ⟨rfl, rfl, rfl⟩ := trodAll_nil r2
  obtain rfl : args = #[v0, v1, v2] := by cases args; simp_all
  obtain ⟨rfl, rfl⟩ := trodVars_none hV
  obtain ⟨A0, l0, c0, rfl, hc0, hr0, g0⟩ := arg_slice Try.underlying58 (opens_slice Try.underlying58 (by kernel_rfl) opens112) (hval 0 58 v0 rfl rfl) h0
  obtain ⟨a1, rfl, g1⟩ := arg_int Try.underlying3 (hval 1 3 v1 rfl rfl) h1
  obtain ⟨a2, rfl, g2⟩ := arg_int Try.underlying3 (hval 2 3 v2 rfl rfl) h2
  clear hA0 hval0 hsz0
  obtain ⟨k, hp⟩ := pure_FnExactHiddenBy l0 a1 a2 g0 g1 g2
  refine (laws_FnExactHiddenBy.calls k _ _ _ _ _ true W hr0 hc0 hp).mono fun e W' ⟨he, bel0⟩ => ?_
  have bel : Below W.heap.size W W' := bel0
  subst he
  exact ⟨_, rfl, _, _, _, [], _, [], hW', trodAll_mk1 (shut_bool Try.underlying4 _), hstay W' bel, rfl, bel.frame _, fun h => by cases h⟩
theorem over : Rows.fnExactHiddenByRow.holds Try.pinned (OpenSpec.ofChange Rows.fnExactHiddenBySpec) :=
  OpenClaim.holds_of_wide 7 Try.f7 rfl rfl rfl rfl rfl rfl rfl ⟨rfl, rfl, rfl, rfl, rfl⟩ rfl rfl rfl rfl rfl (by kernel_rfl) Try.func7 (by kernel_rfl)
    (of_decide_eq_true (by kernel_rfl)) (by unfold Func.isWrapper; first | (rw [if_pos (by decide +kernel)]; kernel_rfl) | (rw [if_neg (by decide +kernel)]; exact ⟨rfl, rfl⟩))
    (fun os started H enc _ => lifted os started H enc)
end Go.Proofs.Ytbackoeakepngab.RowFnExactHiddenBy
namespace Go.Proofs.Ytbackoeakepngab
theorem fnExactHiddenBy_holds : Rows.FnExactHiddenBySaid := RowFnExactHiddenBy.over
#print axioms fnExactHiddenBy_holds
end Go.Proofs.Ytbackoeakepngab
