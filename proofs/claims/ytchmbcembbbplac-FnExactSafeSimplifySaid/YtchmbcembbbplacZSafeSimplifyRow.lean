/- The law FnExactSafeSimplify returns true for every input; no condition. -/
import Derived.Test.YtchmbcembbbplacZSafeSimplifyOpen
import Derived.Test.YtchmbcembbbplacZSafeSimplifyOpn
import Derived.Test.YtchmbcembbbplacZSafeSimplifyMx13
import Derived.Test.YtchmbcembbbplacZSafeSimplifyPure
namespace Go.Proofs.Ytchmbcembbbplac.RowFnExactSafeSimplify
open Go Go.ChangeShapes Go.WideShapes Go.ChangeAt Go.RowKit Go.Proofs.YtchmbcembbbplacW.PrintWords Go.Proofs.Ytchmbcembbbplac.Open Go.Proofs.Ytchmbcembbbplac.MFnExactSafeSimplify
set_option linter.unusedVariables false
set_option maxRecDepth 100000 in
theorem lifted (os : Os) (started : os.Started) (H : Type) (enc : TypeId × Value → H) :
    ReturnsInHanded {} Try.checked os 13 .any (Rows.fnExactSafeSimplifySpec.pre6 enc Try.prog Try.f13 Rows.fnExactSafeSimplifyRow.domain false) (Rows.fnExactSafeSimplifySpec.post enc Try.prog Try.f13 false true false false) := by
  refine returnsInHanded_of_change_sized (C := Try.checked) own started (by kernel_rfl) Try.func13
    (ChangeSpec.witness6 (enc := enc) (C := Try.checked) false ⟨#[], #[.slice none 0 0, .slice none 0 0, .int .i64 0], []⟩ 8 (by kernel_rfl) (by kernel_rfl) (by kernel_rfl) (by kernel_rfl)) ?_
  intro W base args ds gs before hval0 hW hcnd hsz0 _
  have hval : ∀ (j : Nat) t v, Try.f13.params[j]? = some t → args[j]? = some v → Value.okWide Try.prog W .any base t v := hval0
  have hW' := hW
  obtain ⟨p, q, hA0, hV, rfl, hfz, hnd⟩ := hW
  have hA : DataW.TrodAll enc Try.prog W 0 (fun _ => true) true Try.f13.params.toList args.toList ds p := hA0
  rw [Try.params13] at hA hval
  have hstay : ∀ W', Below W.heap.size W W' → DataW.TrodAll enc Try.prog W' 0 (fun b => decide (b < W.heap.size)) true Try.f13.params.toList args.toList ds p := fun W' bel => args_stay kids full bel (fun b hb => decide_eq_true hb) (by rw [Try.params13]; exact of_decide_eq_true (by kernel_rfl)) hA0
  obtain ⟨v0, vs0, d0, ds0, p0, q0, hargs, rfl, rfl, h0, r0⟩ := trodAll_cons hA
  obtain ⟨v1, vs1, d1, ds1, p1, q1, rfl, rfl, rfl, h1, r1⟩ := trodAll_cons r0
  obtain ⟨v2, vs2, d2, ds2, p2, q2, rfl, rfl, rfl, h2, r2⟩ := trodAll_cons r1
  obtain ⟨rfl, rfl, rfl⟩ := trodAll_nil r2
  obtain rfl : args = #[v0, v1, v2] := by cases args; simp_all
  obtain ⟨rfl, rfl⟩ := trodVars_none hV
  obtain ⟨A0, l0, c0, rfl, hc0, hr0, g0⟩ := arg_slice Try.underlying22 (opens_slice Try.underlying22 (by kernel_rfl) opens98) (hval 0 22 v0 rfl rfl) h0
  obtain ⟨A1, l1, c1, rfl, hc1, hr1, g1⟩ := arg_slice Try.underlying23 (opens_slice Try.underlying23 (by kernel_rfl) (opens_slice Try.underlying22 (by kernel_rfl) opens98)) (hval 1 23 v1 rfl rfl) h1
  obtain ⟨a2, rfl, g2⟩ := arg_int Try.underlying3 (hval 2 3 v2 rfl rfl) h2
  clear hA0 hval0 hsz0
  obtain ⟨k, hp⟩ := pure_FnExactSafeSimplify l0 l1 a2 g0 g1 g2
  refine (laws_FnExactSafeSimplify.calls k _ _ _ _ _ _ _ true W hr0 hc0 hr1 hc1 hp).mono fun e W' ⟨he, bel0⟩ => ?_
  have bel : Below W.heap.size W W' := bel0
  subst he
  exact ⟨_, rfl, _, _, _, [], _, [], hW', trodAll_mk1 (shut_bool Try.underlying4 _), hstay W' bel, rfl, bel.frame _, fun h => by cases h⟩
theorem over : Rows.fnExactSafeSimplifyRow.holds Try.pinned (OpenSpec.ofChange Rows.fnExactSafeSimplifySpec) :=
  OpenClaim.holds_of_wide 13 Try.f13 rfl rfl rfl rfl rfl rfl rfl ⟨rfl, rfl, rfl, rfl, rfl⟩ rfl rfl rfl rfl rfl (by kernel_rfl) Try.func13 (by kernel_rfl)
    (of_decide_eq_true (by kernel_rfl)) (by unfold Func.isWrapper; first | (rw [if_pos (by decide +kernel)]; kernel_rfl) | (rw [if_neg (by decide +kernel)]; exact ⟨rfl, rfl⟩))
    (fun os started H enc _ => lifted os started H enc)
end Go.Proofs.Ytchmbcembbbplac.RowFnExactSafeSimplify
namespace Go.Proofs.Ytchmbcembbbplac
theorem fnExactSafeSimplify_holds : Rows.FnExactSafeSimplifySaid := RowFnExactSafeSimplify.over
#print axioms fnExactSafeSimplify_holds
end Go.Proofs.Ytchmbcembbbplac
