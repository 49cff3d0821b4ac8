/- The plain law behind FnExactIsAbove: what the printed functions compute answers true; no condition beyond the arguments' ranges. -/
import Derived.Test.YtdiamhgdoglnaaaPFnExactIsAbovex1
import Derived.Test.YtdiamhgdoglnaaaOpnFnExactIsAbove
namespace Go.Proofs.Ytdiamhgdoglnaaa.PFnExactIsAbove
open Go Go.RowKit Go.Proofs.YtdiamhgdoglnaaaW.PrintWords Go.Proofs.YtdiamhgdoglnaaaW.PrintLast Go.Proofs.YtdiamhgdoglnaaaW.PrintMore Go.Proofs.Ytdiamhgdoglnaaa.Open

theorem pure_FnExactIsAbove : ∀ (a0_0 : Int) (a0_1 : Int) (a0_2 : Int) (a0_3 : Int) (a1_0 : Int) (a1_1 : Int) (a1_2 : Int) (a1_3 : Int), ((I64 a0_0) ∧ ((I64 a0_1) ∧ (I64 a0_2)) ∧ (I64 a0_3)) → ((I64 a1_0) ∧ ((I64 a1_1) ∧ (I64 a1_2)) ∧ (I64 a1_3)) → laws_FnExactIsAbove.f a0_0 a0_1 a0_2 a0_3 a1_0 a1_1 a1_2 a1_3 = some true := by
  intro _ _ _ _ _ _ _ _ _ _
  simp only [laws_FnExactIsAbove.f, laws_toPlace.f, laws_toPoint.f, spec_IsAbove.f, impl_IsAbove.f, Option.bind_some]
  split <;> (try split) <;> simp

end Go.Proofs.Ytdiamhgdoglnaaa.PFnExactIsAbove
