/- Openers of the struct types that the law FnExactSafeSimplify takes; no condition. -/
import Derived.Test.YtchmbcembbbplacZSafeSimplifyOpen
import Derived.Test.YtchmbcembbbplacZSafeSimplifyMx0
namespace Go.Proofs.Ytchmbcembbbplac.MFnExactSafeSimplify
open Go Go.RowKit Go.Proofs.YtchmbcembbbplacW.PrintWords Go.Proofs.Ytchmbcembbbplac.Open
def G98 (x : S98) : Prop := I64 x.f0 ∧ I64 x.f1
theorem opens98 : Opens Try.prog 98 k98 G98 :=
  opens_weaken (opens_iso (fun x : S98 => (x.f0, x.f1)) (fun p => (⟨p.1, p.2⟩ : S98)) (fun _ => rfl) (opens_struct Try.underlying98 (by kernel_rfl) (fields_cons rfl (by kernel_rfl) (opens_int Try.underlying3) (fields_one rfl (by kernel_rfl) (opens_int Try.underlying3))))) (fun x h => h)
end Go.Proofs.Ytchmbcembbbplac.MFnExactSafeSimplify
