/- Openers of the struct types that the law FnExactDropPoint takes; no condition. -/
import Derived.Test.YtchmbcembbbplaaZDropPointOpen
import Derived.Test.YtchmbcembbbplaaZDropPointMx0
namespace Go.Proofs.Ytchmbcembbbplaa.MFnExactDropPoint
open Go Go.RowKit Go.Proofs.YtchmbcembbbplaaW.PrintWords Go.Proofs.Ytchmbcembbbplaa.Open
def G40 (x : S40) : Prop := I64 x.f0 ∧ I64 x.f1
theorem opens40 : Opens Try.prog 40 k40 G40 :=
  opens_weaken (opens_iso (fun x : S40 => (x.f0, x.f1)) (fun p => (⟨p.1, p.2⟩ : S40)) (fun _ => rfl) (opens_struct Try.underlying40 (by kernel_rfl) (fields_cons rfl (by kernel_rfl) (opens_int Try.underlying3) (fields_one rfl (by kernel_rfl) (opens_int Try.underlying3))))) (fun x h => h)
end Go.Proofs.Ytchmbcembbbplaa.MFnExactDropPoint
