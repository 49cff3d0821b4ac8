/- Openers of the struct types that the law FnExactCountLeftOut takes; no condition. -/
import Derived.Test.YtbackoeakepngaaZCountLeftOutOpen
import Derived.Test.YtbackoeakepngaaZCountLeftOutMx0
namespace Go.Proofs.Ytbackoeakepngaa.MFnExactCountLeftOut
open Go Go.RowKit Go.Proofs.YtbackoeakepngaaW.PrintWords Go.Proofs.Ytbackoeakepngaa.Open
def G87 (x : S87) : Prop := I64 x.f0 ∧ I64 x.f1
theorem opens87 : Opens Try.prog 87 k87 G87 :=
  opens_weaken (opens_iso (fun x : S87 => (x.f0, x.f1)) (fun p => (⟨p.1, p.2⟩ : S87)) (fun _ => rfl) (opens_struct Try.underlying87 (by kernel_rfl) (fields_cons rfl (by kernel_rfl) (opens_int Try.underlying3) (fields_one rfl (by kernel_rfl) (opens_int Try.underlying3))))) (fun x h => h)
end Go.Proofs.Ytbackoeakepngaa.MFnExactCountLeftOut
