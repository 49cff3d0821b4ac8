/- Openers of the struct types that the law FnExactRingSegments takes; no condition. -/
import Derived.Test.YtchmbcembbbplabZRingSegmentsOpen
import Derived.Test.YtchmbcembbbplabZRingSegmentsMx0
namespace Go.Proofs.Ytchmbcembbbplab.MFnExactRingSegments
open Go Go.RowKit Go.Proofs.YtchmbcembbbplabW.PrintWords Go.Proofs.Ytchmbcembbbplab.Open
def G77 (x : S77) : Prop := I64 x.f0 ∧ I64 x.f1
theorem opens77 : Opens Try.prog 77 k77 G77 :=
  opens_weaken (opens_iso (fun x : S77 => (x.f0, x.f1)) (fun p => (⟨p.1, p.2⟩ : S77)) (fun _ => rfl) (opens_struct Try.underlying77 (by kernel_rfl) (fields_cons rfl (by kernel_rfl) (opens_int Try.underlying3) (fields_one rfl (by kernel_rfl) (opens_int Try.underlying3))))) (fun x h => h)
end Go.Proofs.Ytchmbcembbbplab.MFnExactRingSegments
