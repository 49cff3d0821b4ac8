/- Openers of the struct types that the law FnExactNoMore takes; no condition. -/
import Derived.Test.YtdiamhgdoglnaaaOpen
import Derived.Test.YtdiamhgdoglnaaaPFnExactNoMorex0
namespace Go.Proofs.Ytdiamhgdoglnaaa.PFnExactNoMore
open Go Go.RowKit Go.Proofs.YtdiamhgdoglnaaaW.PrintWords Go.Proofs.Ytdiamhgdoglnaaa.Open

def G101 (x : S101) : Prop := I64 x.f0 ∧ I64 x.f1 ∧ I64 x.f2
theorem opens101 : Opens Try.prog 101 k101 G101 :=
  opens_weaken (opens_iso (fun x : S101 => (x.f0, x.f1, x.f2)) (fun p => (⟨p.1, p.2.1, p.2.2⟩ : S101)) (fun _ => rfl) (opens_struct Try.underlying101 (by kernel_rfl) (fields_cons rfl (by kernel_rfl) (opens_int Try.underlying3) (fields_cons rfl (by kernel_rfl) (opens_int Try.underlying3) (fields_one rfl (by kernel_rfl) (opens_int Try.underlying3)))))) (fun x h => h)

end Go.Proofs.Ytdiamhgdoglnaaa.PFnExactNoMore
