/- Openers of the struct types that the law FnExactIsPartOf takes; no condition. -/
import Derived.Test.YtdiamhgdoglnaaaOpen
import Derived.Test.YtdiamhgdoglnaaaPFnExactIsPartOfx0
namespace Go.Proofs.Ytdiamhgdoglnaaa.PFnExactIsPartOf
open Go Go.RowKit Go.Proofs.YtdiamhgdoglnaaaW.PrintWords Go.Proofs.Ytdiamhgdoglnaaa.Open

def G23 (x : S23) : Prop := I64 x.f0 ∧ I64 x.f1
theorem opens23 : Opens Try.prog 23 k23 G23 :=
  opens_weaken (opens_iso (fun x : S23 => (x.f0, x.f1)) (fun p => (⟨p.1, p.2⟩ : S23)) (fun _ => rfl) (opens_struct Try.underlying23 (by kernel_rfl) (fields_cons rfl (by kernel_rfl) (opens_int Try.underlying3) (fields_one rfl (by kernel_rfl) (opens_int Try.underlying3))))) (fun x h => h)

end Go.Proofs.Ytdiamhgdoglnaaa.PFnExactIsPartOf
