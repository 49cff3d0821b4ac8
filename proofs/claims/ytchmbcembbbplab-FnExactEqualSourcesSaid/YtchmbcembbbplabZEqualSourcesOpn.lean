/- Openers of the struct types that the law FnExactEqualSources takes; no condition. -/
import Derived.Test.YtchmbcembbbplabZEqualSourcesOpen
import Derived.Test.YtchmbcembbbplabZEqualSourcesMx0
namespace Go.Proofs.Ytchmbcembbbplab.MFnExactEqualSources
open Go Go.RowKit Go.Proofs.YtchmbcembbbplabW.PrintWords Go.Proofs.Ytchmbcembbbplab.Open
def G77 (x : S77) : Prop := I64 x.f0 ∧ I64 x.f1
theorem opens77 : Opens Try.prog 77 k77 G77 :=
  opens_weaken (opens_iso (fun x : S77 => (x.f0, x.f1)) (fun p => (⟨p.1, p.2⟩ : S77)) (fun _ => rfl) (opens_struct Try.underlying77 (by kernel_rfl) (fields_cons rfl (by kernel_rfl) (opens_int Try.underlying3) (fields_one rfl (by kernel_rfl) (opens_int Try.underlying3))))) (fun x h => h)
def G92 (x : S92) : Prop := I64 x.f0 ∧ I64 x.f1 ∧ I64 x.f2 ∧ ByteArray.size x.f3 ≤ maxLen ∧ (List.length x.f4 ≤ maxLen ∧ ∀ y ∈ x.f4, G77 y)
theorem opens92 : Opens Try.prog 92 k92 G92 :=
  opens_weaken (opens_iso (fun x : S92 => (x.f0, x.f1, x.f2, x.f3, x.f4)) (fun p => (⟨p.1, p.2.1, p.2.2.1, p.2.2.2.1, p.2.2.2.2⟩ : S92)) (fun _ => rfl) (opens_struct Try.underlying92 (by kernel_rfl) (fields_cons rfl (by kernel_rfl) (opens_int Try.underlying3) (fields_cons rfl (by kernel_rfl) (opens_int Try.underlying3) (fields_cons rfl (by kernel_rfl) (opens_int Try.underlying3) (fields_cons rfl (by kernel_rfl) (opens_string Try.underlying9) (fields_one rfl (by kernel_rfl) (opens_slice Try.underlying47 (by kernel_rfl) opens77)))))))) (fun x h => h)
end Go.Proofs.Ytchmbcembbbplab.MFnExactEqualSources
