/- Openers of the struct types that the law FnExactIsSource takes; no condition. -/
import Derived.Test.YtchmbcembbbplacZIsSourceOpen
import Derived.Test.YtchmbcembbbplacZIsSourceMx0
namespace Go.Proofs.Ytchmbcembbbplac.MFnExactIsSource
open Go Go.RowKit Go.Proofs.YtchmbcembbbplacW.PrintWords Go.Proofs.Ytchmbcembbbplac.Open
def G98 (x : S98) : Prop := I64 x.f0 ∧ I64 x.f1
theorem opens98 : Opens Try.prog 98 k98 G98 :=
  opens_weaken (opens_iso (fun x : S98 => (x.f0, x.f1)) (fun p => (⟨p.1, p.2⟩ : S98)) (fun _ => rfl) (opens_struct Try.underlying98 (by kernel_rfl) (fields_cons rfl (by kernel_rfl) (opens_int Try.underlying3) (fields_one rfl (by kernel_rfl) (opens_int Try.underlying3))))) (fun x h => h)
def G73 (x : S73) : Prop := I64 x.f0 ∧ I64 x.f1 ∧ I64 x.f2 ∧ ByteArray.size x.f3 ≤ maxLen ∧ (List.length x.f4 ≤ maxLen ∧ ∀ y ∈ x.f4, G98 y)
theorem opens73 : Opens Try.prog 73 k73 G73 :=
  opens_weaken (opens_iso (fun x : S73 => (x.f0, x.f1, x.f2, x.f3, x.f4)) (fun p => (⟨p.1, p.2.1, p.2.2.1, p.2.2.2.1, p.2.2.2.2⟩ : S73)) (fun _ => rfl) (opens_struct Try.underlying73 (by kernel_rfl) (fields_cons rfl (by kernel_rfl) (opens_int Try.underlying3) (fields_cons rfl (by kernel_rfl) (opens_int Try.underlying3) (fields_cons rfl (by kernel_rfl) (opens_int Try.underlying3) (fields_cons rfl (by kernel_rfl) (opens_string Try.underlying9) (fields_one rfl (by kernel_rfl) (opens_slice Try.underlying22 (by kernel_rfl) opens98)))))))) (fun x h => h)
end Go.Proofs.Ytchmbcembbbplac.MFnExactIsSource
