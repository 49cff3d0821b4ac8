/- Openers of the struct types that the law FnExactFindFeature takes; no condition. -/
import Derived.Test.YtchmbcembbbplaaZFindFeatureOpen
import Derived.Test.YtchmbcembbbplaaZFindFeatureMx0
namespace Go.Proofs.Ytchmbcembbbplaa.MFnExactFindFeature
open Go Go.RowKit Go.Proofs.YtchmbcembbbplaaW.PrintWords Go.Proofs.Ytchmbcembbbplaa.Open
def G40 (x : S40) : Prop := I64 x.f0 ∧ I64 x.f1
theorem opens40 : Opens Try.prog 40 k40 G40 :=
  opens_weaken (opens_iso (fun x : S40 => (x.f0, x.f1)) (fun p => (⟨p.1, p.2⟩ : S40)) (fun _ => rfl) (opens_struct Try.underlying40 (by kernel_rfl) (fields_cons rfl (by kernel_rfl) (opens_int Try.underlying3) (fields_one rfl (by kernel_rfl) (opens_int Try.underlying3))))) (fun x h => h)
def G75 (x : S75) : Prop := I64 x.f0 ∧ I64 x.f1 ∧ I64 x.f2 ∧ ByteArray.size x.f3 ≤ maxLen ∧ (List.length x.f4 ≤ maxLen ∧ ∀ y ∈ x.f4, G40 y)
theorem opens75 : Opens Try.prog 75 k75 G75 :=
  opens_weaken (opens_iso (fun x : S75 => (x.f0, x.f1, x.f2, x.f3, x.f4)) (fun p => (⟨p.1, p.2.1, p.2.2.1, p.2.2.2.1, p.2.2.2.2⟩ : S75)) (fun _ => rfl) (opens_struct Try.underlying75 (by kernel_rfl) (fields_cons rfl (by kernel_rfl) (opens_int Try.underlying3) (fields_cons rfl (by kernel_rfl) (opens_int Try.underlying3) (fields_cons rfl (by kernel_rfl) (opens_int Try.underlying3) (fields_cons rfl (by kernel_rfl) (opens_string Try.underlying9) (fields_one rfl (by kernel_rfl) (opens_slice Try.underlying57 (by kernel_rfl) opens40)))))))) (fun x h => h)
end Go.Proofs.Ytchmbcembbbplaa.MFnExactFindFeature
