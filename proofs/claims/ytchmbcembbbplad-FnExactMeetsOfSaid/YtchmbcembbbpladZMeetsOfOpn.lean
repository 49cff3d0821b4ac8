/- Openers of the struct types that the law FnExactMeetsOf takes; no condition. -/
import Derived.Test.YtchmbcembbbpladZMeetsOfOpen
import Derived.Test.YtchmbcembbbpladZMeetsOfMx0
namespace Go.Proofs.Ytchmbcembbbplad.MFnExactMeetsOf
open Go Go.RowKit Go.Proofs.YtchmbcembbbpladW.PrintWords Go.Proofs.Ytchmbcembbbplad.Open
def G88 (x : S88) : Prop:=I64 x.f0 ∧ I64 x.f1
theorem opens88 : Opens Try.prog 88 k88 G88 :=
  opens_weaken (opens_iso (fun x : S88 => (x.f0, x.f1)) (fun p => (⟨p.1, p.2⟩ : S88)) (fun _ => rfl) (opens_struct Try.underlying88 (by kernel_rfl) (fields_cons rfl (by kernel_rfl) (opens_int Try.underlying3) (fields_one rfl (by kernel_rfl) (opens_int Try.underlying3))))) (fun x h => h)
def G61 (x : S61) : Prop:=I64 x.f0 ∧ I64 x.f1 ∧ I64 x.f2 ∧ ByteArray.size x.f3 ≤ maxLen ∧ (List.length x.f4 ≤ maxLen ∧ ∀ y ∈ x.f4,G88 y)
theorem opens61 : Opens Try.prog 61 k61 G61 :=
  opens_weaken (opens_iso (fun x : S61 => (x.f0, x.f1, x.f2, x.f3, x.f4)) (fun p => (⟨p.1, p.2.1, p.2.2.1, p.2.2.2.1, p.2.2.2.2⟩ : S61)) (fun _ => rfl) (opens_struct Try.underlying61 (by kernel_rfl) (fields_cons rfl (by kernel_rfl) (opens_int Try.underlying3) (fields_cons rfl (by kernel_rfl) (opens_int Try.underlying3) (fields_cons rfl (by kernel_rfl) (opens_int Try.underlying3) (fields_cons rfl (by kernel_rfl) (opens_string Try.underlying9) (fields_one rfl (by kernel_rfl) (opens_slice Try.underlying59 (by kernel_rfl) opens88)))))))) (fun x h => h)
end Go.Proofs.Ytchmbcembbbplad.MFnExactMeetsOf
