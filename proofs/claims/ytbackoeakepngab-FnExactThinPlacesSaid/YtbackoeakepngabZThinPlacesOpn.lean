/- Openers of the struct types that the law FnExactThinPlaces takes; no condition. -/
import Derived.Test.YtbackoeakepngabZThinPlacesOpen
import Derived.Test.YtbackoeakepngabZThinPlacesMx0
namespace Go.Proofs.Ytbackoeakepngab.MFnExactThinPlaces
open Go Go.RowKit Go.Proofs.YtbackoeakepngabW.PrintWords Go.Proofs.Ytbackoeakepngab.Open
def G110 (x : S110) : Prop := I64 x.f0 ∧ I64 x.f1
theorem opens110 : Opens Try.prog 110 k110 G110 :=
  opens_weaken (opens_iso (fun x : S110 => (x.f0, x.f1)) (fun p => (⟨p.1, p.2⟩ : S110)) (fun _ => rfl) (opens_struct Try.underlying110 (by kernel_rfl) (fields_cons rfl (by kernel_rfl) (opens_int Try.underlying3) (fields_one rfl (by kernel_rfl) (opens_int Try.underlying3))))) (fun x h => h)
def G112 (x : S112) : Prop := I64 x.f0 ∧ G110 x.f1 ∧ I64 x.f2
theorem opens112 : Opens Try.prog 112 k112 G112 :=
  opens_weaken (opens_iso (fun x : S112 => (x.f0, x.f1, x.f2)) (fun p => (⟨p.1, p.2.1, p.2.2⟩ : S112)) (fun _ => rfl) (opens_struct Try.underlying112 (by kernel_rfl) (fields_cons rfl (by kernel_rfl) (opens_int Try.underlying3) (fields_cons rfl (by kernel_rfl) opens110 (fields_one rfl (by kernel_rfl) (opens_int Try.underlying3)))))) (fun x h => h)
end Go.Proofs.Ytbackoeakepngab.MFnExactThinPlaces
