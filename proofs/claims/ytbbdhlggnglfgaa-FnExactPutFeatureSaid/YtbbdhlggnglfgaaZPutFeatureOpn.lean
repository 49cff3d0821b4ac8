/- Openers of the struct types that the law FnExactPutFeature takes; no condition. -/
import Derived.Test.YtbbdhlggnglfgaaZPutFeatureOpen
import Derived.Test.YtbbdhlggnglfgaaZPutFeatureMx0
namespace Go.Proofs.Ytbbdhlggnglfgaa.MFnExactPutFeature
open Go Go.RowKit Go.Proofs.YtbbdhlggnglfgaaW.PrintWords Go.Proofs.Ytbbdhlggnglfgaa.Open
def G84 (x : S84) : Prop:=I64 x.f0 ∧ I64 x.f1
theorem opens84 : Opens Try.prog 84 k84 G84 :=
  opens_weaken (opens_iso (fun x : S84 => (x.f0, x.f1)) (fun p => (⟨p.1, p.2⟩ : S84)) (fun _ => rfl) (opens_struct Try.underlying84 (by kernel_rfl) (fields_cons rfl (by kernel_rfl) (opens_int Try.underlying3) (fields_one rfl (by kernel_rfl) (opens_int Try.underlying3))))) (fun x h => h)
def G25 (x : S25) : Prop:=I64 x.f0 ∧ I64 x.f1 ∧ I64 x.f2 ∧ ByteArray.size x.f3 ≤ maxLen ∧ (List.length x.f4 ≤ maxLen ∧ ∀ y ∈ x.f4,G84 y)
theorem opens25 : Opens Try.prog 25 k25 G25 :=
  opens_weaken (opens_iso (fun x : S25 => (x.f0, x.f1, x.f2, x.f3, x.f4)) (fun p => (⟨p.1, p.2.1, p.2.2.1, p.2.2.2.1, p.2.2.2.2⟩ : S25)) (fun _ => rfl) (opens_struct Try.underlying25 (by kernel_rfl) (fields_cons rfl (by kernel_rfl) (opens_int Try.underlying3) (fields_cons rfl (by kernel_rfl) (opens_int Try.underlying3) (fields_cons rfl (by kernel_rfl) (opens_int Try.underlying3) (fields_cons rfl (by kernel_rfl) (opens_string Try.underlying9) (fields_one rfl (by kernel_rfl) (opens_slice Try.underlying23 (by kernel_rfl) opens84)))))))) (fun x h => h)
end Go.Proofs.Ytbbdhlggnglfgaa.MFnExactPutFeature
