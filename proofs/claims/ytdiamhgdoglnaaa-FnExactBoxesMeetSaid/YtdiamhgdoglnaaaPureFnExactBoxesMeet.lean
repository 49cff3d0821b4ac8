/- The plain law behind FnExactBoxesMeet: what the printed functions compute answers true; no condition beyond the arguments' ranges. -/
import Derived.Test.YtdiamhgdoglnaaaGen
import Derived.Test.YtdiamhgdoglnaaaPFnExactBoxesMeetx2
import Derived.Test.YtdiamhgdoglnaaaOpnFnExactBoxesMeet
namespace Go.Proofs.Ytdiamhgdoglnaaa.PFnExactBoxesMeet
open Go Go.RowKit Go.Proofs.YtdiamhgdoglnaaaW.PrintWords Go.Proofs.YtdiamhgdoglnaaaW.PrintLast Go.Proofs.YtdiamhgdoglnaaaW.PrintMore Go.Proofs.Ytdiamhgdoglnaaa.Open

theorem implInRange (a b c : Int) : impl_InRange.f a b c = some (decide (b ≤ a ∧ a ≤ c)) := by
  unfold impl_InRange.f; by_cases h : b ≤ a <;> simp [h]
theorem specIn (a b c : Int) : spec_l1In.f a b c = some (decide (b ≤ a ∧ a ≤ c)) := by
  unfold spec_l1In.f; by_cases h : b ≤ a <;> simp [h]

def Pt (x y : Int) : Prop := 0 ≤ x ∧ x ≤ 200 ∧ 0 ≤ y ∧ y ≤ 200
instance (x y : Int) : Decidable (Pt x y) := by unfold Pt; infer_instance
theorem implIsPoint (x y : Int) : impl_IsPoint.f x y = some (decide (Pt x y)) := by
  unfold impl_IsPoint.f
  rw [implInRange, implInRange]
  simp only [Option.bind_some]
  by_cases h : 0 ≤ x ∧ x ≤ 200
  · rw [if_pos (by simpa using h)]; simp [Pt, h]
  · rw [if_neg (by simpa using h)]; simp only [Option.some.injEq, Bool.false_eq, decide_eq_false_iff_not]; unfold Pt; omega
theorem specIsPoint (x y : Int) : spec_IsPoint.f x y = some (decide (Pt x y)) := by
  unfold spec_IsPoint.f
  rw [specIn, specIn]
  simp only [Option.bind_some]
  by_cases h : 0 ≤ x ∧ x ≤ 200
  · rw [if_pos (by simpa using h)]; simp [Pt, h]
  · rw [if_neg (by simpa using h)]; simp only [Option.some.injEq, Bool.false_eq, decide_eq_false_iff_not]; unfold Pt; omega

def Bx (a b c d : Int) : Prop := Pt a b ∧ Pt c d ∧ a ≤ c ∧ b ≤ d
instance (a b c d : Int) : Decidable (Bx a b c d) := by unfold Bx; infer_instance
theorem implIsBox (a b c d : Int) : impl_IsBox.f a b c d = some (decide (Bx a b c d)) := by
  unfold impl_IsBox.f
  rw [implIsPoint, implIsPoint]
  simp only [Option.bind_some, decide_eq_true_eq]
  by_cases h1 : Pt a b <;> by_cases h2 : Pt c d <;> by_cases h3 : a ≤ c <;> simp [Bx, h1, h2, h3]
theorem specIsBox (a b c d : Int) : spec_IsBox.f a b c d = some (decide (Bx a b c d)) := by
  unfold spec_IsBox.f
  rw [specIsPoint, specIsPoint]
  simp only [Option.bind_some, decide_eq_true_eq]
  by_cases h1 : Pt a b <;> by_cases h2 : Pt c d <;> by_cases h3 : a ≤ c <;> simp [Bx, h1, h2, h3]

theorem pure_FnExactBoxesMeet : ∀ (a0_0 : Int) (a0_1 : Int) (a0_2 : Int) (a0_3 : Int) (a1_0 : Int) (a1_1 : Int) (a1_2 : Int) (a1_3 : Int), (((I64 a0_0) ∧ (I64 a0_1)) ∧ ((I64 a0_2) ∧ (I64 a0_3))) → (((I64 a1_0) ∧ (I64 a1_1)) ∧ ((I64 a1_2) ∧ (I64 a1_3))) → laws_FnExactBoxesMeet.f a0_0 a0_1 a0_2 a0_3 a1_0 a1_1 a1_2 a1_3 = some true := by
  intro a b c d e f g h _ _
  simp only [laws_FnExactBoxesMeet.f, laws_toBox.f, laws_toPoint.f, spec_BoxesMeet.f, impl_BoxesMeet.f, impl_common.f, specIsBox, implIsBox, Option.bind_some, decide_eq_true_eq, Gen.mx_eq, Gen.mn_eq]
  by_cases h1 : Bx a b c d
  · rw [if_pos h1, if_pos h1]
    by_cases h2 : Bx e f g h
    · rw [if_pos h2, if_pos h2]
      unfold Bx Pt at h1 h2
      rw [Gen.w64 (by omega) (by omega), Gen.w64 (by omega) (by omega)]
      have e1 : (min c g - max a e ≥ 0) ↔ (a ≤ g ∧ e ≤ c) := by omega
      have e2 : (min d h - max b f ≥ 0) ↔ (b ≤ h ∧ f ≤ d) := by omega
      simp only [e1, e2]
      by_cases k1 : a ≤ g <;> by_cases k2 : e ≤ c <;> by_cases k3 : b ≤ h <;> by_cases k4 : f ≤ d <;> simp [k1, k2, k3, k4]
    · rw [if_neg h2, if_neg h2]; simp
  · rw [if_neg h1, if_neg h1]; simp

end Go.Proofs.Ytdiamhgdoglnaaa.PFnExactBoxesMeet
