/- The plain law behind FnExactIsCover: what the printed functions compute answers true; no condition beyond the arguments' ranges. -/
import Derived.Test.YtdiamhgdoglnaaaGen
import Derived.Test.YtdiamhgdoglnaaaPFnExactIsCoverx1
import Derived.Test.YtdiamhgdoglnaaaOpnFnExactIsCover
namespace Go.Proofs.Ytdiamhgdoglnaaa.PFnExactIsCover
open Go Go.RowKit Go.Proofs.YtdiamhgdoglnaaaW.PrintWords Go.Proofs.YtdiamhgdoglnaaaW.PrintLast Go.Proofs.YtdiamhgdoglnaaaW.PrintMore Go.Proofs.Ytdiamhgdoglnaaa.Open

theorem implInRange (a b c : Int) : impl_InRange.f a b c = some (decide (b ≤ a ∧ a ≤ c)) := by
  unfold impl_InRange.f; by_cases h : b ≤ a <;> simp [h]
theorem specIn (a b c : Int) : spec_l1In.f a b c = some (decide (b ≤ a ∧ a ≤ c)) := by
  unfold spec_l1In.f; by_cases h : b ≤ a <;> simp [h]

theorem same (a b : Int) (s : ByteArray) (hs : s.size ≤ 1048576) : ∀ k (i : Nat), impl_IsCover.l0 k s.size i a b s = spec_IsCover.l0 k i a b s := by
  intro k
  induction k with
  | zero => intro i; rfl
  | succ k ih =>
    intro i
    simp only [impl_IsCover.l0, spec_IsCover.l0]
    by_cases h : (i : Int) < s.size
    · rw [if_pos h, if_pos h, if_pos (show (0 : Int) ≤ (i : Int) by omega), if_pos (show (0 : Int) ≤ (i : Int) by omega), if_pos h, Gen.w64s (by omega), ih]
    · rw [if_neg h, if_neg h]
theorem ends (a b : Int) (s : ByteArray) (hs : s.size ≤ 1048576) : ∀ d k (i : Nat), i + d = s.size → d < k → ∃ r, spec_IsCover.l0 k i a b s = some r := by
  intro d
  induction d with
  | zero =>
    intro k i hi hk
    obtain ⟨k, rfl⟩ : ∃ m, k = m + 1 := ⟨k - 1, by omega⟩
    simp only [spec_IsCover.l0]
    rw [if_neg (by omega)]
    exact ⟨_, rfl⟩
  | succ d ih =>
    intro k i hi hk
    obtain ⟨k, rfl⟩ : ∃ m, k = m + 1 := ⟨k - 1, by omega⟩
    simp only [spec_IsCover.l0]
    rw [if_pos (by omega), if_pos (by omega)]
    split
    · exact ⟨_, rfl⟩
    · split
      · exact ⟨_, rfl⟩
      · rw [Gen.w64s (by omega)]
        exact ih k (i + 1) (by omega) (by omega)
theorem one (a b : Int) (s : ByteArray) (hs : s.size ≤ 1048576) : ∃ r, spec_IsCover.f (s.size + 2) a b s = some r ∧ impl_IsCover.f (s.size + 2) a b s = some r := by
  obtain ⟨r, hr⟩ := ends a b s hs s.size (s.size + 1) 0 (by omega) (by omega)
  have h2 := same a b s hs (s.size + 1) 0
  rw [hr] at h2
  unfold spec_IsCover.f impl_IsCover.f
  simp only [specIn, implInRange, Option.bind_some, spec_IsCover.j0, impl_IsCover.j0, decide_eq_true_eq, if_true]
  by_cases h1 : 1 ≤ a ∧ a ≤ 6
  · rw [if_pos h1, if_pos h1]
    by_cases h3 : 1 ≤ b ∧ b ≤ 6
    · rw [if_pos h3, if_pos h3]
      split
      · exact ⟨_, rfl, rfl⟩
      · exact ⟨r, hr, h2⟩
    · rw [if_neg h3, if_neg h3]; exact ⟨_, rfl, rfl⟩
  · rw [if_neg h1, if_neg h1]; exact ⟨_, rfl, rfl⟩
theorem pure_FnExactIsCover : ∀ (a0_0 : Int) (a0_1 : Int) (a0_2 : ByteArray), ((I64 a0_0) ∧ (I64 a0_1) ∧ (ByteArray.size a0_2 ≤ maxLen)) → ∃ k, laws_FnExactIsCover.f k a0_0 a0_1 a0_2 = some true := by
  intro a b s ⟨_, _, hs⟩
  unfold maxLen at hs
  by_cases h : wrap64 (1048576 - (s.size : Int)) < 0
  · refine ⟨0, ?_⟩
    unfold laws_FnExactIsCover.f laws_szCover.f
    rw [if_pos h]
    rfl
  · have hl : s.size ≤ 1048576 := by rw [Gen.w64 (by omega) (by omega)] at h; omega
    obtain ⟨r, h1, h2⟩ := one a b s hl
    refine ⟨s.size + 2, ?_⟩
    unfold laws_FnExactIsCover.f laws_szCover.f
    rw [if_neg h]
    simp only [Option.bind_some, laws_toCover.f]
    rw [if_neg h, h1, h2]
    simp

end Go.Proofs.Ytdiamhgdoglnaaa.PFnExactIsCover
