/- The plain law behind FnExactIsName: what the printed functions compute answers true; no condition beyond the arguments' ranges. -/
import Derived.Test.YtdiamhgdoglnaaaGen
import Derived.Test.YtdiamhgdoglnaaaPFnExactIsNamex1
import Derived.Test.YtdiamhgdoglnaaaOpnFnExactIsName
namespace Go.Proofs.Ytdiamhgdoglnaaa.PFnExactIsName
open Go Go.RowKit Go.Proofs.YtdiamhgdoglnaaaW.PrintWords Go.Proofs.YtdiamhgdoglnaaaW.PrintLast Go.Proofs.YtdiamhgdoglnaaaW.PrintMore Go.Proofs.Ytdiamhgdoglnaaa.Open

theorem same (s : ByteArray) (hs : s.size ≤ 1048576) : ∀ k (i : Nat), impl_IsName.l0 k s s.size i = spec_IsName.l0 k s i := by
  intro k
  induction k with
  | zero => intro i; rfl
  | succ k ih =>
    intro i
    simp only [impl_IsName.l0, spec_IsName.l0, impl_InRange.f, spec_l1In.f]
    by_cases h : (i : Int) < s.size
    · rw [if_pos h, if_pos h, if_pos (show (0 : Int) ≤ (i : Int) by omega), if_pos (show (0 : Int) ≤ (i : Int) by omega), if_pos h, Gen.w64s (by omega), ih]
    · rw [if_neg h, if_neg h]
theorem ends (s : ByteArray) (hs : s.size ≤ 1048576) : ∀ d k (i : Nat), i + d = s.size → d < k → ∃ r, spec_IsName.l0 k s i = some r := by
  intro d
  induction d with
  | zero =>
    intro k i hi hk
    obtain ⟨k, rfl⟩ : ∃ m, k = m + 1 := ⟨k - 1, by omega⟩
    simp only [spec_IsName.l0, spec_l1In.f]
    rw [if_neg (by omega)]
    split <;> exact ⟨_, rfl⟩
  | succ d ih =>
    intro k i hi hk
    obtain ⟨k, rfl⟩ : ∃ m, k = m + 1 := ⟨k - 1, by omega⟩
    simp only [spec_IsName.l0]
    rw [if_pos (by omega), if_pos (by omega)]
    split
    · exact ⟨_, rfl⟩
    · split
      · exact ⟨_, rfl⟩
      · rw [Gen.w64s (by omega)]
        exact ih k (i + 1) (by omega) (by omega)
theorem pure_FnExactIsName : ∀ (a0 : ByteArray), a0.size ≤ maxLen → ∃ k, laws_FnExactIsName.f k a0 = some true := by
  intro s hs
  by_cases h : (s.size : Int) > 1048576
  · exact ⟨0, by unfold laws_FnExactIsName.f; rw [if_pos h]⟩
  · obtain ⟨r, hr⟩ := ends s (by omega) s.size (s.size + 1) 0 (by omega) (by omega)
    refine ⟨s.size + 1, ?_⟩
    unfold laws_FnExactIsName.f impl_IsName.f spec_IsName.f
    rw [if_neg h, show (0 : Int) = ((0 : Nat) : Int) from rfl, same s (by omega), hr]
    simp

end Go.Proofs.Ytdiamhgdoglnaaa.PFnExactIsName
