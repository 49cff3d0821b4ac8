/- The plain law behind FnExactIsPartOf: what the printed functions compute answers true; no condition beyond the arguments' ranges. -/
import Derived.Test.YtdiamhgdoglnaaaGen
import Derived.Test.YtdiamhgdoglnaaaPFnExactIsPartOfx3
import Derived.Test.YtdiamhgdoglnaaaOpnFnExactIsPartOf
namespace Go.Proofs.Ytdiamhgdoglnaaa.PFnExactIsPartOf
open Go Go.RowKit Go.Proofs.YtdiamhgdoglnaaaW.PrintWords Go.Proofs.YtdiamhgdoglnaaaW.PrintLast Go.Proofs.YtdiamhgdoglnaaaW.PrintMore Go.Proofs.Ytdiamhgdoglnaaa.Open

/-! points: laws' to impl's -/
def cP (p : S23) : S27 := ⟨p.f0, p.f1⟩
theorem toPointS_some (l : List S23) (hl : l.length ≤ 1048576) {k : Nat} (hk : l.length < k) : laws_toPointS.f k l = some (l.map cP) := by
  unfold laws_toPointS.f
  rw [if_pos (by omega), if_pos (by omega)]
  have := Gen.fill_all l z23 cP 0 (fun k out i => laws_toPointS.l0 k l out i) (fun k out i _ hi ho => by
      simp only [laws_toPointS.l0]
      rw [if_pos (by omega), if_pos (by omega)]
      simp only [laws_toPoint.f, Option.bind_some]
      rw [if_pos (by omega), Gen.w64s (by omega)]
      rfl) (fun k out ho => by
      simp only [laws_toPointS.l0]
      rw [if_neg (by omega)]) (k := k) (out := List.replicate l.length z27) (by simp) (by omega)
  simpa using this
theorem szPointS_some (l : List S23) (a : Int) (hl : l.length ≤ maxLen) (ha : 0 ≤ a) (ha' : a ≤ 1048576) : laws_szPointS.f l a = some (if a < l.length then -1 else a - l.length) := by
  unfold laws_szPointS.f
  unfold maxLen at hl
  rw [Gen.w64 (by omega) (by omega)]
  split <;> split <;> first | rfl | omega

theorem eqPointS_self (a : List S27) (hl : a.length ≤ 1048576) {k : Nat} (hk : a.length < k) : laws_eqPointS.f k a a = some true := by
  unfold laws_eqPointS.f
  rw [if_pos rfl]
  refine Gen.up_all a.length 0 true (fun k i => laws_eqPointS.l0 k a a i) (fun k i _ hi => ?_) (fun k _ => ?_) (k := k) (by omega)
  · simp only [laws_eqPointS.l0, laws_eqPoint.f]
    rw [if_pos (by omega), if_pos (by omega), if_pos (by omega)]
    simp only [if_true, Option.bind_some]
    rw [Gen.w64s (by omega)]
  · simp only [laws_eqPointS.l0]
    rw [if_neg (by omega)]

theorem same (a b : List S27) (ha : a.length ≤ 1048576) (hb : b.length ≤ 1048576) : ∀ k (i j : Nat), i ≤ a.length → impl_IsPartOf.l0 k a i b b.length j = spec_IsPartOf.l0 k a b i j := by
  intro k
  induction k with
  | zero => intro i j _; rfl
  | succ k ih =>
    intro i j hi
    simp only [impl_IsPartOf.l0, spec_IsPartOf.l0]
    by_cases h : (j : Int) < b.length
    · rw [if_pos h, if_pos h, if_pos (show (0 : Int) ≤ (j : Int) by omega), if_pos h]
      by_cases h2 : (i : Int) < a.length
      · rw [if_pos h2, if_pos h2, if_pos (show (0 : Int) ≤ (i : Int) by omega), if_pos (show (0 : Int) ≤ (i : Int) by omega), if_pos (show (0 : Int) ≤ (j : Int) by omega), Gen.w64s (by omega), Gen.w64s (by omega), ih _ _ (by omega), ih _ _ (by omega)]
      · rw [if_neg h2, if_neg h2, Gen.w64s (by omega), ih _ _ (by omega)]
    · rw [if_neg h, if_neg h]
theorem ends (a b : List S27) (ha : a.length ≤ 1048576) (hb : b.length ≤ 1048576) : ∀ d k (i j : Nat), i ≤ a.length → j + d = b.length → d < k → ∃ r, spec_IsPartOf.l0 k a b i j = some r := by
  intro d
  induction d with
  | zero =>
    intro k i j hi hj hk
    obtain ⟨k, rfl⟩ : ∃ m, k = m + 1 := ⟨k - 1, by omega⟩
    simp only [spec_IsPartOf.l0]
    rw [if_neg (by omega)]
    exact ⟨_, rfl⟩
  | succ d ih =>
    intro k i j hi hj hk
    obtain ⟨k, rfl⟩ : ∃ m, k = m + 1 := ⟨k - 1, by omega⟩
    simp only [spec_IsPartOf.l0]
    rw [if_pos (by omega)]
    split
    · rw [if_pos (by omega), if_pos (by omega), Gen.w64s (by omega), Gen.w64s (by omega)]
      split
      · exact ih k (i + 1) (j + 1) (by omega) (by omega) (by omega)
      · exact ih k i (j + 1) (by omega) (by omega) (by omega)
    · rw [Gen.w64s (by omega)]
      exact ih k i (j + 1) (by omega) (by omega) (by omega)
theorem pure_FnExactIsPartOf : ∀ (l0 : (List S23)) (l1 : (List S23)), (List.length l0 ≤ maxLen ∧ ∀ y ∈ l0, G23 y) → (List.length l1 ≤ maxLen ∧ ∀ y ∈ l1, G23 y) → ∃ k, laws_FnExactIsPartOf.f k l0 l1 = some true := by
  intro a b ⟨ha, _⟩ ⟨hb, _⟩
  by_cases h : a.length ≤ 1048576 ∧ a.length + b.length ≤ 1048576
  · obtain ⟨r, hr⟩ := ends (a.map cP) (b.map cP) (by simp; omega) (by simp; omega) b.length (a.length + b.length + 1) 0 0 (by omega) (by simp) (by omega)
    have h2 := same (a.map cP) (b.map cP) (by simp; omega) (by simp; omega) (a.length + b.length + 1) 0 0 (by omega)
    have e1 : impl_IsPartOf.f (a.length + b.length + 1) (a.map cP) (b.map cP) = some r := by unfold impl_IsPartOf.f; rw [← hr]; exact h2
    have e2 : spec_IsPartOf.f (a.length + b.length + 1) (a.map cP) (b.map cP) = some r := hr
    refine ⟨a.length + b.length + 1, ?_⟩
    unfold laws_FnExactIsPartOf.f
    rw [szPointS_some a _ ha (by omega) (by omega), if_neg (by omega)]
    simp only [Option.bind_some]
    rw [if_neg (by omega), szPointS_some b _ hb (by omega) (by omega), if_neg (by omega)]
    simp only [Option.bind_some]
    rw [if_neg (by omega), toPointS_some a (by omega) (by omega), toPointS_some b (by omega) (by omega)]
    simp only [Option.bind_some]
    rw [e1, e2, eqPointS_self _ (by simp; omega) (by simp; omega), eqPointS_self _ (by simp; omega) (by simp; omega)]
    simp
  · refine ⟨0, ?_⟩
    unfold laws_FnExactIsPartOf.f
    rw [szPointS_some a _ ha (by omega) (by omega)]
    simp only [Option.bind_some]
    by_cases h1 : (1048576 : Int) < a.length
    · rw [if_pos h1]; rfl
    · rw [if_neg h1, if_neg (by omega), szPointS_some b _ hb (by omega) (by omega), if_pos (by omega)]; rfl

end Go.Proofs.Ytdiamhgdoglnaaa.PFnExactIsPartOf
