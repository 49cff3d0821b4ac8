/- The plain law behind FnExactCountMeets: what the printed functions compute answers true; no condition beyond the arguments' ranges. -/
import Derived.Test.YtdiamhgdoglnaaaGen
import Derived.Test.YtdiamhgdoglnaaaPFnExactCountMeetsx2
import Derived.Test.YtdiamhgdoglnaaaOpnFnExactCountMeets
namespace Go.Proofs.Ytdiamhgdoglnaaa.PFnExactCountMeets
open Go Go.RowKit Go.Proofs.YtdiamhgdoglnaaaW.PrintWords Go.Proofs.YtdiamhgdoglnaaaW.PrintLast Go.Proofs.YtdiamhgdoglnaaaW.PrintMore Go.Proofs.Ytdiamhgdoglnaaa.Open

/-! meets: laws' to impl's -/
def cM (p : S101) : S99 := ⟨p.f0, p.f1, p.f2⟩
theorem toMeetS_some (l : List S101) (hl : l.length ≤ 1048576) {k : Nat} (hk : l.length < k) : laws_toMeetS.f k l = some (l.map cM) := by
  unfold laws_toMeetS.f
  rw [if_pos (by omega), if_pos (by omega)]
  have := Gen.fill_all l z101 cM 0 (fun k out i => laws_toMeetS.l0 k l out i) (fun k out i _ hi ho => by
      simp only [laws_toMeetS.l0]
      rw [if_pos (by omega), if_pos (by omega)]
      simp only [laws_toMeet.f, Option.bind_some]
      rw [if_pos (by omega), Gen.w64s (by omega)]
      rfl) (fun k out ho => by
      simp only [laws_toMeetS.l0]
      rw [if_neg (by omega)]) (k := k) (out := List.replicate l.length z99) (by simp) (by omega)
  simpa using this
theorem szMeetS_some (l : List S101) (a : Int) (hl : l.length ≤ maxLen) (ha : 0 ≤ a) (ha' : a ≤ 1048576) : laws_szMeetS.f l a = some (if a < l.length then -1 else a - l.length) := by
  unfold laws_szMeetS.f
  unfold maxLen at hl
  rw [Gen.w64 (by omega) (by omega)]
  split <;> split <;> first | rfl | omega
theorem eqMeetS_self (a : List S99) (hl : a.length ≤ 1048576) {k : Nat} (hk : a.length < k) : laws_eqMeetS.f k a a = some true := by
  unfold laws_eqMeetS.f
  rw [if_pos rfl]
  refine Gen.up_all a.length 0 true (fun k i => laws_eqMeetS.l0 k a a i) (fun k i _ hi => ?_) (fun k _ => ?_) (k := k) (by omega)
  · simp only [laws_eqMeetS.l0, laws_eqMeet.f]
    rw [if_pos (by omega), if_pos (by omega), if_pos (by omega)]
    simp only [if_true, Option.bind_some]
    rw [Gen.w64s (by omega)]
  · simp only [laws_eqMeetS.l0]
    rw [if_neg (by omega)]

theorem same (a : List S99) (h : Int) (ha : a.length ≤ 1048576) : ∀ k (n : Int) (j : Nat), impl_CountMeets.l0 k h n a a.length j = spec_CountMeets.l0 k a h n j := by
  intro k
  induction k with
  | zero => intro n j; rfl
  | succ k ih =>
    intro n j
    simp only [impl_CountMeets.l0, spec_CountMeets.l0]
    by_cases hj : (j : Int) < a.length
    · rw [if_pos hj, if_pos hj, if_pos (show (0 : Int) ≤ (j : Int) by omega), if_pos (show (0 : Int) ≤ (j : Int) by omega), if_pos hj, Gen.w64s (by omega), ih, ih]
    · rw [if_neg hj, if_neg hj]
theorem ends (a : List S99) (h : Int) (ha : a.length ≤ 1048576) : ∀ d k (n : Int) (j : Nat), j + d = a.length → d < k → ∃ r, spec_CountMeets.l0 k a h n j = some r := by
  intro d
  induction d with
  | zero =>
    intro k n j hj hk
    obtain ⟨k, rfl⟩ : ∃ m, k = m + 1 := ⟨k - 1, by omega⟩
    simp only [spec_CountMeets.l0]
    rw [if_neg (by omega)]
    exact ⟨_, rfl⟩
  | succ d ih =>
    intro k n j hj hk
    obtain ⟨k, rfl⟩ : ∃ m, k = m + 1 := ⟨k - 1, by omega⟩
    simp only [spec_CountMeets.l0]
    rw [if_pos (by omega), if_pos (by omega), Gen.w64s (by omega)]
    split
    · exact ih k _ (j + 1) (by omega) (by omega)
    · exact ih k _ (j + 1) (by omega) (by omega)
theorem pure_FnExactCountMeets : ∀ (l0 : (List S101)) (a1 : Int), (List.length l0 ≤ maxLen ∧ ∀ y ∈ l0, G101 y) → I64 a1 → ∃ k, laws_FnExactCountMeets.f k l0 a1 = some true := by
  intro a h ⟨ha, _⟩ _
  by_cases hl : a.length ≤ 1048576
  · obtain ⟨r, hr⟩ := ends (a.map cM) h (by simp; omega) a.length (a.length + 1) 0 0 (by simp) (by omega)
    have h2 := same (a.map cM) h (by simp; omega) (a.length + 1) 0 0
    have e1 : impl_CountMeets.f (a.length + 1) (a.map cM) h = some r := by unfold impl_CountMeets.f; rw [← hr]; exact h2
    have e2 : spec_CountMeets.f (a.length + 1) (a.map cM) h = some r := hr
    refine ⟨a.length + 1, ?_⟩
    unfold laws_FnExactCountMeets.f
    rw [szMeetS_some a _ ha (by omega) (by omega), if_neg (by omega)]
    simp only [Option.bind_some]
    rw [if_neg (by omega), toMeetS_some a (by omega) (by omega)]
    simp only [Option.bind_some]
    rw [e1, e2, eqMeetS_self _ (by simp; omega) (by simp)]
    simp
  · refine ⟨0, ?_⟩
    unfold laws_FnExactCountMeets.f
    rw [szMeetS_some a _ ha (by omega) (by omega), if_pos (by omega)]; rfl

end Go.Proofs.Ytdiamhgdoglnaaa.PFnExactCountMeets
