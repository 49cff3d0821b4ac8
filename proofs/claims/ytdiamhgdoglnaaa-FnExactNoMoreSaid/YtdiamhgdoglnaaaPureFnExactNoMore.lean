/- The plain law behind FnExactNoMore: what the printed functions compute answers true; no condition beyond the arguments' ranges. -/
import Derived.Test.YtdiamhgdoglnaaaGen
import Derived.Test.YtdiamhgdoglnaaaPFnExactNoMorex2
import Derived.Test.YtdiamhgdoglnaaaOpnFnExactNoMore
namespace Go.Proofs.Ytdiamhgdoglnaaa.PFnExactNoMore
open Go Go.RowKit Go.Proofs.YtdiamhgdoglnaaaW.PrintWords Go.Proofs.YtdiamhgdoglnaaaW.PrintLast Go.Proofs.YtdiamhgdoglnaaaW.PrintMore Go.Proofs.Ytdiamhgdoglnaaa.Open

/-! meets: laws' to impl's -/
def cM (p : S101) : S99 := ⟨p.f0, p.f1, p.f2⟩
theorem toMeetS_some (l : List S101) (hl : l.length ≤ 1048576) {k : Nat} (hk : l.length < k) : laws_toMeetS.f k l = some (l.map cM) := by
  unfold laws_toMeetS.f
  rw [if_pos (by omega), if_pos (by omega)]
  have := Gen.fill_all l z101 cM 0 (fun k out i => laws_toMeetS.l0 k l out i) (fun k out i _ hi ho => by
      simp only [laws_toMeetS.l0]
      rw [if_pos (by omega), if_pos (by omega)]
      simp only [laws_toMeet.f, Option.bind_some]
      rw [if_pos (by omega), Gen.w64s (by omega)]
      rfl) (fun k out ho => by
      simp only [laws_toMeetS.l0]
      rw [if_neg (by omega)]) (k := k) (out := List.replicate l.length z99) (by simp) (by omega)
  simpa using this
theorem szMeetS_some (l : List S101) (a : Int) (hl : l.length ≤ maxLen) (ha : 0 ≤ a) (ha' : a ≤ 1048576) : laws_szMeetS.f l a = some (if a < l.length then -1 else a - l.length) := by
  unfold laws_szMeetS.f
  unfold maxLen at hl
  rw [Gen.w64 (by omega) (by omega)]
  split <;> split <;> first | rfl | omega
theorem eqMeetS_self (a : List S99) (hl : a.length ≤ 1048576) {k : Nat} (hk : a.length < k) : laws_eqMeetS.f k a a = some true := by
  unfold laws_eqMeetS.f
  rw [if_pos rfl]
  refine Gen.up_all a.length 0 true (fun k i => laws_eqMeetS.l0 k a a i) (fun k i _ hi => ?_) (fun k _ => ?_) (k := k) (by omega)
  · simp only [laws_eqMeetS.l0, laws_eqMeet.f]
    rw [if_pos (by omega), if_pos (by omega), if_pos (by omega)]
    simp only [if_true, Option.bind_some]
    rw [Gen.w64s (by omega)]
  · simp only [laws_eqMeetS.l0]
    rw [if_neg (by omega)]

theorem same (a b : List S99) (ha : a.length ≤ 1048576) (hb : b.length ≤ 1048576) : ∀ k, (∀ i : Nat, impl_NoMore.l0 k b a a.length i = spec_NoMore.l0 k a b i) ∧
    ∀ (i j : Nat) (f : Bool), i < a.length → impl_NoMore.l1 k b f a a.length i b b.length j ((rd_T99 a i).f0) ((rd_T99 a i).f1) ((rd_T99 a i).f2) = spec_NoMore.l1 k a b i f j := by
  intro k
  induction k with
  | zero => exact ⟨fun _ => rfl, fun _ _ _ _ => rfl⟩
  | succ k ih =>
    obtain ⟨ih0, ih1⟩ := ih
    refine ⟨fun i => ?_, fun i j f hi => ?_⟩
    · simp only [impl_NoMore.l0, spec_NoMore.l0]
      by_cases h : (i : Int) < a.length
      · rw [if_pos h, if_pos h, if_pos (show (0 : Int) ≤ (i : Int) by omega), if_pos h]
        exact ih1 i 0 false (by omega)
      · rw [if_neg h, if_neg h]
    · simp only [impl_NoMore.l1, spec_NoMore.l1, ge_iff_le]
      by_cases h : (j : Int) < b.length
      · rw [if_pos h, if_pos h, if_pos (show (0 : Int) ≤ (j : Int) by omega), if_pos h, Gen.w64s (by omega), if_pos (show (0 : Int) ≤ (i : Int) by omega), if_pos (show (i : Int) < a.length by omega), if_pos (show (0 : Int) ≤ (j : Int) by omega)]
        rw [ih1 _ _ _ hi, ih1 _ _ _ hi, ih1 _ _ _ hi]
      · rw [if_neg h, if_neg h, Gen.w64s (by omega), ih0]
theorem ends (a b : List S99) (ha : a.length ≤ 1048576) (hb : b.length ≤ 1048576) : ∀ e (i : Nat), i + e = a.length → (∀ k, e * (b.length + 2) < k → ∃ r, spec_NoMore.l0 k a b i = some r) ∧
    (0 < e → ∀ d k (j : Nat) (f : Bool), j + d = b.length → (e - 1) * (b.length + 2) + d + 1 < k → ∃ r, spec_NoMore.l1 k a b i f j = some r) := by
  intro e
  induction e with
  | zero =>
    intro i hi
    refine ⟨fun k hk => ?_, fun h => by omega⟩
    obtain ⟨k, rfl⟩ : ∃ m, k = m + 1 := ⟨k - 1, by omega⟩
    simp only [spec_NoMore.l0]
    rw [if_neg (by omega)]
    exact ⟨_, rfl⟩
  | succ e ih =>
    intro i hi
    have inner : ∀ d k (j : Nat) (f : Bool), j + d = b.length → e * (b.length + 2) + d + 1 < k → ∃ r, spec_NoMore.l1 k a b i f j = some r := by
      intro d
      induction d with
      | zero =>
        intro k j f hj hk
        obtain ⟨k, rfl⟩ : ∃ m, k = m + 1 := ⟨k - 1, by omega⟩
        simp only [spec_NoMore.l1]
        rw [if_neg (by omega), Gen.w64s (by omega)]
        split
        · exact (ih (i + 1) (by omega)).1 k (by omega)
        · exact ⟨_, rfl⟩
      | succ d ih2 =>
        intro k j f hj hk
        obtain ⟨k, rfl⟩ : ∃ m, k = m + 1 := ⟨k - 1, by omega⟩
        simp only [spec_NoMore.l1]
        rw [if_pos (by omega), Gen.w64s (by omega)]
        split
        · exact ih2 k (j + 1) _ (by omega) (by omega)
        · rw [if_pos (by omega), if_pos (by omega), if_pos (by omega)]
          split
          · split
            · exact ih2 k (j + 1) _ (by omega) (by omega)
            · exact ih2 k (j + 1) _ (by omega) (by omega)
          · exact ih2 k (j + 1) _ (by omega) (by omega)
    refine ⟨fun k hk => ?_, fun _ => inner⟩
    rw [Nat.succ_mul] at hk
    obtain ⟨k, rfl⟩ : ∃ m, k = m + 1 := ⟨k - 1, by omega⟩
    simp only [spec_NoMore.l0]
    rw [if_pos (by omega)]
    exact inner b.length k 0 false (by omega) (by omega)
theorem pure_FnExactNoMore : ∀ (l0 : (List S101)) (l1 : (List S101)), (List.length l0 ≤ maxLen ∧ ∀ y ∈ l0, G101 y) → (List.length l1 ≤ maxLen ∧ ∀ y ∈ l1, G101 y) → ∃ k, laws_FnExactNoMore.f k l0 l1 = some true := by
  intro a b ⟨ha, _⟩ ⟨hb, _⟩
  by_cases h : a.length ≤ 1048576 ∧ a.length + b.length ≤ 1048576
  · obtain ⟨K, hK⟩ : ∃ K, K = a.length * (b.length + 2) + a.length + b.length + 1 := ⟨_, rfl⟩
    obtain ⟨r, hr⟩ := (ends (a.map cM) (b.map cM) (by simp; omega) (by simp; omega) a.length 0 (by simp)).1 K (by simp; omega)
    have h2 := (same (a.map cM) (b.map cM) (by simp; omega) (by simp; omega) K).1 0
    have e1 : impl_NoMore.f K (a.map cM) (b.map cM) = some r := by unfold impl_NoMore.f; rw [← hr]; exact h2
    have e2 : spec_NoMore.f K (a.map cM) (b.map cM) = some r := hr
    refine ⟨K, ?_⟩
    unfold laws_FnExactNoMore.f
    rw [szMeetS_some a _ ha (by omega) (by omega), if_neg (by omega)]
    simp only [Option.bind_some]
    rw [if_neg (by omega), szMeetS_some b _ hb (by omega) (by omega), if_neg (by omega)]
    simp only [Option.bind_some]
    rw [if_neg (by omega), toMeetS_some a (by omega) (by omega), toMeetS_some b (by omega) (by omega)]
    simp only [Option.bind_some]
    rw [e1, e2, eqMeetS_self _ (by simp; omega) (by simp; omega), eqMeetS_self _ (by simp; omega) (by simp; omega)]
    simp
  · refine ⟨0, ?_⟩
    unfold laws_FnExactNoMore.f
    rw [szMeetS_some a _ ha (by omega) (by omega)]
    simp only [Option.bind_some]
    by_cases h1 : (1048576 : Int) < a.length
    · rw [if_pos h1]; rfl
    · rw [if_neg h1, if_neg (by omega), szMeetS_some b _ hb (by omega) (by omega), if_pos (by omega)]; rfl

end Go.Proofs.Ytdiamhgdoglnaaa.PFnExactNoMore
