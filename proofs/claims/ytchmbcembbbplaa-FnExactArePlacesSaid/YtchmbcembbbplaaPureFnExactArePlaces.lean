/- The plain law behind FnExactArePlaces: what the printed functions compute answers true; no condition beyond the arguments' ranges. -/
import Derived.Test.YtchmbcembbbplaaGen
import Derived.Test.YtchmbcembbbplaaPFnExactArePlacesx5
import Derived.Test.YtchmbcembbbplaaOpnFnExactArePlaces
namespace Go.Proofs.Ytchmbcembbbplaa.PFnExactArePlaces
open Go Go.RowKit Go.Proofs.YtchmbcembbbplaaW.PrintWords Go.Proofs.YtchmbcembbbplaaW.PrintLast Go.Proofs.YtchmbcembbbplaaW.PrintMore Go.Proofs.Ytchmbcembbbplaa.Open

theorem implInRange (a b c : Int) : impl_InRange.f a b c = some (decide (b ≤ a ∧ a ≤ c)) := by
  unfold impl_InRange.f; by_cases h : b ≤ a <;> simp [h]
theorem specIn (a b c : Int) : spec_l1In.f a b c = some (decide (b ≤ a ∧ a ≤ c)) := by
  unfold spec_l1In.f; by_cases h : b ≤ a <;> simp [h]

def Pt (x y : Int) : Prop := 0 ≤ x ∧ x ≤ 200 ∧ 0 ≤ y ∧ y ≤ 200
instance (x y : Int) : Decidable (Pt x y) := by unfold Pt; infer_instance
theorem implIsPoint (x y : Int) : impl_IsPoint.f x y = some (decide (Pt x y)) := by
  unfold impl_IsPoint.f
  rw [implInRange, implInRange]
  simp only [Option.bind_some]
  by_cases h : 0 ≤ x ∧ x ≤ 200
  · rw [if_pos (by simpa using h)]; simp [Pt, h]
  · rw [if_neg (by simpa using h)]; simp only [Option.some.injEq, Bool.false_eq, decide_eq_false_iff_not]; unfold Pt; omega
theorem specIsPoint (x y : Int) : spec_IsPoint.f x y = some (decide (Pt x y)) := by
  unfold spec_IsPoint.f
  rw [specIn, specIn]
  simp only [Option.bind_some]
  by_cases h : 0 ≤ x ∧ x ≤ 200
  · rw [if_pos (by simpa using h)]; simp [Pt, h]
  · rw [if_neg (by simpa using h)]; simp only [Option.some.injEq, Bool.false_eq, decide_eq_false_iff_not]; unfold Pt; omega

/-! places: laws' to impl's -/
def cPl (p : S128) : S86 := ⟨p.f0, ⟨p.f1.f0, p.f1.f1⟩, p.f2⟩
theorem toPlaceS_some (l : List S128) (hl : l.length ≤ 1048576) {k : Nat} (hk : l.length < k) : laws_toPlaceS.f k l = some (l.map cPl) := by
  unfold laws_toPlaceS.f
  rw [if_pos (by omega), if_pos (by omega)]
  have := Gen.fill_all l z128 cPl 0 (fun k out i => laws_toPlaceS.l0 k l out i) (fun k out i _ hi ho => by
      simp only [laws_toPlaceS.l0]
      rw [if_pos (by omega), if_pos (by omega)]
      simp only [laws_toPlace.f, laws_toPoint.f, Option.bind_some]
      rw [if_pos (by omega), Gen.w64s (by omega)]
      rfl) (fun k out ho => by
      simp only [laws_toPlaceS.l0]
      rw [if_neg (by omega)]) (k := k) (out := List.replicate l.length z86) (by simp) (by omega)
  simpa using this
theorem szPlaceS_some (l : List S128) (a : Int) (hl : l.length ≤ maxLen) (ha : 0 ≤ a) (ha' : a ≤ 1048576) : laws_szPlaceS.f l a = some (if a < l.length then -1 else a - l.length) := by
  unfold laws_szPlaceS.f
  unfold maxLen at hl
  rw [Gen.w64 (by omega) (by omega)]
  split <;> split <;> first | rfl | omega
theorem eqPlaceS_self (a : List S86) (hl : a.length ≤ 1048576) {k : Nat} (hk : a.length < k) : laws_eqPlaceS.f k a a = some true := by
  unfold laws_eqPlaceS.f
  rw [if_pos rfl]
  refine Gen.up_all a.length 0 true (fun k i => laws_eqPlaceS.l0 k a a i) (fun k i _ hi => ?_) (fun k _ => ?_) (k := k) (by omega)
  · simp only [laws_eqPlaceS.l0, laws_eqPlace.f, laws_eqPoint.f]
    rw [if_pos (by omega), if_pos (by omega), if_pos (by omega)]
    simp only [if_true, Option.bind_some]
    rw [Gen.w64s (by omega)]
  · simp only [laws_eqPlaceS.l0]
    rw [if_neg (by omega)]
def plChk (l : List S86) (i : Nat) : Bool := decide ((1 ≤ (l.getD i z86).f0 ∧ (l.getD i z86).f0 ≤ 99) ∧ Pt (l.getD i z86).f1.f0 (l.getD i z86).f1.f1 ∧ (0 ≤ (l.getD i z86).f2 ∧ (l.getD i z86).f2 ≤ 9) ∧ (0 < i → (l.getD (i - 1) z86).f0 < (l.getD i z86).f0))
def Pls (l : List S86) : Prop := l.length ≤ 16 ∧ ∀ i, i < l.length → plChk l i = true
instance (l : List S86) : Decidable (Pls l) := by unfold Pls; infer_instance
theorem rdPl (l : List S86) (i : Nat) : rd_T86 l (i : Int) = l.getD i z86 := rfl
theorem specArePlaces (l : List S86) (hl : l.length ≤ 1048576) {k : Nat} (hk : l.length < k) : spec_ArePlaces.f k l = some (decide (Pls l)) := by
  unfold spec_ArePlaces.f
  rw [Gen.scan_all l.length 0 (plChk l) (decide (l.length ≤ 16)) (fun k i => spec_ArePlaces.l0 k l i) (fun k i _ hi => by
    simp only [spec_ArePlaces.l0]
    rw [if_pos (by omega), if_pos (by omega), specIn, specIsPoint, specIn, rdPl]
    simp only [Option.bind_some, decide_eq_true_eq]
    by_cases h1 : 1 ≤ (l.getD i z86).f0 ∧ (l.getD i z86).f0 ≤ 99
    · rw [if_pos h1]
      by_cases h2 : Pt (l.getD i z86).f1.f0 (l.getD i z86).f1.f1
      · rw [if_pos h2]
        by_cases h3 : 0 ≤ (l.getD i z86).f2 ∧ (l.getD i z86).f2 ≤ 9
        · rw [if_pos h3]
          by_cases h0 : 0 < i
          · have e1 : wrap64 ((i : Int) - 1) = ((i - 1 : Nat) : Int) := by rw [Gen.w64 (by omega) (by omega)]; omega
            rw [if_pos (by omega), e1, if_pos (by omega), if_pos (by omega), rdPl, Gen.w64s (by omega)]
            by_cases h4 : (l.getD (i - 1) z86).f0 ≥ (l.getD i z86).f0
            · rw [if_pos h4, if_neg (by unfold plChk; rw [decide_eq_true_eq]; exact fun h => by have := h.2.2.2 h0; omega)]
            · rw [if_neg h4, if_pos (by unfold plChk; rw [decide_eq_true_eq]; exact ⟨h1, h2, h3, fun _ => by omega⟩)]
          · rw [if_neg (by omega), if_pos (by unfold plChk; rw [decide_eq_true_eq]; exact ⟨h1, h2, h3, fun h => absurd h h0⟩), Gen.w64s (by omega)]
        · rw [if_neg h3, if_neg (by unfold plChk; rw [decide_eq_true_eq]; exact fun h => h3 h.2.2.1)]
      · rw [if_neg h2, if_neg (by unfold plChk; rw [decide_eq_true_eq]; exact fun h => h2 h.2.1)]
    · rw [if_neg h1, if_neg (by unfold plChk; rw [decide_eq_true_eq]; exact fun h => h1 h.1)]) (fun k _ => by
    simp only [spec_ArePlaces.l0]
    rw [if_neg (by omega)]
    simp only [Option.some.injEq, decide_eq_decide]
    omega) (by omega)]
  congr 1
  rw [Bool.eq_iff_iff, Bool.and_eq_true, decide_eq_true_eq, decide_eq_true_eq, decide_eq_true_eq]
  exact ⟨fun h => ⟨h.2, h.1⟩, fun h => ⟨h.2, h.1⟩⟩
theorem implArePlaces (l : List S86) (hl : l.length ≤ 1048576) {k : Nat} (hk : l.length < k) : impl_ArePlaces.f k l = some (decide (Pls l)) := by
  unfold impl_ArePlaces.f
  by_cases h16 : l.length ≤ 16
  · rw [if_neg (by omega)]
    rw [Gen.scan_all l.length 0 (plChk l) true (fun k i => impl_ArePlaces.l0 k l l l.length i) (fun k i _ hi => by
      simp only [impl_ArePlaces.l0]
      rw [if_pos (by omega), if_pos (by omega), if_pos (by omega), implInRange, implIsPoint, implInRange, rdPl]
      simp only [Option.bind_some, decide_eq_true_eq]
      by_cases h1 : 1 ≤ (l.getD i z86).f0 ∧ (l.getD i z86).f0 ≤ 99
      · rw [if_pos h1]
        by_cases h2 : Pt (l.getD i z86).f1.f0 (l.getD i z86).f1.f1
        · rw [if_pos h2]
          by_cases h3 : 0 ≤ (l.getD i z86).f2 ∧ (l.getD i z86).f2 ≤ 9
          · rw [if_pos h3]
            by_cases h0 : 0 < i
            · have e1 : wrap64 ((i : Int) - 1) = ((i - 1 : Nat) : Int) := by rw [Gen.w64 (by omega) (by omega)]; omega
              rw [if_pos (by omega), e1, if_pos (by omega), if_pos (by omega), rdPl, Gen.w64s (by omega)]
              by_cases h4 : (l.getD i z86).f0 ≤ (l.getD (i - 1) z86).f0
              · rw [if_pos h4, if_neg (by unfold plChk; rw [decide_eq_true_eq]; exact fun h => by have := h.2.2.2 h0; omega)]
              · rw [if_neg h4, if_pos (by unfold plChk; rw [decide_eq_true_eq]; exact ⟨h1, h2, h3, fun _ => by omega⟩)]
            · rw [if_neg (by omega), if_pos (by unfold plChk; rw [decide_eq_true_eq]; exact ⟨h1, h2, h3, fun h => absurd h h0⟩), Gen.w64s (by omega)]
          · rw [if_neg h3, if_neg (by unfold plChk; rw [decide_eq_true_eq]; exact fun h => h3 h.2.2.1)]
        · rw [if_neg h2, if_neg (by unfold plChk; rw [decide_eq_true_eq]; exact fun h => h2 h.2.1)]
      · rw [if_neg h1, if_neg (by unfold plChk; rw [decide_eq_true_eq]; exact fun h => h1 h.1)]) (fun k _ => by
      simp only [impl_ArePlaces.l0]
      rw [if_neg (by omega)]) (by omega)]
    congr 1
    rw [Bool.eq_iff_iff, Bool.and_eq_true, decide_eq_true_eq, decide_eq_true_eq]
    exact ⟨fun h => ⟨h16, h.1⟩, fun h => ⟨h.2, rfl⟩⟩
  · rw [if_pos (by omega)]
    congr 1
    rw [eq_comm, decide_eq_false_iff_not]
    exact fun h => h16 h.1

theorem pure_FnExactArePlaces : ∀ (l0 : (List S128)), (List.length l0 ≤ maxLen ∧ ∀ y ∈ l0, G128 y) → ∃ k, laws_FnExactArePlaces.f k l0 = some true := by
  intro a ⟨ha, _⟩
  by_cases hl : a.length ≤ 1048576
  · refine ⟨a.length + 1, ?_⟩
    unfold laws_FnExactArePlaces.f
    rw [szPlaceS_some a _ ha (by omega) (by omega), if_neg (by omega)]
    simp only [Option.bind_some]
    rw [if_neg (by omega), toPlaceS_some a (by omega) (by omega)]
    simp only [Option.bind_some]
    rw [specArePlaces _ (by simp; omega) (by simp), implArePlaces _ (by simp; omega) (by simp), eqPlaceS_self _ (by simp; omega) (by simp)]
    simp
  · refine ⟨0, ?_⟩
    unfold laws_FnExactArePlaces.f
    rw [szPlaceS_some a _ ha (by omega) (by omega), if_pos (by omega)]; rfl

end Go.Proofs.Ytchmbcembbbplaa.PFnExactArePlaces
