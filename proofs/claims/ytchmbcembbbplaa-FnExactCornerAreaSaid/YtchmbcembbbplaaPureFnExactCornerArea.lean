/- The plain law behind FnExactCornerArea: what the printed functions compute answers true; no condition beyond the arguments' ranges. -/
import Derived.Test.YtchmbcembbbplaaGen
import Derived.Test.YtchmbcembbbplaaPFnExactCornerAreax6
import Derived.Test.YtchmbcembbbplaaOpnFnExactCornerArea
namespace Go.Proofs.Ytchmbcembbbplaa.PFnExactCornerArea
open Go Go.RowKit Go.Proofs.YtchmbcembbbplaaW.PrintWords Go.Proofs.YtchmbcembbbplaaW.PrintLast Go.Proofs.YtchmbcembbbplaaW.PrintMore Go.Proofs.Ytchmbcembbbplaa.Open

theorem implInRange (a b c : Int) : impl_InRange.f a b c = some (decide (b ≤ a ∧ a ≤ c)) := by
  unfold impl_InRange.f; by_cases h : b ≤ a <;> simp [h]
theorem specIn (a b c : Int) : spec_l1In.f a b c = some (decide (b ≤ a ∧ a ≤ c)) := by
  unfold spec_l1In.f; by_cases h : b ≤ a <;> simp [h]

def Pt (x y : Int) : Prop := 0 ≤ x ∧ x ≤ 200 ∧ 0 ≤ y ∧ y ≤ 200
instance (x y : Int) : Decidable (Pt x y) := by unfold Pt; infer_instance
theorem implIsPoint (x y : Int) : impl_IsPoint.f x y = some (decide (Pt x y)) := by
  unfold impl_IsPoint.f
  rw [implInRange, implInRange]
  simp only [Option.bind_some]
  by_cases h : 0 ≤ x ∧ x ≤ 200
  · rw [if_pos (by simpa using h)]; simp [Pt, h]
  · rw [if_neg (by simpa using h)]; simp only [Option.some.injEq, Bool.false_eq, decide_eq_false_iff_not]; unfold Pt; omega
theorem specIsPoint (x y : Int) : spec_IsPoint.f x y = some (decide (Pt x y)) := by
  unfold spec_IsPoint.f
  rw [specIn, specIn]
  simp only [Option.bind_some]
  by_cases h : 0 ≤ x ∧ x ≤ 200
  · rw [if_pos (by simpa using h)]; simp [Pt, h]
  · rw [if_neg (by simpa using h)]; simp only [Option.some.injEq, Bool.false_eq, decide_eq_false_iff_not]; unfold Pt; omega

/-! products of differences of points in range do not go round -/
def D (n : Int) : Prop := -200 ≤ n ∧ n ≤ 200
theorem D_of {x y : Int} (hx : 0 ≤ x ∧ x ≤ 200) (hy : 0 ≤ y ∧ y ≤ 200) : wrap64 (x - y) = x - y ∧ D (x - y) := ⟨Gen.w64 (by omega) (by omega), by unfold D; omega⟩
theorem D_mul {x y : Int} (hx : D x) (hy : D y) : wrap64 (x * y) = x * y ∧ -40000 ≤ x * y ∧ x * y ≤ 40000 := by
  have := Gen.mul_bd (m := 200) (n := 200) hx hy
  exact ⟨Gen.w64 (by omega) (by omega), by omega, by omega⟩
def crossZ (ax ay bx bY px py : Int) : Int := (bx - ax) * (py - ay) - (bY - ay) * (px - ax)
theorem crossZ_bd {ax ay bx bY px py : Int} (ha : Pt ax ay) (hb : Pt bx bY) (hp : Pt px py) :
    wrap64 ((wrap64 ((wrap64 (bx - ax)) * (wrap64 (py - ay)))) - (wrap64 ((wrap64 (bY - ay)) * (wrap64 (px - ax))))) = crossZ ax ay bx bY px py ∧ -80000 ≤ crossZ ax ay bx bY px py ∧ crossZ ax ay bx bY px py ≤ 80000 := by
  obtain ⟨a1, a2, a3, a4⟩ := ha; obtain ⟨b1, b2, b3, b4⟩ := hb; obtain ⟨p1, p2, p3, p4⟩ := hp
  obtain ⟨e1, d1⟩ := D_of ⟨b1, b2⟩ ⟨a1, a2⟩
  obtain ⟨e2, d2⟩ := D_of ⟨p3, p4⟩ ⟨a3, a4⟩
  obtain ⟨e3, d3⟩ := D_of ⟨b3, b4⟩ ⟨a3, a4⟩
  obtain ⟨e4, d4⟩ := D_of ⟨p1, p2⟩ ⟨a1, a2⟩
  obtain ⟨m1, n1, o1⟩ := D_mul d1 d2
  obtain ⟨m2, n2, o2⟩ := D_mul d3 d4
  rw [e1, e2, e3, e4, m1, m2]
  unfold crossZ
  exact ⟨Gen.w64 (by omega) (by omega), by omega, by omega⟩

theorem implCross {ax ay bx bY px py : Int} (ha : Pt ax ay) (hb : Pt bx bY) (hp : Pt px py) : impl_cross.f ax ay bx bY px py = some (crossZ ax ay bx bY px py) := by
  unfold impl_cross.f; rw [(crossZ_bd ha hb hp).1]

theorem specCross {ax ay bx bY px py : Int} (ha : Pt ax ay) (hb : Pt bx bY) (hp : Pt px py) : spec_l4Cross.f ax ay bx bY px py = some (crossZ ax ay bx bY px py) := by
  unfold spec_l4Cross.f; rw [(crossZ_bd ha hb hp).1]

/-! points: laws' to impl's -/
def cP (p : S40) : S44 := ⟨p.f0, p.f1⟩
theorem toPointS_some (l : List S40) (hl : l.length ≤ 1048576) {k : Nat} (hk : l.length < k) : laws_toPointS.f k l = some (l.map cP) := by
  unfold laws_toPointS.f
  rw [if_pos (by omega), if_pos (by omega)]
  have := Gen.fill_all l z40 cP 0 (fun k out i => laws_toPointS.l0 k l out i) (fun k out i _ hi ho => by
      simp only [laws_toPointS.l0]
      rw [if_pos (by omega), if_pos (by omega)]
      simp only [laws_toPoint.f, Option.bind_some]
      rw [if_pos (by omega), Gen.w64s (by omega)]
      rfl) (fun k out ho => by
      simp only [laws_toPointS.l0]
      rw [if_neg (by omega)]) (k := k) (out := List.replicate l.length z44) (by simp) (by omega)
  simpa using this
theorem szPointS_some (l : List S40) (a : Int) (hl : l.length ≤ maxLen) (ha : 0 ≤ a) (ha' : a ≤ 1048576) : laws_szPointS.f l a = some (if a < l.length then -1 else a - l.length) := by
  unfold laws_szPointS.f
  unfold maxLen at hl
  rw [Gen.w64 (by omega) (by omega)]
  split <;> split <;> first | rfl | omega

theorem eqPointS_self (a : List S44) (hl : a.length ≤ 1048576) {k : Nat} (hk : a.length < k) : laws_eqPointS.f k a a = some true := by
  unfold laws_eqPointS.f
  rw [if_pos rfl]
  refine Gen.up_all a.length 0 true (fun k i => laws_eqPointS.l0 k a a i) (fun k i _ hi => ?_) (fun k _ => ?_) (k := k) (by omega)
  · simp only [laws_eqPointS.l0, laws_eqPoint.f]
    rw [if_pos (by omega), if_pos (by omega), if_pos (by omega)]
    simp only [if_true, Option.bind_some]
    rw [Gen.w64s (by omega)]
  · simp only [laws_eqPointS.l0]
    rw [if_neg (by omega)]

/-! lines -/
def Ln (l : List S44) : Prop := 2 ≤ l.length ∧ l.length ≤ 10 ∧ ∀ i, i < l.length → Pt (l.getD i z44).f0 (l.getD i z44).f1 ∧ ¬ (0 < i ∧ (l.getD (i - 1) z44).f0 = (l.getD i z44).f0 ∧ (l.getD (i - 1) z44).f1 = (l.getD i z44).f1)
def lnChk (l : List S44) (i : Nat) : Bool := decide (Pt (l.getD i z44).f0 (l.getD i z44).f1 ∧ ¬ (0 < i ∧ (l.getD (i - 1) z44).f0 = (l.getD i z44).f0 ∧ (l.getD (i - 1) z44).f1 = (l.getD i z44).f1))
instance (l : List S44) : Decidable (Ln l) := decidable_of_iff ((2 ≤ l.length ∧ l.length ≤ 10) ∧ ∀ i, i < l.length → lnChk l i = true) (by unfold Ln lnChk; simp only [decide_eq_true_eq, and_assoc])
theorem rdP (l : List S44) (i : Nat) : rd_T44 l (i : Int) = l.getD i z44 := rfl

theorem specIsLine (l : List S44) (hl : l.length ≤ 1048576) {k : Nat} (hk : l.length < k) : spec_IsLine.f k l = some (decide (Ln l)) := by
  unfold spec_IsLine.f
  rw [Gen.scan_all l.length 0 (lnChk l) (decide (2 ≤ l.length ∧ l.length ≤ 10)) (fun k i => spec_IsLine.l0 k l i) (fun k i _ hi => by
    simp only [spec_IsLine.l0]
    rw [if_pos (by omega), if_pos (by omega), specIsPoint, rdP]
    simp only [Option.bind_some, decide_eq_true_eq]
    unfold lnChk
    by_cases h1 : Pt (l.getD i z44).f0 (l.getD i z44).f1
    · rw [if_pos h1]
      by_cases h0 : 0 < i
      · have e1 : wrap64 ((i : Int) - 1) = ((i - 1 : Nat) : Int) := by rw [Gen.w64 (by omega) (by omega)]; omega
        rw [if_pos (by omega), e1, if_pos (by omega), if_pos (by omega), rdP, Gen.w64s (by omega)]
        by_cases h2 : (l.getD (i - 1) z44).f0 = (l.getD i z44).f0 ∧ (l.getD (i - 1) z44).f1 = (l.getD i z44).f1
        · rw [if_pos (by simpa using h2), if_neg (by simp only [decide_eq_true_eq]; exact fun h => h.2 ⟨h0, h2⟩)]
        · rw [if_neg (by simpa using h2), if_pos (by simp only [decide_eq_true_eq]; exact ⟨h1, fun h => h2 h.2⟩)]
      · rw [if_neg (by omega), if_pos (by simp only [decide_eq_true_eq]; exact ⟨h1, fun h => h0 h.1⟩), Gen.w64s (by omega)]
    · rw [if_neg h1, if_neg (by simp only [decide_eq_true_eq]; exact fun h => h1 h.1)]) (fun k _ => by
    simp only [spec_IsLine.l0]
    rw [if_neg (by omega), specIn]
    simp only [Option.bind_some, Option.some.injEq, decide_eq_decide]
    omega) (by omega)]
  congr 1
  rw [Bool.eq_iff_iff, Bool.and_eq_true, decide_eq_true_eq, decide_eq_true_eq, decide_eq_true_eq]
  unfold Ln lnChk
  simp only [decide_eq_true_eq]
  constructor
  · rintro ⟨h1, h2, h3⟩; exact ⟨h2, h3, h1⟩
  · rintro ⟨h1, h2, h3⟩; exact ⟨h3, h1, h2⟩

theorem implIsLine (l : List S44) (hl : l.length ≤ 1048576) {k : Nat} (hk : l.length + 1 < k) : impl_IsLine.f k l = some (decide (Ln l)) := by
  obtain ⟨k, rfl⟩ : ∃ m, k = m + 1 := ⟨k - 1, by omega⟩
  unfold impl_IsLine.f
  simp only [impl_IsLine.j0]
  by_cases h2 : l.length < 2
  · rw [if_pos (by omega), if_pos trivial]
    congr 1
    rw [eq_comm, decide_eq_false_iff_not]
    intro h; have := h.1; omega
  · rw [if_neg (by omega)]
    by_cases h10 : l.length > 10
    · rw [if_pos (by rw [decide_eq_true_eq]; omega)]
      congr 1
      rw [eq_comm, decide_eq_false_iff_not]
      intro h; have := h.2.1; omega
    · rw [if_neg (by rw [decide_eq_true_eq]; omega)]
      rw [Gen.scan_all l.length 0 (lnChk l) true (fun k i => impl_IsLine.l0 k l l l.length i) (fun k i _ hi => by
        simp only [impl_IsLine.l0]
        rw [if_pos (by omega), if_pos (by omega), if_pos (by omega), implIsPoint, rdP]
        simp only [Option.bind_some, decide_eq_true_eq]
        unfold lnChk
        by_cases h1 : Pt (l.getD i z44).f0 (l.getD i z44).f1
        · rw [if_pos h1]
          by_cases h0 : 0 < i
          · have e1 : wrap64 ((i : Int) - 1) = ((i - 1 : Nat) : Int) := by rw [Gen.w64 (by omega) (by omega)]; omega
            rw [if_pos (by omega), e1, if_pos (by omega), if_pos (by omega), rdP, Gen.w64s (by omega)]
            by_cases h2 : (l.getD (i - 1) z44).f0 = (l.getD i z44).f0 ∧ (l.getD (i - 1) z44).f1 = (l.getD i z44).f1
            · rw [if_pos (by rw [h2.1, h2.2]; simp), if_neg (by simp only [decide_eq_true_eq]; exact fun h => h.2 ⟨h0, h2⟩)]
            · rw [if_neg (by simp only [Bool.and_eq_true, beq_iff_eq]; exact fun h => h2 ⟨h.1.symm, h.2.symm⟩), if_pos (by simp only [decide_eq_true_eq]; exact ⟨h1, fun h => h2 h.2⟩)]
          · rw [if_neg (by omega), if_pos (by simp only [decide_eq_true_eq]; exact ⟨h1, fun h => h0 h.1⟩), Gen.w64s (by omega)]
        · rw [if_neg h1, if_neg (by simp only [decide_eq_true_eq]; exact fun h => h1 h.1)]) (fun k _ => by
        simp only [impl_IsLine.l0]
        rw [if_neg (by omega)]) (by omega)]
      congr 1
      rw [Bool.eq_iff_iff, Bool.and_eq_true, decide_eq_true_eq, decide_eq_true_eq]
      unfold Ln lnChk
      simp only [decide_eq_true_eq, and_true]
      constructor
      · intro h; exact ⟨by omega, by omega, h⟩
      · intro h; exact h.2.2

theorem specMax (a b : Int) : spec_Max.f a b = some (max a b) := by unfold spec_Max.f; split <;> (congr 1; omega)
/-- the corner's area -/
def crn (l : List S44) (i : Nat) : Int := crossZ (l.getD (i - 1) z44).f0 (l.getD (i - 1) z44).f1 (l.getD i z44).f0 (l.getD i z44).f1 (l.getD (i + 1) z44).f0 (l.getD (i + 1) z44).f1
def crnA (l : List S44) (i : Int) : Int := if Ln l ∧ 1 ≤ i ∧ i ≤ l.length - 2 then max (crn l i.toNat) (-(crn l i.toNat)) else -1
theorem specCorner (l : List S44) (i : Int) (hl : l.length ≤ 1048576) {k : Nat} (hk : l.length < k) : spec_CornerArea.f k l i = some (crnA l i) := by
  obtain ⟨k, rfl⟩ : ∃ m, k = m + 1 := ⟨k - 1, by omega⟩
  unfold spec_CornerArea.f crnA
  rw [specIsLine l hl hk, specIn]
  simp only [Option.bind_some, spec_CornerArea.j0, decide_eq_true_eq]
  rw [Gen.w64 (by omega) (by omega)]
  by_cases h1 : Ln l
  · rw [if_pos h1]
    by_cases h2 : 1 ≤ i ∧ i ≤ l.length - 2
    · obtain ⟨m, rfl⟩ := Int.eq_ofNat_of_zero_le (show 0 ≤ i by omega)
      have e1 : wrap64 ((m : Int) - 1) = ((m - 1 : Nat) : Int) := by rw [Gen.w64 (by omega) (by omega)]; omega
      rw [if_pos (c := Ln l ∧ 1 ≤ (m : Int) ∧ (m : Int) ≤ l.length - 2) ⟨h1, h2⟩, if_neg (by simp [h2]), e1, Gen.w64s (by omega), if_pos (by omega), if_pos (by omega), if_pos (by omega), if_pos (by omega), if_pos (by omega), if_pos (by omega), rdP, rdP, rdP]
      have p0 := (h1.2.2 (m - 1) (by omega)).1
      have p1 := (h1.2.2 m (by omega)).1
      have p2 := (h1.2.2 (m + 1) (by omega)).1
      rw [specCross p0 p1 p2]
      obtain ⟨_, b1, b2⟩ := crossZ_bd p0 p1 p2
      simp only [Option.bind_some]
      rw [Gen.w64 (by omega) (by omega), specMax]
      rfl
    · rw [if_pos (by simp; omega), if_neg (fun h => h2 h.2)]
  · rw [if_neg h1, if_pos trivial, if_neg (fun h => h1 h.1)]
theorem implCorner (l : List S44) (i : Int) (hl : l.length ≤ 1048576) {k : Nat} (hk : l.length + 1 < k) : impl_CornerArea.f k l i = some (crnA l i) := by
  unfold impl_CornerArea.f crnA
  rw [implIsLine l hl hk, implInRange]
  simp only [Option.bind_some, decide_eq_true_eq]
  rw [Gen.w64 (by omega) (by omega)]
  by_cases h1 : Ln l
  · rw [if_pos h1]
    by_cases h2 : 1 ≤ i ∧ i ≤ l.length - 2
    · obtain ⟨m, rfl⟩ := Int.eq_ofNat_of_zero_le (show 0 ≤ i by omega)
      have e1 : wrap64 ((m : Int) - 1) = ((m - 1 : Nat) : Int) := by rw [Gen.w64 (by omega) (by omega)]; omega
      rw [if_pos (c := Ln l ∧ 1 ≤ (m : Int) ∧ (m : Int) ≤ l.length - 2) ⟨h1, h2⟩, if_pos h2, e1, Gen.w64s (by omega), if_pos (by omega), if_pos (by omega), if_pos (by omega), if_pos (by omega), if_pos (by omega), if_pos (by omega), rdP, rdP, rdP]
      have p0 := (h1.2.2 (m - 1) (by omega)).1
      have p1 := (h1.2.2 m (by omega)).1
      have p2 := (h1.2.2 (m + 1) (by omega)).1
      unfold impl_twice.f
      rw [implCross p0 p1 p2]
      obtain ⟨_, b1, b2⟩ := crossZ_bd p0 p1 p2
      simp only [Option.bind_some]
      rw [Gen.w64 (by omega) (by omega), Gen.mx_eq]
      rfl
    · rw [if_neg h2, if_neg (fun h => h2 h.2)]
  · rw [if_neg h1, if_neg (fun h => h1 h.1)]

theorem pure_FnExactCornerArea : ∀ (l0 : (List S40)) (a1 : Int), (List.length l0 ≤ maxLen ∧ ∀ y ∈ l0, G40 y) → I64 a1 → ∃ k, laws_FnExactCornerArea.f k l0 a1 = some true := by
  intro a i ⟨ha, _⟩ _
  by_cases hl : a.length ≤ 1048576
  · refine ⟨a.length + 2, ?_⟩
    unfold laws_FnExactCornerArea.f
    rw [szPointS_some a _ ha (by omega) (by omega), if_neg (by omega)]
    simp only [Option.bind_some]
    rw [if_neg (by omega), toPointS_some a (by omega) (by omega)]
    simp only [Option.bind_some]
    rw [specCorner _ _ (by simp; omega) (by simp), implCorner _ _ (by simp; omega) (by simp), eqPointS_self _ (by simp; omega) (by simp)]
    simp
  · refine ⟨0, ?_⟩
    unfold laws_FnExactCornerArea.f
    rw [szPointS_some a _ ha (by omega) (by omega), if_pos (by omega)]; rfl

end Go.Proofs.Ytchmbcembbbplaa.PFnExactCornerArea
