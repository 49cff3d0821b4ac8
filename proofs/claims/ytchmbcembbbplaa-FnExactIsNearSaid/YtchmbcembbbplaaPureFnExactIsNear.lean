/- The plain law behind FnExactIsNear: what the printed functions compute answers true; no condition beyond the arguments' ranges. -/
import Derived.Test.YtchmbcembbbplaaGen
import Derived.Test.YtchmbcembbbplaaPFnExactIsNearx3
import Derived.Test.YtchmbcembbbplaaOpnFnExactIsNear
namespace Go.Proofs.Ytchmbcembbbplaa.PFnExactIsNear
open Go Go.RowKit Go.Proofs.YtchmbcembbbplaaW.PrintWords Go.Proofs.YtchmbcembbbplaaW.PrintLast Go.Proofs.YtchmbcembbbplaaW.PrintMore Go.Proofs.Ytchmbcembbbplaa.Open

theorem implInRange (a b c : Int) : impl_InRange.f a b c = some (decide (b ≤ a ∧ a ≤ c)) := by
  unfold impl_InRange.f; by_cases h : b ≤ a <;> simp [h]
theorem specIn (a b c : Int) : spec_l1In.f a b c = some (decide (b ≤ a ∧ a ≤ c)) := by
  unfold spec_l1In.f; by_cases h : b ≤ a <;> simp [h]

def Pt (x y : Int) : Prop := 0 ≤ x ∧ x ≤ 200 ∧ 0 ≤ y ∧ y ≤ 200
instance (x y : Int) : Decidable (Pt x y) := by unfold Pt; infer_instance
theorem implIsPoint (x y : Int) : impl_IsPoint.f x y = some (decide (Pt x y)) := by
  unfold impl_IsPoint.f
  rw [implInRange, implInRange]
  simp only [Option.bind_some]
  by_cases h : 0 ≤ x ∧ x ≤ 200
  · rw [if_pos (by simpa using h)]; simp [Pt, h]
  · rw [if_neg (by simpa using h)]; simp only [Option.some.injEq, Bool.false_eq, decide_eq_false_iff_not]; unfold Pt; omega
theorem specIsPoint (x y : Int) : spec_IsPoint.f x y = some (decide (Pt x y)) := by
  unfold spec_IsPoint.f
  rw [specIn, specIn]
  simp only [Option.bind_some]
  by_cases h : 0 ≤ x ∧ x ≤ 200
  · rw [if_pos (by simpa using h)]; simp [Pt, h]
  · rw [if_neg (by simpa using h)]; simp only [Option.some.injEq, Bool.false_eq, decide_eq_false_iff_not]; unfold Pt; omega

/-! products of differences of points in range do not go round -/
def D (n : Int) : Prop := -200 ≤ n ∧ n ≤ 200
theorem D_of {x y : Int} (hx : 0 ≤ x ∧ x ≤ 200) (hy : 0 ≤ y ∧ y ≤ 200) : wrap64 (x - y) = x - y ∧ D (x - y) := ⟨Gen.w64 (by omega) (by omega), by unfold D; omega⟩
theorem D_mul {x y : Int} (hx : D x) (hy : D y) : wrap64 (x * y) = x * y ∧ -40000 ≤ x * y ∧ x * y ≤ 40000 := by
  have := Gen.mul_bd (m := 200) (n := 200) hx hy
  exact ⟨Gen.w64 (by omega) (by omega), by omega, by omega⟩
def crossZ (ax ay bx bY px py : Int) : Int := (bx - ax) * (py - ay) - (bY - ay) * (px - ax)
theorem crossZ_bd {ax ay bx bY px py : Int} (ha : Pt ax ay) (hb : Pt bx bY) (hp : Pt px py) :
    wrap64 ((wrap64 ((wrap64 (bx - ax)) * (wrap64 (py - ay)))) - (wrap64 ((wrap64 (bY - ay)) * (wrap64 (px - ax))))) = crossZ ax ay bx bY px py ∧ -80000 ≤ crossZ ax ay bx bY px py ∧ crossZ ax ay bx bY px py ≤ 80000 := by
  obtain ⟨a1, a2, a3, a4⟩ := ha; obtain ⟨b1, b2, b3, b4⟩ := hb; obtain ⟨p1, p2, p3, p4⟩ := hp
  obtain ⟨e1, d1⟩ := D_of ⟨b1, b2⟩ ⟨a1, a2⟩
  obtain ⟨e2, d2⟩ := D_of ⟨p3, p4⟩ ⟨a3, a4⟩
  obtain ⟨e3, d3⟩ := D_of ⟨b3, b4⟩ ⟨a3, a4⟩
  obtain ⟨e4, d4⟩ := D_of ⟨p1, p2⟩ ⟨a1, a2⟩
  obtain ⟨m1, n1, o1⟩ := D_mul d1 d2
  obtain ⟨m2, n2, o2⟩ := D_mul d3 d4
  rw [e1, e2, e3, e4, m1, m2]
  unfold crossZ
  exact ⟨Gen.w64 (by omega) (by omega), by omega, by omega⟩

theorem implCross {ax ay bx bY px py : Int} (ha : Pt ax ay) (hb : Pt bx bY) (hp : Pt px py) : impl_cross.f ax ay bx bY px py = some (crossZ ax ay bx bY px py) := by
  unfold impl_cross.f; rw [(crossZ_bd ha hb hp).1]

theorem specCross {ax ay bx bY px py : Int} (ha : Pt ax ay) (hb : Pt bx bY) (hp : Pt px py) : spec_l4Cross.f ax ay bx bY px py = some (crossZ ax ay bx bY px py) := by
  unfold spec_l4Cross.f; rw [(crossZ_bd ha hb hp).1]

def farZ (ax ay bx bY : Int) : Int := (ax - bx) * (ax - bx) + (ay - bY) * (ay - bY)
theorem farZ_bd {ax ay bx bY : Int} (ha : Pt ax ay) (hb : Pt bx bY) :
    wrap64 ((wrap64 ((wrap64 (ax - bx)) * (wrap64 (ax - bx)))) + (wrap64 ((wrap64 (ay - bY)) * (wrap64 (ay - bY))))) = farZ ax ay bx bY ∧ 0 ≤ farZ ax ay bx bY ∧ farZ ax ay bx bY ≤ 80000 := by
  obtain ⟨a1, a2, a3, a4⟩ := ha; obtain ⟨b1, b2, b3, b4⟩ := hb
  obtain ⟨e1, d1⟩ := D_of ⟨a1, a2⟩ ⟨b1, b2⟩
  obtain ⟨e2, d2⟩ := D_of ⟨a3, a4⟩ ⟨b3, b4⟩
  obtain ⟨m1, n1, o1⟩ := D_mul d1 d1
  obtain ⟨m2, n2, o2⟩ := D_mul d2 d2
  have s1 : 0 ≤ (ax - bx) * (ax - bx) := by
    rcases Int.le_total 0 (ax - bx) with h | h
    · exact Int.mul_nonneg h h
    · exact Int.mul_nonneg_of_nonpos_of_nonpos h h
  have s2 : 0 ≤ (ay - bY) * (ay - bY) := by
    rcases Int.le_total 0 (ay - bY) with h | h
    · exact Int.mul_nonneg h h
    · exact Int.mul_nonneg_of_nonpos_of_nonpos h h
  rw [e1, e2, m1, m2]
  unfold farZ
  exact ⟨Gen.w64 (by omega) (by omega), by omega, by omega⟩
theorem farZ_zero {ax ay bx bY : Int} (h : farZ ax ay bx bY = 0) : ax = bx ∧ ay = bY := by
  unfold farZ at h
  have s1 : 0 ≤ (ax - bx) * (ax - bx) := by
    rcases Int.le_total 0 (ax - bx) with h | h
    · exact Int.mul_nonneg h h
    · exact Int.mul_nonneg_of_nonpos_of_nonpos h h
  have s2 : 0 ≤ (ay - bY) * (ay - bY) := by
    rcases Int.le_total 0 (ay - bY) with h | h
    · exact Int.mul_nonneg h h
    · exact Int.mul_nonneg_of_nonpos_of_nonpos h h
  have e1 : (ax - bx) * (ax - bx) = 0 := by omega
  have e2 : (ay - bY) * (ay - bY) = 0 := by omega
  have := Int.mul_eq_zero.1 e1; have := Int.mul_eq_zero.1 e2; omega

theorem implFar (ax ay bx bY : Int) : impl_FarSquared.f ax ay bx bY = some (if Pt ax ay ∧ Pt bx bY then farZ ax ay bx bY else -1) := by
  unfold impl_FarSquared.f
  rw [implIsPoint, implIsPoint]
  simp only [Option.bind_some, decide_eq_true_eq]
  by_cases ha : Pt ax ay <;> by_cases hb : Pt bx bY
  · rw [if_pos ha, if_pos hb, if_pos ⟨ha, hb⟩, (farZ_bd ha hb).1]
  · rw [if_pos ha, if_neg hb, if_neg (fun h => hb h.2)]
  · rw [if_neg ha, if_neg (fun h => ha h.1)]
  · rw [if_neg ha, if_neg (fun h => ha h.1)]
theorem implFar_ok {ax ay bx bY : Int} (ha : Pt ax ay) (hb : Pt bx bY) : impl_FarSquared.f ax ay bx bY = some (farZ ax ay bx bY) := by rw [implFar, if_pos ⟨ha, hb⟩]

theorem specFar (ax ay bx bY : Int) : spec_FarSquared.f ax ay bx bY = some (if Pt ax ay ∧ Pt bx bY then farZ ax ay bx bY else -1) := by
  unfold spec_FarSquared.f
  rw [specIsPoint, specIsPoint]
  simp only [Option.bind_some, decide_eq_true_eq]
  by_cases ha : Pt ax ay <;> by_cases hb : Pt bx bY
  · rw [if_pos ha, if_pos hb, if_pos ⟨ha, hb⟩, (farZ_bd ha hb).1]
  · rw [if_pos ha, if_neg hb, if_neg (fun h => hb h.2)]
  · rw [if_neg ha, if_neg (fun h => ha h.1)]
  · rw [if_neg ha, if_neg (fun h => ha h.1)]
theorem specFar_ok {ax ay bx bY : Int} (ha : Pt ax ay) (hb : Pt bx bY) : spec_FarSquared.f ax ay bx bY = some (farZ ax ay bx bY) := by rw [specFar, if_pos ⟨ha, hb⟩]

def Sg (ax ay bx bY : Int) : Prop := Pt ax ay ∧ Pt bx bY ∧ ¬ (ax = bx ∧ ay = bY)
instance (a b c d : Int) : Decidable (Sg a b c d) := by unfold Sg; infer_instance
theorem implIsSegment (a b c d : Int) : impl_IsSegment.f a b c d = some (decide (Sg a b c d)) := by
  unfold impl_IsSegment.f
  rw [implIsPoint, implIsPoint]
  simp only [Option.bind_some, decide_eq_true_eq]
  by_cases h1 : Pt a b
  · rw [if_pos h1]
    by_cases h2 : Pt c d
    · rw [if_pos h2]
      congr 1
      rw [Bool.eq_iff_iff, decide_eq_true_eq]
      simp only [Bool.or_eq_true, Bool.not_eq_true', beq_eq_false_iff_ne, ne_eq, Sg, h1, h2, true_and]
      omega
    · rw [if_neg h2]; simp [Sg, h2]
  · rw [if_neg h1]; simp [Sg, h1]
theorem specIsSegment (a b c d : Int) : spec_IsSegment.f a b c d = some (decide (Sg a b c d)) := by
  unfold spec_IsSegment.f
  rw [specIsPoint, specIsPoint]
  simp only [Option.bind_some, decide_eq_true_eq]
  by_cases h1 : Pt a b
  · rw [if_pos h1]
    by_cases h2 : Pt c d
    · rw [if_pos h2]
      congr 1
      rw [Bool.eq_iff_iff, decide_eq_true_eq]
      simp only [Bool.or_eq_true, Bool.not_eq_true', beq_eq_false_iff_ne, ne_eq, Sg, h1, h2, true_and]
      omega
    · rw [if_neg h2]; simp [Sg, h2]
  · rw [if_neg h1]; simp [Sg, h1]

/-- the dot product (p - a)(b - a) -/
def dotZ (ax ay bx bY px py : Int) : Int := (px - ax) * (bx - ax) + (py - ay) * (bY - ay)
theorem dotZ_bd {ax ay bx bY px py : Int} (ha : Pt ax ay) (hb : Pt bx bY) (hp : Pt px py) :
    wrap64 ((wrap64 ((wrap64 (px - ax)) * (wrap64 (bx - ax)))) + (wrap64 ((wrap64 (py - ay)) * (wrap64 (bY - ay))))) = dotZ ax ay bx bY px py := by
  obtain ⟨a1, a2, a3, a4⟩ := ha; obtain ⟨b1, b2, b3, b4⟩ := hb; obtain ⟨p1, p2, p3, p4⟩ := hp
  obtain ⟨e1, d1⟩ := D_of ⟨p1, p2⟩ ⟨a1, a2⟩
  obtain ⟨e2, d2⟩ := D_of ⟨b1, b2⟩ ⟨a1, a2⟩
  obtain ⟨e3, d3⟩ := D_of ⟨p3, p4⟩ ⟨a3, a4⟩
  obtain ⟨e4, d4⟩ := D_of ⟨b3, b4⟩ ⟨a3, a4⟩
  obtain ⟨m1, n1, o1⟩ := D_mul d1 d2
  obtain ⟨m2, n2, o2⟩ := D_mul d3 d4
  rw [e1, e2, e3, e4, m1, m2]
  unfold dotZ
  exact Gen.w64 (by omega) (by omega)
/-- the reference's distance, as a fraction -/
def farN (ax ay bx bY px py : Int) : Int := if dotZ ax ay bx bY px py ≤ 0 then farZ ax ay px py else if dotZ ax ay bx bY px py ≥ farZ bx bY ax ay then farZ bx bY px py else crossZ ax ay bx bY px py * crossZ ax ay bx bY px py
def farD (ax ay bx bY px py : Int) : Int := if dotZ ax ay bx bY px py ≤ 0 then 1 else if dotZ ax ay bx bY px py ≥ farZ bx bY ax ay then 1 else farZ bx bY ax ay
theorem farZ_comm (ax ay bx bY : Int) : farZ ax ay bx bY = farZ bx bY ax ay := by unfold farZ; grind
theorem crossSq {ax ay bx bY px py : Int} (ha : Pt ax ay) (hb : Pt bx bY) (hp : Pt px py) : wrap64 (crossZ ax ay bx bY px py * crossZ ax ay bx bY px py) = crossZ ax ay bx bY px py * crossZ ax ay bx bY px py := by
  obtain ⟨_, h1, h2⟩ := crossZ_bd ha hb hp
  have := Gen.mul_bd (m := 80000) (n := 80000) (x := crossZ ax ay bx bY px py) (y := crossZ ax ay bx bY px py) (by omega) (by omega)
  exact Gen.w64 (by omega) (by omega)
theorem specL11Far {ax ay bx bY px py : Int} (ha : Pt ax ay) (hb : Pt bx bY) (hp : Pt px py) : spec_l11Far.f ax ay bx bY px py = some (farN ax ay bx bY px py, farD ax ay bx bY px py) := by
  unfold spec_l11Far.f
  rw [dotZ_bd ha hb hp, (farZ_bd hb ha).1, specFar_ok ha hp, specFar_ok hb hp, specCross ha hb hp]
  simp only [Option.bind_some]
  rw [crossSq ha hb hp]
  unfold farN farD
  split
  · rfl
  · split <;> rfl
theorem implFarness {ax ay bx bY px py : Int} (hs : Sg ax ay bx bY) (hp : Pt px py) : impl_farness.f ax ay bx bY px py = some (farN ax ay bx bY px py * (if dotZ ax ay bx bY px py ≤ 0 ∨ dotZ ax ay bx bY px py ≥ farZ bx bY ax ay then farZ bx bY ax ay else 1), farZ bx bY ax ay) := by
  obtain ⟨ha, hb, hn⟩ := hs
  unfold impl_farness.f
  rw [implFar_ok ha hb]
  simp only [Option.bind_some]
  have h0 : farZ ax ay bx bY ≠ 0 := fun e => hn (farZ_zero e)
  rw [if_neg h0, dotZ_bd ha hb hp, implFar_ok ha hp, implFar_ok hb hp, implCross ha hb hp, farZ_comm ax ay bx bY]
  simp only [Option.bind_some]
  have b0 := (farZ_bd hb ha).2; have b1 := (farZ_bd ha hp).2; have b2 := (farZ_bd hb hp).2
  have m1 := Gen.mul_bd (m := 80000) (n := 80000) (x := farZ ax ay px py) (y := farZ bx bY ax ay) (by omega) (by omega)
  have m2 := Gen.mul_bd (m := 80000) (n := 80000) (x := farZ bx bY px py) (y := farZ bx bY ax ay) (by omega) (by omega)
  have e1 : wrap64 (farZ ax ay px py * farZ bx bY ax ay) = farZ ax ay px py * farZ bx bY ax ay := Gen.w64 (by omega) (by omega)
  have e2 : wrap64 (farZ bx bY px py * farZ bx bY ax ay) = farZ bx bY px py * farZ bx bY ax ay := Gen.w64 (by omega) (by omega)
  rw [e1, e2, crossSq ha hb hp]
  unfold farN
  by_cases c1 : dotZ ax ay bx bY px py ≤ 0
  · rw [if_pos c1, if_pos c1, if_pos (.inl c1)]
  · by_cases c2 : dotZ ax ay bx bY px py ≥ farZ bx bY ax ay
    · rw [if_neg c1, if_pos c2, if_neg c1, if_pos c2, if_pos (.inr c2)]
    · rw [if_neg c1, if_neg c2, if_neg c1, if_neg c2, if_neg (fun h => by omega), Int.mul_one]
/-- near: by the reference's fraction -/
def Nr (ax ay bx bY px py n : Int) : Prop := farN ax ay bx bY px py ≤ n * n * farD ax ay bx bY px py
instance (a b c d e f n : Int) : Decidable (Nr a b c d e f n) := by unfold Nr; infer_instance
theorem farD_bd {ax ay bx bY px py : Int} (hs : Sg ax ay bx bY) : 1 ≤ farD ax ay bx bY px py ∧ farD ax ay bx bY px py ≤ 80000 := by
  obtain ⟨ha, hb, hn⟩ := hs
  have b0 := (farZ_bd hb ha).2
  have h0 : farZ bx bY ax ay ≠ 0 := fun e => hn (by have := farZ_zero e; omega)
  unfold farD
  split
  · omega
  · split <;> omega
theorem near_wrap {n d : Int} (hn : 0 ≤ n ∧ n ≤ 200) (hd : 0 ≤ d ∧ d ≤ 80000) : wrap64 ((wrap64 (n * n)) * d) = n * n * d := by
  have m1 := Gen.mul_bd (m := 200) (n := 200) (x := n) (y := n) (by omega) (by omega)
  have e1 : wrap64 (n * n) = n * n := Gen.w64 (by omega) (by omega)
  rw [e1]
  have m2 := Gen.mul_bd (m := 40000) (n := 80000) (x := n * n) (y := d) (by omega) (by omega)
  exact Gen.w64 (by omega) (by omega)
theorem specNear {ax ay bx bY px py n : Int} : spec_IsNear.f ax ay bx bY px py n = some (decide (Sg ax ay bx bY ∧ Pt px py ∧ (0 ≤ n ∧ n ≤ 200) ∧ Nr ax ay bx bY px py n)) := by
  unfold spec_IsNear.f
  rw [specIsSegment, specIsPoint, specIn]
  simp only [Option.bind_some, decide_eq_true_eq]
  by_cases h1 : Sg ax ay bx bY
  · by_cases h2 : Pt px py
    · by_cases h3 : 0 ≤ n ∧ n ≤ 200
      · have hd := farD_bd (px := px) (py := py) h1
        rw [if_pos h1, if_pos h2, if_pos h3, specL11Far h1.1 h1.2.1 h2]
        simp only [Option.bind_some]
        rw [near_wrap h3 (by omega)]
        simp [h1, h2, h3, Nr]
      · rw [if_pos h1, if_pos h2, if_neg h3]; simp [h3]
    · rw [if_pos h1, if_neg h2]; simp [h2]
  · rw [if_neg h1]; simp [h1]
theorem near_iff {ax ay bx bY px py n : Int} (h1 : Sg ax ay bx bY) :
    farN ax ay bx bY px py * (if dotZ ax ay bx bY px py ≤ 0 ∨ dotZ ax ay bx bY px py ≥ farZ bx bY ax ay then farZ bx bY ax ay else 1) ≤ n * n * farZ bx bY ax ay ↔ Nr ax ay bx bY px py n := by
  have b0 := (farZ_bd h1.2.1 h1.1).2
  have h0 : farZ bx bY ax ay ≠ 0 := fun e => h1.2.2 (by have := farZ_zero e; omega)
  have hp : 0 < farZ bx bY ax ay := by omega
  unfold Nr farD
  by_cases c1 : dotZ ax ay bx bY px py ≤ 0
  · rw [if_pos (.inl c1), if_pos c1, Int.mul_one]
    exact Int.mul_le_mul_right hp
  · by_cases c2 : dotZ ax ay bx bY px py ≥ farZ bx bY ax ay
    · rw [if_pos (.inr c2), if_neg c1, if_pos c2, Int.mul_one]
      exact Int.mul_le_mul_right hp
    · rw [if_neg (fun h => by omega), if_neg c1, if_neg c2, Int.mul_one]
theorem implNear {ax ay bx bY px py n : Int} : impl_IsNear.f ax ay bx bY px py n = some (decide (Sg ax ay bx bY ∧ Pt px py ∧ (0 ≤ n ∧ n ≤ 200) ∧ Nr ax ay bx bY px py n)) := by
  unfold impl_IsNear.f
  rw [implIsSegment, implIsPoint, implInRange]
  simp only [Option.bind_some, decide_eq_true_eq]
  by_cases h1 : Sg ax ay bx bY
  · by_cases h2 : Pt px py
    · by_cases h3 : 0 ≤ n ∧ n ≤ 200
      · have b0 := (farZ_bd h1.2.1 h1.1).2
        rw [if_pos h1, if_pos h2, if_pos h3, implFarness h1 h2]
        simp only [Option.bind_some]
        rw [near_wrap h3 (by omega)]
        simp only [near_iff h1, h1, h2, h3, true_and, and_self]
      · rw [if_pos h1, if_pos h2, if_neg h3]; simp [h3]
    · rw [if_pos h1, if_neg h2]; simp [h2]
  · rw [if_neg h1]; simp [h1]

theorem pure_FnExactIsNear : ∀ (a0_0 : Int) (a0_1 : Int) (a0_2 : Int) (a0_3 : Int) (a1_0 : Int) (a1_1 : Int) (a2 : Int), (((I64 a0_0) ∧ (I64 a0_1)) ∧ ((I64 a0_2) ∧ (I64 a0_3))) → ((I64 a1_0) ∧ (I64 a1_1)) → I64 a2 → laws_FnExactIsNear.f a0_0 a0_1 a0_2 a0_3 a1_0 a1_1 a2 = some true := by
  intro _ _ _ _ _ _ _ _ _ _
  simp only [laws_FnExactIsNear.f, laws_toSegment.f, laws_toPoint.f, specNear, implNear, Option.bind_some]
  simp

end Go.Proofs.Ytchmbcembbbplaa.PFnExactIsNear
