/- The plain law behind FnExactIsFaithful: what the printed functions compute answers true; no condition beyond the arguments' ranges. -/
import Derived.Test.YtchmbcembbbplabTold
import Derived.Test.YtchmbcembbbplabMFnExactIsFaithfulx7
import Derived.Test.YtchmbcembbbplabOpnFnExactIsFaithful
namespace Go.Proofs.Ytchmbcembbbplab.MFnExactIsFaithful
open Go Go.RowKit Go.Proofs.YtchmbcembbbplabW.PrintWords Go.Proofs.YtchmbcembbbplabW.PrintLast Go.Proofs.YtchmbcembbbplabW.PrintMore Go.Proofs.Ytchmbcembbbplab.Open

theorem implInRange (a b c : Int) : impl_InRange.f a b c = some (decide (b ≤ a ∧ a ≤ c)) := by
  unfold impl_InRange.f; by_cases h : b ≤ a <;> simp [h]
theorem specIn (a b c : Int) : spec_l1In.f a b c = some (decide (b ≤ a ∧ a ≤ c)) := by
  unfold spec_l1In.f; by_cases h : b ≤ a <;> simp [h]

def Pt (x y : Int) : Prop := 0 ≤ x ∧ x ≤ 200 ∧ 0 ≤ y ∧ y ≤ 200
instance (x y : Int) : Decidable (Pt x y) := by unfold Pt; infer_instance
theorem implIsPoint (x y : Int) : impl_IsPoint.f x y = some (decide (Pt x y)) := by
  unfold impl_IsPoint.f
  rw [implInRange, implInRange]
  simp only [Option.bind_some]
  by_cases h : 0 ≤ x ∧ x ≤ 200
  · rw [if_pos (by simpa using h)]; simp [Pt, h]
  · rw [if_neg (by simpa using h)]; simp only [Option.some.injEq, Bool.false_eq, decide_eq_false_iff_not]; unfold Pt; omega
theorem specIsPoint (x y : Int) : spec_IsPoint.f x y = some (decide (Pt x y)) := by
  unfold spec_IsPoint.f
  rw [specIn, specIn]
  simp only [Option.bind_some]
  by_cases h : 0 ≤ x ∧ x ≤ 200
  · rw [if_pos (by simpa using h)]; simp [Pt, h]
  · rw [if_neg (by simpa using h)]; simp only [Option.some.injEq, Bool.false_eq, decide_eq_false_iff_not]; unfold Pt; omega

/-! products of differences of points in range do not go round -/
def D (n : Int) : Prop := -200 ≤ n ∧ n ≤ 200
theorem D_of {x y : Int} (hx : 0 ≤ x ∧ x ≤ 200) (hy : 0 ≤ y ∧ y ≤ 200) : wrap64 (x - y) = x - y ∧ D (x - y) := ⟨Gen.w64 (by omega) (by omega), by unfold D; omega⟩
theorem D_mul {x y : Int} (hx : D x) (hy : D y) : wrap64 (x * y) = x * y ∧ -40000 ≤ x * y ∧ x * y ≤ 40000 := by
  have := Gen.mul_bd (m := 200) (n := 200) hx hy
  exact ⟨Gen.w64 (by omega) (by omega), by omega, by omega⟩
def crossZ (ax ay bx bY px py : Int) : Int := (bx - ax) * (py - ay) - (bY - ay) * (px - ax)
theorem crossZ_bd {ax ay bx bY px py : Int} (ha : Pt ax ay) (hb : Pt bx bY) (hp : Pt px py) :
    wrap64 ((wrap64 ((wrap64 (bx - ax)) * (wrap64 (py - ay)))) - (wrap64 ((wrap64 (bY - ay)) * (wrap64 (px - ax))))) = crossZ ax ay bx bY px py ∧ -80000 ≤ crossZ ax ay bx bY px py ∧ crossZ ax ay bx bY px py ≤ 80000 := by
  obtain ⟨a1, a2, a3, a4⟩ := ha; obtain ⟨b1, b2, b3, b4⟩ := hb; obtain ⟨p1, p2, p3, p4⟩ := hp
  obtain ⟨e1, d1⟩ := D_of ⟨b1, b2⟩ ⟨a1, a2⟩
  obtain ⟨e2, d2⟩ := D_of ⟨p3, p4⟩ ⟨a3, a4⟩
  obtain ⟨e3, d3⟩ := D_of ⟨b3, b4⟩ ⟨a3, a4⟩
  obtain ⟨e4, d4⟩ := D_of ⟨p1, p2⟩ ⟨a1, a2⟩
  obtain ⟨m1, n1, o1⟩ := D_mul d1 d2
  obtain ⟨m2, n2, o2⟩ := D_mul d3 d4
  rw [e1, e2, e3, e4, m1, m2]
  unfold crossZ
  exact ⟨Gen.w64 (by omega) (by omega), by omega, by omega⟩

theorem implCross {ax ay bx bY px py : Int} (ha : Pt ax ay) (hb : Pt bx bY) (hp : Pt px py) : impl_cross.f ax ay bx bY px py = some (crossZ ax ay bx bY px py) := by
  unfold impl_cross.f; rw [(crossZ_bd ha hb hp).1]

theorem specCross {ax ay bx bY px py : Int} (ha : Pt ax ay) (hb : Pt bx bY) (hp : Pt px py) : spec_l4Cross.f ax ay bx bY px py = some (crossZ ax ay bx bY px py) := by
  unfold spec_l4Cross.f; rw [(crossZ_bd ha hb hp).1]

def farZ (ax ay bx bY : Int) : Int := (ax - bx) * (ax - bx) + (ay - bY) * (ay - bY)
theorem farZ_bd {ax ay bx bY : Int} (ha : Pt ax ay) (hb : Pt bx bY) :
    wrap64 ((wrap64 ((wrap64 (ax - bx)) * (wrap64 (ax - bx)))) + (wrap64 ((wrap64 (ay - bY)) * (wrap64 (ay - bY))))) = farZ ax ay bx bY ∧ 0 ≤ farZ ax ay bx bY ∧ farZ ax ay bx bY ≤ 80000 := by
  obtain ⟨a1, a2, a3, a4⟩ := ha; obtain ⟨b1, b2, b3, b4⟩ := hb
  obtain ⟨e1, d1⟩ := D_of ⟨a1, a2⟩ ⟨b1, b2⟩
  obtain ⟨e2, d2⟩ := D_of ⟨a3, a4⟩ ⟨b3, b4⟩
  obtain ⟨m1, n1, o1⟩ := D_mul d1 d1
  obtain ⟨m2, n2, o2⟩ := D_mul d2 d2
  have s1 : 0 ≤ (ax - bx) * (ax - bx) := by
    rcases Int.le_total 0 (ax - bx) with h | h
    · exact Int.mul_nonneg h h
    · exact Int.mul_nonneg_of_nonpos_of_nonpos h h
  have s2 : 0 ≤ (ay - bY) * (ay - bY) := by
    rcases Int.le_total 0 (ay - bY) with h | h
    · exact Int.mul_nonneg h h
    · exact Int.mul_nonneg_of_nonpos_of_nonpos h h
  rw [e1, e2, m1, m2]
  unfold farZ
  exact ⟨Gen.w64 (by omega) (by omega), by omega, by omega⟩
theorem farZ_zero {ax ay bx bY : Int} (h : farZ ax ay bx bY = 0) : ax = bx ∧ ay = bY := by
  unfold farZ at h
  have s1 : 0 ≤ (ax - bx) * (ax - bx) := by
    rcases Int.le_total 0 (ax - bx) with h | h
    · exact Int.mul_nonneg h h
    · exact Int.mul_nonneg_of_nonpos_of_nonpos h h
  have s2 : 0 ≤ (ay - bY) * (ay - bY) := by
    rcases Int.le_total 0 (ay - bY) with h | h
    · exact Int.mul_nonneg h h
    · exact Int.mul_nonneg_of_nonpos_of_nonpos h h
  have e1 : (ax - bx) * (ax - bx) = 0 := by omega
  have e2 : (ay - bY) * (ay - bY) = 0 := by omega
  have := Int.mul_eq_zero.1 e1; have := Int.mul_eq_zero.1 e2; omega

theorem implFar (ax ay bx bY : Int) : impl_FarSquared.f ax ay bx bY = some (if Pt ax ay ∧ Pt bx bY then farZ ax ay bx bY else -1) := by
  unfold impl_FarSquared.f
  rw [implIsPoint, implIsPoint]
  simp only [Option.bind_some, decide_eq_true_eq]
  by_cases ha : Pt ax ay <;> by_cases hb : Pt bx bY
  · rw [if_pos ha, if_pos hb, if_pos ⟨ha, hb⟩, (farZ_bd ha hb).1]
  · rw [if_pos ha, if_neg hb, if_neg (fun h => hb h.2)]
  · rw [if_neg ha, if_neg (fun h => ha h.1)]
  · rw [if_neg ha, if_neg (fun h => ha h.1)]
theorem implFar_ok {ax ay bx bY : Int} (ha : Pt ax ay) (hb : Pt bx bY) : impl_FarSquared.f ax ay bx bY = some (farZ ax ay bx bY) := by rw [implFar, if_pos ⟨ha, hb⟩]

theorem specFar (ax ay bx bY : Int) : spec_FarSquared.f ax ay bx bY = some (if Pt ax ay ∧ Pt bx bY then farZ ax ay bx bY else -1) := by
  unfold spec_FarSquared.f
  rw [specIsPoint, specIsPoint]
  simp only [Option.bind_some, decide_eq_true_eq]
  by_cases ha : Pt ax ay <;> by_cases hb : Pt bx bY
  · rw [if_pos ha, if_pos hb, if_pos ⟨ha, hb⟩, (farZ_bd ha hb).1]
  · rw [if_pos ha, if_neg hb, if_neg (fun h => hb h.2)]
  · rw [if_neg ha, if_neg (fun h => ha h.1)]
  · rw [if_neg ha, if_neg (fun h => ha h.1)]
theorem specFar_ok {ax ay bx bY : Int} (ha : Pt ax ay) (hb : Pt bx bY) : spec_FarSquared.f ax ay bx bY = some (farZ ax ay bx bY) := by rw [specFar, if_pos ⟨ha, hb⟩]

def Sg (ax ay bx bY : Int) : Prop := Pt ax ay ∧ Pt bx bY ∧ ¬ (ax = bx ∧ ay = bY)
instance (a b c d : Int) : Decidable (Sg a b c d) := by unfold Sg; infer_instance
theorem implIsSegment (a b c d : Int) : impl_IsSegment.f a b c d = some (decide (Sg a b c d)) := by
  unfold impl_IsSegment.f
  rw [implIsPoint, implIsPoint]
  simp only [Option.bind_some, decide_eq_true_eq]
  by_cases h1 : Pt a b
  · rw [if_pos h1]
    by_cases h2 : Pt c d
    · rw [if_pos h2]
      congr 1
      rw [Bool.eq_iff_iff, decide_eq_true_eq]
      simp only [Bool.or_eq_true, Bool.not_eq_true', beq_eq_false_iff_ne, ne_eq, Sg, h1, h2, true_and]
      omega
    · rw [if_neg h2]; simp [Sg, h2]
  · rw [if_neg h1]; simp [Sg, h1]
theorem specIsSegment (a b c d : Int) : spec_IsSegment.f a b c d = some (decide (Sg a b c d)) := by
  unfold spec_IsSegment.f
  rw [specIsPoint, specIsPoint]
  simp only [Option.bind_some, decide_eq_true_eq]
  by_cases h1 : Pt a b
  · rw [if_pos h1]
    by_cases h2 : Pt c d
    · rw [if_pos h2]
      congr 1
      rw [Bool.eq_iff_iff, decide_eq_true_eq]
      simp only [Bool.or_eq_true, Bool.not_eq_true', beq_eq_false_iff_ne, ne_eq, Sg, h1, h2, true_and]
      omega
    · rw [if_neg h2]; simp [Sg, h2]
  · rw [if_neg h1]; simp [Sg, h1]

/-- the dot product (p - a)(b - a) -/
def dotZ (ax ay bx bY px py : Int) : Int := (px - ax) * (bx - ax) + (py - ay) * (bY - ay)
theorem dotZ_bd {ax ay bx bY px py : Int} (ha : Pt ax ay) (hb : Pt bx bY) (hp : Pt px py) :
    wrap64 ((wrap64 ((wrap64 (px - ax)) * (wrap64 (bx - ax)))) + (wrap64 ((wrap64 (py - ay)) * (wrap64 (bY - ay))))) = dotZ ax ay bx bY px py := by
  obtain ⟨a1, a2, a3, a4⟩ := ha; obtain ⟨b1, b2, b3, b4⟩ := hb; obtain ⟨p1, p2, p3, p4⟩ := hp
  obtain ⟨e1, d1⟩ := D_of ⟨p1, p2⟩ ⟨a1, a2⟩
  obtain ⟨e2, d2⟩ := D_of ⟨b1, b2⟩ ⟨a1, a2⟩
  obtain ⟨e3, d3⟩ := D_of ⟨p3, p4⟩ ⟨a3, a4⟩
  obtain ⟨e4, d4⟩ := D_of ⟨b3, b4⟩ ⟨a3, a4⟩
  obtain ⟨m1, n1, o1⟩ := D_mul d1 d2
  obtain ⟨m2, n2, o2⟩ := D_mul d3 d4
  rw [e1, e2, e3, e4, m1, m2]
  unfold dotZ
  exact Gen.w64 (by omega) (by omega)
/-- the reference's distance, as a fraction -/
def farN (ax ay bx bY px py : Int) : Int := if dotZ ax ay bx bY px py ≤ 0 then farZ ax ay px py else if dotZ ax ay bx bY px py ≥ farZ bx bY ax ay then farZ bx bY px py else crossZ ax ay bx bY px py * crossZ ax ay bx bY px py
def farD (ax ay bx bY px py : Int) : Int := if dotZ ax ay bx bY px py ≤ 0 then 1 else if dotZ ax ay bx bY px py ≥ farZ bx bY ax ay then 1 else farZ bx bY ax ay
theorem farZ_comm (ax ay bx bY : Int) : farZ ax ay bx bY = farZ bx bY ax ay := by unfold farZ; grind
theorem crossSq {ax ay bx bY px py : Int} (ha : Pt ax ay) (hb : Pt bx bY) (hp : Pt px py) : wrap64 (crossZ ax ay bx bY px py * crossZ ax ay bx bY px py) = crossZ ax ay bx bY px py * crossZ ax ay bx bY px py := by
  obtain ⟨_, h1, h2⟩ := crossZ_bd ha hb hp
  have := Gen.mul_bd (m := 80000) (n := 80000) (x := crossZ ax ay bx bY px py) (y := crossZ ax ay bx bY px py) (by omega) (by omega)
  exact Gen.w64 (by omega) (by omega)
theorem specL11Far {ax ay bx bY px py : Int} (ha : Pt ax ay) (hb : Pt bx bY) (hp : Pt px py) : spec_l11Far.f ax ay bx bY px py = some (farN ax ay bx bY px py, farD ax ay bx bY px py) := by
  unfold spec_l11Far.f
  rw [dotZ_bd ha hb hp, (farZ_bd hb ha).1, specFar_ok ha hp, specFar_ok hb hp, specCross ha hb hp]
  simp only [Option.bind_some]
  rw [crossSq ha hb hp]
  unfold farN farD
  split
  · rfl
  · split <;> rfl
theorem implFarness {ax ay bx bY px py : Int} (hs : Sg ax ay bx bY) (hp : Pt px py) : impl_farness.f ax ay bx bY px py = some (farN ax ay bx bY px py * (if dotZ ax ay bx bY px py ≤ 0 ∨ dotZ ax ay bx bY px py ≥ farZ bx bY ax ay then farZ bx bY ax ay else 1), farZ bx bY ax ay) := by
  obtain ⟨ha, hb, hn⟩ := hs
  unfold impl_farness.f
  rw [implFar_ok ha hb]
  simp only [Option.bind_some]
  have h0 : farZ ax ay bx bY ≠ 0 := fun e => hn (farZ_zero e)
  rw [if_neg h0, dotZ_bd ha hb hp, implFar_ok ha hp, implFar_ok hb hp, implCross ha hb hp, farZ_comm ax ay bx bY]
  simp only [Option.bind_some]
  have b0 := (farZ_bd hb ha).2; have b1 := (farZ_bd ha hp).2; have b2 := (farZ_bd hb hp).2
  have m1 := Gen.mul_bd (m := 80000) (n := 80000) (x := farZ ax ay px py) (y := farZ bx bY ax ay) (by omega) (by omega)
  have m2 := Gen.mul_bd (m := 80000) (n := 80000) (x := farZ bx bY px py) (y := farZ bx bY ax ay) (by omega) (by omega)
  have e1 : wrap64 (farZ ax ay px py * farZ bx bY ax ay) = farZ ax ay px py * farZ bx bY ax ay := Gen.w64 (by omega) (by omega)
  have e2 : wrap64 (farZ bx bY px py * farZ bx bY ax ay) = farZ bx bY px py * farZ bx bY ax ay := Gen.w64 (by omega) (by omega)
  rw [e1, e2, crossSq ha hb hp]
  unfold farN
  by_cases c1 : dotZ ax ay bx bY px py ≤ 0
  · rw [if_pos c1, if_pos c1, if_pos (.inl c1)]
  · by_cases c2 : dotZ ax ay bx bY px py ≥ farZ bx bY ax ay
    · rw [if_neg c1, if_pos c2, if_neg c1, if_pos c2, if_pos (.inr c2)]
    · rw [if_neg c1, if_neg c2, if_neg c1, if_neg c2, if_neg (fun h => by omega), Int.mul_one]
/-- near: by the reference's fraction -/
def Nr (ax ay bx bY px py n : Int) : Prop := farN ax ay bx bY px py ≤ n * n * farD ax ay bx bY px py
instance (a b c d e f n : Int) : Decidable (Nr a b c d e f n) := by unfold Nr; infer_instance
theorem farD_bd {ax ay bx bY px py : Int} (hs : Sg ax ay bx bY) : 1 ≤ farD ax ay bx bY px py ∧ farD ax ay bx bY px py ≤ 80000 := by
  obtain ⟨ha, hb, hn⟩ := hs
  have b0 := (farZ_bd hb ha).2
  have h0 : farZ bx bY ax ay ≠ 0 := fun e => hn (by have := farZ_zero e; omega)
  unfold farD
  split
  · omega
  · split <;> omega
theorem near_wrap {n d : Int} (hn : 0 ≤ n ∧ n ≤ 200) (hd : 0 ≤ d ∧ d ≤ 80000) : wrap64 ((wrap64 (n * n)) * d) = n * n * d := by
  have m1 := Gen.mul_bd (m := 200) (n := 200) (x := n) (y := n) (by omega) (by omega)
  have e1 : wrap64 (n * n) = n * n := Gen.w64 (by omega) (by omega)
  rw [e1]
  have m2 := Gen.mul_bd (m := 40000) (n := 80000) (x := n * n) (y := d) (by omega) (by omega)
  exact Gen.w64 (by omega) (by omega)
theorem specNear {ax ay bx bY px py n : Int} : spec_IsNear.f ax ay bx bY px py n = some (decide (Sg ax ay bx bY ∧ Pt px py ∧ (0 ≤ n ∧ n ≤ 200) ∧ Nr ax ay bx bY px py n)) := by
  unfold spec_IsNear.f
  rw [specIsSegment, specIsPoint, specIn]
  simp only [Option.bind_some, decide_eq_true_eq]
  by_cases h1 : Sg ax ay bx bY
  · by_cases h2 : Pt px py
    · by_cases h3 : 0 ≤ n ∧ n ≤ 200
      · have hd := farD_bd (px := px) (py := py) h1
        rw [if_pos h1, if_pos h2, if_pos h3, specL11Far h1.1 h1.2.1 h2]
        simp only [Option.bind_some]
        rw [near_wrap h3 (by omega)]
        simp [h1, h2, h3, Nr]
      · rw [if_pos h1, if_pos h2, if_neg h3]; simp [h3]
    · rw [if_pos h1, if_neg h2]; simp [h2]
  · rw [if_neg h1]; simp [h1]
theorem near_iff {ax ay bx bY px py n : Int} (h1 : Sg ax ay bx bY) :
    farN ax ay bx bY px py * (if dotZ ax ay bx bY px py ≤ 0 ∨ dotZ ax ay bx bY px py ≥ farZ bx bY ax ay then farZ bx bY ax ay else 1) ≤ n * n * farZ bx bY ax ay ↔ Nr ax ay bx bY px py n := by
  have b0 := (farZ_bd h1.2.1 h1.1).2
  have h0 : farZ bx bY ax ay ≠ 0 := fun e => h1.2.2 (by have := farZ_zero e; omega)
  have hp : 0 < farZ bx bY ax ay := by omega
  unfold Nr farD
  by_cases c1 : dotZ ax ay bx bY px py ≤ 0
  · rw [if_pos (.inl c1), if_pos c1, Int.mul_one]
    exact Int.mul_le_mul_right hp
  · by_cases c2 : dotZ ax ay bx bY px py ≥ farZ bx bY ax ay
    · rw [if_pos (.inr c2), if_neg c1, if_pos c2, Int.mul_one]
      exact Int.mul_le_mul_right hp
    · rw [if_neg (fun h => by omega), if_neg c1, if_neg c2, Int.mul_one]
theorem implNear {ax ay bx bY px py n : Int} : impl_IsNear.f ax ay bx bY px py n = some (decide (Sg ax ay bx bY ∧ Pt px py ∧ (0 ≤ n ∧ n ≤ 200) ∧ Nr ax ay bx bY px py n)) := by
  unfold impl_IsNear.f
  rw [implIsSegment, implIsPoint, implInRange]
  simp only [Option.bind_some, decide_eq_true_eq]
  by_cases h1 : Sg ax ay bx bY
  · by_cases h2 : Pt px py
    · by_cases h3 : 0 ≤ n ∧ n ≤ 200
      · have b0 := (farZ_bd h1.2.1 h1.1).2
        rw [if_pos h1, if_pos h2, if_pos h3, implFarness h1 h2]
        simp only [Option.bind_some]
        rw [near_wrap h3 (by omega)]
        simp only [near_iff h1, h1, h2, h3, true_and, and_self]
      · rw [if_pos h1, if_pos h2, if_neg h3]; simp [h3]
    · rw [if_pos h1, if_neg h2]; simp [h2]
  · rw [if_neg h1]; simp [h1]

/-! points: laws' to impl's -/
def cP (p : S77) : S27 := ⟨p.f0, p.f1⟩
theorem toPointS_some (l : List S77) (hl : l.length ≤ 1048576) {k : Nat} (hk : l.length < k) : laws_toPointS.f k l = some (l.map cP) := by
  unfold laws_toPointS.f
  rw [if_pos (by omega), if_pos (by omega)]
  have := Gen.fill_all l z77 cP 0 (fun k out i => laws_toPointS.l0 k l out i) (fun k out i _ hi ho => by
      simp only [laws_toPointS.l0]
      rw [if_pos (by omega), if_pos (by omega)]
      simp only [laws_toPoint.f, Option.bind_some]
      rw [if_pos (by omega), Gen.w64s (by omega)]
      rfl) (fun k out ho => by
      simp only [laws_toPointS.l0]
      rw [if_neg (by omega)]) (k := k) (out := List.replicate l.length z27) (by simp) (by omega)
  simpa using this
theorem szPointS_some (l : List S77) (a : Int) (hl : l.length ≤ maxLen) (ha : 0 ≤ a) (ha' : a ≤ 1048576) : laws_szPointS.f l a = some (if a < l.length then -1 else a - l.length) := by
  unfold laws_szPointS.f
  unfold maxLen at hl
  rw [Gen.w64 (by omega) (by omega)]
  split <;> split <;> first | rfl | omega

theorem eqPointS_self (a : List S27) (hl : a.length ≤ 1048576) {k : Nat} (hk : a.length < k) : laws_eqPointS.f k a a = some true := by
  unfold laws_eqPointS.f
  rw [if_pos rfl]
  refine Gen.up_all a.length 0 true (fun k i => laws_eqPointS.l0 k a a i) (fun k i _ hi => ?_) (fun k _ => ?_) (k := k) (by omega)
  · simp only [laws_eqPointS.l0, laws_eqPoint.f]
    rw [if_pos (by omega), if_pos (by omega), if_pos (by omega)]
    simp only [if_true, Option.bind_some]
    rw [Gen.w64s (by omega)]
  · simp only [laws_eqPointS.l0]
    rw [if_neg (by omega)]

/-! lines -/
def Ln (l : List S27) : Prop := 2 ≤ l.length ∧ l.length ≤ 10 ∧ ∀ i, i < l.length → Pt (l.getD i z27).f0 (l.getD i z27).f1 ∧ ¬ (0 < i ∧ (l.getD (i - 1) z27).f0 = (l.getD i z27).f0 ∧ (l.getD (i - 1) z27).f1 = (l.getD i z27).f1)
def lnChk (l : List S27) (i : Nat) : Bool := decide (Pt (l.getD i z27).f0 (l.getD i z27).f1 ∧ ¬ (0 < i ∧ (l.getD (i - 1) z27).f0 = (l.getD i z27).f0 ∧ (l.getD (i - 1) z27).f1 = (l.getD i z27).f1))
instance (l : List S27) : Decidable (Ln l) := decidable_of_iff ((2 ≤ l.length ∧ l.length ≤ 10) ∧ ∀ i, i < l.length → lnChk l i = true) (by unfold Ln lnChk; simp only [decide_eq_true_eq, and_assoc])
theorem rdP (l : List S27) (i : Nat) : rd_T27 l (i : Int) = l.getD i z27 := rfl

theorem specIsLine (l : List S27) (hl : l.length ≤ 1048576) {k : Nat} (hk : l.length < k) : spec_IsLine.f k l = some (decide (Ln l)) := by
  unfold spec_IsLine.f
  rw [Gen.scan_all l.length 0 (lnChk l) (decide (2 ≤ l.length ∧ l.length ≤ 10)) (fun k i => spec_IsLine.l0 k l i) (fun k i _ hi => by
    simp only [spec_IsLine.l0]
    rw [if_pos (by omega), if_pos (by omega), specIsPoint, rdP]
    simp only [Option.bind_some, decide_eq_true_eq]
    unfold lnChk
    by_cases h1 : Pt (l.getD i z27).f0 (l.getD i z27).f1
    · rw [if_pos h1]
      by_cases h0 : 0 < i
      · have e1 : wrap64 ((i : Int) - 1) = ((i - 1 : Nat) : Int) := by rw [Gen.w64 (by omega) (by omega)]; omega
        rw [if_pos (by omega), e1, if_pos (by omega), if_pos (by omega), rdP, Gen.w64s (by omega)]
        by_cases h2 : (l.getD (i - 1) z27).f0 = (l.getD i z27).f0 ∧ (l.getD (i - 1) z27).f1 = (l.getD i z27).f1
        · rw [if_pos (by simpa using h2), if_neg (by simp only [decide_eq_true_eq]; exact fun h => h.2 ⟨h0, h2⟩)]
        · rw [if_neg (by simpa using h2), if_pos (by simp only [decide_eq_true_eq]; exact ⟨h1, fun h => h2 h.2⟩)]
      · rw [if_neg (by omega), if_pos (by simp only [decide_eq_true_eq]; exact ⟨h1, fun h => h0 h.1⟩), Gen.w64s (by omega)]
    · rw [if_neg h1, if_neg (by simp only [decide_eq_true_eq]; exact fun h => h1 h.1)]) (fun k _ => by
    simp only [spec_IsLine.l0]
    rw [if_neg (by omega), specIn]
    simp only [Option.bind_some, Option.some.injEq, decide_eq_decide]
    omega) (by omega)]
  congr 1
  rw [Bool.eq_iff_iff, Bool.and_eq_true, decide_eq_true_eq, decide_eq_true_eq, decide_eq_true_eq]
  unfold Ln lnChk
  simp only [decide_eq_true_eq]
  constructor
  · rintro ⟨h1, h2, h3⟩; exact ⟨h2, h3, h1⟩
  · rintro ⟨h1, h2, h3⟩; exact ⟨h3, h1, h2⟩

theorem implIsLine (l : List S27) (hl : l.length ≤ 1048576) {k : Nat} (hk : l.length + 1 < k) : impl_IsLine.f k l = some (decide (Ln l)) := by
  obtain ⟨k, rfl⟩ : ∃ m, k = m + 1 := ⟨k - 1, by omega⟩
  unfold impl_IsLine.f
  simp only [impl_IsLine.j0]
  by_cases h2 : l.length < 2
  · rw [if_pos (by omega), if_pos trivial]
    congr 1
    rw [eq_comm, decide_eq_false_iff_not]
    intro h; have := h.1; omega
  · rw [if_neg (by omega)]
    by_cases h10 : l.length > 10
    · rw [if_pos (by rw [decide_eq_true_eq]; omega)]
      congr 1
      rw [eq_comm, decide_eq_false_iff_not]
      intro h; have := h.2.1; omega
    · rw [if_neg (by rw [decide_eq_true_eq]; omega)]
      rw [Gen.scan_all l.length 0 (lnChk l) true (fun k i => impl_IsLine.l0 k l l l.length i) (fun k i _ hi => by
        simp only [impl_IsLine.l0]
        rw [if_pos (by omega), if_pos (by omega), if_pos (by omega), implIsPoint, rdP]
        simp only [Option.bind_some, decide_eq_true_eq]
        unfold lnChk
        by_cases h1 : Pt (l.getD i z27).f0 (l.getD i z27).f1
        · rw [if_pos h1]
          by_cases h0 : 0 < i
          · have e1 : wrap64 ((i : Int) - 1) = ((i - 1 : Nat) : Int) := by rw [Gen.w64 (by omega) (by omega)]; omega
            rw [if_pos (by omega), e1, if_pos (by omega), if_pos (by omega), rdP, Gen.w64s (by omega)]
            by_cases h2 : (l.getD (i - 1) z27).f0 = (l.getD i z27).f0 ∧ (l.getD (i - 1) z27).f1 = (l.getD i z27).f1
            · rw [if_pos (by rw [h2.1, h2.2]; simp), if_neg (by simp only [decide_eq_true_eq]; exact fun h => h.2 ⟨h0, h2⟩)]
            · rw [if_neg (by simp only [Bool.and_eq_true, beq_iff_eq]; exact fun h => h2 ⟨h.1.symm, h.2.symm⟩), if_pos (by simp only [decide_eq_true_eq]; exact ⟨h1, fun h => h2 h.2⟩)]
          · rw [if_neg (by omega), if_pos (by simp only [decide_eq_true_eq]; exact ⟨h1, fun h => h0 h.1⟩), Gen.w64s (by omega)]
        · rw [if_neg h1, if_neg (by simp only [decide_eq_true_eq]; exact fun h => h1 h.1)]) (fun k _ => by
        simp only [impl_IsLine.l0]
        rw [if_neg (by omega)]) (by omega)]
      congr 1
      rw [Bool.eq_iff_iff, Bool.and_eq_true, decide_eq_true_eq, decide_eq_true_eq]
      unfold Ln lnChk
      simp only [decide_eq_true_eq, and_true]
      constructor
      · intro h; exact ⟨by omega, by omega, h⟩
      · intro h; exact h.2.2

/-! the segments of a line -/
theorem tSpecIsLine (l : List S27) (hl : l.length ≤ 1048576) : Told (fun k => spec_IsLine.f k l) (decide (Ln l)) := ⟨l.length + 1, fun k hk => specIsLine l hl (by omega)⟩
theorem tImplIsLine (l : List S27) (hl : l.length ≤ 1048576) : Told (fun k => impl_IsLine.f k l) (decide (Ln l)) := ⟨l.length + 2, fun k hk => implIsLine l hl (by omega)⟩
def segAt (l : List S27) (i : Nat) : S60 := ⟨l.getD (i - 1) z27, l.getD i z27⟩
def segs (l : List S27) : List S60 := (List.range' 1 (l.length - 1)).map (segAt l)
theorem foldl_push {α β : Type} (g : α → β) (x : List α) : ∀ s : List β, x.foldl (fun s i => s ++ [g i]) s = s ++ x.map g := by
  induction x with
  | nil => intro s; simp
  | cons a x ih => intro s; rw [List.foldl_cons, ih]; simp
theorem tSpecSegmentsOf (l : List S27) (h : Ln l) : Told (fun k => spec_SegmentsOf.f k l) (segs l) := by
  have hn := h.1; have hm := h.2.1
  refine Told.eq (M := fun k => spec_SegmentsOf.l0 k l [] ((1 : Nat) : Int)) (fun k => rfl) ?_
  refine Told.up (n := l.length) (fun s i => s ++ [segAt l i]) (fun k s i => spec_SegmentsOf.l0 k l s i) (fun s i => s.length + 1 = i) (fun s i hi hv => ⟨by simp; omega, fun hh => ?_⟩) (l.length - 1) [] 1 (by omega) rfl ?_
  · refine Told.step (M := fun k => (spec_IsLine.f k l).bind fun t => if t = true then spec_SegmentsOf.l0 k l (s ++ [segAt l i]) ((i + 1 : Nat) : Int) else some s) (fun k => ?_) (Told.bind (tSpecIsLine l (by omega)) (Told.eq (fun _ => if_pos (by simpa using h)) hh))
    simp only [spec_SegmentsOf.l0]
    have e1 : wrap64 ((i : Int) - 1) = ((i - 1 : Nat) : Int) := by rw [Gen.w64 (by omega) (by omega)]; omega
    rw [if_pos (by omega), e1, Gen.w64s (by omega), if_pos (by omega), if_pos (by omega), if_pos (by omega), if_pos (by omega), rdP, rdP]
    rfl
  · refine Told.stepr fun k => ?_
    simp only [spec_SegmentsOf.l0]
    rw [if_neg (by omega), foldl_push]
    rfl
theorem tImplSegmentsOf (l : List S27) (h : Ln l) : Told (fun k => impl_SegmentsOf.f k l) (segs l) := by
  have hn := h.1; have hm := h.2.1
  refine Told.eq (M := fun k => (impl_IsLine.f k l).bind fun t => if t = true then impl_SegmentsOf.l0 k l [] ((1 : Nat) : Int) else some []) (fun k => rfl) (Told.bind (tImplIsLine l (by omega)) (Told.eq (fun _ => if_pos (by simpa using h)) ?_))
  refine Told.up (n := l.length) (fun s i => s ++ [segAt l i]) (fun k s i => impl_SegmentsOf.l0 k l s i) (fun s i => s.length + 1 = i) (fun s i hi hv => ⟨by simp; omega, fun hh => ?_⟩) (l.length - 1) [] 1 (by omega) rfl ?_
  · refine Told.step (M := fun k => impl_SegmentsOf.l0 k l (s ++ [segAt l i]) ((i + 1 : Nat) : Int)) (fun k => ?_) hh
    simp only [impl_SegmentsOf.l0]
    have e1 : wrap64 ((i : Int) - 1) = ((i - 1 : Nat) : Int) := by rw [Gen.w64 (by omega) (by omega)]; omega
    rw [if_pos (by omega), e1, Gen.w64s (by omega), if_pos (by omega), if_pos (by omega), if_pos (by omega), if_pos (by omega), rdP, rdP]
    rfl
  · refine Told.stepr fun k => ?_
    simp only [impl_SegmentsOf.l0]
    rw [if_neg (by omega), foldl_push]
    rfl
theorem rdS (l : List S60) (i : Nat) : rd_T60 l (i : Int) = l.getD i z60 := rfl

def nrAt (l : List S27) (s : List S60) (n : Int) (i j : Nat) : Bool := decide (Sg (s.getD j z60).f0.f0 (s.getD j z60).f0.f1 (s.getD j z60).f1.f0 (s.getD j z60).f1.f1 ∧ Pt (l.getD i z27).f0 (l.getD i z27).f1 ∧ (0 ≤ n ∧ n ≤ 200) ∧ Nr (s.getD j z60).f0.f0 (s.getD j z60).f0.f1 (s.getD j z60).f1.f0 (s.getD j z60).f1.f1 (l.getD i z27).f0 (l.getD i z27).f1 n)
def anyNr (l : List S27) (s : List S60) (n : Int) (i : Nat) : Bool := (List.range' 0 s.length).foldl (fun b j => b || nrAt l s n i j) false
theorem segs_len (l : List S27) : (segs l).length = l.length - 1 := by simp [segs]
theorem tSpecL1 (l : List S27) (s : List S60) (n : Int) (i : Nat) (hl : l.length ≤ 10) (hs : s.length ≤ 10) (hi : i < l.length) (r : Bool) (h : Told (fun k => if anyNr l s n i = true then spec_IsFaithful.l0 k l n s ((i + 1 : Nat) : Int) else some false) r) :
    Told (fun k => spec_IsFaithful.l1 k l n s (i : Int) false 0) r := by
  refine Told.up (n := s.length) (fun b j => b || nrAt l s n i j) (fun k b j => spec_IsFaithful.l1 k l n s (i : Int) b j) (fun _ _ => True) (fun b j hj _ => ⟨trivial, fun hh => ?_⟩) s.length false 0 (by omega) trivial ?_
  · refine Told.step (fun k => ?_) hh
    simp only [spec_IsFaithful.l1]
    rw [if_pos (by omega), Gen.w64s (by omega)]
    by_cases hb : b = true
    · rw [if_pos hb, hb]; rfl
    · rw [if_neg hb, if_pos (by omega), if_pos (by omega), if_pos (by omega), specNear, rdS, rdP]
      simp only [Option.bind_some]
      obtain rfl : b = false := by simpa using hb
      rfl
  · refine Told.step (fun k => ?_) h
    simp only [spec_IsFaithful.l1]
    rw [if_neg (by omega), Gen.w64s (by omega)]
    rfl
theorem tImplL1 (l : List S27) (s : List S60) (n : Int) (i : Nat) (hl : l.length ≤ 10) (hs : s.length ≤ 10) (hi : i < l.length) (r : Bool) (h : Told (fun k => if anyNr l s n i = true then impl_IsFaithful.l0 k n s l (l.length : Int) ((i + 1 : Nat) : Int) else some false) r) :
    Told (fun k => impl_IsFaithful.l1 k n s false l (l.length : Int) (i : Int) s (s.length : Int) 0 (l.getD i z27).f0 (l.getD i z27).f1) r := by
  refine Told.up (n := s.length) (fun b j => b || nrAt l s n i j) (fun k b j => impl_IsFaithful.l1 k n s b l (l.length : Int) (i : Int) s (s.length : Int) j (l.getD i z27).f0 (l.getD i z27).f1) (fun _ _ => True) (fun b j hj _ => ⟨trivial, fun hh => ?_⟩) s.length false 0 (by omega) trivial ?_
  · refine Told.step (fun k => ?_) hh
    simp only [impl_IsFaithful.l1]
    rw [if_pos (by omega), if_pos (by omega), if_pos (by omega), Gen.w64s (by omega)]
    by_cases hb : b = true
    · rw [if_pos hb, hb]; rfl
    · rw [if_neg hb, implNear, rdS]
      simp only [Option.bind_some]
      obtain rfl : b = false := by simpa using hb
      rfl
  · refine Told.step (fun k => ?_) h
    simp only [impl_IsFaithful.l1]
    rw [if_neg (by omega), Gen.w64s (by omega)]
    rfl
def endsOff (a b : List S27) : Bool := !(((a.getD 0 z27).f0) == ((b.getD 0 z27).f0)) || (!(((a.getD 0 z27).f1) == ((b.getD 0 z27).f1)))
def endsOff2 (a b : List S27) : Bool := !(((a.getD (a.length - 1) z27).f0) == ((b.getD (b.length - 1) z27).f0)) || (!(((a.getD (a.length - 1) z27).f1) == ((b.getD (b.length - 1) z27).f1)))
def faith (a b : List S27) (n : Int) : Bool := if Ln a ∧ Ln b ∧ endsOff a b = false ∧ endsOff2 a b = false then (if ∀ i, i < a.length → anyNr a (segs b) n i = true then true else false) else false
theorem wl1 {n : Nat} (h : 0 < n) (h2 : n ≤ 1048576) : wrap64 ((n : Int) - 1) = ((n - 1 : Nat) : Int) := by rw [Gen.w64 (by omega) (by omega)]; omega
theorem tSpecFaith (a b : List S27) (n : Int) (ha : a.length ≤ 1048576) (hb : b.length ≤ 1048576) : Told (fun k => spec_IsFaithful.f k a b n) (faith a b n) := by
  by_cases h1 : Ln a
  · by_cases h2 : Ln b
    · have a1 := h1.1; have a2 := h1.2.1; have b1 := h2.1; have b2 := h2.2.1
      refine Told.bind (tSpecIsLine a ha) (Told.ite_t (by simpa using h1) (Told.bind (tSpecIsLine b hb) (Told.ite_t (by simpa using h2) (Told.ite_t (by omega) (Told.ite_t (by omega) ?_)))))
      by_cases e1 : endsOff a b = true
      · refine Told.ite_t e1 (Told.stepr fun k => ?_)
        simp only [spec_IsFaithful.j0, if_true]
        rw [faith, if_neg (by simp [e1])]
      · refine Told.ite_f e1 (Told.eq (M := fun k => spec_IsFaithful.j0 k a b n (endsOff2 a b)) (fun k => ?_) ?_)
        · rw [wl1 (by omega) ha, wl1 (by omega) hb, if_pos (by omega), if_pos (by omega), if_pos (by omega), if_pos (by omega)]; rfl
        · by_cases e2 : endsOff2 a b = true
          · refine Told.stepr fun k => ?_
            simp only [spec_IsFaithful.j0]
            rw [if_pos e2, faith, if_neg (by simp [e2])]
          · refine Told.step (fun k => by simp only [spec_IsFaithful.j0]; rw [if_neg e2]) (Told.bind (tSpecSegmentsOf b h2) ?_)
            rw [faith, if_pos (by simp only [Bool.not_eq_true] at e1 e2; exact ⟨h1, h2, e1, e2⟩)]
            have hs := segs_len b
            refine Told.all (n := a.length) (r := true) (q := false) (fun i => anyNr a (segs b) n i = true) (fun k i => spec_IsFaithful.l0 k a n (segs b) i) (fun i hi => ?_) (Told.stepr fun k => by simp only [spec_IsFaithful.l0]; rw [if_neg (by omega)])
            have st : ∀ r, Told (fun k => if anyNr a (segs b) n i = true then spec_IsFaithful.l0 k a n (segs b) ((i + 1 : Nat) : Int) else some false) r → Told (fun k => spec_IsFaithful.l0 k a n (segs b) (i : Int)) r := fun r h => Told.step (fun k => by simp only [spec_IsFaithful.l0]; rw [if_pos (by omega)]) (tSpecL1 a (segs b) n i a2 (by omega) hi r h)
            exact ⟨fun c h => st _ (Told.ite_t c h), fun c h => st _ (Told.ite_t c h), fun c => st _ (Told.ite_f c (Told.ret _))⟩
    · refine Told.bind (tSpecIsLine a ha) (Told.ite_t (by simpa using h1) (Told.bind (tSpecIsLine b hb) (Told.ite_f (by simpa using h2) (Told.stepr fun k => ?_))))
      simp only [spec_IsFaithful.j0, if_true]
      rw [faith, if_neg (by simp [h2])]
  · refine Told.bind (tSpecIsLine a ha) (Told.ite_f (by simpa using h1) (Told.stepr fun k => ?_))
    simp only [spec_IsFaithful.j0, if_true]
    rw [faith, if_neg (by simp [h1])]
theorem tImplFaith (a b : List S27) (n : Int) (ha : a.length ≤ 1048576) (hb : b.length ≤ 1048576) : Told (fun k => impl_IsFaithful.f k a b n) (faith a b n) := by
  by_cases h1 : Ln a
  · by_cases h2 : Ln b
    · have a1 := h1.1; have a2 := h1.2.1; have b1 := h2.1; have b2 := h2.2.1
      refine Told.bind (tImplIsLine a ha) (Told.ite_t (by simpa using h1) (Told.bind (tImplIsLine b hb) (Told.ite_t (by simpa using h2) (Told.ite_t (by omega) (Told.ite_t (by omega) ?_)))))
      by_cases e1 : endsOff a b = true
      · refine Told.ite_t e1 (Told.stepr fun k => ?_)
        simp only [impl_IsFaithful.j0, if_true]
        rw [faith, if_neg (by simp [e1])]
      · refine Told.ite_f e1 (Told.eq (M := fun k => impl_IsFaithful.j0 k a b n (endsOff2 a b)) (fun k => ?_) ?_)
        · rw [wl1 (by omega) ha, wl1 (by omega) hb, if_pos (by omega), if_pos (by omega), if_pos (by omega), if_pos (by omega)]; rfl
        · by_cases e2 : endsOff2 a b = true
          · refine Told.stepr fun k => ?_
            simp only [impl_IsFaithful.j0]
            rw [if_pos e2, faith, if_neg (by simp [e2])]
          · refine Told.step (fun k => by simp only [impl_IsFaithful.j0]; rw [if_neg e2]) (Told.bind (tImplSegmentsOf b h2) ?_)
            rw [faith, if_pos (by simp only [Bool.not_eq_true] at e1 e2; exact ⟨h1, h2, e1, e2⟩)]
            have hs := segs_len b
            refine Told.all (n := a.length) (r := true) (q := false) (fun i => anyNr a (segs b) n i = true) (fun k i => impl_IsFaithful.l0 k n (segs b) a (a.length : Int) i) (fun i hi => ?_) (Told.stepr fun k => by simp only [impl_IsFaithful.l0]; rw [if_neg (by omega)])
            have st : ∀ r, Told (fun k => if anyNr a (segs b) n i = true then impl_IsFaithful.l0 k n (segs b) a (a.length : Int) ((i + 1 : Nat) : Int) else some false) r → Told (fun k => impl_IsFaithful.l0 k n (segs b) a (a.length : Int) (i : Int)) r := fun r h => Told.step (fun k => by simp only [impl_IsFaithful.l0]; rw [if_pos (by omega), if_pos (by omega), if_pos (by omega)]; rfl) (tImplL1 a (segs b) n i a2 (by omega) hi r h)
            exact ⟨fun c h => st _ (Told.ite_t c h), fun c h => st _ (Told.ite_t c h), fun c => st _ (Told.ite_f c (Told.ret _))⟩
    · refine Told.bind (tImplIsLine a ha) (Told.ite_t (by simpa using h1) (Told.bind (tImplIsLine b hb) (Told.ite_f (by simpa using h2) (Told.stepr fun k => ?_))))
      simp only [impl_IsFaithful.j0, if_true]
      rw [faith, if_neg (by simp [h2])]
  · refine Told.bind (tImplIsLine a ha) (Told.ite_f (by simpa using h1) (Told.stepr fun k => ?_))
    simp only [impl_IsFaithful.j0, if_true]
    rw [faith, if_neg (by simp [h1])]
theorem tToPointS (l : List S77) (hl : l.length ≤ 1048576) : Told (fun k => laws_toPointS.f k l) (l.map cP) := ⟨l.length + 1, fun k hk => toPointS_some l hl (by omega)⟩
theorem tEqPointS (l : List S27) (hl : l.length ≤ 1048576) : Told (fun k => laws_eqPointS.f k l l) true := ⟨l.length + 1, fun k hk => eqPointS_self l hl (by omega)⟩
theorem pure_FnExactIsFaithful : ∀ (l0 : (List S77)) (l1 : (List S77)) (a2 : Int), (List.length l0 ≤ maxLen ∧ ∀ y ∈ l0, G77 y) → (List.length l1 ≤ maxLen ∧ ∀ y ∈ l1, G77 y) → I64 a2 → ∃ k, laws_FnExactIsFaithful.f k l0 l1 a2 = some true := by
  intro a b n ⟨ha, _⟩ ⟨hb, _⟩ hn
  apply Told.ex
  unfold maxLen at ha hb
  refine Told.bind (Told.of (szPointS_some a 1048576 (by unfold maxLen; omega) (by omega) (by omega))) ?_
  by_cases h1 : (1048576 : Int) < a.length
  · rw [if_pos h1]; exact Told.ite_t (by omega) (Told.ret _)
  rw [if_neg h1]
  refine Told.ite_f (by omega) (Told.bind (Told.of (szPointS_some b _ (by unfold maxLen; omega) (by omega) (by omega))) ?_)
  by_cases h2 : (1048576 : Int) - a.length < b.length
  · rw [if_pos h2]; exact Told.ite_t (by omega) (Told.ret _)
  rw [if_neg h2]
  have la : (a.map cP).length ≤ 1048576 := by simp; omega
  have lb : (b.map cP).length ≤ 1048576 := by simp; omega
  refine Told.ite_f (by omega) (Told.bind (tToPointS a (by omega)) (Told.bind (tToPointS b (by omega)) (Told.bind (tSpecFaith _ _ n la lb) (Told.bind (tToPointS a (by omega)) (Told.bind (tToPointS b (by omega)) (Told.bind (tImplFaith _ _ n la lb) (Told.ite_f (by simp) ?_)))))))
  refine Told.bind (tToPointS a (by omega)) (Told.bind (tEqPointS _ la) (Told.ite_t rfl (Told.bind (tToPointS b (by omega)) (Told.bind (tEqPointS _ lb) (Told.ite_t rfl (Told.ret _))))))

end Go.Proofs.Ytchmbcembbbplab.MFnExactIsFaithful
