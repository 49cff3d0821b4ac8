/- The plain law behind FnExactCountLeftOut: what the printed functions compute answers true; no condition beyond the arguments' ranges. -/
import Derived.Test.YtbackoeakepngaaZCountLeftOutTold
import Derived.Test.YtbackoeakepngaaZCountLeftOutMx6
import Derived.Test.YtbackoeakepngaaZCountLeftOutOpn
namespace Go.Proofs.Ytbackoeakepngaa.MFnExactCountLeftOut
open Go Go.RowKit Go.Proofs.YtbackoeakepngaaW.PrintWords Go.Proofs.YtbackoeakepngaaW.PrintLast Go.Proofs.YtbackoeakepngaaW.PrintMore Go.Proofs.Ytbackoeakepngaa.Open
set_option linter.unusedVariables false
set_option linter.unusedSimpArgs false
def cP (p : S87) : S27 := ⟨p.f0, p.f1⟩
theorem toPointS_some (l : List S87) (hl : l.length ≤ 1048576) {k : Nat} (hk : l.length < k) : laws_toPointS.f k l = some (l.map cP) := by
  unfold laws_toPointS.f
  rw [if_pos (by omega), if_pos (by omega)]
  have := Gen.fill_all l z87 cP 0 (fun k out i => laws_toPointS.l0 k l out i) (fun k out i _ hi ho => by
      simp only [laws_toPointS.l0]
      rw [if_pos (by omega), if_pos (by omega)]
      simp only [laws_toPoint.f, Option.bind_some]
      rw [if_pos (by omega), Gen.w64s (by omega)]
      rfl) (fun k out ho => by
      simp only [laws_toPointS.l0]
      rw [if_neg (by omega)]) (k := k) (out := List.replicate l.length z27) (by simp) (by omega)
  simpa using this
theorem szPointS_some (l : List S87) (a : Int) (hl : l.length ≤ maxLen) (ha : 0 ≤ a) (ha' : a ≤ 1048576) : laws_szPointS.f l a = some (if a < l.length then -1 else a - l.length) := by
  unfold laws_szPointS.f
  unfold maxLen at hl
  rw [Gen.w64 (by omega) (by omega)]
  split <;> split <;> first | rfl | omega
theorem eqPointS_self (a : List S27) (hl : a.length ≤ 1048576) {k : Nat} (hk : a.length < k) : laws_eqPointS.f k a a = some true := by
  unfold laws_eqPointS.f
  rw [if_pos rfl]
  refine Gen.up_all a.length 0 true (fun k i => laws_eqPointS.l0 k a a i) (fun k i _ hi => ?_) (fun k _ => ?_) (k := k) (by omega)
  · simp only [laws_eqPointS.l0, laws_eqPoint.f]
    rw [if_pos (by omega), if_pos (by omega), if_pos (by omega)]
    simp only [if_true, Option.bind_some]
    rw [Gen.w64s (by omega)]
  · simp only [laws_eqPointS.l0]
    rw [if_neg (by omega)]
theorem tToPointS (l : List S87) (hl : l.length ≤ 1048576) : Told (fun k => laws_toPointS.f k l) (l.map cP) := ⟨l.length + 1, fun k hk => toPointS_some l hl (by omega)⟩
theorem tEqPointS (l : List S27) (hl : l.length ≤ 1048576) : Told (fun k => laws_eqPointS.f k l l) true := ⟨l.length + 1, fun k hk => eqPointS_self l hl (by omega)⟩
theorem implInRange (a b c : Int) : impl_InRange.f a b c = some (decide (b ≤ a ∧ a ≤ c)) := by
  unfold impl_InRange.f; by_cases h : b ≤ a <;> simp [h]
theorem specIn (a b c : Int) : spec_l1In.f a b c = some (decide (b ≤ a ∧ a ≤ c)) := by
  unfold spec_l1In.f; by_cases h : b ≤ a <;> simp [h]
def Pt (x y : Int) : Prop := 0 ≤ x ∧ x ≤ 200 ∧ 0 ≤ y ∧ y ≤ 200
instance (x y : Int) : Decidable (Pt x y) := by unfold Pt; infer_instance
theorem implIsPoint (x y : Int) : impl_IsPoint.f x y = some (decide (Pt x y)) := by
  unfold impl_IsPoint.f
  rw [implInRange, implInRange]
  simp only [Option.bind_some]
  by_cases h : 0 ≤ x ∧ x ≤ 200
  · rw [if_pos (by simpa using h)]; simp [Pt, h]
  · rw [if_neg (by simpa using h)]; simp only [Option.some.injEq, Bool.false_eq, decide_eq_false_iff_not]; unfold Pt; omega
theorem specIsPoint (x y : Int) : spec_IsPoint.f x y = some (decide (Pt x y)) := by
  unfold spec_IsPoint.f
  rw [specIn, specIn]
  simp only [Option.bind_some]
  by_cases h : 0 ≤ x ∧ x ≤ 200
  · rw [if_pos (by simpa using h)]; simp [Pt, h]
  · rw [if_neg (by simpa using h)]; simp only [Option.some.injEq, Bool.false_eq, decide_eq_false_iff_not]; unfold Pt; omega
def D (n : Int) : Prop := -200 ≤ n ∧ n ≤ 200
theorem D_of {x y : Int} (hx : 0 ≤ x ∧ x ≤ 200) (hy : 0 ≤ y ∧ y ≤ 200) : wrap64 (x - y) = x - y ∧ D (x - y) := ⟨Gen.w64 (by omega) (by omega), by unfold D; omega⟩
theorem D_mul {x y : Int} (hx : D x) (hy : D y) : wrap64 (x * y) = x * y ∧ -40000 ≤ x * y ∧ x * y ≤ 40000 := by
  have := Gen.mul_bd (m := 200) (n := 200) hx hy
  exact ⟨Gen.w64 (by omega) (by omega), by omega, by omega⟩
def crossZ (ax ay bx bY px py : Int) : Int := (bx - ax) * (py - ay) - (bY - ay) * (px - ax)
theorem crossZ_bd {ax ay bx bY px py : Int} (ha : Pt ax ay) (hb : Pt bx bY) (hp : Pt px py) :
    wrap64 ((wrap64 ((wrap64 (bx - ax)) * (wrap64 (py - ay)))) - (wrap64 ((wrap64 (bY - ay)) * (wrap64 (px - ax))))) = crossZ ax ay bx bY px py ∧ -80000 ≤ crossZ ax ay bx bY px py ∧ crossZ ax ay bx bY px py ≤ 80000 := by
  obtain ⟨a1, a2, a3, a4⟩ := ha; obtain ⟨b1, b2, b3, b4⟩ := hb; obtain ⟨p1, p2, p3, p4⟩ := hp
  obtain ⟨e1, d1⟩ := D_of ⟨b1, b2⟩ ⟨a1, a2⟩
  obtain ⟨e2, d2⟩ := D_of ⟨p3, p4⟩ ⟨a3, a4⟩
  obtain ⟨e3, d3⟩ := D_of ⟨b3, b4⟩ ⟨a3, a4⟩
  obtain ⟨e4, d4⟩ := D_of ⟨p1, p2⟩ ⟨a1, a2⟩
  obtain ⟨m1, n1, o1⟩ := D_mul d1 d2
  obtain ⟨m2, n2, o2⟩ := D_mul d3 d4
  rw [e1, e2, e3, e4, m1, m2]
  unfold crossZ
  exact ⟨Gen.w64 (by omega) (by omega), by omega, by omega⟩
theorem implCross {ax ay bx bY px py : Int} (ha : Pt ax ay) (hb : Pt bx bY) (hp : Pt px py) : impl_cross.f ax ay bx bY px py = some (crossZ ax ay bx bY px py) := by
  unfold impl_cross.f; rw [(crossZ_bd ha hb hp).1]
theorem specCross {ax ay bx bY px py : Int} (ha : Pt ax ay) (hb : Pt bx bY) (hp : Pt px py) : spec_l4Cross.f ax ay bx bY px py = some (crossZ ax ay bx bY px py) := by
  unfold spec_l4Cross.f; rw [(crossZ_bd ha hb hp).1]
def farZ (ax ay bx bY : Int) : Int := (ax - bx) * (ax - bx) + (ay - bY) * (ay - bY)
theorem farZ_bd {ax ay bx bY : Int} (ha : Pt ax ay) (hb : Pt bx bY) :
    wrap64 ((wrap64 ((wrap64 (ax - bx)) * (wrap64 (ax - bx)))) + (wrap64 ((wrap64 (ay - bY)) * (wrap64 (ay - bY))))) = farZ ax ay bx bY ∧ 0 ≤ farZ ax ay bx bY ∧ farZ ax ay bx bY ≤ 80000 := by
  obtain ⟨a1, a2, a3, a4⟩ := ha; obtain ⟨b1, b2, b3, b4⟩ := hb
  obtain ⟨e1, d1⟩ := D_of ⟨a1, a2⟩ ⟨b1, b2⟩
  obtain ⟨e2, d2⟩ := D_of ⟨a3, a4⟩ ⟨b3, b4⟩
  obtain ⟨m1, n1, o1⟩ := D_mul d1 d1
  obtain ⟨m2, n2, o2⟩ := D_mul d2 d2
  have s1 : 0 ≤ (ax - bx) * (ax - bx) := by
    rcases Int.le_total 0 (ax - bx) with h | h
    · exact Int.mul_nonneg h h
    · exact Int.mul_nonneg_of_nonpos_of_nonpos h h
  have s2 : 0 ≤ (ay - bY) * (ay - bY) := by
    rcases Int.le_total 0 (ay - bY) with h | h
    · exact Int.mul_nonneg h h
    · exact Int.mul_nonneg_of_nonpos_of_nonpos h h
  rw [e1, e2, m1, m2]
  unfold farZ
  exact ⟨Gen.w64 (by omega) (by omega), by omega, by omega⟩
theorem farZ_zero {ax ay bx bY : Int} (h : farZ ax ay bx bY = 0) : ax = bx ∧ ay = bY := by
  unfold farZ at h
  have s1 : 0 ≤ (ax - bx) * (ax - bx) := by
    rcases Int.le_total 0 (ax - bx) with h | h
    · exact Int.mul_nonneg h h
    · exact Int.mul_nonneg_of_nonpos_of_nonpos h h
  have s2 : 0 ≤ (ay - bY) * (ay - bY) := by
    rcases Int.le_total 0 (ay - bY) with h | h
    · exact Int.mul_nonneg h h
    · exact Int.mul_nonneg_of_nonpos_of_nonpos h h
  have e1 : (ax - bx) * (ax - bx) = 0 := by omega
  have e2 : (ay - bY) * (ay - bY) = 0 := by omega
  have := Int.mul_eq_zero.1 e1; have := Int.mul_eq_zero.1 e2; omega
theorem implFar (ax ay bx bY : Int) : impl_FarSquared.f ax ay bx bY = some (if Pt ax ay ∧ Pt bx bY then farZ ax ay bx bY else -1) := by
  unfold impl_FarSquared.f
  rw [implIsPoint, implIsPoint]
  simp only [Option.bind_some, decide_eq_true_eq]
  by_cases ha : Pt ax ay <;> by_cases hb : Pt bx bY
  · rw [if_pos ha, if_pos hb, if_pos ⟨ha, hb⟩, (farZ_bd ha hb).1]
  · rw [if_pos ha, if_neg hb, if_neg (fun h => hb h.2)]
  · rw [if_neg ha, if_neg (fun h => ha h.1)]
  · rw [if_neg ha, if_neg (fun h => ha h.1)]
theorem implFar_ok {ax ay bx bY : Int} (ha : Pt ax ay) (hb : Pt bx bY) : impl_FarSquared.f ax ay bx bY = some (farZ ax ay bx bY) := by rw [implFar, if_pos ⟨ha, hb⟩]
theorem specFar (ax ay bx bY : Int) : spec_FarSquared.f ax ay bx bY = some (if Pt ax ay ∧ Pt bx bY then farZ ax ay bx bY else -1) := by
  unfold spec_FarSquared.f
  rw [specIsPoint, specIsPoint]
  simp only [Option.bind_some, decide_eq_true_eq]
  by_cases ha : Pt ax ay <;> by_cases hb : Pt bx bY
  · rw [if_pos ha, if_pos hb, if_pos ⟨ha, hb⟩, (farZ_bd ha hb).1]
  · rw [if_pos ha, if_neg hb, if_neg (fun h => hb h.2)]
  · rw [if_neg ha, if_neg (fun h => ha h.1)]
  · rw [if_neg ha, if_neg (fun h => ha h.1)]
theorem specFar_ok {ax ay bx bY : Int} (ha : Pt ax ay) (hb : Pt bx bY) : spec_FarSquared.f ax ay bx bY = some (farZ ax ay bx bY) := by rw [specFar, if_pos ⟨ha, hb⟩]
def Sg (ax ay bx bY : Int) : Prop := Pt ax ay ∧ Pt bx bY ∧ ¬ (ax = bx ∧ ay = bY)
instance (a b c d : Int) : Decidable (Sg a b c d) := by unfold Sg; infer_instance
def dotZ (ax ay bx bY px py : Int) : Int := (px - ax) * (bx - ax) + (py - ay) * (bY - ay)
theorem dotZ_bd {ax ay bx bY px py : Int} (ha : Pt ax ay) (hb : Pt bx bY) (hp : Pt px py) :
    wrap64 ((wrap64 ((wrap64 (px - ax)) * (wrap64 (bx - ax)))) + (wrap64 ((wrap64 (py - ay)) * (wrap64 (bY - ay))))) = dotZ ax ay bx bY px py := by
  obtain ⟨a1, a2, a3, a4⟩ := ha; obtain ⟨b1, b2, b3, b4⟩ := hb; obtain ⟨p1, p2, p3, p4⟩ := hp
  obtain ⟨e1, d1⟩ := D_of ⟨p1, p2⟩ ⟨a1, a2⟩
  obtain ⟨e2, d2⟩ := D_of ⟨b1, b2⟩ ⟨a1, a2⟩
  obtain ⟨e3, d3⟩ := D_of ⟨p3, p4⟩ ⟨a3, a4⟩
  obtain ⟨e4, d4⟩ := D_of ⟨b3, b4⟩ ⟨a3, a4⟩
  obtain ⟨m1, n1, o1⟩ := D_mul d1 d2
  obtain ⟨m2, n2, o2⟩ := D_mul d3 d4
  rw [e1, e2, e3, e4, m1, m2]
  unfold dotZ
  exact Gen.w64 (by omega) (by omega)
def farN (ax ay bx bY px py : Int) : Int := if dotZ ax ay bx bY px py ≤ 0 then farZ ax ay px py else if dotZ ax ay bx bY px py ≥ farZ bx bY ax ay then farZ bx bY px py else crossZ ax ay bx bY px py * crossZ ax ay bx bY px py
def farD (ax ay bx bY px py : Int) : Int := if dotZ ax ay bx bY px py ≤ 0 then 1 else if dotZ ax ay bx bY px py ≥ farZ bx bY ax ay then 1 else farZ bx bY ax ay
theorem farZ_comm (ax ay bx bY : Int) : farZ ax ay bx bY = farZ bx bY ax ay := by unfold farZ; grind
theorem crossSq {ax ay bx bY px py : Int} (ha : Pt ax ay) (hb : Pt bx bY) (hp : Pt px py) : wrap64 (crossZ ax ay bx bY px py * crossZ ax ay bx bY px py) = crossZ ax ay bx bY px py * crossZ ax ay bx bY px py := by
  obtain ⟨_, h1, h2⟩ := crossZ_bd ha hb hp
  have := Gen.mul_bd (m := 80000) (n := 80000) (x := crossZ ax ay bx bY px py) (y := crossZ ax ay bx bY px py) (by omega) (by omega)
  exact Gen.w64 (by omega) (by omega)
theorem specL11Far {ax ay bx bY px py : Int} (ha : Pt ax ay) (hb : Pt bx bY) (hp : Pt px py) : spec_l11Far.f ax ay bx bY px py = some (farN ax ay bx bY px py, farD ax ay bx bY px py) := by
  unfold spec_l11Far.f
  rw [dotZ_bd ha hb hp, (farZ_bd hb ha).1, specFar_ok ha hp, specFar_ok hb hp, specCross ha hb hp]
  simp only [Option.bind_some]
  rw [crossSq ha hb hp]
  unfold farN farD
  split
  · rfl
  · split <;> rfl
theorem implFarness {ax ay bx bY px py : Int} (hs : Sg ax ay bx bY) (hp : Pt px py) : impl_farness.f ax ay bx bY px py = some (farN ax ay bx bY px py * (if dotZ ax ay bx bY px py ≤ 0 ∨ dotZ ax ay bx bY px py ≥ farZ bx bY ax ay then farZ bx bY ax ay else 1), farZ bx bY ax ay) := by
  obtain ⟨ha, hb, hn⟩ := hs
  unfold impl_farness.f
  rw [implFar_ok ha hb]
  simp only [Option.bind_some]
  have h0 : farZ ax ay bx bY ≠ 0 := fun e => hn (farZ_zero e)
  rw [if_neg h0, dotZ_bd ha hb hp, implFar_ok ha hp, implFar_ok hb hp, implCross ha hb hp, farZ_comm ax ay bx bY]
  simp only [Option.bind_some]
  have b0 := (farZ_bd hb ha).2; have b1 := (farZ_bd ha hp).2; have b2 := (farZ_bd hb hp).2
  have m1 := Gen.mul_bd (m := 80000) (n := 80000) (x := farZ ax ay px py) (y := farZ bx bY ax ay) (by omega) (by omega)
  have m2 := Gen.mul_bd (m := 80000) (n := 80000) (x := farZ bx bY px py) (y := farZ bx bY ax ay) (by omega) (by omega)
  have e1 : wrap64 (farZ ax ay px py * farZ bx bY ax ay) = farZ ax ay px py * farZ bx bY ax ay := Gen.w64 (by omega) (by omega)
  have e2 : wrap64 (farZ bx bY px py * farZ bx bY ax ay) = farZ bx bY px py * farZ bx bY ax ay := Gen.w64 (by omega) (by omega)
  rw [e1, e2, crossSq ha hb hp]
  unfold farN
  by_cases c1 : dotZ ax ay bx bY px py ≤ 0
  · rw [if_pos c1, if_pos c1, if_pos (.inl c1)]
  · by_cases c2 : dotZ ax ay bx bY px py ≥ farZ bx bY ax ay
    · rw [if_neg c1, if_pos c2, if_neg c1, if_pos c2, if_pos (.inr c2)]
    · rw [if_neg c1, if_neg c2, if_neg c1, if_neg c2, if_neg (fun h => by omega), Int.mul_one]
def Nr (ax ay bx bY px py n : Int) : Prop := farN ax ay bx bY px py ≤ n * n * farD ax ay bx bY px py
instance (a b c d e f n : Int) : Decidable (Nr a b c d e f n) := by unfold Nr; infer_instance
def Ln (l : List S27) : Prop := 2 ≤ l.length ∧ l.length ≤ 10 ∧ ∀ i, i < l.length → Pt (l.getD i z27).f0 (l.getD i z27).f1 ∧ ¬ (0 < i ∧ (l.getD (i - 1) z27).f0 = (l.getD i z27).f0 ∧ (l.getD (i - 1) z27).f1 = (l.getD i z27).f1)
def lnChk (l : List S27) (i : Nat) : Bool := decide (Pt (l.getD i z27).f0 (l.getD i z27).f1 ∧ ¬ (0 < i ∧ (l.getD (i - 1) z27).f0 = (l.getD i z27).f0 ∧ (l.getD (i - 1) z27).f1 = (l.getD i z27).f1))
instance (l : List S27) : Decidable (Ln l) := decidable_of_iff ((2 ≤ l.length ∧ l.length ≤ 10) ∧ ∀ i, i < l.length → lnChk l i = true) (by unfold Ln lnChk; simp only [decide_eq_true_eq, and_assoc])
theorem rdP (l : List S27) (i : Nat) : rd_T27 l (i : Int) = l.getD i z27 := rfl
theorem specIsLine (l : List S27) (hl : l.length ≤ 1048576) {k : Nat} (hk : l.length < k) : spec_IsLine.f k l = some (decide (Ln l)) := by
  unfold spec_IsLine.f
  rw [Gen.scan_all l.length 0 (lnChk l) (decide (2 ≤ l.length ∧ l.length ≤ 10)) (fun k i => spec_IsLine.l0 k l i) (fun k i _ hi => by
    simp only [spec_IsLine.l0]
    rw [if_pos (by omega), if_pos (by omega), specIsPoint, rdP]
    simp only [Option.bind_some, decide_eq_true_eq]
    unfold lnChk
    by_cases h1 : Pt (l.getD i z27).f0 (l.getD i z27).f1
    · rw [if_pos h1]
      by_cases h0 : 0 < i
      · have e1 : wrap64 ((i : Int) - 1) = ((i - 1 : Nat) : Int) := by rw [Gen.w64 (by omega) (by omega)]; omega
        rw [if_pos (by omega), e1, if_pos (by omega), if_pos (by omega), rdP, Gen.w64s (by omega)]
        by_cases h2 : (l.getD (i - 1) z27).f0 = (l.getD i z27).f0 ∧ (l.getD (i - 1) z27).f1 = (l.getD i z27).f1
        · rw [if_pos (by simpa using h2), if_neg (by simp only [decide_eq_true_eq]; exact fun h => h.2 ⟨h0, h2⟩)]
        · rw [if_neg (by simpa using h2), if_pos (by simp only [decide_eq_true_eq]; exact ⟨h1, fun h => h2 h.2⟩)]
      · rw [if_neg (by omega), if_pos (by simp only [decide_eq_true_eq]; exact ⟨h1, fun h => h0 h.1⟩), Gen.w64s (by omega)]
    · rw [if_neg h1, if_neg (by simp only [decide_eq_true_eq]; exact fun h => h1 h.1)]) (fun k _ => by
    simp only [spec_IsLine.l0]
    rw [if_neg (by omega), specIn]
    simp only [Option.bind_some, Option.some.injEq, decide_eq_decide]
    omega) (by omega)]
  congr 1
  rw [Bool.eq_iff_iff, Bool.and_eq_true, decide_eq_true_eq, decide_eq_true_eq, decide_eq_true_eq]
  unfold Ln lnChk
  simp only [decide_eq_true_eq]
  constructor
  · rintro ⟨h1, h2, h3⟩; exact ⟨h2, h3, h1⟩
  · rintro ⟨h1, h2, h3⟩; exact ⟨h3, h1, h2⟩
theorem implIsLine (l : List S27) (hl : l.length ≤ 1048576) {k : Nat} (hk : l.length + 1 < k) : impl_IsLine.f k l = some (decide (Ln l)) := by
  obtain ⟨k, rfl⟩ : ∃ m, k = m + 1 := ⟨k - 1, by omega⟩
  unfold impl_IsLine.f
  simp only [impl_IsLine.j0]
  by_cases h2 : l.length < 2
  · rw [if_pos (by omega), if_pos trivial]
    congr 1
    rw [eq_comm, decide_eq_false_iff_not]
    intro h; have := h.1; omega
  · rw [if_neg (by omega)]
    by_cases h10 : l.length > 10
    · rw [if_pos (by rw [decide_eq_true_eq]; omega)]
      congr 1
      rw [eq_comm, decide_eq_false_iff_not]
      intro h; have := h.2.1; omega
    · rw [if_neg (by rw [decide_eq_true_eq]; omega)]
      rw [Gen.scan_all l.length 0 (lnChk l) true (fun k i => impl_IsLine.l0 k l l l.length i) (fun k i _ hi => by
        simp only [impl_IsLine.l0]
        rw [if_pos (by omega), if_pos (by omega), if_pos (by omega), implIsPoint, rdP]
        simp only [Option.bind_some, decide_eq_true_eq]
        unfold lnChk
        by_cases h1 : Pt (l.getD i z27).f0 (l.getD i z27).f1
        · rw [if_pos h1]
          by_cases h0 : 0 < i
          · have e1 : wrap64 ((i : Int) - 1) = ((i - 1 : Nat) : Int) := by rw [Gen.w64 (by omega) (by omega)]; omega
            rw [if_pos (by omega), e1, if_pos (by omega), if_pos (by omega), rdP, Gen.w64s (by omega)]
            by_cases h2 : (l.getD (i - 1) z27).f0 = (l.getD i z27).f0 ∧ (l.getD (i - 1) z27).f1 = (l.getD i z27).f1
            · rw [if_pos (by rw [h2.1, h2.2]; simp), if_neg (by simp only [decide_eq_true_eq]; exact fun h => h.2 ⟨h0, h2⟩)]
            · rw [if_neg (by simp only [Bool.and_eq_true, beq_iff_eq]; exact fun h => h2 ⟨h.1.symm, h.2.symm⟩), if_pos (by simp only [decide_eq_true_eq]; exact ⟨h1, fun h => h2 h.2⟩)]
          · rw [if_neg (by omega), if_pos (by simp only [decide_eq_true_eq]; exact ⟨h1, fun h => h0 h.1⟩), Gen.w64s (by omega)]
        · rw [if_neg h1, if_neg (by simp only [decide_eq_true_eq]; exact fun h => h1 h.1)]) (fun k _ => by
        simp only [impl_IsLine.l0]
        rw [if_neg (by omega)]) (by omega)]
      congr 1
      rw [Bool.eq_iff_iff, Bool.and_eq_true, decide_eq_true_eq, decide_eq_true_eq]
      unfold Ln lnChk
      simp only [decide_eq_true_eq, and_true]
      constructor
      · intro h; exact ⟨by omega, by omega, h⟩
      · intro h; exact h.2.2
theorem tSpecLine (l : List S27) (hl : l.length ≤ 1048576) : Told (fun k => spec_IsLine.f k l) (decide (Ln l)) := ⟨l.length + 1, fun k hk => specIsLine l hl (by omega)⟩
theorem tImplLine (l : List S27) (hl : l.length ≤ 1048576) : Told (fun k => impl_IsLine.f k l) (decide (Ln l)) := ⟨l.length + 2, fun k hk => implIsLine l hl (by omega)⟩
theorem implClone (l : List S27) (hl : l.length ≤ 1048576) : impl_Point.f l = some l := by
  unfold impl_Point.f
  simp only [Option.bind_some, List.nil_append]
  rw [if_pos (by simp; omega)]
theorem foldl_push {α β : Type} (g : α → β) (x : List α) : ∀ s : List β, x.foldl (fun s i => s ++ [g i]) s = s ++ x.map g := by
  induction x with
  | nil => intro s; simp
  | cons a x ih => intro s; rw [List.foldl_cons, ih]; simp
theorem lt_mulc {c a b : Int} (hc : 0 < c) : c * a < c * b ↔ a < b := ⟨fun h => Int.lt_of_mul_lt_mul_left h (by omega), fun h => Int.mul_lt_mul_of_pos_left h hc⟩
def mulZ (ax ay bx bY px py : Int) : Int := if farZ bx bY ax ay = 0 then 1 else if dotZ ax ay bx bY px py ≤ 0 ∨ dotZ ax ay bx bY px py ≥ farZ bx bY ax ay then farZ bx bY ax ay else 1
def timZ (ax ay bx bY : Int) : Int := if farZ bx bY ax ay = 0 then 1 else farZ bx bY ax ay
theorem dot_same {ax ay bx bY px py : Int} (h : farZ bx bY ax ay = 0) : dotZ ax ay bx bY px py = 0 := by
  obtain ⟨e1, e2⟩ := farZ_zero h
  unfold dotZ; rw [e1, e2]; simp
theorem mulZ_far {ax ay bx bY px py : Int} (h : 0 ≤ farZ bx bY ax ay) : mulZ ax ay bx bY px py * farD ax ay bx bY px py = timZ ax ay bx bY ∧ 0 < mulZ ax ay bx bY px py ∧ 0 < farD ax ay bx bY px py := by
  unfold mulZ farD timZ
  by_cases h0 : farZ bx bY ax ay = 0
  · rw [if_pos h0, if_pos h0, if_pos (by rw [dot_same h0]; omega)]; omega
  · rw [if_neg h0, if_neg h0]
    by_cases c1 : dotZ ax ay bx bY px py ≤ 0
    · rw [if_pos (.inl c1), if_pos c1]; omega
    · by_cases c2 : dotZ ax ay bx bY px py ≥ farZ bx bY ax ay
      · rw [if_pos (.inr c2), if_neg c1, if_pos c2]; omega
      · rw [if_neg (by omega), if_neg c1, if_neg c2]; omega
theorem farN_bd {ax ay bx bY px py : Int} (ha : Pt ax ay) (hb : Pt bx bY) (hp : Pt px py) : 0 ≤ farN ax ay bx bY px py ∧ farN ax ay bx bY px py ≤ 6400000000 ∧ farN ax ay bx bY px py * mulZ ax ay bx bY px py ≤ 6400000000 := by
  have b0 := (farZ_bd hb ha).2; have b1 := (farZ_bd ha hp).2; have b2 := (farZ_bd hb hp).2
  obtain ⟨_, x1, x2⟩ := crossZ_bd ha hb hp
  have m := Gen.mul_bd (m := 80000) (n := 80000) (x := crossZ ax ay bx bY px py) (y := crossZ ax ay bx bY px py) (by omega) (by omega)
  have s : 0 ≤ crossZ ax ay bx bY px py * crossZ ax ay bx bY px py := by
    rcases Int.le_total 0 (crossZ ax ay bx bY px py) with h | h
    · exact Int.mul_nonneg h h
    · exact Int.mul_nonneg_of_nonpos_of_nonpos h h
  have m1 := Gen.mul_bd (m := 80000) (n := 80000) (x := farZ ax ay px py) (y := farZ bx bY ax ay) (by omega) (by omega)
  have m2 := Gen.mul_bd (m := 80000) (n := 80000) (x := farZ bx bY px py) (y := farZ bx bY ax ay) (by omega) (by omega)
  unfold farN mulZ
  by_cases h0 : farZ bx bY ax ay = 0
  · rw [if_pos h0, if_pos (by rw [dot_same h0]; omega)]; omega
  · rw [if_neg h0]
    by_cases c1 : dotZ ax ay bx bY px py ≤ 0
    · rw [if_pos c1, if_pos (.inl c1)]; omega
    · by_cases c2 : dotZ ax ay bx bY px py ≥ farZ bx bY ax ay
      · rw [if_neg c1, if_pos c2, if_pos (.inr c2)]; omega
      · rw [if_neg c1, if_neg c2, if_neg (by omega)]; omega
theorem farD_le {ax ay bx bY px py : Int} (ha : Pt ax ay) (hb : Pt bx bY) : 1 ≤ farD ax ay bx bY px py ∧ farD ax ay bx bY px py ≤ 80000 := by
  have b0 := (farZ_bd hb ha).2
  have := (mulZ_far (px := px) (py := py) b0.1).2.2
  refine ⟨by omega, ?_⟩
  unfold farD
  split
  · omega
  · split <;> omega
def nF (l : List S27) (i k j : Nat) : Int := farN (l.getD i z27).f0 (l.getD i z27).f1 (l.getD k z27).f0 (l.getD k z27).f1 (l.getD j z27).f0 (l.getD j z27).f1
def dF (l : List S27) (i k j : Nat) : Int := farD (l.getD i z27).f0 (l.getD i z27).f1 (l.getD k z27).f0 (l.getD k z27).f1 (l.getD j z27).f0 (l.getD j z27).f1
def mF (l : List S27) (i k j : Nat) : Int := mulZ (l.getD i z27).f0 (l.getD i z27).f1 (l.getD k z27).f0 (l.getD k z27).f1 (l.getD j z27).f0 (l.getD j z27).f1
def tF (l : List S27) (i k : Nat) : Int := timZ (l.getD i z27).f0 (l.getD i z27).f1 (l.getD k z27).f0 (l.getD k z27).f1
def isFar (l : List S27) (near : Int) (i k j : Nat) : Prop := nF l i k j > near * near * dF l i k j
instance (l : List S27) (near : Int) (i k j : Nat) : Decidable (isFar l near i k j) := by unfold isFar; infer_instance
def pk (l : List S27) (near : Int) (i k : Nat) (s : Int) (j : Nat) : Int := if isFar l near i k j then (if s < 0 then (j : Int) else if nF l i k j * dF l i k s.toNat > nF l i k s.toNat * dF l i k j then (j : Int) else s) else s
def bestV (l : List S27) (near : Int) (i k : Nat) : Int := (List.range' (i + 1) (k - (i + 1))).foldl (pk l near i k) (-1)
def btw (l : List S27) (near : Int) : Nat → Nat → Nat → List Bool → List Bool
  | 0, _, _, r => r
  | n + 1, i, k, r => if bestV l near i k < 0 then r else btw l near n (bestV l near i k).toNat k (btw l near n i (bestV l near i k).toNat (r.set (bestV l near i k).toNat true))
theorem btw_len (l : List S27) (near : Int) : ∀ n i k r, (btw l near n i k r).length = r.length := by
  intro n
  induction n with
  | zero => intro i k r; rfl
  | succ n ih =>
    intro i k r
    simp only [btw]
    split
    · rfl
    · rw [ih, ih, List.length_set]
theorem best_gen (l : List S27) (near : Int) (i k : Nat) : ∀ d (j : Nat) (s : Int), i < j → (s = -1 ∧ (∀ m, i < m → m < j → ¬ isFar l near i k m) ∨ ((i : Int) < s ∧ s < j ∧ isFar l near i k s.toNat)) →
    ((List.range' j d).foldl (pk l near i k) s = -1 ∧ (∀ m, i < m → m < j + d → ¬ isFar l near i k m)) ∨ ((i : Int) < (List.range' j d).foldl (pk l near i k) s ∧ (List.range' j d).foldl (pk l near i k) s < (j + d : Nat) ∧ isFar l near i k ((List.range' j d).foldl (pk l near i k) s).toNat) := by
  intro d
  induction d with
  | zero => intro j s hj h; exact h
  | succ d ih =>
    intro j s hj h
    have e : j + (d + 1) = j + 1 + d := by omega
    rw [List.range'_succ, List.foldl_cons, e]
    refine ih (j + 1) _ (by omega) ?_
    unfold pk
    by_cases c : isFar l near i k j
    · rw [if_pos c]
      split
      · exact .inr ⟨by omega, by omega, c⟩
      · split
        · exact .inr ⟨by omega, by omega, c⟩
        · rcases h with h | h
          · omega
          · exact .inr ⟨h.1, by omega, h.2.2⟩
    · rw [if_neg c]
      rcases h with h | h
      · refine .inl ⟨h.1, fun m m1 m2 => ?_⟩
        by_cases q : m = j
        · subst q; exact c
        · exact h.2 m m1 (by omega)
      · exact .inr ⟨h.1, by omega, h.2.2⟩
theorem best_spec (l : List S27) (near : Int) (i k : Nat) : (bestV l near i k = -1 ∧ ∀ m, i < m → m < k → ¬ isFar l near i k m) ∨ ((i : Int) < bestV l near i k ∧ bestV l near i k < k) := by
  have := best_gen l near i k (k - (i + 1)) (i + 1) (-1) (by omega) (.inl ⟨rfl, fun m m1 m2 => by omega⟩)
  unfold bestV
  rcases this with h | h
  · exact .inl ⟨h.1, fun m m1 m2 => h.2 m m1 (by omega)⟩
  · refine .inr ⟨h.1, ?_⟩
    by_cases c : i + 1 ≤ k
    · omega
    · have e : k - (i + 1) = 0 := by omega
      rw [e] at h; simp at h; omega
theorem tSpecBtw (l : List S27) (h : Ln l) (near : Int) (hn : 0 ≤ near ∧ near ≤ 200) : ∀ n (i k : Nat) (r : List Bool), i < l.length → k < l.length → k ≤ i + 1 + n → r.length = l.length → Told (fun q => spec_l11Between.f q l (i : Int) (k : Int) near r) (btw l near n i k r) := by
  have h10 := h.2.1
  have hpt : ∀ m, m < l.length → Pt (l.getD m z27).f0 (l.getD m z27).f1 := fun m hm => (h.2.2 m hm).1
  have nn := Gen.mul_bd (m := 200) (n := 200) (x := near) (y := near) (by omega) (by omega)
  have walk : ∀ (i k : Nat) (r : List Bool) (v : List Bool), i < l.length → k < l.length → Told (fun q => spec_l11Between.l0 q l i k near r (bestV l near i k) (if bestV l near i k < 0 then 0 else nF l i k (bestV l near i k).toNat) (if bestV l near i k < 0 then 1 else dF l i k (bestV l near i k).toNat) (max k (i + 1) : Nat)) v → Told (fun q => spec_l11Between.f q l (i : Int) (k : Int) near r) v := by
    intro i k r v hi hk hv
    refine Told.step (M := fun q => spec_l11Between.l0 q l i k near r (-1) 0 1 ((i + 1 : Nat) : Int)) (fun q => by simp only [spec_l11Between.f]; rw [Gen.w64s (by omega)]) ?_
    refine Told.up (n := max k (i + 1)) (fun s j => pk l near i k s j) (fun q s j => spec_l11Between.l0 q l i k near r s (if s < 0 then 0 else nF l i k s.toNat) (if s < 0 then 1 else dF l i k s.toNat) j) (fun s j => s < l.length ∧ i < j) (fun s j hj hs => ⟨⟨?_, by omega⟩, fun h2 => ?_⟩) (max k (i + 1) - (i + 1)) (-1) (i + 1) (by omega) ⟨by omega, by omega⟩ ?_
    · unfold pk; split
      · split
        · omega
        · split <;> omega
      · exact hs.1
    · have jk : j < k := by omega
      have far := specL11Far (hpt i hi) (hpt k hk) (hpt j (by omega))
      have fb := farN_bd (hpt i hi) (hpt k hk) (hpt j (by omega))
      have db := farD_le (px := (l.getD j z27).f0) (py := (l.getD j z27).f1) (hpt i hi) (hpt k hk)
      have db' : 1 ≤ dF l i k j ∧ dF l i k j ≤ 80000 := db
      have fb' : 0 ≤ nF l i k j ∧ nF l i k j ≤ 6400000000 := ⟨fb.1, fb.2.1⟩
      have m3 := Gen.mul_bd (m := 40000) (n := 80000) (x := near * near) (y := dF l i k j) (by omega) (by omega)
      refine Told.step (M := fun q => (spec_l11Far.f (l.getD i z27).f0 (l.getD i z27).f1 (l.getD k z27).f0 (l.getD k z27).f1 (l.getD j z27).f0 (l.getD j z27).f1).bind fun bt => if bt.1 > (wrap64 ((wrap64 (near * near)) * bt.2)) then (if s < 0 then (spec_l11Between.l0 q l i k near r j bt.1 bt.2 ((j + 1 : Nat) : Int)) else (if (wrap64 (bt.1 * (if s < 0 then 1 else dF l i k s.toNat))) > (wrap64 ((if s < 0 then 0 else nF l i k s.toNat) * bt.2)) then (spec_l11Between.l0 q l i k near r j bt.1 bt.2 ((j + 1 : Nat) : Int)) else (spec_l11Between.l0 q l i k near r s (if s < 0 then 0 else nF l i k s.toNat) (if s < 0 then 1 else dF l i k s.toNat) ((j + 1 : Nat) : Int)))) else (spec_l11Between.l0 q l i k near r s (if s < 0 then 0 else nF l i k s.toNat) (if s < 0 then 1 else dF l i k s.toNat) ((j + 1 : Nat) : Int))) (fun q => ?_) (Told.bind (Told.of far) ?_)
      · simp only [spec_l11Between.l0]
        rw [if_pos (c := (j : Int) < (k : Int)) (by omega), if_pos (c := (0 : Int) ≤ (i : Int)) (by omega), if_pos (c := (i : Int) < (l.length : Int)) (by omega), if_pos (c := (0 : Int) ≤ (k : Int)) (by omega), if_pos (c := (k : Int) < (l.length : Int)) (by omega), if_pos (c := (0 : Int) ≤ (j : Int)) (by omega), if_pos (c := (j : Int) < (l.length : Int)) (by omega), rdP, rdP, rdP, Gen.w64s (by omega)]
      · have e1 : wrap64 ((wrap64 (near * near)) * dF l i k j) = near * near * dF l i k j := by rw [Gen.w64 (n := near * near) (by omega) (by omega), Gen.w64 (by omega) (by omega)]
        have e1' : wrap64 ((wrap64 (near * near)) * farD (l.getD i z27).f0 (l.getD i z27).f1 (l.getD k z27).f0 (l.getD k z27).f1 (l.getD j z27).f0 (l.getD j z27).f1) = near * near * dF l i k j := e1
        have pn : ∀ {s' : Int} (_ : s' = (j : Int)), Told (fun q => spec_l11Between.l0 q l i k near r s' (if s' < 0 then 0 else nF l i k s'.toNat) (if s' < 0 then 1 else dF l i k s'.toNat) ((j + 1 : Nat) : Int)) v → Told (fun q => spec_l11Between.l0 q l i k near r j (nF l i k j) (dF l i k j) ((j + 1 : Nat) : Int)) v := fun {s'} e hh => by
          subst e
          rw [if_neg (by omega), if_neg (by omega), Int.toNat_natCast] at hh; exact hh
        unfold pk at h2
        by_cases c : isFar l near i k j
        · simp only [if_pos c] at h2
          refine Told.ite_t (by dsimp only; rw [e1']; exact c) ?_
          by_cases c1 : s < 0
          · simp only [if_pos c1] at h2
            exact Told.ite_t c1 (pn rfl h2)
          · simp only [if_neg c1] at h2
            refine Told.ite_f c1 ?_
            have sp := hpt s.toNat (by omega)
            have fs := farN_bd (hpt i hi) (hpt k hk) sp
            have ds := farD_le (px := (l.getD s.toNat z27).f0) (py := (l.getD s.toNat z27).f1) (hpt i hi) (hpt k hk)
            have fs' : 0 ≤ nF l i k s.toNat ∧ nF l i k s.toNat ≤ 6400000000 := ⟨fs.1, fs.2.1⟩
            have ds' : 1 ≤ dF l i k s.toNat ∧ dF l i k s.toNat ≤ 80000 := ds
            have m4 := Gen.mul_bd (m := 6400000000) (n := 80000) (x := nF l i k j) (y := dF l i k s.toNat) (by omega) (by omega)
            have m5 := Gen.mul_bd (m := 6400000000) (n := 80000) (x := nF l i k s.toNat) (y := dF l i k j) (by omega) (by omega)
            have e4 : wrap64 (nF l i k j * dF l i k s.toNat) = nF l i k j * dF l i k s.toNat := Gen.w64 (by omega) (by omega)
            have e5 : wrap64 (nF l i k s.toNat * dF l i k j) = nF l i k s.toNat * dF l i k j := Gen.w64 (by omega) (by omega)
            simp only [if_neg c1]
            by_cases c2 : nF l i k j * dF l i k s.toNat > nF l i k s.toNat * dF l i k j
            · simp only [if_pos c2] at h2
              exact Told.ite_t (show wrap64 (nF l i k j * dF l i k s.toNat) > wrap64 (nF l i k s.toNat * dF l i k j) by rw [e4, e5]; exact c2) (pn rfl h2)
            · simp only [if_neg c2, if_neg c1] at h2
              exact Told.ite_f (show ¬ wrap64 (nF l i k j * dF l i k s.toNat) > wrap64 (nF l i k s.toNat * dF l i k j) by rw [e4, e5]; exact c2) h2
        · simp only [if_neg c] at h2
          exact Told.ite_f (by dsimp only; rw [e1']; exact c) h2
    · have e : max k (i + 1) - (i + 1) = k - (i + 1) := by omega
      rw [e]; exact hv
  intro n
  induction n with
  | zero =>
    intro i k r hi hk hn' hr
    have e : bestV l near i k = -1 := by unfold bestV; rw [show k - (i + 1) = 0 by omega]; rfl
    refine walk i k r _ hi hk (Told.stepr fun q => ?_)
    simp only [spec_l11Between.l0, btw, e]
    rw [if_neg (by omega), if_pos (by omega)]
  | succ n ih =>
    intro i k r hi hk hn' hr
    refine walk i k r _ hi hk ?_
    rcases best_spec l near i k with ⟨e, _⟩ | ⟨b1, b2⟩
    · have ev : btw l near (n + 1) i k r = r := by simp only [btw]; rw [if_pos (by omega)]
      rw [ev]
      refine Told.stepr fun q => ?_
      simp only [spec_l11Between.l0]
      rw [if_neg (by omega), if_pos (by omega)]
    · obtain ⟨b, hb⟩ : ∃ b : Nat, bestV l near i k = b := ⟨(bestV l near i k).toNat, by omega⟩
      have ev : btw l near (n + 1) i k r = btw l near n b k (btw l near n i b (r.set b true)) := by simp only [btw]; rw [if_neg (by omega), hb, Int.toNat_natCast]
      rw [ev]
      refine Told.step (fun q => by simp only [spec_l11Between.l0]; rw [if_neg (by omega), if_neg (by omega), if_pos (by omega), if_pos (by omega), hb, Int.toNat_natCast]) ?_
      have t1 := ih i b (r.set b true) hi (by omega) (by omega) (by simpa using hr)
      have t2 := ih b k (btw l near n i b (r.set b true)) (by omega) hk (by omega) (by rw [btw_len]; simpa using hr)
      exact Told.bind t1 (Told.bind t2 (Told.ret _))
theorem implFarness' {ax ay bx bY px py : Int} (ha : Pt ax ay) (hb : Pt bx bY) (hp : Pt px py) : impl_farness.f ax ay bx bY px py = some (farN ax ay bx bY px py * mulZ ax ay bx bY px py, timZ ax ay bx bY) := by
  by_cases h0 : farZ bx bY ax ay = 0
  · unfold impl_farness.f mulZ timZ
    rw [implFar_ok ha hb]
    simp only [Option.bind_some]
    rw [if_pos (by rw [farZ_comm]; exact h0), implFar_ok ha hp, if_pos h0, if_pos h0]
    simp only [Option.bind_some]
    unfold farN
    rw [if_pos (by rw [dot_same h0]; omega), Int.mul_one]
  · have hs : Sg ax ay bx bY := ⟨ha, hb, fun ⟨e1, e2⟩ => h0 (by unfold farZ; rw [e1, e2]; simp)⟩
    rw [implFarness hs hp]
    unfold mulZ timZ
    rw [if_neg h0, if_neg h0]
theorem tImplBtw (l : List S27) (h : Ln l) (near : Int) (hn : 0 ≤ near ∧ near ≤ 200) : ∀ n (i k : Nat) (r : List Bool), i < l.length → k < l.length → k ≤ i + 1 + n → r.length = l.length → Told (fun q => impl_keepBetween.f q l r (i : Int) (k : Int) near) (btw l near n i k r) := by
  have h10 := h.2.1
  have hpt : ∀ m, m < l.length → Pt (l.getD m z27).f0 (l.getD m z27).f1 := fun m hm => (h.2.2 m hm).1
  have nn := Gen.mul_bd (m := 200) (n := 200) (x := near) (y := near) (by omega) (by omega)
  have n0 := Int.mul_nonneg hn.1 hn.1
  have walk : ∀ (i k : Nat) (r : List Bool) (v : List Bool), i < l.length → k < l.length → Told (fun q => impl_keepBetween.l0 q l r i k near (bestV l near i k) (if bestV l near i k < 0 then 0 else nF l i k (bestV l near i k).toNat * mF l i k (bestV l near i k).toNat) (max k (i + 1) : Nat) (l.getD i z27).f0 (l.getD i z27).f1 (l.getD k z27).f0 (l.getD k z27).f1) v → Told (fun q => impl_keepBetween.f q l r (i : Int) (k : Int) near) v := by
    intro i k r v hi hk hv
    refine Told.step (M := fun q => impl_keepBetween.l0 q l r i k near (-1) 0 ((i + 1 : Nat) : Int) (l.getD i z27).f0 (l.getD i z27).f1 (l.getD k z27).f0 (l.getD k z27).f1) (fun q => by simp only [impl_keepBetween.f]; rw [if_pos (by omega), if_pos (by omega), if_pos (by omega), if_pos (by omega), Gen.w64s (by omega), rdP, rdP]) ?_
    refine Told.up (n := max k (i + 1)) (fun s j => pk l near i k s j) (fun q s j => impl_keepBetween.l0 q l r i k near s (if s < 0 then 0 else nF l i k s.toNat * mF l i k s.toNat) j (l.getD i z27).f0 (l.getD i z27).f1 (l.getD k z27).f0 (l.getD k z27).f1) (fun s j => s < l.length ∧ i < j) (fun s j hj hs => ⟨⟨?_, by omega⟩, fun h2 => ?_⟩) (max k (i + 1) - (i + 1)) (-1) (i + 1) (by omega) ⟨by omega, by omega⟩ ?_
    · unfold pk; split
      · split
        · omega
        · split <;> omega
      · exact hs.1
    · have jk : j < k := by omega
      have far : impl_farness.f (l.getD i z27).f0 (l.getD i z27).f1 (l.getD k z27).f0 (l.getD k z27).f1 (l.getD j z27).f0 (l.getD j z27).f1 = some (nF l i k j * mF l i k j, tF l i k) := implFarness' (hpt i hi) (hpt k hk) (hpt j (by omega))
      have z0 := (farZ_bd (hpt k hk) (hpt i hi)).2
      have mm : ∀ m, mF l i k m * dF l i k m = tF l i k ∧ 0 < mF l i k m ∧ 0 < dF l i k m := fun m => mulZ_far z0.1
      have tb : 0 < tF l i k ∧ tF l i k ≤ 80000 := by unfold tF timZ; split <;> omega
      have m3 := Gen.mul_bd (m := 40000) (n := 80000) (x := near * near) (y := tF l i k) (by omega) (by omega)
      have e1 : wrap64 ((wrap64 (near * near)) * tF l i k) = near * near * tF l i k := by rw [Gen.w64 (n := near * near) (by omega) (by omega), Gen.w64 (by omega) (by omega)]
      obtain ⟨mj, mj0, dj0⟩ := mm j
      have cf : isFar l near i k j ↔ nF l i k j * mF l i k j > near * near * tF l i k := by
        unfold isFar
        have q1 : nF l i k j * mF l i k j = mF l i k j * nF l i k j := Int.mul_comm _ _
        have q2 : near * near * tF l i k = mF l i k j * (near * near * dF l i k j) := by rw [← mj, ← Int.mul_assoc, ← Int.mul_assoc, Int.mul_comm (mF l i k j) (near * near)]
        rw [q1, q2]
        exact (lt_mulc mj0).symm
      refine Told.step (M := fun q => (impl_farness.f (l.getD i z27).f0 (l.getD i z27).f1 (l.getD k z27).f0 (l.getD k z27).f1 (l.getD j z27).f0 (l.getD j z27).f1).bind fun bt => if bt.1 > (wrap64 ((wrap64 (near * near)) * bt.2)) then (if s < 0 then (impl_keepBetween.l0 q l r i k near j bt.1 ((j + 1 : Nat) : Int) (l.getD i z27).f0 (l.getD i z27).f1 (l.getD k z27).f0 (l.getD k z27).f1) else (if bt.1 > (if s < 0 then 0 else nF l i k s.toNat * mF l i k s.toNat) then (impl_keepBetween.l0 q l r i k near j bt.1 ((j + 1 : Nat) : Int) (l.getD i z27).f0 (l.getD i z27).f1 (l.getD k z27).f0 (l.getD k z27).f1) else (impl_keepBetween.l0 q l r i k near s (if s < 0 then 0 else nF l i k s.toNat * mF l i k s.toNat) ((j + 1 : Nat) : Int) (l.getD i z27).f0 (l.getD i z27).f1 (l.getD k z27).f0 (l.getD k z27).f1))) else (impl_keepBetween.l0 q l r i k near s (if s < 0 then 0 else nF l i k s.toNat * mF l i k s.toNat) ((j + 1 : Nat) : Int) (l.getD i z27).f0 (l.getD i z27).f1 (l.getD k z27).f0 (l.getD k z27).f1)) (fun q => ?_) (Told.bind (Told.of far) ?_)
      · simp only [impl_keepBetween.l0]
        rw [if_pos (c := (j : Int) < (k : Int)) (by omega), if_pos (c := (0 : Int) ≤ (j : Int)) (by omega), if_pos (c := (j : Int) < (l.length : Int)) (by omega), rdP, Gen.w64s (by omega)]
      · have pn : ∀ {s' : Int} (_ : s' = (j : Int)), Told (fun q => impl_keepBetween.l0 q l r i k near s' (if s' < 0 then 0 else nF l i k s'.toNat * mF l i k s'.toNat) ((j + 1 : Nat) : Int) (l.getD i z27).f0 (l.getD i z27).f1 (l.getD k z27).f0 (l.getD k z27).f1) v → Told (fun q => impl_keepBetween.l0 q l r i k near j (nF l i k j * mF l i k j) ((j + 1 : Nat) : Int) (l.getD i z27).f0 (l.getD i z27).f1 (l.getD k z27).f0 (l.getD k z27).f1) v := fun {s'} e hh => by
          subst e
          rw [if_neg (by omega), Int.toNat_natCast] at hh; exact hh
        unfold pk at h2
        by_cases c : isFar l near i k j
        · simp only [if_pos c] at h2
          refine Told.ite_t (by dsimp only; rw [e1]; exact cf.mp c) ?_
          by_cases c1 : s < 0
          · simp only [if_pos c1] at h2
            exact Told.ite_t c1 (pn rfl h2)
          · simp only [if_neg c1] at h2
            refine Told.ite_f c1 ?_
            obtain ⟨ms_, ms0, ds0⟩ := mm s.toNat
            have cc : nF l i k j * dF l i k s.toNat > nF l i k s.toNat * dF l i k j ↔ nF l i k j * mF l i k j > nF l i k s.toNat * mF l i k s.toNat := by
              have q : (dF l i k j * dF l i k s.toNat) * (nF l i k j * mF l i k j) = tF l i k * (nF l i k j * dF l i k s.toNat) := by rw [← mj]; grind
              have q' : (dF l i k j * dF l i k s.toNat) * (nF l i k s.toNat * mF l i k s.toNat) = tF l i k * (nF l i k s.toNat * dF l i k j) := by rw [← ms_]; grind
              have a1 := lt_mulc (a := nF l i k s.toNat * dF l i k j) (b := nF l i k j * dF l i k s.toNat) tb.1
              have a2 := lt_mulc (a := nF l i k s.toNat * mF l i k s.toNat) (b := nF l i k j * mF l i k j) (Int.mul_pos dj0 ds0)
              rw [q, q'] at a2
              exact a1.symm.trans a2
            simp only [if_neg c1]
            by_cases c2 : nF l i k j * dF l i k s.toNat > nF l i k s.toNat * dF l i k j
            · simp only [if_pos c2] at h2
              exact Told.ite_t (cc.mp c2) (pn rfl h2)
            · simp only [if_neg c2, if_neg c1] at h2
              exact Told.ite_f (fun h => c2 (cc.mpr h)) h2
        · simp only [if_neg c] at h2
          exact Told.ite_f (by dsimp only; rw [e1]; exact fun h => c (cf.mpr h)) h2
    · have e : max k (i + 1) - (i + 1) = k - (i + 1) := by omega
      rw [e]; exact hv
  intro n
  induction n with
  | zero =>
    intro i k r hi hk hn' hr
    have e : bestV l near i k = -1 := by unfold bestV; rw [show k - (i + 1) = 0 by omega]; rfl
    refine walk i k r _ hi hk (Told.stepr fun q => ?_)
    simp only [impl_keepBetween.l0, btw, e]
    rw [if_neg (by omega), if_pos (by omega)]
  | succ n ih =>
    intro i k r hi hk hn' hr
    refine walk i k r _ hi hk ?_
    rcases best_spec l near i k with ⟨e, _⟩ | ⟨b1, b2⟩
    · have ev : btw l near (n + 1) i k r = r := by simp only [btw]; rw [if_pos (by omega)]
      rw [ev]
      refine Told.stepr fun q => ?_
      simp only [impl_keepBetween.l0]
      rw [if_neg (by omega), if_pos (by omega)]
    · obtain ⟨b, hb⟩ : ∃ b : Nat, bestV l near i k = b := ⟨(bestV l near i k).toNat, by omega⟩
      have ev : btw l near (n + 1) i k r = btw l near n b k (btw l near n i b (r.set b true)) := by simp only [btw]; rw [if_neg (by omega), hb, Int.toNat_natCast]
      rw [ev]
      refine Told.step (fun q => by simp only [impl_keepBetween.l0]; rw [if_neg (by omega), if_neg (by omega), if_pos (by omega), if_pos (by omega), hb, Int.toNat_natCast]) ?_
      have t1 := ih i b (r.set b true) hi (by omega) (by omega) (by simpa using hr)
      have t2 := ih b k (btw l near n i b (r.set b true)) (by omega) hk (by omega) (by rw [btw_len]; simpa using hr)
      exact Told.bind t1 (Told.bind t2 (Told.ret _))
theorem foldl_keep {α : Type} (g : Nat → α) (p : Nat → Bool) (x : List Nat) : ∀ s : List α, x.foldl (fun s i => if p i = true then s ++ [g i] else s) s = s ++ (x.filter p).map g := by
  induction x with
  | nil => intro s; simp
  | cons a x ih =>
    intro s
    rw [List.foldl_cons, ih]
    by_cases h : p a = true
    · rw [if_pos h, List.filter_cons_of_pos h]; simp
    · rw [if_neg h, List.filter_cons_of_neg h]
def keptV (l : List S27) (r : List Bool) : List S27 := ((List.range' 0 l.length).filter fun i => r.getD i false).map fun i => l.getD i z27
def endsR (n : Nat) : List Bool := (List.range' 0 n).map fun i => decide (i = 0 ∨ i + 1 = n)
theorem endsR_len (n : Nat) : (endsR n).length = n := by simp [endsR]
theorem endsR_at {n i : Nat} (h : i < n) : (endsR n).getD i false = decide (i = 0 ∨ i + 1 = n) := by
  unfold endsR
  rw [List.getD_eq_getElem?_getD, List.getElem?_map, List.getElem?_range' h]
  simp
def marksV (l : List S27) (near : Int) : List Bool := btw l near l.length 0 (l.length - 1) (endsR l.length)
def simplV (l : List S27) (near : Int) : List S27 := if Ln l ∧ 0 ≤ near ∧ near ≤ 200 then keptV l (marksV l near) else l
theorem tSpecSimpl (l : List S27) (near : Int) (hl : l.length ≤ 1048576) : Told (fun k => spec_SimplifyLine.f k l near) (simplV l near) := by
  have no : ¬ (Ln l ∧ 0 ≤ near ∧ near ≤ 200) → Told (fun k => spec_SimplifyLine.j0 k l near true) (simplV l near) := fun h => Told.stepr fun k => by
    simp only [spec_SimplifyLine.j0, if_true, Option.bind_some]
    rw [if_pos (by simp; omega), List.nil_append, simplV, if_neg h]
  refine Told.bind (tSpecLine l hl) ?_
  by_cases h : Ln l
  · refine Told.ite_t (by simpa using h) (Told.bind (Told.of (specIn _ _ _)) ?_)
    by_cases hn : 0 ≤ near ∧ near ≤ 200
    · have h2 := h.1; have h10 := h.2.1
      rw [decide_eq_true hn, simplV, if_pos ⟨h, hn⟩]
      refine Told.step (M := fun k => spec_SimplifyLine.l0 k l near [] ((0 : Nat) : Int)) (fun k => by simp only [spec_SimplifyLine.j0, Bool.not_true, Bool.false_eq_true, if_false]; rfl) ?_
      refine Told.up (n := l.length) (fun s i => s ++ [decide (i = 0 ∨ i + 1 = l.length)]) (fun k s i => spec_SimplifyLine.l0 k l near s i) (fun s i => s.length = i) (fun s i hi hv => ⟨by simp; omega, fun hh => ?_⟩) l.length [] 0 (by omega) rfl ?_
      · refine Told.step (fun k => ?_) hh
        simp only [spec_SimplifyLine.l0]
        rw [if_pos (by omega)]
        by_cases c : i = 0
        · subst c
          rw [if_pos (c := ((0 : Nat) : Int) = 0) rfl, if_pos (by omega), Gen.w64s (by omega)]; simp
        · rw [if_neg (by omega), if_pos (by omega), Gen.w64s (by omega)]
          congr 2
          congr 1
          rw [Bool.eq_iff_iff, beq_iff_eq, decide_eq_true_eq]; omega
      · have e : (List.range' 0 l.length).foldl (fun s i => s ++ [decide (i = 0 ∨ i + 1 = l.length)]) [] = endsR l.length := by rw [foldl_push (fun i => decide (i = 0 ∨ i + 1 = l.length)), List.nil_append]; rfl
        rw [e]
        have w : wrap64 ((l.length : Int) - 1) = ((l.length - 1 : Nat) : Int) := by rw [Gen.w64 (by omega) (by omega)]; omega
        refine Told.step (M := fun k => (spec_l11Between.f k l ((0 : Nat) : Int) ((l.length - 1 : Nat) : Int) near (endsR l.length)).bind fun t => spec_SimplifyLine.l1 k l t [] ((0 : Nat) : Int)) (fun k => by simp only [spec_SimplifyLine.l0]; rw [if_neg (by omega), w]; rfl) ?_
        refine Told.bind (tSpecBtw l h near hn l.length 0 (l.length - 1) (endsR l.length) (by omega) (by omega) (by omega) (endsR_len _)) ?_
        have hm : (marksV l near).length = l.length := by unfold marksV; rw [btw_len, endsR_len]
        refine Told.up (n := l.length) (fun s i => if (marksV l near).getD i false = true then s ++ [l.getD i z27] else s) (fun k s i => spec_SimplifyLine.l1 k l (marksV l near) s i) (fun s i => s.length ≤ i) (fun s i hi hv => ⟨by split <;> (try simp only [List.length_append, List.length_singleton]) <;> omega, fun hh => ?_⟩) l.length [] 0 (by omega) (by simp) ?_
        · refine Told.step (fun k => ?_) hh
          simp only [spec_SimplifyLine.l1]
          rw [if_pos (by omega), if_pos (by omega), if_pos (by omega), Gen.w64s (by omega)]
          show (if (marksV l near).getD i false = true then _ else _) = _
          by_cases c : (marksV l near).getD i false = true
          · rw [if_pos c, if_pos c, if_pos (by omega)]; rfl
          · rw [if_neg c, if_neg c]
        · refine Told.stepr fun k => ?_
          simp only [spec_SimplifyLine.l1]
          rw [if_neg (by omega), foldl_keep (fun i => l.getD i z27) (fun i => (marksV l near).getD i false)]
          rfl
    · rw [decide_eq_false hn]; exact no fun q => hn q.2
  · exact Told.ite_f (by simpa using h) (no fun q => h q.1)
theorem ends_set (n : Nat) (h : 2 ≤ n) : ((List.replicate n false).set 0 true).set (n - 1) true = endsR n := by
  apply List.ext_getElem (by simp [endsR])
  intro i h1 h2
  simp only [List.length_set, List.length_replicate] at h1
  have e : (endsR n)[i] = decide (i = 0 ∨ i + 1 = n) := by
    have := endsR_at h1
    rw [List.getD_eq_getElem?_getD, List.getElem?_eq_getElem h2] at this
    exact this
  rw [e, List.getElem_set, List.getElem_set, List.getElem_replicate]
  by_cases c : n - 1 = i
  · rw [if_pos c, decide_eq_true (.inr (by omega))]
  · rw [if_neg c]
    by_cases c0 : 0 = i
    · rw [if_pos c0, decide_eq_true (.inl c0.symm)]
    · rw [if_neg c0, decide_eq_false (by omega)]
theorem tImplSimpl (l : List S27) (near : Int) (hl : l.length ≤ 1048576) : Told (fun k => impl_SimplifyLine.f k l near) (simplV l near) := by
  have no : ¬ (Ln l ∧ 0 ≤ near ∧ near ≤ 200) → Told (fun k => impl_SimplifyLine.j0 k l near true) (simplV l near) := fun h => Told.stepr fun k => by
    simp only [impl_SimplifyLine.j0, if_true]
    rw [implClone l hl, simplV, if_neg h]; rfl
  refine Told.bind (tImplLine l hl) ?_
  by_cases h : Ln l
  · refine Told.ite_t (by simpa using h) (Told.bind (Told.of (implInRange _ _ _)) ?_)
    by_cases hn : 0 ≤ near ∧ near ≤ 200
    · have h2 := h.1; have h10 := h.2.1
      rw [decide_eq_true hn, simplV, if_pos ⟨h, hn⟩]
      have w : wrap64 ((l.length : Int) - 1) = ((l.length - 1 : Nat) : Int) := by rw [Gen.w64 (by omega) (by omega)]; omega
      refine Told.step (M := fun k => (impl_keepBetween.f k l (endsR l.length) ((0 : Nat) : Int) ((l.length - 1 : Nat) : Int) near).bind fun t => impl_SimplifyLine.l0 k t [] l (l.length : Int) ((0 : Nat) : Int)) (fun k => ?_) ?_
      · simp only [impl_SimplifyLine.j0, Bool.not_true, Bool.false_eq_true, if_false, Option.bind_some]
        rw [if_pos (by omega), if_pos (by omega), if_pos (by simp; omega), w, if_pos (by omega), if_pos (by simp; omega)]
        simp only [Int.toNat_natCast, Int.toNat_zero]
        rw [ends_set _ h2]; rfl
      refine Told.bind (tImplBtw l h near hn l.length 0 (l.length - 1) (endsR l.length) (by omega) (by omega) (by omega) (endsR_len _)) ?_
      have hm : (marksV l near).length = l.length := by unfold marksV; rw [btw_len, endsR_len]
      refine Told.up (n := l.length) (fun s i => if (marksV l near).getD i false = true then s ++ [l.getD i z27] else s) (fun k s i => impl_SimplifyLine.l0 k (marksV l near) s l (l.length : Int) i) (fun s i => s.length ≤ i) (fun s i hi hv => ⟨by split <;> (try simp only [List.length_append, List.length_singleton]) <;> omega, fun hh => ?_⟩) l.length [] 0 (by omega) (by simp) ?_
      · refine Told.step (fun k => ?_) hh
        simp only [impl_SimplifyLine.l0]
        rw [if_pos (by omega), if_pos (by omega), if_pos (by omega), if_pos (by omega), Gen.w64s (by omega)]
        show (if (marksV l near).getD i false = true then _ else _) = _
        by_cases c : (marksV l near).getD i false = true
        · rw [if_pos c, if_pos c, if_pos (by omega)]; rfl
        · rw [if_neg c, if_neg c]
      · refine Told.stepr fun k => ?_
        simp only [impl_SimplifyLine.l0]
        rw [if_neg (by omega), foldl_keep (fun i => l.getD i z27) (fun i => (marksV l near).getD i false)]
        rfl
    · rw [decide_eq_false hn]; exact no fun q => hn q.2
  · exact Told.ite_f (by simpa using h) (no fun q => h q.1)
theorem pure_FnExactCountLeftOut : ∀ (l0 : (List S87)) (a1 : Int), (List.length l0 ≤ maxLen ∧ ∀ y ∈ l0, G87 y) → I64 a1 → ∃ k, laws_FnExactCountLeftOut.f k l0 a1 = some true := by
  intro a n ⟨ha, _⟩ _
  apply Told.ex
  unfold maxLen at ha
  refine Told.bind (Told.of (szPointS_some a 1048576 (by unfold maxLen; omega) (by omega) (by omega))) ?_
  by_cases h1 : (1048576 : Int) < a.length
  · rw [if_pos h1]; exact Told.ite_t (by omega) (Told.ret _)
  rw [if_neg h1]
  have la : (a.map cP).length ≤ 1048576 := by simp; omega
  have tp := tToPointS a (by omega)
  refine Told.ite_f (by omega) (Told.bind tp (Told.bind (Told.bind (tSpecSimpl _ n la) (Told.ret _)) (Told.bind tp (Told.bind (Told.bind (tImplSimpl _ n la) (Told.ret _)) (Told.ite_t rfl (Told.bind tp (Told.bind (tEqPointS _ la) (Told.ite_t rfl (Told.ret _)))))))))
end Go.Proofs.Ytbackoeakepngaa.MFnExactCountLeftOut
