/- The plain law behind FnAreas: what the printed functions compute answers true; no condition beyond the arguments' ranges. -/
import Derived.Test.YtbackoeakepngaaZFnAreasTold
import Derived.Test.YtbackoeakepngaaZFnAreasArea
import Derived.Test.YtbackoeakepngaaZFnAreasSym
import Derived.Laws.BitsLemmas
import Derived.Test.YtbackoeakepngaaZFnAreasMx10
import Derived.Test.YtbackoeakepngaaZFnAreasOpn
namespace Go.Proofs.Ytbackoeakepngaa.MFnAreas
open Go Go.RowKit Go.Proofs.YtbackoeakepngaaW.PrintWords Go.Proofs.YtbackoeakepngaaW.PrintLast Go.Proofs.YtbackoeakepngaaW.PrintMore Go.Proofs.Ytbackoeakepngaa.Open
set_option linter.unusedVariables false
set_option linter.unusedSimpArgs false
theorem and255 (n : Int) : 0 ≤ bits .and .i64 n 255 ∧ bits .and .i64 n 255 ≤ 255 := by
  have h : (BitVec.ofInt 64 255).toNat = 2 ^ 8 - 1 := by decide
  have key : (BitVec.ofInt 64 n &&& BitVec.ofInt 64 255).toNat = (n % ((2 ^ 64 : Nat) : Int)).toNat % 2 ^ 8 := by
    rw [BitVec.toNat_and, BitVec.toNat_ofInt, h, Nat.and_two_pow_sub_one_eq_mod]
  show 0 ≤ IntKind.i64.wrap ((BitVec.ofInt 64 n &&& BitVec.ofInt 64 255).toNat : Nat) ∧ IntKind.i64.wrap ((BitVec.ofInt 64 n &&& BitVec.ofInt 64 255).toNat : Nat) ≤ 255
  rw [key, IntKind.wrap_i64]
  omega
structure CK (xs : List Int) (p : Int) : Prop where
  lo : 0 ≤ p
  hi : p ≤ xs.length
  sm : xs.length ≤ 1048576
theorem dByte {xs : List Int} {p : Int} (c : CK xs p) (s : Int) : ∃ b p' s', spec_l1Byte.f xs p s = some (b, p', s') ∧ 0 ≤ b ∧ b ≤ 255 ∧ CK xs p' := by
  obtain ⟨a, b, d⟩ := c
  unfold spec_l1Byte.f
  by_cases h : p < (xs.length : Int)
  · rw [if_pos h, if_pos a]
    refine ⟨_, _, _, rfl, (and255 _).1, (and255 _).2, ?_⟩
    rw [Gen.w64 (by omega) (by omega)]
    exact ⟨by omega, by omega, d⟩
  · rw [if_neg h]
    exact ⟨_, _, _, rfl, (and255 _).1, (and255 _).2, a, b, d⟩
theorem tmod_bd {b n : Int} (h : 0 ≤ b) (hn : 0 < n) : 0 ≤ Int.tmod b n ∧ Int.tmod b n < n := by
  rw [Int.tmod_eq_emod_of_nonneg h]
  exact ⟨Int.emod_nonneg _ (by omega), Int.emod_lt_of_pos _ hn⟩
theorem dBelow {xs : List Int} {p : Int} (c : CK xs p) (s n : Int) : ∃ b p' s', spec_l1Below.f xs p s n = some (b, p', s') ∧ 0 ≤ b ∧ (0 < n → b < n) ∧ (n ≤ 0 → b = 0) ∧ CK xs p' := by
  unfold spec_l1Below.f
  by_cases h : n ≤ 0
  · rw [if_pos h]; exact ⟨_, _, _, rfl, by omega, by omega, fun _ => rfl, c⟩
  · rw [if_neg h]
    obtain ⟨b, p1, s1, e, b0, b1, c1⟩ := dByte c s
    by_cases h2 : n ≤ 256
    · rw [if_pos h2, e]
      simp only [Option.bind_some]
      rw [if_neg (by omega)]
      exact ⟨_, _, _, rfl, (tmod_bd b0 (by omega)).1, fun _ => (tmod_bd b0 (by omega)).2, by omega, c1⟩
    · rw [if_neg h2, e]
      obtain ⟨d, p2, s2, e2, d0, d1, c2⟩ := dByte c1 s1
      obtain ⟨g, p3, s3, e3, g0, g1, c3⟩ := dByte c2 s2
      simp only [Option.bind_some, e2, e3]
      rw [if_neg (by omega)]
      have w : wrap64 ((wrap64 ((wrap64 (b * 65536)) + (wrap64 (d * 256)))) + g) = b * 65536 + d * 256 + g := by
        rw [Gen.w64 (n := b * 65536) (by omega) (by omega), Gen.w64 (n := d * 256) (by omega) (by omega), Gen.w64 (n := b * 65536 + d * 256) (by omega) (by omega), Gen.w64 (by omega) (by omega)]
      rw [w]
      exact ⟨_, _, _, rfl, (tmod_bd (by omega) (by omega)).1, fun _ => (tmod_bd (by omega) (by omega)).2, by omega, c3⟩
theorem dInt {xs : List Int} {p : Int} (c : CK xs p) (s : Int) (l : List Int) (hl : 0 < l.length) : ∃ b p' s', spec_l1Int.f xs p s l = some (b, p', s') ∧ b ∈ l ∧ CK xs p' := by
  unfold spec_l1Int.f
  obtain ⟨b, p1, s1, e, b0, b1, _, c1⟩ := dBelow c s (l.length : Int)
  have b1 := b1 (by omega)
  rw [e]
  simp only [Option.bind_some]
  rw [if_pos b0, if_pos b1]
  refine ⟨_, _, _, rfl, ?_, c1⟩
  unfold rd
  rw [List.getD_eq_getElem?_getD, List.getElem?_eq_getElem (by omega)]
  exact List.getElem_mem _
theorem dNew (xs : List Int) (h : xs.length ≤ 1048576) : ∃ s, Told (fun k => spec_l1New.f k xs) (xs, 0, s) := by
  have key : ∀ d (i : Nat), i + d = xs.length → ∀ s, ∃ s', Told (fun k => spec_l1New.l0 k xs s (i : Int)) (xs, 0, s') := by
    intro d
    induction d with
    | zero => intro i hi s; exact ⟨s, Told.stepr fun k => by simp only [spec_l1New.l0]; rw [if_neg (by omega)]⟩
    | succ d ih =>
      intro i hi s
      by_cases h4 : (i : Int) < 4000
      · obtain ⟨s', hs⟩ := ih (i + 1) (by omega) _
        exact ⟨s', Told.step (fun k => by simp only [spec_l1New.l0]; rw [if_pos (by omega), if_pos h4, if_pos (by omega), Gen.w64s (by omega)]) hs⟩
      · exact ⟨s, Told.stepr fun k => by simp only [spec_l1New.l0]; rw [if_pos (by omega), if_neg h4]⟩
  exact key xs.length 0 (by omega) _
theorem ck0 {xs : List Int} (h : xs.length ≤ 1048576) : CK xs 0 := ⟨by omega, by omega, h⟩
theorem d4Draw {xs : List Int} {p : Int} (c : CK xs p) (s : Int) : ∃ x y p' s', spec_l4Draw.f xs p s = some (x, y, p', s') ∧ 0 ≤ x ∧ x < 12 ∧ 0 ≤ y ∧ y < 12 ∧ CK xs p' := by
  unfold spec_l4Draw.f
  obtain ⟨x, p1, s1, e1, x0, x1, _, c1⟩ := dBelow c s 12
  obtain ⟨y, p2, s2, e2, y0, y1, _, c2⟩ := dBelow c1 s1 12
  simp only [e1, e2, Option.bind_some]
  exact ⟨_, _, _, _, rfl, x0, x1 (by omega), y0, y1 (by omega), c2⟩
theorem d4Raw {xs : List Int} {p : Int} (c : CK xs p) (s : Int) : ∃ x p' s', spec_l4Raw.f xs p s = some (x, p', s') ∧ CK xs p' := by
  unfold spec_l4Raw.f
  obtain ⟨x, p1, s1, e1, x0, c1⟩ := dInt c s [(-1), 0, 200, 201, 1000, 1001, 9223372036854775807, (-9223372036854775808)] (by simp)
  simp only [e1, Option.bind_some]
  exact ⟨_, _, _, rfl, c1⟩
theorem d4Any {xs : List Int} {p : Int} (c : CK xs p) (s : Int) : ∃ x y p' s', spec_l4Any.f xs p s = some (x, y, p', s') ∧ CK xs p' := by
  unfold spec_l4Any.f
  obtain ⟨x, y, p1, s1, e1, _, _, _, _, c1⟩ := d4Draw c s
  obtain ⟨b, p2, s2, e2, _, _, _, c2⟩ := dBelow c1 s1 12
  obtain ⟨z, p3, s3, e3, c3⟩ := d4Raw c2 s2
  simp only [e1, e2, e3, Option.bind_some]
  by_cases h : b = 0
  · rw [if_pos h]; exact ⟨_, _, _, _, rfl, c3⟩
  · rw [if_neg h]
    by_cases h1 : b = 1
    · rw [if_pos h1]; exact ⟨_, _, _, _, rfl, c3⟩
    · rw [if_neg h1]; exact ⟨_, _, _, _, rfl, c2⟩
theorem d7Draw {xs : List Int} {p : Int} (c : CK xs p) (s : Int) : ∃ l p' s', spec_l7Draw.f xs p s = some (l, p', s') ∧ 3 ≤ l.length ∧ l.length ≤ 6 ∧ CK xs p' := by
  unfold spec_l7Draw.f
  obtain ⟨x, p1, s1, e1, _, _, _, c1⟩ := dBelow c s 8
  obtain ⟨y, p2, s2, e2, _, _, _, c2⟩ := dBelow c1 s1 8
  obtain ⟨w, p3, s3, e3, _, _, _, c3⟩ := dBelow c2 s2 6
  obtain ⟨h, p4, s4, e4, _, _, _, c4⟩ := dBelow c3 s3 6
  obtain ⟨b, p5, s5, e5, _, _, _, c5⟩ := dBelow c4 s4 4
  simp only [e1, e2, e3, e4, e5, Option.bind_some, spec_l7P.f]
  by_cases h0 : b = 0
  · rw [if_pos h0]; exact ⟨_, _, _, rfl, by simp, by simp, c5⟩
  · rw [if_neg h0]
    by_cases h1 : b = 1
    · rw [if_pos h1]; exact ⟨_, _, _, rfl, by simp, by simp, c5⟩
    · rw [if_neg h1]
      by_cases h2 : b = 2
      · rw [if_pos h2]; exact ⟨_, _, _, rfl, by simp, by simp, c5⟩
      · rw [if_neg h2]; exact ⟨_, _, _, rfl, by simp, by simp, c5⟩
theorem d7Any {xs : List Int} {p : Int} (c : CK xs p) (s : Int) : ∃ l p' s', spec_l7Any.f xs p s = some (l, p', s') ∧ 2 ≤ l.length ∧ l.length ≤ 6 ∧ CK xs p' := by
  obtain ⟨l, p1, s1, e1, g1, g2, c1⟩ := d7Draw c s
  obtain ⟨b, p2, s2, e2, _, _, _, c2⟩ := dBelow c1 s1 10
  obtain ⟨x, y, p3, s3, e3, c3⟩ := d4Any c2 s2
  unfold spec_l7Any.f
  simp only [e1, e2, e3, Option.bind_some]
  by_cases h0 : b = 0
  · rw [if_pos h0, if_pos (by omega)]; exact ⟨_, _, _, rfl, by simp; omega, by simp; omega, c3⟩
  · rw [if_neg h0]
    by_cases h1 : b = 1
    · rw [if_pos h1, if_pos (by omega), if_pos (by omega), if_pos (by omega), if_pos (by simp; omega)]; exact ⟨_, _, _, rfl, by simp, by simp; omega, c2⟩
    · rw [if_neg h1]
      by_cases h2 : b = 2
      · rw [if_pos h2, if_pos (by omega)]; exact ⟨_, _, _, rfl, by simp; omega, by simp; omega, c2⟩
      · rw [if_neg h2]; exact ⟨_, _, _, rfl, by omega, g2, c2⟩
theorem implInRange (a b c : Int) : impl_InRange.f a b c = some (decide (b ≤ a ∧ a ≤ c)) := by
  unfold impl_InRange.f; by_cases h : b ≤ a <;> simp [h]
def Pt (x y : Int) : Prop := 0 ≤ x ∧ x ≤ 200 ∧ 0 ≤ y ∧ y ≤ 200
instance (x y : Int) : Decidable (Pt x y) := by unfold Pt; infer_instance
theorem implIsPoint (x y : Int) : impl_IsPoint.f x y = some (decide (Pt x y)) := by
  unfold impl_IsPoint.f
  rw [implInRange, implInRange]
  simp only [Option.bind_some]
  by_cases h : 0 ≤ x ∧ x ≤ 200
  · rw [if_pos (by simpa using h)]; simp [Pt, h]
  · rw [if_neg (by simpa using h)]; simp only [Option.some.injEq, Bool.false_eq, decide_eq_false_iff_not]; unfold Pt; omega
def D (n : Int) : Prop := -200 ≤ n ∧ n ≤ 200
theorem D_of {x y : Int} (hx : 0 ≤ x ∧ x ≤ 200) (hy : 0 ≤ y ∧ y ≤ 200) : wrap64 (x - y) = x - y ∧ D (x - y) := ⟨Gen.w64 (by omega) (by omega), by unfold D; omega⟩
theorem D_mul {x y : Int} (hx : D x) (hy : D y) : wrap64 (x * y) = x * y ∧ -40000 ≤ x * y ∧ x * y ≤ 40000 := by
  have := Gen.mul_bd (m := 200) (n := 200) hx hy
  exact ⟨Gen.w64 (by omega) (by omega), by omega, by omega⟩
def crossZ (ax ay bx bY px py : Int) : Int := (bx - ax) * (py - ay) - (bY - ay) * (px - ax)
theorem crossZ_bd {ax ay bx bY px py : Int} (ha : Pt ax ay) (hb : Pt bx bY) (hp : Pt px py) :
    wrap64 ((wrap64 ((wrap64 (bx - ax)) * (wrap64 (py - ay)))) - (wrap64 ((wrap64 (bY - ay)) * (wrap64 (px - ax))))) = crossZ ax ay bx bY px py ∧ -80000 ≤ crossZ ax ay bx bY px py ∧ crossZ ax ay bx bY px py ≤ 80000 := by
  obtain ⟨a1, a2, a3, a4⟩ := ha; obtain ⟨b1, b2, b3, b4⟩ := hb; obtain ⟨p1, p2, p3, p4⟩ := hp
  obtain ⟨e1, d1⟩ := D_of ⟨b1, b2⟩ ⟨a1, a2⟩
  obtain ⟨e2, d2⟩ := D_of ⟨p3, p4⟩ ⟨a3, a4⟩
  obtain ⟨e3, d3⟩ := D_of ⟨b3, b4⟩ ⟨a3, a4⟩
  obtain ⟨e4, d4⟩ := D_of ⟨p1, p2⟩ ⟨a1, a2⟩
  obtain ⟨m1, n1, o1⟩ := D_mul d1 d2
  obtain ⟨m2, n2, o2⟩ := D_mul d3 d4
  rw [e1, e2, e3, e4, m1, m2]
  unfold crossZ
  exact ⟨Gen.w64 (by omega) (by omega), by omega, by omega⟩
theorem implCross {ax ay bx bY px py : Int} (ha : Pt ax ay) (hb : Pt bx bY) (hp : Pt px py) : impl_cross.f ax ay bx bY px py = some (crossZ ax ay bx bY px py) := by
  unfold impl_cross.f; rw [(crossZ_bd ha hb hp).1]
def Sg (ax ay bx bY : Int) : Prop := Pt ax ay ∧ Pt bx bY ∧ ¬ (ax = bx ∧ ay = bY)
instance (a b c d : Int) : Decidable (Sg a b c d) := by unfold Sg; infer_instance
theorem implIsSegment (a b c d : Int) : impl_IsSegment.f a b c d = some (decide (Sg a b c d)) := by
  unfold impl_IsSegment.f
  rw [implIsPoint, implIsPoint]
  simp only [Option.bind_some, decide_eq_true_eq]
  by_cases h1 : Pt a b
  · rw [if_pos h1]
    by_cases h2 : Pt c d
    · rw [if_pos h2]
      congr 1
      rw [Bool.eq_iff_iff, decide_eq_true_eq]
      simp only [Bool.or_eq_true, Bool.not_eq_true', beq_eq_false_iff_ne, ne_eq, Sg, h1, h2, true_and]
      omega
    · rw [if_neg h2]; simp [Sg, h2]
  · rw [if_neg h1]; simp [Sg, h1]
def SgOn (ax ay bx bY px py : Int) : Prop := Sg ax ay bx bY ∧ Pt px py ∧ Geo.On ⟨ax, ay⟩ ⟨bx, bY⟩ ⟨px, py⟩
instance (a b c d e f : Int) : Decidable (SgOn a b c d e f) := by unfold SgOn; infer_instance
theorem on_iff (ax ay bx bY px py : Int) : Geo.On ⟨ax, ay⟩ ⟨bx, bY⟩ ⟨px, py⟩ ↔ crossZ ax ay bx bY px py = 0 ∧ (min ax bx ≤ px ∧ px ≤ max ax bx) ∧ (min ay bY ≤ py ∧ py ≤ max ay bY) := by
  unfold Geo.On Geo.InB
  have e : Geo.cross ⟨ax, ay⟩ ⟨bx, bY⟩ ⟨px, py⟩ = crossZ ax ay bx bY px py := rfl
  rw [e]
  simp only [and_assoc]
def sideV (ax ay bx bY px py : Int) : Int := if Pt ax ay ∧ Pt bx bY ∧ Pt px py then Geo.sgn (crossZ ax ay bx bY px py) else 0
theorem cmpZ (n : Int) : cmp_Compare_int.f n 0 = some (Geo.sgn n) := by
  unfold cmp_Compare_int.f cmp_isNaN_int.f
  simp only [Option.bind_some, bne_self_eq_false, Bool.false_eq_true, if_false]
  unfold Geo.sgn
  by_cases h1 : n < 0
  · rw [if_pos h1, if_neg (by omega), if_pos h1]
  · rw [if_neg h1]
    by_cases h2 : n > 0
    · rw [if_pos h2, if_pos (by omega)]
    · rw [if_neg h2, if_neg (by omega), if_neg (by omega)]
theorem tImplSide (ax ay bx bY px py : Int) : Told (fun k => impl_SideOf.f k ax ay bx bY px py) (sideV ax ay bx bY px py) := by
  have no : ¬ (Pt ax ay ∧ Pt bx bY ∧ Pt px py) → Told (fun k => impl_SideOf.j0 k true ax ay bx bY px py) (sideV ax ay bx bY px py) := fun h => Told.stepr fun k => by simp only [impl_SideOf.j0, if_true]; rw [sideV, if_neg h]
  by_cases h1 : Pt ax ay
  · by_cases h2 : Pt bx bY
    · refine Told.bind (Told.of (implIsPoint ax ay)) (Told.ite_t (by simpa using h1) (Told.bind (Told.of (implIsPoint bx bY)) (Told.ite_t (by simpa using h2) (Told.bind (Told.of (implIsPoint px py)) ?_))))
      by_cases h3 : Pt px py
      · refine Told.stepr fun k => ?_
        simp only [impl_SideOf.j0, decide_eq_true h3, Bool.not_true, Bool.false_eq_true, if_false]
        rw [implCross h1 h2 h3]
        simp only [Option.bind_some, cmpZ]
        rw [sideV, if_pos ⟨h1, h2, h3⟩]
      · rw [decide_eq_false h3]; exact no (fun h => h3 h.2.2)
    · exact Told.bind (Told.of (implIsPoint ax ay)) (Told.ite_t (by simpa using h1) (Told.bind (Told.of (implIsPoint bx bY)) (Told.ite_f (by simpa using h2) (no (fun h => h2 h.2.1)))))
  · exact Told.bind (Told.of (implIsPoint ax ay)) (Told.ite_f (by simpa using h1) (no (fun h => h1 h.1)))
theorem tImplIsOn (ax ay bx bY px py : Int) : Told (fun k => impl_IsOn.f k ax ay bx bY px py) (decide (SgOn ax ay bx bY px py)) := by
  by_cases h1 : Sg ax ay bx bY
  · by_cases h2 : Pt px py
    · refine Told.bind (Told.of (implIsSegment ax ay bx bY)) (Told.ite_t (by simpa using h1) (Told.bind (Told.of (implIsPoint px py)) (Told.ite_t (by simpa using h2) (Told.bind (tImplSide ax ay bx bY px py) ?_))))
      have e : SgOn ax ay bx bY px py ↔ crossZ ax ay bx bY px py = 0 ∧ (min ax bx ≤ px ∧ px ≤ max ax bx) ∧ (min ay bY ≤ py ∧ py ≤ max ay bY) := by unfold SgOn; rw [on_iff]; exact ⟨fun h => h.2.2, fun h => ⟨h1, h2, h⟩⟩
      refine Told.of ?_
      have es : sideV ax ay bx bY px py = Geo.sgn (crossZ ax ay bx bY px py) := by unfold sideV; exact if_pos ⟨h1.1, h1.2.1, h2⟩
      simp only [es, e, Geo.sgn_eq_zero, Gen.mn_eq, Gen.mx_eq, implInRange, Option.bind_some, decide_eq_true_eq]
      by_cases c1 : crossZ ax ay bx bY px py = 0
      · rw [if_pos c1]
        by_cases c2 : min ax bx ≤ px ∧ px ≤ max ax bx
        · rw [if_pos c2]; simp only [c1, c2, true_and, and_self]
        · rw [if_neg c2]; simp only [c2, false_and, and_false, decide_false]
      · rw [if_neg c1]; simp only [c1, false_and, decide_false]
    · rw [decide_eq_false (fun h : SgOn ax ay bx bY px py => h2 h.2.1)]
      exact Told.bind (Told.of (implIsSegment ax ay bx bY)) (Told.ite_t (by simpa using h1) (Told.bind (Told.of (implIsPoint px py)) (Told.ite_f (by simpa using h2) (Told.ret _))))
  · rw [decide_eq_false (fun h : SgOn ax ay bx bY px py => h1 h.1)]
    exact Told.bind (Told.of (implIsSegment ax ay bx bY)) (Told.ite_f (by simpa using h1) (Told.ret _))
def Ln (l : List S27) : Prop := 2 ≤ l.length ∧ l.length ≤ 10 ∧ ∀ i, i < l.length → Pt (l.getD i z27).f0 (l.getD i z27).f1 ∧ ¬ (0 < i ∧ (l.getD (i - 1) z27).f0 = (l.getD i z27).f0 ∧ (l.getD (i - 1) z27).f1 = (l.getD i z27).f1)
def lnChk (l : List S27) (i : Nat) : Bool := decide (Pt (l.getD i z27).f0 (l.getD i z27).f1 ∧ ¬ (0 < i ∧ (l.getD (i - 1) z27).f0 = (l.getD i z27).f0 ∧ (l.getD (i - 1) z27).f1 = (l.getD i z27).f1))
instance (l : List S27) : Decidable (Ln l) := decidable_of_iff ((2 ≤ l.length ∧ l.length ≤ 10) ∧ ∀ i, i < l.length → lnChk l i = true) (by unfold Ln lnChk; simp only [decide_eq_true_eq, and_assoc])
theorem rdP (l : List S27) (i : Nat) : rd_T27 l (i : Int) = l.getD i z27 := rfl
theorem pt_ok {x y : Int} (h : Pt x y) : Geo.Ok ⟨x, y⟩ := h
theorem sg_ne {ax ay bx bY : Int} (h : Sg ax ay bx bY) : (⟨ax, ay⟩ : Geo.Pt) ≠ ⟨bx, bY⟩ := by intro e; injection e with e1 e2; exact h.2.2 ⟨e1, e2⟩
theorem sgOn_iff {ax ay bx bY px py : Int} (h1 : Sg ax ay bx bY) (h2 : Pt px py) : SgOn ax ay bx bY px py ↔ Geo.On ⟨ax, ay⟩ ⟨bx, bY⟩ ⟨px, py⟩ := ⟨fun h => h.2.2, fun h => ⟨h1, h2, h⟩⟩
def howV (ax ay bx bY cx cy dx dy : Int) : Int := if Sg ax ay bx bY ∧ Sg cx cy dx dy then Geo.howI ⟨ax, ay⟩ ⟨bx, bY⟩ ⟨cx, cy⟩ ⟨dx, dy⟩ else 0
theorem sgn_mul_bd (m n : Int) : wrap64 (Geo.sgn m * Geo.sgn n) = Geo.sgn m * Geo.sgn n := by
  have h1 : -1 ≤ Geo.sgn m ∧ Geo.sgn m ≤ 1 := by unfold Geo.sgn; split <;> (try split) <;> omega
  have h2 : -1 ≤ Geo.sgn n ∧ Geo.sgn n ≤ 1 := by unfold Geo.sgn; split <;> (try split) <;> omega
  have := Gen.mul_bd h1 h2
  exact Gen.w64 (by omega) (by omega)
theorem implBefore {px py qx qy : Int} (hp : Pt px py) (hq : Pt qx qy) : impl_BeforePoint.f px py qx qy = some (decide (Geo.key ⟨px, py⟩ < Geo.key ⟨qx, qy⟩)) := by
  obtain ⟨a1, a2, a3, a4⟩ := hp; obtain ⟨b1, b2, b3, b4⟩ := hq
  unfold impl_BeforePoint.f Geo.key
  show _ = some (decide (1000 * py + px < 1000 * qy + qx))
  split
  · rw [decide_eq_true (by omega)]
  · split
    · congr 1; rw [decide_eq_decide]; omega
    · rw [decide_eq_false (by omega)]
def gP (p : Geo.Pt) : Prop := Pt p.x p.y
theorem gP_lo {a b : Geo.Pt} (ha : gP a) (hb : gP b) : gP (Geo.lowK a b) := by unfold Geo.lowK; split <;> assumption
theorem gP_hi {a b : Geo.Pt} (ha : gP a) (hb : gP b) : gP (Geo.highK a b) := by unfold Geo.highK; split <;> assumption
theorem implForward {ax ay bx bY : Int} (ha : Pt ax ay) (hb : Pt bx bY) : impl_forward.f ax ay bx bY = some ((Geo.lowK ⟨ax, ay⟩ ⟨bx, bY⟩).x, (Geo.lowK ⟨ax, ay⟩ ⟨bx, bY⟩).y, (Geo.highK ⟨ax, ay⟩ ⟨bx, bY⟩).x, (Geo.highK ⟨ax, ay⟩ ⟨bx, bY⟩).y) := by
  unfold impl_forward.f
  rw [implBefore hb ha]
  simp only [Option.bind_some, decide_eq_true_eq, impl_TurnSegment.f]
  unfold Geo.lowK Geo.highK
  split <;> rfl
theorem tImplHow (ax ay bx bY cx cy dx dy : Int) : Told (fun k => impl_HowMeet.f k ax ay bx bY cx cy dx dy) (howV ax ay bx bY cx cy dx dy) := by
  have no : ¬ (Sg ax ay bx bY ∧ Sg cx cy dx dy) → Told (fun k => impl_HowMeet.j0 k true ax ay bx bY cx cy dx dy) (howV ax ay bx bY cx cy dx dy) := fun h => Told.stepr fun k => by simp only [impl_HowMeet.j0, if_true]; rw [howV, if_neg h]
  by_cases h1 : Sg ax ay bx bY
  · refine Told.bind (Told.of (implIsSegment ax ay bx bY)) (Told.ite_t (by simpa using h1) (Told.bind (Told.of (implIsSegment cx cy dx dy)) ?_))
    by_cases h2 : Sg cx cy dx dy
    · have e : howV ax ay bx bY cx cy dx dy = Geo.howI ⟨ax, ay⟩ ⟨bx, bY⟩ ⟨cx, cy⟩ ⟨dx, dy⟩ := by rw [howV, if_pos ⟨h1, h2⟩]
      have ha := h1.1; have hb := h1.2.1; have hc := h2.1; have hd := h2.2.1
      have sd : ∀ {ax ay bx bY px py : Int}, Pt ax ay → Pt bx bY → Pt px py → sideV ax ay bx bY px py = Geo.sgn (crossZ ax ay bx bY px py) := fun p q r => by unfold sideV; exact if_pos ⟨p, q, r⟩
      unfold Geo.howI at e
      rw [decide_eq_true h2]
      refine Told.step (M := fun k => (impl_SideOf.f k ax ay bx bY cx cy).bind fun t1 => (impl_SideOf.f k ax ay bx bY dx dy).bind fun t2 => if t1 = 0 then impl_HowMeet.j1 k t1 t2 (t2 == 0) ax ay bx bY cx cy dx dy else impl_HowMeet.j1 k t1 t2 false ax ay bx bY cx cy dx dy) (fun k => by simp only [impl_HowMeet.j0, Bool.not_true, Bool.false_eq_true, if_false]) (Told.bind (tImplSide ax ay bx bY cx cy) (Told.bind (tImplSide ax ay bx bY dx dy) ?_))
      rw [sd ha hb hc, sd ha hb hd]
      have on4 : ∀ b : Bool, ¬ (crossZ ax ay bx bY cx cy = 0 ∧ crossZ ax ay bx bY dx dy = 0) → (b = true ↔ Geo.Proper ⟨ax, ay⟩ ⟨bx, bY⟩ ⟨cx, cy⟩ ⟨dx, dy⟩) → Told (fun k => impl_HowMeet.j4 k b ax ay bx bY cx cy dx dy) (howV ax ay bx bY cx cy dx dy) := by
        intro b hn hb4
        rw [if_neg (show ¬ (Geo.cross ⟨ax, ay⟩ ⟨bx, bY⟩ ⟨cx, cy⟩ = 0 ∧ Geo.cross ⟨ax, ay⟩ ⟨bx, bY⟩ ⟨dx, dy⟩ = 0) from hn)] at e
        by_cases c : b = true
        · rw [if_pos (hb4.1 c)] at e
          refine Told.stepr fun k => ?_
          simp only [impl_HowMeet.j4]
          rw [if_pos c, e]
        · rw [if_neg (fun h => c (hb4.2 h))] at e
          have o0 := sgOn_iff (px := cx) (py := cy) h1 h2.1
          have o1 := sgOn_iff (px := dx) (py := dy) h1 h2.2.1
          have o2 := sgOn_iff (px := ax) (py := ay) h2 h1.1
          have o3 := sgOn_iff (px := bx) (py := bY) h2 h1.2.1
          simp only [← o0, ← o1, ← o2, ← o3] at e
          refine Told.step (fun k => by simp only [impl_HowMeet.j4]; rw [if_neg c]) (Told.bind (tImplIsOn ax ay bx bY cx cy) ?_)
          by_cases d0 : SgOn ax ay bx bY cx cy
          · rw [if_pos (.inl d0)] at e; rw [e]; exact Told.ite_t (by simpa using d0) (Told.ret _)
          refine Told.ite_f (by simpa using d0) (Told.bind (tImplIsOn ax ay bx bY dx dy) ?_)
          by_cases d1 : SgOn ax ay bx bY dx dy
          · rw [if_pos (.inr (.inl d1))] at e; rw [e]; exact Told.ite_t (by simpa using d1) (Told.ret _)
          refine Told.ite_f (by simpa using d1) (Told.bind (tImplIsOn cx cy dx dy ax ay) ?_)
          by_cases d2 : SgOn cx cy dx dy ax ay
          · rw [if_pos (.inr (.inr (.inl d2)))] at e; rw [e]; exact Told.ite_t (by simpa using d2) (Told.ret _)
          refine Told.ite_f (by simpa using d2) (Told.bind (tImplIsOn cx cy dx dy bx bY) ?_)
          by_cases d3 : SgOn cx cy dx dy bx bY
          · rw [if_pos (.inr (.inr (.inr d3)))] at e; rw [e]; exact Told.ite_t (by simpa using d3) (Told.ret _)
          rw [if_neg (fun h => by rcases h with h | h | h | h <;> contradiction)] at e
          rw [e]
          exact Told.ite_f (by simpa using d3) (Told.ret _)
      have off : ∀ b : Bool, b = false → ¬ (crossZ ax ay bx bY cx cy = 0 ∧ crossZ ax ay bx bY dx dy = 0) → Told (fun k => impl_HowMeet.j1 k (Geo.sgn (crossZ ax ay bx bY cx cy)) (Geo.sgn (crossZ ax ay bx bY dx dy)) b ax ay bx bY cx cy dx dy) (howV ax ay bx bY cx cy dx dy) := by
        intro b hbf hn
        subst hbf
        refine Told.step (fun k => by simp only [impl_HowMeet.j1, Bool.false_eq_true, if_false]; rw [sgn_mul_bd]) ?_
        by_cases p1 : Geo.sgn (crossZ ax ay bx bY cx cy) * Geo.sgn (crossZ ax ay bx bY dx dy) < 0
        · refine Told.ite_t p1 (Told.bind (tImplSide cx cy dx dy ax ay) (Told.bind (tImplSide cx cy dx dy bx bY) ?_))
          rw [sd hc hd ha, sd hc hd hb, sgn_mul_bd]
          refine on4 _ hn ?_
          rw [decide_eq_true_eq]
          exact ⟨fun h => ⟨p1, h⟩, fun h => h.2⟩
        · exact Told.ite_f p1 (on4 _ hn ⟨fun h => (by cases h), fun h => absurd h.1 p1⟩)
      by_cases z1 : crossZ ax ay bx bY cx cy = 0
      · have s1 : Geo.sgn (crossZ ax ay bx bY cx cy) = 0 := Geo.sgn_eq_zero.2 z1
        refine Told.ite_t s1 ?_
        by_cases z2 : crossZ ax ay bx bY dx dy = 0
        · have s2 : Geo.sgn (crossZ ax ay bx bY dx dy) = 0 := Geo.sgn_eq_zero.2 z2
          rw [s1, s2]
          rw [if_pos (show Geo.cross ⟨ax, ay⟩ ⟨bx, bY⟩ ⟨cx, cy⟩ = 0 ∧ Geo.cross ⟨ax, ay⟩ ⟨bx, bY⟩ ⟨dx, dy⟩ = 0 from ⟨z1, z2⟩)] at e
          have ga : gP ⟨ax, ay⟩ := ha
          have gb : gP ⟨bx, bY⟩ := hb
          have gc : gP ⟨cx, cy⟩ := hc
          have gd : gP ⟨dx, dy⟩ := hd
          have l1 := gP_lo ga gb; have l2 := gP_lo gc gd; have i1 := gP_hi ga gb; have i2 := gP_hi gc gd
          have j3 : ∀ s t : Geo.Pt, gP s → gP t → s = Geo.lo2 ⟨ax, ay⟩ ⟨bx, bY⟩ ⟨cx, cy⟩ ⟨dx, dy⟩ → t = Geo.hi2 ⟨ax, ay⟩ ⟨bx, bY⟩ ⟨cx, cy⟩ ⟨dx, dy⟩ → Told (fun k => impl_HowMeet.j3 k s.x s.y t.x t.y) (howV ax ay bx bY cx cy dx dy) := by
            intro s t hs ht es et
            rw [← es, ← et] at e
            refine Told.stepr fun k => ?_
            simp only [impl_HowMeet.j3]
            rw [implBefore ht hs]
            simp only [Option.bind_some, decide_eq_true_eq]
            have e1 : (⟨t.x, t.y⟩ : Geo.Pt) = t := rfl
            have e2 : (⟨s.x, s.y⟩ : Geo.Pt) = s := rfl
            rw [e1, e2, e]
            split
            · rfl
            · by_cases q : s = t
              · subst q; simp
              · rw [if_neg q, if_neg]
                intro h
                simp only [Bool.and_eq_true, beq_iff_eq] at h
                apply q
                cases s; cases t; simp_all
          have j2 : ∀ s : Geo.Pt, gP s → s = Geo.lo2 ⟨ax, ay⟩ ⟨bx, bY⟩ ⟨cx, cy⟩ ⟨dx, dy⟩ → Told (fun k => impl_HowMeet.j2 k (Geo.lowK ⟨cx, cy⟩ ⟨dx, dy⟩).x (Geo.lowK ⟨cx, cy⟩ ⟨dx, dy⟩).y (Geo.highK ⟨cx, cy⟩ ⟨dx, dy⟩).x (Geo.highK ⟨cx, cy⟩ ⟨dx, dy⟩).y s.x s.y (Geo.highK ⟨ax, ay⟩ ⟨bx, bY⟩).x (Geo.highK ⟨ax, ay⟩ ⟨bx, bY⟩).y) (howV ax ay bx bY cx cy dx dy) := by
            intro s hs es
            refine Told.step (M := fun k => if Geo.key (Geo.highK ⟨cx, cy⟩ ⟨dx, dy⟩) < Geo.key (Geo.highK ⟨ax, ay⟩ ⟨bx, bY⟩) then impl_HowMeet.j3 k s.x s.y (Geo.highK ⟨cx, cy⟩ ⟨dx, dy⟩).x (Geo.highK ⟨cx, cy⟩ ⟨dx, dy⟩).y else impl_HowMeet.j3 k s.x s.y (Geo.highK ⟨ax, ay⟩ ⟨bx, bY⟩).x (Geo.highK ⟨ax, ay⟩ ⟨bx, bY⟩).y) (fun k => ?_) ?_
            · simp only [impl_HowMeet.j2]
              rw [implBefore i2 i1]
              simp only [Option.bind_some, decide_eq_true_eq]
            · by_cases q : Geo.key (Geo.highK ⟨cx, cy⟩ ⟨dx, dy⟩) < Geo.key (Geo.highK ⟨ax, ay⟩ ⟨bx, bY⟩)
              · exact Told.ite_t q (j3 s _ hs i2 es (by unfold Geo.hi2; rw [if_pos q]))
              · exact Told.ite_f q (j3 s _ hs i1 es (by unfold Geo.hi2; rw [if_neg q]))
          refine Told.step (M := fun k => if Geo.key (Geo.lowK ⟨ax, ay⟩ ⟨bx, bY⟩) < Geo.key (Geo.lowK ⟨cx, cy⟩ ⟨dx, dy⟩) then impl_HowMeet.j2 k (Geo.lowK ⟨cx, cy⟩ ⟨dx, dy⟩).x (Geo.lowK ⟨cx, cy⟩ ⟨dx, dy⟩).y (Geo.highK ⟨cx, cy⟩ ⟨dx, dy⟩).x (Geo.highK ⟨cx, cy⟩ ⟨dx, dy⟩).y (Geo.lowK ⟨cx, cy⟩ ⟨dx, dy⟩).x (Geo.lowK ⟨cx, cy⟩ ⟨dx, dy⟩).y (Geo.highK ⟨ax, ay⟩ ⟨bx, bY⟩).x (Geo.highK ⟨ax, ay⟩ ⟨bx, bY⟩).y else impl_HowMeet.j2 k (Geo.lowK ⟨cx, cy⟩ ⟨dx, dy⟩).x (Geo.lowK ⟨cx, cy⟩ ⟨dx, dy⟩).y (Geo.highK ⟨cx, cy⟩ ⟨dx, dy⟩).x (Geo.highK ⟨cx, cy⟩ ⟨dx, dy⟩).y (Geo.lowK ⟨ax, ay⟩ ⟨bx, bY⟩).x (Geo.lowK ⟨ax, ay⟩ ⟨bx, bY⟩).y (Geo.highK ⟨ax, ay⟩ ⟨bx, bY⟩).x (Geo.highK ⟨ax, ay⟩ ⟨bx, bY⟩).y) (fun k => ?_) ?_
          · simp only [impl_HowMeet.j1, beq_self_eq_true, if_true]
            rw [implForward ha hb, implForward hc hd]
            simp only [Option.bind_some]
            rw [implBefore l1 l2]
            simp only [Option.bind_some, decide_eq_true_eq]
          · by_cases q : Geo.key (Geo.lowK ⟨ax, ay⟩ ⟨bx, bY⟩) < Geo.key (Geo.lowK ⟨cx, cy⟩ ⟨dx, dy⟩)
            · exact Told.ite_t q (j2 _ l2 (by unfold Geo.lo2; rw [if_pos q]))
            · exact Told.ite_f q (j2 _ l1 (by unfold Geo.lo2; rw [if_neg q]))
        · exact off _ (by simpa using fun h => z2 (Geo.sgn_eq_zero.1 h)) (fun h => z2 h.2)
      · exact Told.ite_f (fun h => z1 (Geo.sgn_eq_zero.1 h)) (off _ rfl (fun h => z1 h.1))
    · rw [decide_eq_false h2]; exact no (fun h => h2 h.2)
  · exact Told.bind (Told.of (implIsSegment ax ay bx bY)) (Told.ite_f (by simpa using h1) (no (fun h => h1 h.1)))
theorem rdS (l : List S53) (i : Nat) : rd_T53 l (i : Int) = l.getD i z53 := rfl
def ringAt (l : List S27) (i : Nat) : S53 := ⟨l.getD i z27, l.getD ((i + 1) % l.length) z27⟩
def ringSegs (l : List S27) : List S53 := (List.range' 0 l.length).map (ringAt l)
theorem ringSegs_len (l : List S27) : (ringSegs l).length = l.length := by simp [ringSegs]
theorem ringSegs_at (l : List S27) {i : Nat} (h : i < l.length) : (ringSegs l).getD i z53 = ringAt l i := by
  unfold ringSegs
  rw [List.getD_eq_getElem?_getD, List.getElem?_map, List.getElem?_range' h]
  simp
theorem foldl_push' {α β : Type} (g : α → β) (x : List α) : ∀ s : List β, x.foldl (fun s i => s ++ [g i]) s = s ++ x.map g := by
  induction x with
  | nil => intro s; simp
  | cons a x ih => intro s; rw [List.foldl_cons, ih]; simp
theorem tmod_n {i n : Nat} (h : n ≤ 1048576) (hi : i < n) : Int.tmod (wrap64 ((i : Int) + 1)) (n : Int) = (((i + 1) % n : Nat) : Int) := by
  rw [Gen.w64s (by omega)]; rfl
def wantAt (n i k : Nat) : Int := if k + 1 = i ∨ (k = 0 ∧ i + 1 = n) then 1 else 0
def howAt (l : List S27) (i k : Nat) : Int := howV (ringAt l i).f0.f0 (ringAt l i).f0.f1 (ringAt l i).f1.f0 (ringAt l i).f1.f1 (ringAt l k).f0.f0 (ringAt l k).f0.f1 (ringAt l k).f1.f0 (ringAt l k).f1.f1
def SgAt (l : List S27) (i : Nat) : Prop := Sg (ringAt l i).f0.f0 (ringAt l i).f0.f1 (ringAt l i).f1.f0 (ringAt l i).f1.f1
instance (l : List S27) (i : Nat) : Decidable (SgAt l i) := by unfold SgAt; infer_instance
def chkRing (l : List S27) (i : Nat) : Bool := decide (SgAt l i ∧ ∀ k, k < i → howAt l i k = wantAt l.length i k)
def Rg (l : List S27) : Prop := (3 ≤ l.length ∧ l.length ≤ 10) ∧ ∀ i, i < l.length → chkRing l i = true
instance (l : List S27) : Decidable (Rg l) := by unfold Rg; infer_instance
theorem chk_iff (l : List S27) (i : Nat) : chkRing l i = true ↔ SgAt l i ∧ ∀ k, k < i → howAt l i k = wantAt l.length i k := by unfold chkRing; rw [decide_eq_true_eq]
theorem rg_pt {l : List S27} (h : Rg l) {i : Nat} (hi : i < l.length) : SgAt l i := ((chk_iff l i).1 (h.2 i hi)).1
theorem tImplAround (l : List S27) (hl : l.length ≤ 1048576) : Told (fun k => impl_around.f k l) (ringSegs l) := by
  refine Told.up (n := l.length) (fun s i => s ++ [ringAt l i]) (fun k s i => impl_around.l0 k l s l (l.length : Int) i) (fun s i => s.length = i) (fun s i hi hv => ⟨by simp; omega, fun hh => ?_⟩) l.length [] 0 (by omega) rfl ?_
  · refine Told.step (M := fun k => impl_around.l0 k l (s ++ [ringAt l i]) l (l.length : Int) ((i + 1 : Nat) : Int)) (fun k => ?_) hh
    simp only [impl_around.l0]
    have hm : (i + 1) % l.length < l.length := Nat.mod_lt _ (by omega)
    rw [if_pos (by omega), if_pos (by omega), if_pos (by omega), if_neg (by omega), tmod_n hl hi, if_pos (by omega), if_pos (by omega), if_pos (by omega), Gen.w64s (by omega), rdP, rdP]
    rfl
  · refine Told.stepr fun k => ?_
    simp only [impl_around.l0]
    rw [if_neg (by omega), foldl_push']
    rfl
theorem tImplIsRing (l : List S27) (hl : l.length ≤ 1048576) : Told (fun k => impl_IsRing.f k l) (decide (Rg l)) := by
  by_cases h3 : 3 ≤ l.length ∧ l.length ≤ 10
  · refine Told.ite_f (by omega) ?_
    refine Told.step (fun k => by simp only [impl_IsRing.j0]; rw [if_neg (by rw [decide_eq_true_eq]; omega)]) (Told.bind (tImplAround l hl) ?_)
    rw [ringSegs_len]
    refine Told.scan (n := l.length) false (fun i => chkRing l i = true) (fun k i => impl_IsRing.l0 k (ringSegs l) (l.length : Int) i) (fun i hi h1 h2 => ?_) (fun h => Told.stepr fun k => ?_) (fun h => decide_eq_false fun hh => h hh.2)
    · refine Told.step (M := fun k => if SgAt l i then impl_IsRing.l1 k (ringSegs l) (i : Int) (l.length : Int) (i : Int) (i : Int) 0 else some false) (fun k => ?_) ?_
      · simp only [impl_IsRing.l0]
        rw [if_pos (by omega), if_pos (by omega), if_pos (by rw [ringSegs_len]; omega), implIsSegment, rdS, ringSegs_at l hi]
        simp only [Option.bind_some, decide_eq_true_eq]
        rfl
      by_cases c : SgAt l i
      · refine Told.ite_t c ?_
        refine Told.scan (n := i) false (fun k => howAt l i k = wantAt l.length i k) (fun k j => impl_IsRing.l1 k (ringSegs l) (i : Int) (l.length : Int) (i : Int) (i : Int) j) (fun j hj g1 g2 => ?_) (fun h => ?_) (fun h => h2 fun hh => h ((chk_iff l i).1 hh).2)
        · have st : ∀ b : Bool, (b = true ↔ (j + 1 = i ∨ (j = 0 ∧ i + 1 = l.length))) → Told (fun k => impl_IsRing.j3 k (ringSegs l) (i : Int) (j : Int) 0 (l.length : Int) (i : Int) (i : Int) (j : Int) b) (decide (Rg l)) := by
            intro b hb
            refine Told.step (M := fun k => (impl_HowMeet.f k (ringAt l i).f0.f0 (ringAt l i).f0.f1 (ringAt l i).f1.f0 (ringAt l i).f1.f1 (ringAt l j).f0.f0 (ringAt l j).f0.f1 (ringAt l j).f1.f0 (ringAt l j).f1.f1).bind fun t => if t = wantAt l.length i j then impl_IsRing.l1 k (ringSegs l) (i : Int) (l.length : Int) (i : Int) (i : Int) ((j + 1 : Nat) : Int) else some false) (fun k => ?_) (Told.bind (tImplHow _ _ _ _ _ _ _ _) ?_)
            · simp only [impl_IsRing.j3]
              have q1 : (i : Int) < ((ringSegs l).length : Int) := by rw [ringSegs_len]; omega
              have q2 : (j : Int) < ((ringSegs l).length : Int) := by rw [ringSegs_len]; omega
              have q3 : (0 : Int) ≤ (i : Int) := by omega
              have q4 : (0 : Int) ≤ (j : Int) := by omega
              unfold wantAt
              by_cases c : b = true
              · rw [if_pos c, if_pos q3, if_pos q1, if_pos q4, if_pos q2, Gen.w64s (by omega), rdS, rdS, ringSegs_at l hi, ringSegs_at l (by omega), if_pos (hb.1 c)]
              · rw [if_neg c, if_pos q3, if_pos q1, if_pos q4, if_pos q2, Gen.w64s (by omega), rdS, rdS, ringSegs_at l hi, ringSegs_at l (by omega), if_neg (fun h => c (hb.2 h))]
            · by_cases c : howAt l i j = wantAt l.length i j
              · exact Told.ite_t c (g1 c)
              · rw [g2 c]; exact Told.ite_f c (Told.ret _)
          have e0 : wrap64 ((i : Int) - 1) = (i : Int) - 1 := Gen.w64 (by omega) (by omega)
          by_cases e1 : j + 1 = i
          · refine Told.step (fun k => ?_) (st true (by simp [e1]))
            simp only [impl_IsRing.l1]
            rw [if_pos (by omega), e0, if_pos (by omega)]
          · by_cases e2 : j = 0
            · refine Told.step (fun k => ?_) (st ((i : Int) == (wrap64 (((ringSegs l).length : Int) - 1))) ?_)
              · simp only [impl_IsRing.l1]
                rw [if_pos (by omega), e0, if_neg (by omega), if_pos (by omega)]
              · rw [beq_iff_eq, ringSegs_len, Gen.w64 (by omega) (by omega)]; omega
            · refine Told.step (fun k => ?_) (st false ?_)
              · simp only [impl_IsRing.l1]
                rw [if_pos (by omega), e0, if_neg (by omega), if_neg (by omega)]
              · constructor
                · intro h; cases h
                · intro h; omega
        · refine Told.step (fun k => ?_) (h1 ((chk_iff l i).2 ⟨c, h⟩))
          simp only [impl_IsRing.l1]
          rw [if_neg (by omega), Gen.w64s (by omega)]
      · rw [h2 (fun hh => c ((chk_iff l i).1 hh).1)]
        exact Told.ite_f c (Told.ret _)
    · simp only [impl_IsRing.l0]
      rw [if_neg (by omega), decide_eq_true (show Rg l from ⟨h3, h⟩)]
  · rw [decide_eq_false (fun hh : Rg l => h3 hh.1)]
    by_cases h : l.length < 3
    · exact Told.ite_t (by omega) (Told.stepr fun k => by simp only [impl_IsRing.j0, if_true])
    · exact Told.ite_f (by omega) (Told.stepr fun k => by simp only [impl_IsRing.j0]; rw [if_pos (by rw [decide_eq_true_eq]; omega)])
theorem tImplRingSegments (l : List S27) (hl : l.length ≤ 1048576) : Told (fun k => impl_RingSegments.f k l) (if Rg l then ringSegs l else []) := by
  refine Told.bind (tImplIsRing l hl) ?_
  by_cases h : Rg l
  · rw [if_pos h]; exact Told.ite_t (by simpa using h) (Told.bind (tImplAround l hl) (Told.ret _))
  · rw [if_neg h]; exact Told.ite_f (by simpa using h) (Told.ret _)
def termZ (l : List S27) (i : Nat) : Int := (ringAt l i).f0.f0 * (ringAt l i).f1.f1 - (ringAt l i).f0.f1 * (ringAt l i).f1.f0
def areaV (l : List S27) : Int := if Rg l then (List.range' 0 l.length).foldl (fun s i => s + termZ l i) 0 else 0
theorem term_bd {l : List S27} (h : Rg l) {i : Nat} (hi : i < l.length) {s : Int} (hs : -(40000 * (i : Int)) ≤ s ∧ s ≤ 40000 * (i : Int)) :
    (-(40000 * ((i + 1 : Nat) : Int)) ≤ s + termZ l i ∧ s + termZ l i ≤ 40000 * ((i + 1 : Nat) : Int)) ∧
    wrap64 ((wrap64 (s + (wrap64 ((ringAt l i).f0.f0 * (ringAt l i).f1.f1)))) - (wrap64 ((ringAt l i).f0.f1 * (ringAt l i).f1.f0))) = s + termZ l i ∧
    wrap64 (s + (wrap64 ((wrap64 ((ringAt l i).f0.f0 * (ringAt l i).f1.f1)) - (wrap64 ((ringAt l i).f0.f1 * (ringAt l i).f1.f0))))) = s + termZ l i := by
  have h10 := h.1.2
  obtain ⟨⟨a1, a2, a3, a4⟩, ⟨b1, b2, b3, b4⟩, _⟩ := rg_pt h hi
  have p1 := Int.mul_nonneg a1 b3
  have p2 := Int.mul_nonneg a3 b1
  have m1 := Gen.mul_bd (m := 200) (n := 200) (x := (ringAt l i).f0.f0) (y := (ringAt l i).f1.f1) (by omega) (by omega)
  have m2 := Gen.mul_bd (m := 200) (n := 200) (x := (ringAt l i).f0.f1) (y := (ringAt l i).f1.f0) (by omega) (by omega)
  unfold termZ
  rw [Gen.w64 (n := (ringAt l i).f0.f0 * (ringAt l i).f1.f1) (by omega) (by omega), Gen.w64 (n := (ringAt l i).f0.f1 * (ringAt l i).f1.f0) (by omega) (by omega)]
  refine ⟨by omega, ?_, ?_⟩
  · rw [Gen.w64 (n := s + (ringAt l i).f0.f0 * (ringAt l i).f1.f1) (by omega) (by omega), Gen.w64 (by omega) (by omega)]; omega
  · rw [Gen.w64 (n := (ringAt l i).f0.f0 * (ringAt l i).f1.f1 - (ringAt l i).f0.f1 * (ringAt l i).f1.f0) (by omega) (by omega), Gen.w64 (by omega) (by omega)]
theorem tImplArea (l : List S27) (hl : l.length ≤ 1048576) : Told (fun k => impl_TwiceArea.f k l) (areaV l) := by
  refine Told.bind (tImplRingSegments l hl) ?_
  by_cases h : Rg l
  · rw [areaV, if_pos h, if_pos h, ringSegs_len]
    refine Told.up (n := l.length) (fun s i => s + termZ l i) (fun k s i => impl_TwiceArea.l0 k s (ringSegs l) (l.length : Int) i) (fun s i => -(40000 * (i : Int)) ≤ s ∧ s ≤ 40000 * (i : Int)) (fun s i hi hv => ?_) l.length 0 0 (by omega) (by omega) ?_
    · obtain ⟨b1, _, b2⟩ := term_bd h hi hv
      refine ⟨b1, fun hh => ?_⟩
      refine Told.step (fun k => ?_) hh
      simp only [impl_TwiceArea.l0]
      rw [if_pos (by omega), if_pos (by omega), if_pos (by rw [ringSegs_len]; omega), rdS, ringSegs_at l hi, b2, Gen.w64s (by omega)]
    · refine Told.stepr fun k => ?_
      simp only [impl_TwiceArea.l0]
      rw [if_neg (by omega)]
  · rw [areaV, if_neg h, if_neg h]
    refine Told.stepr fun k => ?_
    simp only [impl_TwiceArea.l0]
    rw [if_neg (by simp)]
def sameV (a b : List S27) : Bool := decide ((areaV a > 0 ∧ areaV b > 0) ∨ (areaV a < 0 ∧ areaV b < 0))
theorem same_ite (x y : Int) : (if x > 0 then (if y > 0 then (some true) else (if x < 0 then (some (decide (y < 0))) else (some false))) else (if x < 0 then (some (decide (y < 0))) else (some false))) = some (decide ((x > 0 ∧ y > 0) ∨ (x < 0 ∧ y < 0))) := by
  by_cases h1 : x > 0
  · rw [if_pos h1]
    by_cases h2 : y > 0
    · rw [if_pos h2, decide_eq_true (.inl ⟨h1, h2⟩)]
    · rw [if_neg h2, if_neg (by omega), decide_eq_false (by omega)]
  · rw [if_neg h1]
    by_cases h2 : x < 0
    · rw [if_pos h2]; congr 1; rw [decide_eq_decide]; omega
    · rw [if_neg h2, decide_eq_false (by omega)]
theorem tImplSame (a b : List S27) (ha : a.length ≤ 1048576) (hb : b.length ≤ 1048576) : Told (fun k => impl_SameTurn.f k a b) (sameV a b) :=
  Told.bind (tImplArea a ha) (Told.bind (tImplArea b hb) (Told.of (same_ite _ _)))
def gpt (l : List S27) (i : Nat) : Geo.Pt := ⟨(l.getD i z27).f0, (l.getD i z27).f1⟩
theorem nx_mod {n i : Nat} (h : i < n) : (i + 1) % n = Area.nx n i := by
  unfold Area.nx
  split
  · rename_i e; rw [e]; exact Nat.mod_self n
  · exact Nat.mod_eq_of_lt (by omega)
theorem fold_sumZ (f g : Nat → Int) (n : Nat) (h : ∀ i, i < n → f i = g i) : ∀ m, m ≤ n → (List.range' 0 m).foldl (fun s i => s + f i) 0 = Geo.sumZ g m
  | 0, _ => rfl
  | m + 1, hm => by
    rw [List.range'_1_concat, List.foldl_append, fold_sumZ f g n h m (by omega)]
    show Geo.sumZ g m + f (0 + m) = Geo.sumZ g m + g m
    rw [Nat.zero_add, h m (by omega)]
theorem rg_area {l : List S27} (h : Rg l) : areaV l ≠ 0 := by
  have seg := fun i (hi : i < l.length) => rg_pt h hi
  have e2 : ∀ i, i < l.length → (ringAt l i).f1 = l.getD (Area.nx l.length i) z27 := fun i hi => by
    show l.getD ((i + 1) % l.length) _ = _
    rw [nx_mod hi]
  have hR : Geo.RingOk l.length (gpt l) := by
    refine ⟨h.1.1, fun i hi => pt_ok (seg i hi).1, fun i hi => ?_, fun i hi j hj => ?_⟩
    · have := sg_ne (seg i hi)
      rw [e2 i hi] at this
      exact this
    · have h1 := ((chk_iff l i).1 (h.2 i hi)).2 j hj
      unfold howAt howV at h1
      rw [if_pos ⟨seg i hi, seg j (by omega)⟩, e2 i hi, e2 j (by omega)] at h1
      exact h1
  have := Geo.ring_area hR
  rw [areaV, if_pos h, fold_sumZ (termZ l) (fun i => (gpt l i).x * (gpt l (Area.nx l.length i)).y - (gpt l i).y * (gpt l (Area.nx l.length i)).x) l.length (fun i hi => by
    unfold termZ
    rw [e2 i hi]; rfl) l.length (Nat.le_refl _)]
  exact this
theorem implClone (l : List S27) (hl : l.length ≤ 1048576) : impl_Point_76.f l = some l := by
  unfold impl_Point_76.f
  simp only [Option.bind_some, List.nil_append]
  rw [if_pos (by simp; omega)]
theorem howV_comm (ax ay bx bY cx cy dx dy : Int) : howV ax ay bx bY cx cy dx dy = howV cx cy dx dy ax ay bx bY := by
  unfold howV
  by_cases h : Sg ax ay bx bY ∧ Sg cx cy dx dy
  · rw [if_pos h, if_pos ⟨h.2, h.1⟩]
    exact Geo.howI_comm (pt_ok h.1.1) (pt_ok h.1.2.1) (pt_ok h.2.1) (pt_ok h.2.2.1) (sg_ne h.1) (sg_ne h.2)
  · rw [if_neg h, if_neg fun q => h ⟨q.2, q.1⟩]
theorem sg_comm {ax ay bx bY : Int} : Sg ax ay bx bY ↔ Sg bx bY ax ay := by unfold Sg; constructor <;> rintro ⟨h1, h2, h3⟩ <;> exact ⟨h2, h1, fun e => h3 ⟨e.1.symm, e.2.symm⟩⟩
theorem howV_rev (ax ay bx bY cx cy dx dy : Int) : howV bx bY ax ay cx cy dx dy = howV ax ay bx bY cx cy dx dy := by
  unfold howV
  by_cases h : Sg ax ay bx bY ∧ Sg cx cy dx dy
  · rw [if_pos h, if_pos ⟨sg_comm.1 h.1, h.2⟩]
    exact Geo.howI_rev (pt_ok h.1.1) (pt_ok h.1.2.1)
  · rw [if_neg h, if_neg fun q => h ⟨sg_comm.1 q.1, q.2⟩]
theorem howV_rev2 (ax ay bx bY cx cy dx dy : Int) : howV bx bY ax ay dx dy cx cy = howV ax ay bx bY cx cy dx dy := by
  rw [howV_rev, howV_comm, howV_rev, howV_comm]
theorem howAt_comm (l : List S27) (i k : Nat) : howAt l i k = howAt l k i := by unfold howAt; exact howV_comm _ _ _ _ _ _ _ _
def turnV (l : List S27) : List S27 := l.take 1 ++ (l.drop 1).reverse
theorem turnV_len (l : List S27) : (turnV l).length = l.length := by unfold turnV; simp; omega
theorem turn_turn (l : List S27) : turnV (turnV l) = l := by
  cases l with
  | nil => rfl
  | cons p l => simp [turnV]
theorem turnV_at (l : List S27) {i : Nat} (h : i < l.length) : (turnV l).getD i z27 = l.getD ((l.length - i) % l.length) z27 := by
  cases l with
  | nil => simp at h
  | cons p l =>
    cases i with
    | zero => simp [turnV]
    | succ i =>
      simp only [List.length_cons] at h ⊢
      rw [Nat.mod_eq_of_lt (by omega)]
      have e : l.length + 1 - (i + 1) = (l.length - 1 - i) + 1 := by omega
      rw [e]
      simp only [turnV, List.take_succ_cons, List.take_zero, List.drop_succ_cons, List.drop_zero, List.getD_eq_getElem?_getD, List.singleton_append, List.getElem?_cons_succ]
      rw [List.getElem?_reverse (by omega)]
theorem ringAt_turn (l : List S27) {i : Nat} (h : i < l.length) : ringAt (turnV l) i = ⟨(ringAt l (l.length - 1 - i)).f1, (ringAt l (l.length - 1 - i)).f0⟩ := by
  unfold ringAt
  rw [turnV_len]
  dsimp only
  have e1 : l.length - 1 - i + 1 = l.length - i := by omega
  rw [e1, turnV_at l h, turnV_at l (Nat.mod_lt _ (by omega))]
  congr 2
  by_cases c : i + 1 < l.length
  · rw [Nat.mod_eq_of_lt c, Nat.mod_eq_of_lt (by omega)]; omega
  · have e2 : i + 1 = l.length := by omega
    rw [e2, Nat.mod_self, Nat.sub_zero, Nat.mod_self]; omega
theorem rg_turn {l : List S27} (h : Rg l) : Rg (turnV l) := by
  have h3 := h.1.1
  refine ⟨by rw [turnV_len]; exact h.1, fun i hi => (chk_iff _ _).2 ⟨?_, fun k hk => ?_⟩⟩
  · rw [turnV_len] at hi
    unfold SgAt
    rw [ringAt_turn l hi]
    exact sg_comm.1 (rg_pt h (by omega : l.length - 1 - i < l.length))
  · rw [turnV_len] at hi
    have e : howAt (turnV l) i k = howAt l (l.length - 1 - i) (l.length - 1 - k) := by
      unfold howAt
      rw [ringAt_turn l hi, ringAt_turn l (by omega)]
      exact howV_rev2 _ _ _ _ _ _ _ _
    rw [e, howAt_comm, ((chk_iff l _).1 (h.2 (l.length - 1 - k) (by omega))).2 (l.length - 1 - i) (by omega), turnV_len]
    unfold wantAt
    by_cases c : k + 1 = i ∨ (k = 0 ∧ i + 1 = l.length)
    · rw [if_pos c, if_pos (by omega)]
    · rw [if_neg c, if_neg (by omega)]
theorem rg_turn_iff (l : List S27) : Rg (turnV l) ↔ Rg l := ⟨fun h => by have := rg_turn h; rwa [turn_turn] at this, rg_turn⟩
theorem sumZ_succ' (f : Nat → Int) : ∀ n, Geo.sumZ f (n + 1) = f 0 + Geo.sumZ (fun j => f (j + 1)) n
  | 0 => by simp [Geo.sumZ]
  | n + 1 => by
    show Geo.sumZ f (n + 1) + f (n + 1) = _
    rw [sumZ_succ' f n]
    show _ = f 0 + (Geo.sumZ (fun j => f (j + 1)) n + f (n + 1))
    omega
theorem sumZ_congr {f g : Nat → Int} : ∀ n, (∀ i, i < n → f i = g i) → Geo.sumZ f n = Geo.sumZ g n
  | 0, _ => rfl
  | n + 1, h => by
    show Geo.sumZ f n + f n = Geo.sumZ g n + g n
    rw [sumZ_congr n (fun i hi => h i (by omega)), h n (by omega)]
theorem sumZ_neg (f : Nat → Int) : ∀ n, Geo.sumZ (fun i => - f i) n = - Geo.sumZ f n
  | 0 => rfl
  | n + 1 => by
    show Geo.sumZ (fun i => - f i) n + - f n = - (Geo.sumZ f n + f n)
    rw [sumZ_neg f n]; omega
theorem sumZ_rev (f : Nat → Int) : ∀ n, Geo.sumZ (fun i => f (n - 1 - i)) n = Geo.sumZ f n
  | 0 => rfl
  | n + 1 => by
    rw [sumZ_succ']
    show f n + Geo.sumZ (fun j => f (n + 1 - 1 - (j + 1))) n = Geo.sumZ f n + f n
    rw [sumZ_congr n (g := fun j => f (n - 1 - j)) (fun j hj => by show f _ = f _; congr 1; omega), sumZ_rev f n]
    omega
theorem areaV_sum {l : List S27} (h : Rg l) : areaV l = Geo.sumZ (termZ l) l.length := by
  rw [areaV, if_pos h]
  exact fold_sumZ (termZ l) (termZ l) l.length (fun _ _ => rfl) l.length (Nat.le_refl _)
theorem area_turn (l : List S27) : areaV (turnV l) = - areaV l := by
  by_cases h : Rg l
  · rw [areaV_sum h, areaV_sum (rg_turn h), turnV_len, ← sumZ_rev (termZ l), ← sumZ_neg]
    refine sumZ_congr _ fun i hi => ?_
    unfold termZ
    rw [ringAt_turn l hi]
    dsimp only
    rw [Int.mul_comm (ringAt l (l.length - 1 - i)).f1.f0, Int.mul_comm (ringAt l (l.length - 1 - i)).f1.f1]; omega
  · have e1 : areaV l = 0 := by unfold areaV; rw [if_neg h]
    have e2 : areaV (turnV l) = 0 := by unfold areaV; rw [if_neg fun q => h ((rg_turn_iff l).1 q)]
    rw [e1, e2]; rfl
def wo (l : List S27) (i : Int) : List S27 := l.take i.toNat ++ l.drop (i.toNat + 1)
theorem wo_len (l : List S27) (i : Int) : (wo l i).length ≤ l.length := by unfold wo; simp; omega
theorem implWo (l : List S27) (i : Int) (h0 : 0 ≤ i) (h1 : i < l.length) (hl : l.length ≤ 1048576) : impl_without.f l i = some (wo l i) := by
  unfold impl_without.f wo; rw [if_pos h0, if_pos h1, if_pos (by omega)]
theorem pt_eq {a b : S27} (h0 : a.f0 = b.f0) (h1 : a.f1 = b.f1) : a = b := by cases a; cases b; simp at h0 h1; subst h0; subst h1; rfl
theorem ptEq_iff (a b : S27) : ((a.f0 == b.f0 && (a.f1 == b.f1)) = true) ↔ a = b := by
  rw [Bool.and_eq_true, beq_iff_eq, beq_iff_eq]
  constructor
  · rintro ⟨h0, h1⟩; exact pt_eq h0 h1
  · rintro rfl; exact ⟨rfl, rfl⟩
theorem pdrop (l : List S27) (i : Nat) (hi : i < l.length) : l.drop i = l.getD i z27 :: l.drop (i + 1) := by
  rw [List.drop_eq_getElem_cons hi, List.getD_eq_getElem?_getD, List.getElem?_eq_getElem hi]; rfl
theorem sub_ne {α : Type} {a b : α} {x y : List α} (h : List.Sublist (a :: x) (b :: y)) (n : a ≠ b) : List.Sublist (a :: x) y := by
  cases h with
  | cons _ h => exact h
  | cons_cons _ h => exact absurd rfl n
theorem tImplPart (v l : List S27) (hl : l.length ≤ 1048576) (hs : List.Sublist v l) : Told (fun k => impl_IsPartOf.f k v l) true := by
  have hv := hs.length_le
  have key : ∀ d (j i : Nat), j + d = l.length → i ≤ v.length → List.Sublist (v.drop i) (l.drop j) → Told (fun k => impl_IsPartOf.l0 k v (i : Int) l (l.length : Int) (j : Int)) true := by
    intro d
    induction d with
    | zero =>
      intro j i hj hi h
      have e : i = v.length := by
        have := h.length_le
        simp at this; omega
      exact Told.stepr fun k => by simp only [impl_IsPartOf.l0]; rw [if_neg (by omega)]; simp [e]
    | succ d ih =>
      intro j i hj hi h
      by_cases c : i < v.length
      · rw [pdrop v i c, pdrop l j (by omega)] at h
        by_cases e : v.getD i z27 = l.getD j z27
        · have h' : List.Sublist (v.drop (i + 1)) (l.drop (j + 1)) := by rw [e] at h; exact List.cons_sublist_cons.mp h
          refine Told.step (fun k => ?_) (ih (j + 1) (i + 1) (by omega) (by omega) h')
          simp only [impl_IsPartOf.l0]
          rw [if_pos (by omega), if_pos (by omega), if_pos (by omega), if_pos (by omega), if_pos (by omega), rdP, rdP, if_pos ((ptEq_iff _ _).mpr e), Gen.w64s (by omega), Gen.w64s (by omega)]
        · have h' := sub_ne h e
          rw [← pdrop v i c] at h'
          refine Told.step (fun k => ?_) (ih (j + 1) i (by omega) (by omega) h')
          simp only [impl_IsPartOf.l0]
          rw [if_pos (by omega), if_pos (by omega), if_pos (by omega), if_pos (by omega), if_pos (by omega), rdP, rdP, if_neg (fun q => e ((ptEq_iff _ _).mp q)), Gen.w64s (by omega)]
      · refine Told.step (fun k => ?_) (ih (j + 1) i (by omega) (by omega) (by rw [List.drop_of_length_le (by omega)]; exact List.nil_sublist _))
        simp only [impl_IsPartOf.l0]
        rw [if_pos (by omega), if_pos (by omega), if_pos (by omega), if_neg (by omega), Gen.w64s (by omega)]
  exact key l.length 0 0 (by omega) (by omega) hs
theorem wo_sub (l : List S27) (i : Int) : List.Sublist (wo l i) l := by
  unfold wo
  have h : List.Sublist (l.drop (i.toNat + 1)) (l.drop i.toNat) := by rw [← List.drop_drop]; exact List.drop_sublist 1 _
  have := List.Sublist.append (List.Sublist.refl (l.take i.toNat)) h
  rwa [List.take_append_drop] at this
theorem tEqSelf (l : List S27) (hl : l.length ≤ 1048576) : Told (fun k => impl_EqualLines.f k l l) true := by
  suffices h : Told (fun k => impl_Point_97.f k l l) true from Told.bind h (Told.ret _)
  refine Told.ite_t rfl ?_
  refine Told.scan (n := l.length) true (fun _ => True) (fun k i => impl_Point_97.l0 k l l (l.length : Int) i) (fun i hi h1 _ => ?_) (fun _ => Told.stepr fun k => by simp only [impl_Point_97.l0]; rw [if_neg (by omega)]) (fun _ => rfl)
  exact Told.step (fun k => by simp only [impl_Point_97.l0]; rw [if_pos (by omega), if_pos (by omega), if_pos (by omega), if_pos (by omega), if_neg (by simp), Gen.w64s (by omega)]) (h1 trivial)
def dcV (l : List S27) (i : Int) : List S27 × Bool := if Rg l ∧ 0 ≤ i ∧ i ≤ l.length - 1 then (if Rg (wo l i) ∧ sameV l (wo l i) = true then (wo l i, true) else (l, false)) else (l, false)
theorem implCmp (x : Int) : cmp_Compare_int.f x 0 = some (if x < 0 then -1 else if x > 0 then 1 else 0) := by
  unfold cmp_Compare_int.f cmp_isNaN_int.f
  simp only [bne_self_eq_false, Option.bind_some, Bool.false_eq_true, if_false]
  split
  · rfl
  · split <;> rfl
theorem cmp_same {l m : List S27} (hl : Rg l) (hm : Rg m) : ((if areaV m < 0 then (-1 : Int) else if areaV m > 0 then 1 else 0) = (if areaV l < 0 then -1 else if areaV l > 0 then 1 else 0)) ↔ sameV l m = true := by
  have a := rg_area hl; have b := rg_area hm
  unfold sameV
  rw [decide_eq_true_eq]
  by_cases h1 : areaV m < 0 <;> by_cases h2 : areaV l < 0 <;> simp [h1, h2] <;> omega
theorem tImplDc (l : List S27) (i : Int) (hl : l.length ≤ 1048576) : Told (fun k => impl_DropCorner.f k l i) (dcV l i) := by
  have no : ¬ (Rg l ∧ 0 ≤ i ∧ i ≤ l.length - 1) → Told (fun k => impl_DropCorner.j0 k l i true) (dcV l i) := fun h => by
    unfold dcV; rw [if_neg h]
    refine Told.step (fun k => by simp only [impl_DropCorner.j0]; rw [if_pos trivial]) ?_
    exact Told.bind (Told.of (implClone l hl)) (Told.ret _)
  refine Told.bind (tImplIsRing l hl) ?_
  by_cases h1 : Rg l
  · refine Told.ite_t (by simpa using h1) (Told.bind (Told.of (implInRange _ _ _)) ?_)
    rw [Gen.w64 (by omega) (by omega)]
    by_cases h2 : 0 ≤ i ∧ i ≤ l.length - 1
    · have ev : dcV l i = if Rg (wo l i) ∧ sameV l (wo l i) = true then (wo l i, true) else (l, false) := by unfold dcV; exact if_pos ⟨h1, h2⟩
      have lw := Nat.le_trans (wo_len l i) hl
      rw [ev]
      refine Told.step (fun k => by simp only [impl_DropCorner.j0]; rw [if_neg (by simp [h2])]) ?_
      refine Told.bind (Told.of (implWo l i (by omega) (by omega) hl)) (Told.bind (tImplIsRing (wo l i) lw) ?_)
      by_cases h3 : Rg (wo l i)
      · refine Told.ite_t (by simpa using h3) (Told.bind (tImplArea (wo l i) lw) (Told.bind (Told.of (implCmp _)) (Told.bind (tImplArea l hl) (Told.bind (Told.of (implCmp _)) ?_))))
        by_cases h4 : sameV l (wo l i) = true
        · rw [if_pos (c := Rg (wo l i) ∧ sameV l (wo l i) = true) ⟨h3, h4⟩]; exact Told.ite_t ((cmp_same h1 h3).2 h4) (Told.ret _)
        · rw [if_neg (c := Rg (wo l i) ∧ sameV l (wo l i) = true) (fun h => h4 h.2)]; exact Told.ite_f (fun e => h4 ((cmp_same h1 h3).1 e)) (Told.bind (Told.of (implClone l hl)) (Told.ret _))
      · rw [if_neg (c := Rg (wo l i) ∧ sameV l (wo l i) = true) (fun h => h3 h.1)]; exact Told.ite_f (by simpa using h3) (Told.bind (Told.of (implClone l hl)) (Told.ret _))
    · rw [decide_eq_false h2]; exact no (fun h => h2 h.2)
  · exact Told.ite_f (by simpa using h1) (no (fun h => h1 h.1))
def crnR (l : List S27) (i : Nat) : Int := crossZ (l.getD ((i + l.length - 1) % l.length) z27).f0 (l.getD ((i + l.length - 1) % l.length) z27).f1 (l.getD i z27).f0 (l.getD i z27).f1 (l.getD ((i + 1) % l.length) z27).f0 (l.getD ((i + 1) % l.length) z27).f1
def crnS (l : List S27) (i : Int) : Int := if Rg l ∧ 0 ≤ i ∧ i ≤ l.length - 1 then max (crnR l i.toNat) (-(crnR l i.toNat)) else -1
theorem rg_in {l : List S27} (h : Rg l) {i : Nat} (hi : i < l.length) : Pt (l.getD i z27).f0 (l.getD i z27).f1 := (rg_pt h hi).1
theorem tmod_p {m n : Nat} (h : n ≤ 1048576) (hm : m < n) : Int.tmod (wrap64 ((wrap64 ((m : Int) + (n : Int))) - 1)) (n : Int) = (((m + n - 1) % n : Nat) : Int) := by
  rw [Gen.w64 (n := (m : Int) + n) (by omega) (by omega), Gen.w64 (by omega) (by omega), show (m : Int) + n - 1 = ((m + n - 1 : Nat) : Int) by omega]; rfl
theorem tImplCSize (l : List S27) (i : Int) (hl : l.length ≤ 1048576) : Told (fun k => impl_CornerSize.f k l i) (crnS l i) := by
  refine Told.bind (tImplIsRing l hl) ?_
  by_cases h : Rg l
  · have h3 := h.1.1
    refine Told.ite_t (by simpa using h) (Told.bind (Told.of (implInRange _ _ _)) ?_)
    rw [Gen.w64 (by omega) (by omega)]
    by_cases h2 : 0 ≤ i ∧ i ≤ l.length - 1
    · rw [decide_eq_true h2]
      obtain ⟨m, rfl⟩ := Int.eq_ofNat_of_zero_le (show 0 ≤ i by omega)
      have hm : m < l.length := by omega
      have q1 : (m + l.length - 1) % l.length < l.length := Nat.mod_lt _ (by omega)
      have q2 : (m + 1) % l.length < l.length := Nat.mod_lt _ (by omega)
      refine Told.ite_t rfl (Told.of ?_)
      rw [if_neg (by omega), tmod_p hl hm, tmod_n hl hm, if_pos (by omega), if_pos (by omega), if_pos (by omega), if_pos (by omega), if_pos (by omega), if_pos (by omega), rdP, rdP, rdP]
      unfold impl_twice.f
      rw [implCross (rg_in h q1) (rg_in h hm) (rg_in h q2)]
      obtain ⟨_, b1, b2⟩ := crossZ_bd (rg_in h q1) (rg_in h hm) (rg_in h q2)
      simp only [Option.bind_some]
      rw [Gen.w64 (by omega) (by omega), Gen.mx_eq, crnS, if_pos ⟨h, h2⟩]
      rfl
    · have e : crnS l i = -1 := by unfold crnS; exact if_neg (fun h => h2 h.2)
      rw [decide_eq_false h2, e]
      exact Told.ite_f (by simp) (Told.ret _)
  · have e : crnS l i = -1 := by unfold crnS; exact if_neg (fun hh => h hh.1)
    rw [e]
    exact Told.ite_f (by simpa using h) (Told.ret _)
def rpick (l : List S27) (a b : Int) (i : Nat) : Int := if crnS l i < a then (if (dcV l i).2 = true then (if b < 0 then (i : Int) else if crnS l i < crnS l b then (i : Int) else b) else b) else b
def rnext (l : List S27) (b : Int) : List S27 := if b < 0 then [] else (dcV l b).1
def RInv (l : List S27) (b : Int) : Prop := b = -1 ∨ (0 ≤ b ∧ b < l.length ∧ (dcV l b).2 = true)
theorem rpick_inv {l : List S27} {a b : Int} {i : Nat} (hi : i < l.length) (h : RInv l b) : RInv l (rpick l a b i) := by
  unfold rpick
  split
  · split
    · rename_i h2
      have : RInv l (i : Int) := .inr ⟨by omega, by omega, h2⟩
      split
      · exact this
      · split
        · exact this
        · exact h
    · exact h
  · exact h
theorem dc_lt {l : List S27} {b : Int} (h : (dcV l b).2 = true) : (dcV l b).1.length + 1 = l.length ∧ Rg l ∧ Rg (dcV l b).1 ∧ 0 ≤ b ∧ b < l.length ∧ (dcV l b).1 = wo l b ∧ sameV l (wo l b) = true := by
  unfold dcV at h ⊢
  split at h
  · rename_i h1
    split at h
    · rename_i h2
      rw [if_pos h1, if_pos h2]
      refine ⟨?_, h1.1, h2.1, h1.2.1, by omega, rfl, h2.2⟩
      unfold wo
      simp
      omega
    · cases h
  · cases h
def midV (l : List S27) : Int × Int × Bool := if Rg l then ((List.range' 0 l.length).foldl (fun (s : Int × Int) i => (wrap64 (s.1 + (l.getD i z27).f0), wrap64 (s.2 + (l.getD i z27).f1))) (0, 0)) |> fun s => (wrap64 (Int.tdiv s.1 (l.length : Int)), wrap64 (Int.tdiv s.2 (l.length : Int)), true) else (0, 0, false)
theorem tImplMid (l : List S27) (hl : l.length ≤ 1048576) : Told (fun k => impl_RingMiddle.f k l) (midV l) := by
  refine Told.bind (tImplIsRing l hl) ?_
  by_cases h : Rg l
  · rw [midV, if_pos h]
    refine Told.ite_t (by simpa using h) ?_
    refine Told.up (n := l.length) (fun (s : Int × Int) i => (wrap64 (s.1 + (l.getD i z27).f0), wrap64 (s.2 + (l.getD i z27).f1))) (fun k s i => impl_RingMiddle.l0 k l l (l.length : Int) i s.1 s.2) (fun _ _ => True) (fun s i hi _ => ⟨trivial, fun hh => Told.step (fun k => ?_) hh⟩) l.length (0, 0) 0 (by omega) trivial (Told.stepr fun k => ?_)
    · simp only [impl_RingMiddle.l0]
      rw [if_pos (by omega), if_pos (by omega), if_pos (by omega), rdP, Gen.w64s (by omega)]
    · have := h.1.1
      simp only [impl_RingMiddle.l0]
      rw [if_neg (by omega), if_neg (by omega)]
  · rw [midV, if_neg h]
    exact Told.ite_f (by simpa using h) (Told.ret _)
def Bx (a b c d : Int) : Prop := Pt a b ∧ Pt c d ∧ a ≤ c ∧ b ≤ d
instance (a b c d : Int) : Decidable (Bx a b c d) := by unfold Bx; infer_instance
theorem implIsBox (a b c d : Int) : impl_IsBox.f a b c d = some (decide (Bx a b c d)) := by
  unfold impl_IsBox.f
  rw [implIsPoint, implIsPoint]
  simp only [Option.bind_some, decide_eq_true_eq]
  by_cases h1 : Pt a b <;> by_cases h2 : Pt c d <;> by_cases h3 : a ≤ c <;> simp [Bx, h1, h2, h3]
def bxP (p : S27) : Prop := Pt p.f0 p.f1
instance (p : S27) : Decidable (bxP p) := by unfold bxP; infer_instance
def boxGo : List S27 → Int → Int → Int → Int → Int × Int × Int × Int × Bool
  | [], a, b, c, d => (a, b, c, d, true)
  | p :: l, a, b, c, d => if bxP p then boxGo l (mn a p.f0) (mn b p.f1) (mx c p.f0) (mx d p.f1) else (0, 0, 0, 0, false)
def boxV (l : List S27) : Int × Int × Int × Int × Bool := if l.length = 0 then (0, 0, 0, 0, false) else boxGo l (l.getD 0 z27).f0 (l.getD 0 z27).f1 (l.getD 0 z27).f0 (l.getD 0 z27).f1
theorem bx_drop (l : List S27) (i : Nat) (hi : i < l.length) : l.drop i = l.getD i z27 :: l.drop (i + 1) := by
  rw [List.drop_eq_getElem_cons hi, List.getD_eq_getElem?_getD, List.getElem?_eq_getElem hi]; rfl
theorem bx_rd (l : List S27) (i : Nat) : rd_T27 l (i : Int) = l.getD i z27 := rfl
theorem tImplBoxGo (l : List S27) (hl : l.length ≤ 1048576) : ∀ d (i : Nat), i + d = l.length → ∀ a b c e, Told (fun k => impl_BoxOf.l0 k l (l.length : Int) i a b c e) (boxGo (l.drop i) a b c e) := by
  intro d
  induction d with
  | zero =>
    intro i hi a b c e
    rw [List.drop_eq_nil_of_le (by omega)]
    exact Told.stepr fun k => by simp only [impl_BoxOf.l0]; rw [if_neg (by omega)]; rfl
  | succ d ih =>
    intro i hi a b c e
    rw [bx_drop l i (by omega), boxGo]
    refine Told.step (M := fun k => if bxP (l.getD i z27) then impl_BoxOf.l0 k l (l.length : Int) ((i + 1 : Nat) : Int) (mn a (l.getD i z27).f0) (mn b (l.getD i z27).f1) (mx c (l.getD i z27).f0) (mx e (l.getD i z27).f1) else some (0, 0, 0, 0, false)) (fun k => by simp only [impl_BoxOf.l0]; rw [if_pos (by omega), if_pos (by omega), if_pos (by omega), bx_rd, implIsPoint, Gen.w64s (by omega)]; simp only [Option.bind_some, decide_eq_true_eq, bxP]) ?_
    by_cases h : bxP (l.getD i z27)
    · rw [if_pos h]; exact Told.ite_t h (ih (i + 1) (by omega) _ _ _ _)
    · rw [if_neg h]; exact Told.ite_f h (Told.ret _)
theorem tImplBoxOf (l : List S27) (hl : l.length ≤ 1048576) : Told (fun k => impl_BoxOf.f k l) (boxV l) := by
  unfold boxV
  by_cases h : l.length = 0
  · rw [if_pos h]; exact Told.ite_t (by omega) (Told.ret _)
  · rw [if_neg h]; exact Told.ite_f (by omega) (Told.ite_t (by omega) (tImplBoxGo l hl l.length 0 (by omega) _ _ _ _))
def InB (a b c d x y : Int) : Prop := Bx a b c d ∧ (a ≤ x ∧ x ≤ c) ∧ b ≤ y ∧ y ≤ d
instance (a b c d x y : Int) : Decidable (InB a b c d x y) := by unfold InB; infer_instance
theorem implInBox (a b c d x y : Int) : impl_InBox.f a b c d x y = some (decide (InB a b c d x y)) := by
  unfold impl_InBox.f
  rw [implIsBox, implInRange, implInRange]
  simp only [Option.bind_some, decide_eq_true_eq]
  by_cases h1 : Bx a b c d <;> by_cases h2 : a ≤ x ∧ x ≤ c <;> simp [InB, h1, h2]
theorem boxGo_in : ∀ (l : List S27) (a b c d a' b' c' d' : Int), boxGo l a b c d = (a', b', c', d', true) → Pt a b → Pt c d → (a' ≤ a ∧ b' ≤ b ∧ c ≤ c' ∧ d ≤ d') ∧ Pt a' b' ∧ Pt c' d' ∧ ∀ p ∈ l, (a' ≤ p.f0 ∧ p.f0 ≤ c') ∧ b' ≤ p.f1 ∧ p.f1 ≤ d' := by
  intro l
  induction l with
  | nil =>
    intro a b c d a' b' c' d' h hp hq
    simp only [boxGo, Prod.mk.injEq] at h
    obtain ⟨rfl, rfl, rfl, rfl, _⟩ := h
    exact ⟨by omega, hp, hq, fun p hp => by simp at hp⟩
  | cons p l ih =>
    intro a b c d a' b' c' d' h hp hq
    simp only [boxGo] at h
    by_cases hb : bxP p
    · rw [if_pos hb] at h
      have hb' := hb
      unfold bxP at hb'
      simp only [Gen.mn_eq, Gen.mx_eq] at h
      obtain ⟨h1, h2, h3, h4⟩ := ih _ _ _ _ _ _ _ _ h (by unfold Pt at *; omega) (by unfold Pt at *; omega)
      refine ⟨by omega, h2, h3, fun q hq => ?_⟩
      rcases List.mem_cons.mp hq with rfl | hq
      · omega
      · exact h4 q hq
    · rw [if_neg hb] at h; simp at h
theorem boxV_in {l : List S27} {a b c d : Int} (h : boxV l = (a, b, c, d, true)) : Bx a b c d ∧ ∀ p ∈ l, InB a b c d p.f0 p.f1 := by
  unfold boxV at h
  by_cases hl : l.length = 0
  · rw [if_pos hl] at h; simp at h
  · rw [if_neg hl] at h
    cases l with
    | nil => simp at hl
    | cons p l =>
      have hb : bxP p := by
        simp only [boxGo, List.getD_cons_zero] at h
        by_cases hb : bxP p
        · exact hb
        · rw [if_neg hb] at h; simp at h
      simp only [List.getD_cons_zero] at h
      obtain ⟨h1, h2, h3, h4⟩ := boxGo_in _ _ _ _ _ _ _ _ _ h hb hb
      have bx : Bx a b c d := ⟨h2, h3, by omega, by omega⟩
      exact ⟨bx, fun q hq => ⟨bx, h4 q hq⟩⟩
theorem implTurn (l : List S27) (hl : l.length ≤ 1048576) : impl_TurnRing.f l = some (turnV l) := by
  unfold impl_TurnRing.f
  rw [implClone l hl]; rfl
theorem same_comm (a b : List S27) : sameV a b = sameV b a := by unfold sameV; rw [decide_eq_decide]; omega
theorem same_trans {a b c : List S27} (h1 : sameV a b = true) (h2 : sameV b c = true) : sameV a c = true := by
  unfold sameV at *
  simp only [decide_eq_true_eq] at *
  omega
theorem same_self {l : List S27} (h : Rg l) : sameV l l = true := by
  have := rg_area h
  unfold sameV
  rw [decide_eq_true_eq]; omega
theorem same_turn (l : List S27) : sameV l (turnV l) = false := by
  unfold sameV
  rw [area_turn, decide_eq_false_iff_not]; omega
structure RQ (l v : List S27) (a : Int) : Prop where
  sub : List.Sublist v l
  rg : Rg v
  same : sameV v l = true
  fin : ∀ i : Nat, i < v.length → ¬ (crnS v i < a ∧ (dcV v i).2 = true)
def NR (l : List S27) (a s : Int) (i : Nat) : Prop := (s = -1 ∧ ∀ j : Nat, j < i → ¬ (crnS l j < a ∧ (dcV l j).2 = true)) ∨ (0 ≤ s ∧ s < l.length ∧ (dcV l s).2 = true)
theorem nr_step {l : List S27} {a s : Int} {i : Nat} (hi : i < l.length) (h : NR l a s i) : NR l a (rpick l a s i) (i + 1) := by
  unfold rpick
  by_cases c1 : crnS l i < a
  · rw [if_pos c1]
    by_cases c2 : (dcV l i).2 = true
    · rw [if_pos c2]
      have now : NR l a (i : Int) (i + 1) := .inr ⟨by omega, by omega, c2⟩
      rcases h with ⟨h, _⟩ | h
      · rw [if_pos (by omega)]; exact now
      · rw [if_neg (by omega)]
        split
        · exact now
        · exact .inr h
    · rw [if_neg c2]
      rcases h with ⟨h, hj⟩ | h
      · refine .inl ⟨h, fun j hj' => ?_⟩
        by_cases e : j = i
        · subst e; exact fun q => c2 q.2
        · exact hj j (by omega)
      · exact .inr h
  · rw [if_neg c1]
    rcases h with ⟨h, hj⟩ | h
    · refine .inl ⟨h, fun j hj' => ?_⟩
      by_cases e : j = i
      · subst e; exact fun q => c1 q.1
      · exact hj j (by omega)
    · exact .inr h
theorem tSafeRI (a : Int) : ∀ n (l : List S27), l.length = n → l.length ≤ 1048576 → Rg l → ∃ v, RQ l v a ∧ Told (fun k => impl_SafeRing.l0 k a l) v := by
  intro n
  induction n with
  | zero => intro l hl _ hr; have := hr.1.1; omega
  | succ n ih =>
    intro l hl hb hr
    have inv : ∀ d s (i : Nat), i + d = l.length → NR l a s i → NR l a ((List.range' i d).foldl (rpick l a) s) l.length := by
      intro d
      induction d with
      | zero => intro s i hi h; have e : i = l.length := by omega
                subst e; exact h
      | succ d ih2 => intro s i hi h; exact ih2 _ (i + 1) (by omega) (nr_step (by omega) h)
    have key : ∃ b, NR l a b l.length ∧ b = (List.range' 0 l.length).foldl (rpick l a) (-1) := ⟨_, inv l.length (-1) 0 (by omega) (.inl ⟨rfl, fun j hj => by omega⟩), rfl⟩
    obtain ⟨b, hv, eb⟩ := key
    have ei : ∀ v, Told (fun k => impl_SafeRing.l1 k a l b (rnext l b) (l.length : Int) (l.length : Int)) v → Told (fun k => impl_SafeRing.l0 k a l) v := fun v hh => by
      refine Told.step (M := fun k => impl_SafeRing.l1 k a l (-1) [] (l.length : Int) 0) (fun k => by simp only [impl_SafeRing.l0]) ?_
      refine Told.up (n := l.length) (rpick l a) (fun k s i => impl_SafeRing.l1 k a l s (rnext l s) (l.length : Int) i) (fun s _ => RInv l s) (fun s i hi hs => ⟨rpick_inv hi hs, fun h2 => ?_⟩) l.length (-1) 0 (by omega) (.inl rfl) (by rw [← eb]; exact hh)
      have j2f : (rpick l a s i = s) → Told (fun k => impl_SafeRing.j2 k a l s (rnext l s) i (l.length : Int) i false) v := fun e => by
        rw [e] at h2
        exact Told.step (fun k => by simp only [impl_SafeRing.j2]; rw [if_neg (by simp), Gen.w64s (by omega)]) h2
      have j2t : (rpick l a s i = if (dcV l i).2 = true then (i : Int) else s) → Told (fun k => impl_SafeRing.j2 k a l s (rnext l s) i (l.length : Int) i true) v := fun e => by
        rw [e] at h2
        refine Told.step (fun k => by simp only [impl_SafeRing.j2]; rw [if_pos trivial, Gen.w64s (by omega)]) (Told.bind (tImplDc l i hb) ?_)
        by_cases c2 : (dcV l i).2 = true
        · rw [if_pos c2, rnext, if_neg (by omega)] at h2; exact Told.ite_t c2 h2
        · rw [if_neg c2] at h2; exact Told.ite_f c2 h2
      refine Told.step (fun k => by simp only [impl_SafeRing.l1]; rw [if_pos (by omega)]) (Told.bind (tImplCSize l i hb) ?_)
      by_cases c1 : crnS l i < a
      · refine Told.ite_t c1 ?_
        by_cases c3 : s < 0
        · exact Told.ite_t c3 (j2t (by unfold rpick; rw [if_pos c1, if_pos c3]))
        · refine Told.ite_f c3 (Told.bind (tImplCSize l s hb) ?_)
          by_cases c4 : crnS l i < crnS l s
          · rw [decide_eq_true c4]; exact j2t (by unfold rpick; rw [if_pos c1, if_neg c3, if_pos c4])
          · rw [decide_eq_false c4]; exact j2f (by unfold rpick; rw [if_pos c1, if_neg c3, if_neg c4, ite_self])
      · exact Told.ite_f c1 (j2f (by unfold rpick; rw [if_neg c1]))
    rcases hv with ⟨rfl, hn⟩ | ⟨b0, b1, b2⟩
    · exact ⟨l, ⟨List.Sublist.refl _, hr, same_self hr, hn⟩, ei _ (Told.stepr fun k => by simp only [impl_SafeRing.l1]; rw [if_neg (by omega), if_pos (by omega)])⟩
    · obtain ⟨q1, _, q3, _, _, q4, q5⟩ := dc_lt b2
      obtain ⟨v, rq, v3⟩ := ih (dcV l b).1 (by omega) (by omega) q3
      have s1 : sameV (dcV l b).1 l = true := by rw [q4, same_comm]; exact q5
      refine ⟨v, ⟨?_, rq.rg, same_trans rq.same s1, rq.fin⟩, ei _ (Told.step (fun k => by simp only [impl_SafeRing.l1]; rw [if_neg (by omega), if_neg (by omega), rnext, if_neg (by omega)]) v3)⟩
      have := rq.sub
      rw [q4] at this
      exact this.trans (wo_sub l b)
theorem box_true {l : List S27} : ∀ (a b c d : Int), (∀ p ∈ l, bxP p) → (boxGo l a b c d).2.2.2.2 = true := by
  induction l with
  | nil => intro a b c d _; rfl
  | cons p l ih =>
    intro a b c d h
    simp only [boxGo]
    rw [if_pos (h p List.mem_cons_self)]
    exact ih _ _ _ _ fun q hq => h q (List.mem_cons_of_mem _ hq)
theorem mid_sum {l : List S27} (h : Rg l) : ∀ m, m ≤ l.length → (List.range' 0 m).foldl (fun (s : Int × Int) i => (wrap64 (s.1 + (l.getD i z27).f0), wrap64 (s.2 + (l.getD i z27).f1))) (0, 0) = (Geo.sumZ (fun i => (l.getD i z27).f0) m, Geo.sumZ (fun i => (l.getD i z27).f1) m) ∧ (0 ≤ Geo.sumZ (fun i => (l.getD i z27).f0) m ∧ Geo.sumZ (fun i => (l.getD i z27).f0) m ≤ 200 * (m : Int)) ∧ 0 ≤ Geo.sumZ (fun i => (l.getD i z27).f1) m ∧ Geo.sumZ (fun i => (l.getD i z27).f1) m ≤ 200 * (m : Int)
  | 0, _ => ⟨rfl, by show (0 : Int) ≤ 0 ∧ (0 : Int) ≤ _; omega, by show (0 : Int) ≤ 0 ∧ (0 : Int) ≤ _; omega⟩
  | m + 1, hm => by
    obtain ⟨e, b1, b2⟩ := mid_sum h m (by omega)
    obtain ⟨p1, p2, p3, p4⟩ := rg_in h (by omega : m < l.length)
    have h10 := h.1.2
    rw [List.range'_1_concat, List.foldl_append, e]
    simp only [List.foldl_cons, List.foldl_nil, Nat.zero_add]
    rw [Gen.w64 (by omega) (by omega), Gen.w64 (by omega) (by omega)]
    refine ⟨rfl, ?_, ?_⟩
    · show 0 ≤ Geo.sumZ _ m + (l.getD m z27).f0 ∧ Geo.sumZ _ m + (l.getD m z27).f0 ≤ _; omega
    · show 0 ≤ Geo.sumZ _ m + (l.getD m z27).f1 ∧ Geo.sumZ _ m + (l.getD m z27).f1 ≤ _; omega
theorem sum_in (f : Nat → Int) (a c : Int) : ∀ m, (∀ i, i < m → a ≤ f i ∧ f i ≤ c) → a * (m : Int) ≤ Geo.sumZ f m ∧ Geo.sumZ f m ≤ c * (m : Int)
  | 0, _ => by show _ ≤ (0 : Int) ∧ (0 : Int) ≤ _; simp
  | m + 1, h => by
    have h1 := sum_in f a c m fun i hi => h i (by omega)
    have h2 := h m (by omega)
    have e1 : a * ((m + 1 : Nat) : Int) = a * (m : Int) + a := by rw [Int.natCast_add, Int.mul_add]; simp
    have e2 : c * ((m + 1 : Nat) : Int) = c * (m : Int) + c := by rw [Int.natCast_add, Int.mul_add]; simp
    rw [e1, e2]
    show _ ≤ Geo.sumZ f m + f m ∧ Geo.sumZ f m + f m ≤ _
    omega
theorem mean_in {s a c n : Int} (hn : 0 < n) (h0 : 0 ≤ s) (hs : s ≤ 1000000) (h1 : a * n ≤ s) (h2 : s ≤ c * n) : a ≤ wrap64 (Int.tdiv s n) ∧ wrap64 (Int.tdiv s n) ≤ c := by
  rw [Int.tdiv_eq_ediv_of_nonneg h0]
  have g0 : 0 ≤ s / n := Int.ediv_nonneg h0 (by omega)
  have g1 : s / n ≤ s := Int.ediv_le_self _ h0
  rw [Gen.w64 (by omega) (by omega)]
  refine ⟨(Int.le_ediv_iff_mul_le hn).2 h1, ?_⟩
  have : s / n < c + 1 := (Int.ediv_lt_iff_lt_mul hn).2 (by rw [Int.add_mul, Int.one_mul]; omega)
  omega
theorem mid_in {l : List S27} (h : Rg l) : InB (boxV l).1 (boxV l).2.1 (boxV l).2.2.1 (boxV l).2.2.2.1 (midV l).1 (midV l).2.1 := by
  have h3 := h.1.1; have h10 := h.1.2
  have pts : ∀ p ∈ l, bxP p := fun p hp => by
    obtain ⟨i, hi, e⟩ := List.mem_iff_getElem.1 hp
    have := rg_in h hi
    rwa [List.getD_eq_getElem?_getD, List.getElem?_eq_getElem hi, Option.getD_some, e] at this
  have tr : (boxV l).2.2.2.2 = true := by
    unfold boxV; rw [if_neg (by omega)]; exact box_true _ _ _ _ pts
  obtain ⟨bx, hin⟩ := boxV_in (l := l) (a := (boxV l).1) (b := (boxV l).2.1) (c := (boxV l).2.2.1) (d := (boxV l).2.2.2.1) (by rw [← tr])
  have at_ : ∀ i, i < l.length → InB (boxV l).1 (boxV l).2.1 (boxV l).2.2.1 (boxV l).2.2.2.1 (l.getD i z27).f0 (l.getD i z27).f1 := fun i hi => hin _ (by rw [List.getD_eq_getElem?_getD, List.getElem?_eq_getElem hi]; exact List.getElem_mem hi)
  obtain ⟨e, b1, b2⟩ := mid_sum h l.length (Nat.le_refl _)
  have s1 := sum_in (fun i => (l.getD i z27).f0) (boxV l).1 (boxV l).2.2.1 l.length fun i hi => (at_ i hi).2.1
  have s2 := sum_in (fun i => (l.getD i z27).f1) (boxV l).2.1 (boxV l).2.2.2.1 l.length fun i hi => (at_ i hi).2.2
  have em : midV l = (wrap64 (Int.tdiv (Geo.sumZ (fun i => (l.getD i z27).f0) l.length) (l.length : Int)), wrap64 (Int.tdiv (Geo.sumZ (fun i => (l.getD i z27).f1) l.length) (l.length : Int)), true) := by
    unfold midV; rw [if_pos h, e]
  rw [em]
  exact ⟨bx, mean_in (by omega) b1.1 (by omega) s1.1 s1.2, mean_in (by omega) b2.1 (by omega) s2.1 s2.2⟩
theorem mid_ok (l : List S27) : (midV l).2.2 = decide (Rg l) := by
  unfold midV
  by_cases h : Rg l
  · rw [if_pos h, decide_eq_true h]
  · rw [if_neg h, decide_eq_false h]
theorem dOnce {xs : List Int} {p : Int} (c : CK xs p) (s n : Int) : ∃ b p' s', spec_l1Once.f xs p s n = some (b, p', s') ∧ CK xs p' := by
  obtain ⟨b, p1, s1, e1, _, _, _, c1⟩ := dBelow c s n
  unfold spec_l1Once.f
  rw [e1]
  exact ⟨_, _, _, rfl, c1⟩
theorem dSafeR (xs : List Int) (h : xs.length ≤ 1048576) : ∃ l a, Told (fun k => spec_DrawSafeRing.f k xs) (l, a) ∧ l.length ≤ 6 := by
  obtain ⟨s, t⟩ := dNew xs h
  obtain ⟨l, p1, s1, e1, _, g, c1⟩ := d7Any (ck0 h) s
  obtain ⟨b, p2, s2, e2, _⟩ := dInt c1 s1 [0, 5, 20, 50, 99999, (-1)] (by simp)
  exact ⟨l, b, Told.bind t (Told.bind (Told.of e1) (Told.bind (Told.of e2) (Told.ret _))), g⟩
theorem tSpecTurn (l : List S27) (hl : l.length ≤ 6) : ∃ v, Told (fun k => spec_TurnRing.f k l) v ∧ v.length = l.length := by
  have key : ∀ d (i : Nat) (s : List S27), i + d = l.length → s.length = i → ∃ v, Told (fun k => spec_TurnRing.l0 k l s (i : Int)) v ∧ v.length = l.length := by
    intro d
    induction d with
    | zero => intro i s hi hs; exact ⟨s, Told.stepr fun k => by simp only [spec_TurnRing.l0]; rw [if_neg (by omega)], by omega⟩
    | succ d ih =>
      intro i s hi hs
      have hm := tmod_bd (b := wrap64 ((l.length : Int) - (i : Int))) (n := (l.length : Int)) (by rw [Gen.w64 (by omega) (by omega)]; omega) (by omega)
      obtain ⟨v, t, g⟩ := ih (i + 1) (s ++ [(⟨(rd_T27 l (Int.tmod (wrap64 ((l.length : Int) - (i : Int))) (l.length : Int))).f0, (rd_T27 l (Int.tmod (wrap64 ((l.length : Int) - (i : Int))) (l.length : Int))).f1⟩ : S27)]) (by omega) (by simp; omega)
      refine ⟨v, Told.step (fun k => ?_) t, g⟩
      simp only [spec_TurnRing.l0]
      rw [if_pos (by omega), if_neg (by omega), if_pos hm.1, if_pos hm.2, if_pos (by omega), Gen.w64s (i := i) (by omega)]
  exact key l.length 0 [] (by omega) rfl
theorem dSame (xs : List Int) (h : xs.length ≤ 1048576) : ∃ a b, Told (fun k => spec_DrawSameTurn.f k xs) (a, b) ∧ a.length ≤ 6 ∧ b.length ≤ 6 := by
  obtain ⟨s, t⟩ := dNew xs h
  obtain ⟨l, p1, s1, e1, _, g, c1⟩ := d7Any (ck0 h) s
  obtain ⟨b, p2, s2, e2, c2⟩ := dOnce c1 s1 3
  by_cases hb : b = true
  · obtain ⟨v, tv, gv⟩ := tSpecTurn l g
    exact ⟨l, v, Told.bind t (Told.bind (Told.of e1) (Told.bind (Told.of e2) (Told.ite_t hb (Told.bind tv (Told.ret _))))), g, by omega⟩
  · obtain ⟨m, p3, s3, e3, _, gm, _⟩ := d7Any c2 s2
    exact ⟨l, m, Told.bind t (Told.bind (Told.of e1) (Told.bind (Told.of e2) (Told.ite_f hb (Told.bind (Told.of e3) (Told.ret _))))), g, gm⟩
theorem tRest (xs : List Int) (hx : xs.length ≤ 1048576) (l : List S27) (hl : l.length ≤ 6) : Told (fun k => (spec_DrawSameTurn.f k xs).bind fun bt472 => ((impl_RingMiddle.f k l).bind fun bt478 => ((impl_BoxOf.f k l).bind fun bt482 => ((impl_SameTurn.f k bt472.1 bt472.2).bind fun t488 => ((impl_SameTurn.f k bt472.2 bt472.1).bind fun t489 => (if (t488 == t489) = true then ((impl_TurnRing.f bt472.1).bind fun t490 => ((impl_SameTurn.f k bt472.1 t490).bind fun t493 => (if t493 = true then (some false) else ((impl_IsRing.f k l).bind fun t494 => (if (bt478.2.2 == t494) = true then (if bt478.2.2 = true then ((impl_InBox.f bt482.1 bt482.2.1 bt482.2.2.1 bt482.2.2.2.1 bt478.1 bt478.2.1).bind fun t495 => (some t495)) else (some true)) else (some false)))))) else (some false))))))) true := by
  obtain ⟨a, b, t, ha, hb⟩ := dSame xs hx
  have l1 : l.length ≤ 1048576 := by omega
  have a1 : a.length ≤ 1048576 := by omega
  have b1 : b.length ≤ 1048576 := by omega
  have ts := tImplSame a b a1 b1
  have ts2 := tImplSame b a b1 a1
  rw [same_comm] at ts2
  have tt := tImplSame a (turnV a) a1 (by rw [turnV_len]; exact a1)
  rw [same_turn] at tt
  have tm := tImplMid l l1
  refine Told.bind t (Told.bind tm (Told.bind (tImplBoxOf l l1) (Told.bind ts (Told.bind ts2 (Told.ite_t (c := (sameV a b == sameV a b) = true) (by simp) (Told.bind (Told.of (implTurn a a1)) (Told.bind tt (Told.ite_f (by simp) (Told.bind (tImplIsRing l l1) ?_)))))))))
  refine Told.ite_t (c := ((midV l).2.2 == decide (Rg l)) = true) (by rw [mid_ok]; simp) ?_
  by_cases c : Rg l
  · refine Told.ite_t (by rw [mid_ok]; simpa using c) (Told.bind (Told.of (implInBox _ _ _ _ _ _)) (Told.of ?_))
    rw [decide_eq_true (mid_in c)]
  · exact Told.ite_f (by rw [mid_ok]; simpa using c) (Told.ret _)
theorem pure_FnAreas : ∀ (l0 : (List Int)), (List.length l0 ≤ maxLen ∧ ∀ y ∈ l0, (0 ≤ y ∧ y ≤ 255)) → ∃ k, laws_FnAreas.f k l0 = some true := by
  intro xs ⟨_, _⟩
  apply Told.ex
  refine Told.bind (Told.ret _) ?_
  by_cases hb : (xs.length : Int) > 1048576
  · exact Told.ite_t (decide_eq_true hb) (Told.ret _)
  have hx : xs.length ≤ 1048576 := by omega
  refine Told.ite_f (by simpa using hb) ?_
  obtain ⟨l, a, t, hl⟩ := dSafeR xs hx
  have l1 : l.length ≤ 1048576 := by omega
  by_cases c : Rg l
  · obtain ⟨v, q, tv⟩ := tSafeRI a l.length l rfl l1 c
    have v1 : v.length ≤ 1048576 := Nat.le_trans q.sub.length_le l1
    have ts : Told (fun k => impl_SafeRing.f k l a) v := Told.bind (Told.of (implClone l l1)) (Told.bind (tImplIsRing l l1) (Told.ite_t (by simpa using c) tv))
    have tsm := tImplSame v l v1 l1
    rw [q.same] at tsm
    refine Told.bind t (Told.bind ts (Told.bind (tImplIsRing l l1) (Told.ite_t (by simpa using c) (Told.bind (tImplIsRing v v1) (Told.ite_t (by simpa using q.rg) (Told.bind (tImplPart v l l1 q.sub) (Told.ite_t rfl (Told.bind tsm (Told.ite_t rfl ?_)))))))))
    have key : ∀ d (i : Nat), i + d = v.length → Told (fun k => laws_FnAreas.l0 k xs l a v (i : Int)) true := by
      intro d
      induction d with
      | zero => intro i hi; exact Told.step (fun k => by simp only [laws_FnAreas.l0]; rw [if_neg (by omega)]) (tRest xs hx l hl)
      | succ d ih =>
        intro i hi
        have nx := ih (i + 1) (by omega)
        refine Told.step (fun k => by simp only [laws_FnAreas.l0]; rw [if_pos (by omega), Gen.w64s (i := i) (by omega)]) (Told.bind (tImplDc v i v1) ?_)
        by_cases c2 : (dcV v i).2 = true
        · refine Told.ite_t c2 (Told.bind (tImplCSize v i v1) ?_)
          exact Told.ite_f (fun h => q.fin i (by omega) ⟨h, c2⟩) nx
        · exact Told.ite_f c2 nx
    exact key v.length 0 (by omega)
  · have ts : Told (fun k => impl_SafeRing.f k l a) l := Told.bind (Told.of (implClone l l1)) (Told.bind (tImplIsRing l l1) (Told.ite_f (by simpa using c) (Told.ret _)))
    exact Told.bind t (Told.bind ts (Told.bind (tImplIsRing l l1) (Told.ite_f (by simpa using c) (Told.bind (tEqSelf l l1) (Told.ite_t rfl (tRest xs hx l hl))))))
end Go.Proofs.Ytbackoeakepngaa.MFnAreas
