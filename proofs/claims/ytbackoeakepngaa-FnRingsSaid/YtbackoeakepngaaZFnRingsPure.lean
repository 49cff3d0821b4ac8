/- The plain law behind FnRings: what the printed functions compute answers true; no condition beyond the arguments' ranges. -/
import Derived.Test.YtbackoeakepngaaZFnRingsTold
import Derived.Test.YtbackoeakepngaaZFnRingsArea
import Derived.Test.YtbackoeakepngaaZFnRingsSym
import Derived.Laws.BitsLemmas
import Derived.Test.YtbackoeakepngaaZFnRingsMx8
import Derived.Test.YtbackoeakepngaaZFnRingsOpn
namespace Go.Proofs.Ytbackoeakepngaa.MFnRings
open Go Go.RowKit Go.Proofs.YtbackoeakepngaaW.PrintWords Go.Proofs.YtbackoeakepngaaW.PrintLast Go.Proofs.YtbackoeakepngaaW.PrintMore Go.Proofs.Ytbackoeakepngaa.Open
set_option linter.unusedVariables false
set_option linter.unusedSimpArgs false
theorem and255 (n : Int) : 0 ≤ bits .and .i64 n 255 ∧ bits .and .i64 n 255 ≤ 255 := by
  have h : (BitVec.ofInt 64 255).toNat = 2 ^ 8 - 1 := by decide
  have key : (BitVec.ofInt 64 n &&& BitVec.ofInt 64 255).toNat = (n % ((2 ^ 64 : Nat) : Int)).toNat % 2 ^ 8 := by
    rw [BitVec.toNat_and, BitVec.toNat_ofInt, h, Nat.and_two_pow_sub_one_eq_mod]
  show 0 ≤ IntKind.i64.wrap ((BitVec.ofInt 64 n &&& BitVec.ofInt 64 255).toNat : Nat) ∧ IntKind.i64.wrap ((BitVec.ofInt 64 n &&& BitVec.ofInt 64 255).toNat : Nat) ≤ 255
  rw [key, IntKind.wrap_i64]
  omega
structure CK (xs : List Int) (p : Int) : Prop where
  lo : 0 ≤ p
  hi : p ≤ xs.length
  sm : xs.length ≤ 1048576
theorem dByte {xs : List Int} {p : Int} (c : CK xs p) (s : Int) : ∃ b p' s', spec_l1Byte.f xs p s = some (b, p', s') ∧ 0 ≤ b ∧ b ≤ 255 ∧ CK xs p' := by
  obtain ⟨a, b, d⟩ := c
  unfold spec_l1Byte.f
  by_cases h : p < (xs.length : Int)
  · rw [if_pos h, if_pos a]
    refine ⟨_, _, _, rfl, (and255 _).1, (and255 _).2, ?_⟩
    rw [Gen.w64 (by omega) (by omega)]
    exact ⟨by omega, by omega, d⟩
  · rw [if_neg h]
    exact ⟨_, _, _, rfl, (and255 _).1, (and255 _).2, a, b, d⟩
theorem tmod_bd {b n : Int} (h : 0 ≤ b) (hn : 0 < n) : 0 ≤ Int.tmod b n ∧ Int.tmod b n < n := by
  rw [Int.tmod_eq_emod_of_nonneg h]
  exact ⟨Int.emod_nonneg _ (by omega), Int.emod_lt_of_pos _ hn⟩
theorem dBelow {xs : List Int} {p : Int} (c : CK xs p) (s n : Int) : ∃ b p' s', spec_l1Below.f xs p s n = some (b, p', s') ∧ 0 ≤ b ∧ (0 < n → b < n) ∧ (n ≤ 0 → b = 0) ∧ CK xs p' := by
  unfold spec_l1Below.f
  by_cases h : n ≤ 0
  · rw [if_pos h]; exact ⟨_, _, _, rfl, by omega, by omega, fun _ => rfl, c⟩
  · rw [if_neg h]
    obtain ⟨b, p1, s1, e, b0, b1, c1⟩ := dByte c s
    by_cases h2 : n ≤ 256
    · rw [if_pos h2, e]
      simp only [Option.bind_some]
      rw [if_neg (by omega)]
      exact ⟨_, _, _, rfl, (tmod_bd b0 (by omega)).1, fun _ => (tmod_bd b0 (by omega)).2, by omega, c1⟩
    · rw [if_neg h2, e]
      obtain ⟨d, p2, s2, e2, d0, d1, c2⟩ := dByte c1 s1
      obtain ⟨g, p3, s3, e3, g0, g1, c3⟩ := dByte c2 s2
      simp only [Option.bind_some, e2, e3]
      rw [if_neg (by omega)]
      have w : wrap64 ((wrap64 ((wrap64 (b * 65536)) + (wrap64 (d * 256)))) + g) = b * 65536 + d * 256 + g := by
        rw [Gen.w64 (n := b * 65536) (by omega) (by omega), Gen.w64 (n := d * 256) (by omega) (by omega), Gen.w64 (n := b * 65536 + d * 256) (by omega) (by omega), Gen.w64 (by omega) (by omega)]
      rw [w]
      exact ⟨_, _, _, rfl, (tmod_bd (by omega) (by omega)).1, fun _ => (tmod_bd (by omega) (by omega)).2, by omega, c3⟩
theorem dInt {xs : List Int} {p : Int} (c : CK xs p) (s : Int) (l : List Int) (hl : 0 < l.length) : ∃ b p' s', spec_l1Int.f xs p s l = some (b, p', s') ∧ b ∈ l ∧ CK xs p' := by
  unfold spec_l1Int.f
  obtain ⟨b, p1, s1, e, b0, b1, _, c1⟩ := dBelow c s (l.length : Int)
  have b1 := b1 (by omega)
  rw [e]
  simp only [Option.bind_some]
  rw [if_pos b0, if_pos b1]
  refine ⟨_, _, _, rfl, ?_, c1⟩
  unfold rd
  rw [List.getD_eq_getElem?_getD, List.getElem?_eq_getElem (by omega)]
  exact List.getElem_mem _
theorem dNew (xs : List Int) (h : xs.length ≤ 1048576) : ∃ s, Told (fun k => spec_l1New.f k xs) (xs, 0, s) := by
  have key : ∀ d (i : Nat), i + d = xs.length → ∀ s, ∃ s', Told (fun k => spec_l1New.l0 k xs s (i : Int)) (xs, 0, s') := by
    intro d
    induction d with
    | zero => intro i hi s; exact ⟨s, Told.stepr fun k => by simp only [spec_l1New.l0]; rw [if_neg (by omega)]⟩
    | succ d ih =>
      intro i hi s
      by_cases h4 : (i : Int) < 4000
      · obtain ⟨s', hs⟩ := ih (i + 1) (by omega) _
        exact ⟨s', Told.step (fun k => by simp only [spec_l1New.l0]; rw [if_pos (by omega), if_pos h4, if_pos (by omega), Gen.w64s (by omega)]) hs⟩
      · exact ⟨s, Told.stepr fun k => by simp only [spec_l1New.l0]; rw [if_pos (by omega), if_neg h4]⟩
  exact key xs.length 0 (by omega) _
theorem ck0 {xs : List Int} (h : xs.length ≤ 1048576) : CK xs 0 := ⟨by omega, by omega, h⟩
theorem d4Draw {xs : List Int} {p : Int} (c : CK xs p) (s : Int) : ∃ x y p' s', spec_l4Draw.f xs p s = some (x, y, p', s') ∧ 0 ≤ x ∧ x < 12 ∧ 0 ≤ y ∧ y < 12 ∧ CK xs p' := by
  unfold spec_l4Draw.f
  obtain ⟨x, p1, s1, e1, x0, x1, _, c1⟩ := dBelow c s 12
  obtain ⟨y, p2, s2, e2, y0, y1, _, c2⟩ := dBelow c1 s1 12
  simp only [e1, e2, Option.bind_some]
  exact ⟨_, _, _, _, rfl, x0, x1 (by omega), y0, y1 (by omega), c2⟩
theorem d4Raw {xs : List Int} {p : Int} (c : CK xs p) (s : Int) : ∃ x p' s', spec_l4Raw.f xs p s = some (x, p', s') ∧ CK xs p' := by
  unfold spec_l4Raw.f
  obtain ⟨x, p1, s1, e1, x0, c1⟩ := dInt c s [(-1), 0, 200, 201, 1000, 1001, 9223372036854775807, (-9223372036854775808)] (by simp)
  simp only [e1, Option.bind_some]
  exact ⟨_, _, _, rfl, c1⟩
theorem d4Any {xs : List Int} {p : Int} (c : CK xs p) (s : Int) : ∃ x y p' s', spec_l4Any.f xs p s = some (x, y, p', s') ∧ CK xs p' := by
  unfold spec_l4Any.f
  obtain ⟨x, y, p1, s1, e1, _, _, _, _, c1⟩ := d4Draw c s
  obtain ⟨b, p2, s2, e2, _, _, _, c2⟩ := dBelow c1 s1 12
  obtain ⟨z, p3, s3, e3, c3⟩ := d4Raw c2 s2
  simp only [e1, e2, e3, Option.bind_some]
  by_cases h : b = 0
  · rw [if_pos h]; exact ⟨_, _, _, _, rfl, c3⟩
  · rw [if_neg h]
    by_cases h1 : b = 1
    · rw [if_pos h1]; exact ⟨_, _, _, _, rfl, c3⟩
    · rw [if_neg h1]; exact ⟨_, _, _, _, rfl, c2⟩
theorem d7Draw {xs : List Int} {p : Int} (c : CK xs p) (s : Int) : ∃ l p' s', spec_l7Draw.f xs p s = some (l, p', s') ∧ 3 ≤ l.length ∧ l.length ≤ 6 ∧ CK xs p' := by
  unfold spec_l7Draw.f
  obtain ⟨x, p1, s1, e1, _, _, _, c1⟩ := dBelow c s 8
  obtain ⟨y, p2, s2, e2, _, _, _, c2⟩ := dBelow c1 s1 8
  obtain ⟨w, p3, s3, e3, _, _, _, c3⟩ := dBelow c2 s2 6
  obtain ⟨h, p4, s4, e4, _, _, _, c4⟩ := dBelow c3 s3 6
  obtain ⟨b, p5, s5, e5, _, _, _, c5⟩ := dBelow c4 s4 4
  simp only [e1, e2, e3, e4, e5, Option.bind_some, spec_l7P.f]
  by_cases h0 : b = 0
  · rw [if_pos h0]; exact ⟨_, _, _, rfl, by simp, by simp, c5⟩
  · rw [if_neg h0]
    by_cases h1 : b = 1
    · rw [if_pos h1]; exact ⟨_, _, _, rfl, by simp, by simp, c5⟩
    · rw [if_neg h1]
      by_cases h2 : b = 2
      · rw [if_pos h2]; exact ⟨_, _, _, rfl, by simp, by simp, c5⟩
      · rw [if_neg h2]; exact ⟨_, _, _, rfl, by simp, by simp, c5⟩
theorem d7Any {xs : List Int} {p : Int} (c : CK xs p) (s : Int) : ∃ l p' s', spec_l7Any.f xs p s = some (l, p', s') ∧ 2 ≤ l.length ∧ l.length ≤ 6 ∧ CK xs p' := by
  obtain ⟨l, p1, s1, e1, g1, g2, c1⟩ := d7Draw c s
  obtain ⟨b, p2, s2, e2, _, _, _, c2⟩ := dBelow c1 s1 10
  obtain ⟨x, y, p3, s3, e3, c3⟩ := d4Any c2 s2
  unfold spec_l7Any.f
  simp only [e1, e2, e3, Option.bind_some]
  by_cases h0 : b = 0
  · rw [if_pos h0, if_pos (by omega)]; exact ⟨_, _, _, rfl, by simp; omega, by simp; omega, c3⟩
  · rw [if_neg h0]
    by_cases h1 : b = 1
    · rw [if_pos h1, if_pos (by omega), if_pos (by omega), if_pos (by omega), if_pos (by simp; omega)]; exact ⟨_, _, _, rfl, by simp, by simp; omega, c2⟩
    · rw [if_neg h1]
      by_cases h2 : b = 2
      · rw [if_pos h2, if_pos (by omega)]; exact ⟨_, _, _, rfl, by simp; omega, by simp; omega, c2⟩
      · rw [if_neg h2]; exact ⟨_, _, _, rfl, by omega, g2, c2⟩
theorem implInRange (a b c : Int) : impl_InRange.f a b c = some (decide (b ≤ a ∧ a ≤ c)) := by
  unfold impl_InRange.f; by_cases h : b ≤ a <;> simp [h]
def Pt (x y : Int) : Prop := 0 ≤ x ∧ x ≤ 200 ∧ 0 ≤ y ∧ y ≤ 200
instance (x y : Int) : Decidable (Pt x y) := by unfold Pt; infer_instance
theorem implIsPoint (x y : Int) : impl_IsPoint.f x y = some (decide (Pt x y)) := by
  unfold impl_IsPoint.f
  rw [implInRange, implInRange]
  simp only [Option.bind_some]
  by_cases h : 0 ≤ x ∧ x ≤ 200
  · rw [if_pos (by simpa using h)]; simp [Pt, h]
  · rw [if_neg (by simpa using h)]; simp only [Option.some.injEq, Bool.false_eq, decide_eq_false_iff_not]; unfold Pt; omega
def D (n : Int) : Prop := -200 ≤ n ∧ n ≤ 200
theorem D_of {x y : Int} (hx : 0 ≤ x ∧ x ≤ 200) (hy : 0 ≤ y ∧ y ≤ 200) : wrap64 (x - y) = x - y ∧ D (x - y) := ⟨Gen.w64 (by omega) (by omega), by unfold D; omega⟩
theorem D_mul {x y : Int} (hx : D x) (hy : D y) : wrap64 (x * y) = x * y ∧ -40000 ≤ x * y ∧ x * y ≤ 40000 := by
  have := Gen.mul_bd (m := 200) (n := 200) hx hy
  exact ⟨Gen.w64 (by omega) (by omega), by omega, by omega⟩
def crossZ (ax ay bx bY px py : Int) : Int := (bx - ax) * (py - ay) - (bY - ay) * (px - ax)
theorem crossZ_bd {ax ay bx bY px py : Int} (ha : Pt ax ay) (hb : Pt bx bY) (hp : Pt px py) :
    wrap64 ((wrap64 ((wrap64 (bx - ax)) * (wrap64 (py - ay)))) - (wrap64 ((wrap64 (bY - ay)) * (wrap64 (px - ax))))) = crossZ ax ay bx bY px py ∧ -80000 ≤ crossZ ax ay bx bY px py ∧ crossZ ax ay bx bY px py ≤ 80000 := by
  obtain ⟨a1, a2, a3, a4⟩ := ha; obtain ⟨b1, b2, b3, b4⟩ := hb; obtain ⟨p1, p2, p3, p4⟩ := hp
  obtain ⟨e1, d1⟩ := D_of ⟨b1, b2⟩ ⟨a1, a2⟩
  obtain ⟨e2, d2⟩ := D_of ⟨p3, p4⟩ ⟨a3, a4⟩
  obtain ⟨e3, d3⟩ := D_of ⟨b3, b4⟩ ⟨a3, a4⟩
  obtain ⟨e4, d4⟩ := D_of ⟨p1, p2⟩ ⟨a1, a2⟩
  obtain ⟨m1, n1, o1⟩ := D_mul d1 d2
  obtain ⟨m2, n2, o2⟩ := D_mul d3 d4
  rw [e1, e2, e3, e4, m1, m2]
  unfold crossZ
  exact ⟨Gen.w64 (by omega) (by omega), by omega, by omega⟩
theorem implCross {ax ay bx bY px py : Int} (ha : Pt ax ay) (hb : Pt bx bY) (hp : Pt px py) : impl_cross.f ax ay bx bY px py = some (crossZ ax ay bx bY px py) := by
  unfold impl_cross.f; rw [(crossZ_bd ha hb hp).1]
def Sg (ax ay bx bY : Int) : Prop := Pt ax ay ∧ Pt bx bY ∧ ¬ (ax = bx ∧ ay = bY)
instance (a b c d : Int) : Decidable (Sg a b c d) := by unfold Sg; infer_instance
theorem implIsSegment (a b c d : Int) : impl_IsSegment.f a b c d = some (decide (Sg a b c d)) := by
  unfold impl_IsSegment.f
  rw [implIsPoint, implIsPoint]
  simp only [Option.bind_some, decide_eq_true_eq]
  by_cases h1 : Pt a b
  · rw [if_pos h1]
    by_cases h2 : Pt c d
    · rw [if_pos h2]
      congr 1
      rw [Bool.eq_iff_iff, decide_eq_true_eq]
      simp only [Bool.or_eq_true, Bool.not_eq_true', beq_eq_false_iff_ne, ne_eq, Sg, h1, h2, true_and]
      omega
    · rw [if_neg h2]; simp [Sg, h2]
  · rw [if_neg h1]; simp [Sg, h1]
def SgOn (ax ay bx bY px py : Int) : Prop := Sg ax ay bx bY ∧ Pt px py ∧ Geo.On ⟨ax, ay⟩ ⟨bx, bY⟩ ⟨px, py⟩
instance (a b c d e f : Int) : Decidable (SgOn a b c d e f) := by unfold SgOn; infer_instance
theorem on_iff (ax ay bx bY px py : Int) : Geo.On ⟨ax, ay⟩ ⟨bx, bY⟩ ⟨px, py⟩ ↔ crossZ ax ay bx bY px py = 0 ∧ (min ax bx ≤ px ∧ px ≤ max ax bx) ∧ (min ay bY ≤ py ∧ py ≤ max ay bY) := by
  unfold Geo.On Geo.InB
  have e : Geo.cross ⟨ax, ay⟩ ⟨bx, bY⟩ ⟨px, py⟩ = crossZ ax ay bx bY px py := rfl
  rw [e]
  simp only [and_assoc]
def sideV (ax ay bx bY px py : Int) : Int := if Pt ax ay ∧ Pt bx bY ∧ Pt px py then Geo.sgn (crossZ ax ay bx bY px py) else 0
theorem cmpZ (n : Int) : cmp_Compare_int.f n 0 = some (Geo.sgn n) := by
  unfold cmp_Compare_int.f cmp_isNaN_int.f
  simp only [Option.bind_some, bne_self_eq_false, Bool.false_eq_true, if_false]
  unfold Geo.sgn
  by_cases h1 : n < 0
  · rw [if_pos h1, if_neg (by omega), if_pos h1]
  · rw [if_neg h1]
    by_cases h2 : n > 0
    · rw [if_pos h2, if_pos (by omega)]
    · rw [if_neg h2, if_neg (by omega), if_neg (by omega)]
theorem tImplSide (ax ay bx bY px py : Int) : Told (fun k => impl_SideOf.f k ax ay bx bY px py) (sideV ax ay bx bY px py) := by
  have no : ¬ (Pt ax ay ∧ Pt bx bY ∧ Pt px py) → Told (fun k => impl_SideOf.j0 k true ax ay bx bY px py) (sideV ax ay bx bY px py) := fun h => Told.stepr fun k => by simp only [impl_SideOf.j0, if_true]; rw [sideV, if_neg h]
  by_cases h1 : Pt ax ay
  · by_cases h2 : Pt bx bY
    · refine Told.bind (Told.of (implIsPoint ax ay)) (Told.ite_t (by simpa using h1) (Told.bind (Told.of (implIsPoint bx bY)) (Told.ite_t (by simpa using h2) (Told.bind (Told.of (implIsPoint px py)) ?_))))
      by_cases h3 : Pt px py
      · refine Told.stepr fun k => ?_
        simp only [impl_SideOf.j0, decide_eq_true h3, Bool.not_true, Bool.false_eq_true, if_false]
        rw [implCross h1 h2 h3]
        simp only [Option.bind_some, cmpZ]
        rw [sideV, if_pos ⟨h1, h2, h3⟩]
      · rw [decide_eq_false h3]; exact no (fun h => h3 h.2.2)
    · exact Told.bind (Told.of (implIsPoint ax ay)) (Told.ite_t (by simpa using h1) (Told.bind (Told.of (implIsPoint bx bY)) (Told.ite_f (by simpa using h2) (no (fun h => h2 h.2.1)))))
  · exact Told.bind (Told.of (implIsPoint ax ay)) (Told.ite_f (by simpa using h1) (no (fun h => h1 h.1)))
theorem tImplIsOn (ax ay bx bY px py : Int) : Told (fun k => impl_IsOn.f k ax ay bx bY px py) (decide (SgOn ax ay bx bY px py)) := by
  by_cases h1 : Sg ax ay bx bY
  · by_cases h2 : Pt px py
    · refine Told.bind (Told.of (implIsSegment ax ay bx bY)) (Told.ite_t (by simpa using h1) (Told.bind (Told.of (implIsPoint px py)) (Told.ite_t (by simpa using h2) (Told.bind (tImplSide ax ay bx bY px py) ?_))))
      have e : SgOn ax ay bx bY px py ↔ crossZ ax ay bx bY px py = 0 ∧ (min ax bx ≤ px ∧ px ≤ max ax bx) ∧ (min ay bY ≤ py ∧ py ≤ max ay bY) := by unfold SgOn; rw [on_iff]; exact ⟨fun h => h.2.2, fun h => ⟨h1, h2, h⟩⟩
      refine Told.of ?_
      have es : sideV ax ay bx bY px py = Geo.sgn (crossZ ax ay bx bY px py) := by unfold sideV; exact if_pos ⟨h1.1, h1.2.1, h2⟩
      simp only [es, e, Geo.sgn_eq_zero, Gen.mn_eq, Gen.mx_eq, implInRange, Option.bind_some, decide_eq_true_eq]
      by_cases c1 : crossZ ax ay bx bY px py = 0
      · rw [if_pos c1]
        by_cases c2 : min ax bx ≤ px ∧ px ≤ max ax bx
        · rw [if_pos c2]; simp only [c1, c2, true_and, and_self]
        · rw [if_neg c2]; simp only [c2, false_and, and_false, decide_false]
      · rw [if_neg c1]; simp only [c1, false_and, decide_false]
    · rw [decide_eq_false (fun h : SgOn ax ay bx bY px py => h2 h.2.1)]
      exact Told.bind (Told.of (implIsSegment ax ay bx bY)) (Told.ite_t (by simpa using h1) (Told.bind (Told.of (implIsPoint px py)) (Told.ite_f (by simpa using h2) (Told.ret _))))
  · rw [decide_eq_false (fun h : SgOn ax ay bx bY px py => h1 h.1)]
    exact Told.bind (Told.of (implIsSegment ax ay bx bY)) (Told.ite_f (by simpa using h1) (Told.ret _))
def Ln (l : List S27) : Prop := 2 ≤ l.length ∧ l.length ≤ 10 ∧ ∀ i, i < l.length → Pt (l.getD i z27).f0 (l.getD i z27).f1 ∧ ¬ (0 < i ∧ (l.getD (i - 1) z27).f0 = (l.getD i z27).f0 ∧ (l.getD (i - 1) z27).f1 = (l.getD i z27).f1)
def lnChk (l : List S27) (i : Nat) : Bool := decide (Pt (l.getD i z27).f0 (l.getD i z27).f1 ∧ ¬ (0 < i ∧ (l.getD (i - 1) z27).f0 = (l.getD i z27).f0 ∧ (l.getD (i - 1) z27).f1 = (l.getD i z27).f1))
instance (l : List S27) : Decidable (Ln l) := decidable_of_iff ((2 ≤ l.length ∧ l.length ≤ 10) ∧ ∀ i, i < l.length → lnChk l i = true) (by unfold Ln lnChk; simp only [decide_eq_true_eq, and_assoc])
theorem rdP (l : List S27) (i : Nat) : rd_T27 l (i : Int) = l.getD i z27 := rfl
theorem pt_ok {x y : Int} (h : Pt x y) : Geo.Ok ⟨x, y⟩ := h
theorem sg_ne {ax ay bx bY : Int} (h : Sg ax ay bx bY) : (⟨ax, ay⟩ : Geo.Pt) ≠ ⟨bx, bY⟩ := by intro e; injection e with e1 e2; exact h.2.2 ⟨e1, e2⟩
theorem sgOn_iff {ax ay bx bY px py : Int} (h1 : Sg ax ay bx bY) (h2 : Pt px py) : SgOn ax ay bx bY px py ↔ Geo.On ⟨ax, ay⟩ ⟨bx, bY⟩ ⟨px, py⟩ := ⟨fun h => h.2.2, fun h => ⟨h1, h2, h⟩⟩
def howV (ax ay bx bY cx cy dx dy : Int) : Int := if Sg ax ay bx bY ∧ Sg cx cy dx dy then Geo.howI ⟨ax, ay⟩ ⟨bx, bY⟩ ⟨cx, cy⟩ ⟨dx, dy⟩ else 0
theorem sgn_mul_bd (m n : Int) : wrap64 (Geo.sgn m * Geo.sgn n) = Geo.sgn m * Geo.sgn n := by
  have h1 : -1 ≤ Geo.sgn m ∧ Geo.sgn m ≤ 1 := by unfold Geo.sgn; split <;> (try split) <;> omega
  have h2 : -1 ≤ Geo.sgn n ∧ Geo.sgn n ≤ 1 := by unfold Geo.sgn; split <;> (try split) <;> omega
  have := Gen.mul_bd h1 h2
  exact Gen.w64 (by omega) (by omega)
theorem implBefore {px py qx qy : Int} (hp : Pt px py) (hq : Pt qx qy) : impl_BeforePoint.f px py qx qy = some (decide (Geo.key ⟨px, py⟩ < Geo.key ⟨qx, qy⟩)) := by
  obtain ⟨a1, a2, a3, a4⟩ := hp; obtain ⟨b1, b2, b3, b4⟩ := hq
  unfold impl_BeforePoint.f Geo.key
  show _ = some (decide (1000 * py + px < 1000 * qy + qx))
  split
  · rw [decide_eq_true (by omega)]
  · split
    · congr 1; rw [decide_eq_decide]; omega
    · rw [decide_eq_false (by omega)]
def gP (p : Geo.Pt) : Prop := Pt p.x p.y
theorem gP_lo {a b : Geo.Pt} (ha : gP a) (hb : gP b) : gP (Geo.lowK a b) := by unfold Geo.lowK; split <;> assumption
theorem gP_hi {a b : Geo.Pt} (ha : gP a) (hb : gP b) : gP (Geo.highK a b) := by unfold Geo.highK; split <;> assumption
theorem implForward {ax ay bx bY : Int} (ha : Pt ax ay) (hb : Pt bx bY) : impl_forward.f ax ay bx bY = some ((Geo.lowK ⟨ax, ay⟩ ⟨bx, bY⟩).x, (Geo.lowK ⟨ax, ay⟩ ⟨bx, bY⟩).y, (Geo.highK ⟨ax, ay⟩ ⟨bx, bY⟩).x, (Geo.highK ⟨ax, ay⟩ ⟨bx, bY⟩).y) := by
  unfold impl_forward.f
  rw [implBefore hb ha]
  simp only [Option.bind_some, decide_eq_true_eq, impl_TurnSegment.f]
  unfold Geo.lowK Geo.highK
  split <;> rfl
theorem tImplHow (ax ay bx bY cx cy dx dy : Int) : Told (fun k => impl_HowMeet.f k ax ay bx bY cx cy dx dy) (howV ax ay bx bY cx cy dx dy) := by
  have no : ¬ (Sg ax ay bx bY ∧ Sg cx cy dx dy) → Told (fun k => impl_HowMeet.j0 k true ax ay bx bY cx cy dx dy) (howV ax ay bx bY cx cy dx dy) := fun h => Told.stepr fun k => by simp only [impl_HowMeet.j0, if_true]; rw [howV, if_neg h]
  by_cases h1 : Sg ax ay bx bY
  · refine Told.bind (Told.of (implIsSegment ax ay bx bY)) (Told.ite_t (by simpa using h1) (Told.bind (Told.of (implIsSegment cx cy dx dy)) ?_))
    by_cases h2 : Sg cx cy dx dy
    · have e : howV ax ay bx bY cx cy dx dy = Geo.howI ⟨ax, ay⟩ ⟨bx, bY⟩ ⟨cx, cy⟩ ⟨dx, dy⟩ := by rw [howV, if_pos ⟨h1, h2⟩]
      have ha := h1.1; have hb := h1.2.1; have hc := h2.1; have hd := h2.2.1
      have sd : ∀ {ax ay bx bY px py : Int}, Pt ax ay → Pt bx bY → Pt px py → sideV ax ay bx bY px py = Geo.sgn (crossZ ax ay bx bY px py) := fun p q r => by unfold sideV; exact if_pos ⟨p, q, r⟩
      unfold Geo.howI at e
      rw [decide_eq_true h2]
      refine Told.step (M := fun k => (impl_SideOf.f k ax ay bx bY cx cy).bind fun t1 => (impl_SideOf.f k ax ay bx bY dx dy).bind fun t2 => if t1 = 0 then impl_HowMeet.j1 k t1 t2 (t2 == 0) ax ay bx bY cx cy dx dy else impl_HowMeet.j1 k t1 t2 false ax ay bx bY cx cy dx dy) (fun k => by simp only [impl_HowMeet.j0, Bool.not_true, Bool.false_eq_true, if_false]) (Told.bind (tImplSide ax ay bx bY cx cy) (Told.bind (tImplSide ax ay bx bY dx dy) ?_))
      rw [sd ha hb hc, sd ha hb hd]
      have on4 : ∀ b : Bool, ¬ (crossZ ax ay bx bY cx cy = 0 ∧ crossZ ax ay bx bY dx dy = 0) → (b = true ↔ Geo.Proper ⟨ax, ay⟩ ⟨bx, bY⟩ ⟨cx, cy⟩ ⟨dx, dy⟩) → Told (fun k => impl_HowMeet.j4 k b ax ay bx bY cx cy dx dy) (howV ax ay bx bY cx cy dx dy) := by
        intro b hn hb4
        rw [if_neg (show ¬ (Geo.cross ⟨ax, ay⟩ ⟨bx, bY⟩ ⟨cx, cy⟩ = 0 ∧ Geo.cross ⟨ax, ay⟩ ⟨bx, bY⟩ ⟨dx, dy⟩ = 0) from hn)] at e
        by_cases c : b = true
        · rw [if_pos (hb4.1 c)] at e
          refine Told.stepr fun k => ?_
          simp only [impl_HowMeet.j4]
          rw [if_pos c, e]
        · rw [if_neg (fun h => c (hb4.2 h))] at e
          have o0 := sgOn_iff (px := cx) (py := cy) h1 h2.1
          have o1 := sgOn_iff (px := dx) (py := dy) h1 h2.2.1
          have o2 := sgOn_iff (px := ax) (py := ay) h2 h1.1
          have o3 := sgOn_iff (px := bx) (py := bY) h2 h1.2.1
          simp only [← o0, ← o1, ← o2, ← o3] at e
          refine Told.step (fun k => by simp only [impl_HowMeet.j4]; rw [if_neg c]) (Told.bind (tImplIsOn ax ay bx bY cx cy) ?_)
          by_cases d0 : SgOn ax ay bx bY cx cy
          · rw [if_pos (.inl d0)] at e; rw [e]; exact Told.ite_t (by simpa using d0) (Told.ret _)
          refine Told.ite_f (by simpa using d0) (Told.bind (tImplIsOn ax ay bx bY dx dy) ?_)
          by_cases d1 : SgOn ax ay bx bY dx dy
          · rw [if_pos (.inr (.inl d1))] at e; rw [e]; exact Told.ite_t (by simpa using d1) (Told.ret _)
          refine Told.ite_f (by simpa using d1) (Told.bind (tImplIsOn cx cy dx dy ax ay) ?_)
          by_cases d2 : SgOn cx cy dx dy ax ay
          · rw [if_pos (.inr (.inr (.inl d2)))] at e; rw [e]; exact Told.ite_t (by simpa using d2) (Told.ret _)
          refine Told.ite_f (by simpa using d2) (Told.bind (tImplIsOn cx cy dx dy bx bY) ?_)
          by_cases d3 : SgOn cx cy dx dy bx bY
          · rw [if_pos (.inr (.inr (.inr d3)))] at e; rw [e]; exact Told.ite_t (by simpa using d3) (Told.ret _)
          rw [if_neg (fun h => by rcases h with h | h | h | h <;> contradiction)] at e
          rw [e]
          exact Told.ite_f (by simpa using d3) (Told.ret _)
      have off : ∀ b : Bool, b = false → ¬ (crossZ ax ay bx bY cx cy = 0 ∧ crossZ ax ay bx bY dx dy = 0) → Told (fun k => impl_HowMeet.j1 k (Geo.sgn (crossZ ax ay bx bY cx cy)) (Geo.sgn (crossZ ax ay bx bY dx dy)) b ax ay bx bY cx cy dx dy) (howV ax ay bx bY cx cy dx dy) := by
        intro b hbf hn
        subst hbf
        refine Told.step (fun k => by simp only [impl_HowMeet.j1, Bool.false_eq_true, if_false]; rw [sgn_mul_bd]) ?_
        by_cases p1 : Geo.sgn (crossZ ax ay bx bY cx cy) * Geo.sgn (crossZ ax ay bx bY dx dy) < 0
        · refine Told.ite_t p1 (Told.bind (tImplSide cx cy dx dy ax ay) (Told.bind (tImplSide cx cy dx dy bx bY) ?_))
          rw [sd hc hd ha, sd hc hd hb, sgn_mul_bd]
          refine on4 _ hn ?_
          rw [decide_eq_true_eq]
          exact ⟨fun h => ⟨p1, h⟩, fun h => h.2⟩
        · exact Told.ite_f p1 (on4 _ hn ⟨fun h => (by cases h), fun h => absurd h.1 p1⟩)
      by_cases z1 : crossZ ax ay bx bY cx cy = 0
      · have s1 : Geo.sgn (crossZ ax ay bx bY cx cy) = 0 := Geo.sgn_eq_zero.2 z1
        refine Told.ite_t s1 ?_
        by_cases z2 : crossZ ax ay bx bY dx dy = 0
        · have s2 : Geo.sgn (crossZ ax ay bx bY dx dy) = 0 := Geo.sgn_eq_zero.2 z2
          rw [s1, s2]
          rw [if_pos (show Geo.cross ⟨ax, ay⟩ ⟨bx, bY⟩ ⟨cx, cy⟩ = 0 ∧ Geo.cross ⟨ax, ay⟩ ⟨bx, bY⟩ ⟨dx, dy⟩ = 0 from ⟨z1, z2⟩)] at e
          have ga : gP ⟨ax, ay⟩ := ha
          have gb : gP ⟨bx, bY⟩ := hb
          have gc : gP ⟨cx, cy⟩ := hc
          have gd : gP ⟨dx, dy⟩ := hd
          have l1 := gP_lo ga gb; have l2 := gP_lo gc gd; have i1 := gP_hi ga gb; have i2 := gP_hi gc gd
          have j3 : ∀ s t : Geo.Pt, gP s → gP t → s = Geo.lo2 ⟨ax, ay⟩ ⟨bx, bY⟩ ⟨cx, cy⟩ ⟨dx, dy⟩ → t = Geo.hi2 ⟨ax, ay⟩ ⟨bx, bY⟩ ⟨cx, cy⟩ ⟨dx, dy⟩ → Told (fun k => impl_HowMeet.j3 k s.x s.y t.x t.y) (howV ax ay bx bY cx cy dx dy) := by
            intro s t hs ht es et
            rw [← es, ← et] at e
            refine Told.stepr fun k => ?_
            simp only [impl_HowMeet.j3]
            rw [implBefore ht hs]
            simp only [Option.bind_some, decide_eq_true_eq]
            have e1 : (⟨t.x, t.y⟩ : Geo.Pt) = t := rfl
            have e2 : (⟨s.x, s.y⟩ : Geo.Pt) = s := rfl
            rw [e1, e2, e]
            split
            · rfl
            · by_cases q : s = t
              · subst q; simp
              · rw [if_neg q, if_neg]
                intro h
                simp only [Bool.and_eq_true, beq_iff_eq] at h
                apply q
                cases s; cases t; simp_all
          have j2 : ∀ s : Geo.Pt, gP s → s = Geo.lo2 ⟨ax, ay⟩ ⟨bx, bY⟩ ⟨cx, cy⟩ ⟨dx, dy⟩ → Told (fun k => impl_HowMeet.j2 k (Geo.lowK ⟨cx, cy⟩ ⟨dx, dy⟩).x (Geo.lowK ⟨cx, cy⟩ ⟨dx, dy⟩).y (Geo.highK ⟨cx, cy⟩ ⟨dx, dy⟩).x (Geo.highK ⟨cx, cy⟩ ⟨dx, dy⟩).y s.x s.y (Geo.highK ⟨ax, ay⟩ ⟨bx, bY⟩).x (Geo.highK ⟨ax, ay⟩ ⟨bx, bY⟩).y) (howV ax ay bx bY cx cy dx dy) := by
            intro s hs es
            refine Told.step (M := fun k => if Geo.key (Geo.highK ⟨cx, cy⟩ ⟨dx, dy⟩) < Geo.key (Geo.highK ⟨ax, ay⟩ ⟨bx, bY⟩) then impl_HowMeet.j3 k s.x s.y (Geo.highK ⟨cx, cy⟩ ⟨dx, dy⟩).x (Geo.highK ⟨cx, cy⟩ ⟨dx, dy⟩).y else impl_HowMeet.j3 k s.x s.y (Geo.highK ⟨ax, ay⟩ ⟨bx, bY⟩).x (Geo.highK ⟨ax, ay⟩ ⟨bx, bY⟩).y) (fun k => ?_) ?_
            · simp only [impl_HowMeet.j2]
              rw [implBefore i2 i1]
              simp only [Option.bind_some, decide_eq_true_eq]
            · by_cases q : Geo.key (Geo.highK ⟨cx, cy⟩ ⟨dx, dy⟩) < Geo.key (Geo.highK ⟨ax, ay⟩ ⟨bx, bY⟩)
              · exact Told.ite_t q (j3 s _ hs i2 es (by unfold Geo.hi2; rw [if_pos q]))
              · exact Told.ite_f q (j3 s _ hs i1 es (by unfold Geo.hi2; rw [if_neg q]))
          refine Told.step (M := fun k => if Geo.key (Geo.lowK ⟨ax, ay⟩ ⟨bx, bY⟩) < Geo.key (Geo.lowK ⟨cx, cy⟩ ⟨dx, dy⟩) then impl_HowMeet.j2 k (Geo.lowK ⟨cx, cy⟩ ⟨dx, dy⟩).x (Geo.lowK ⟨cx, cy⟩ ⟨dx, dy⟩).y (Geo.highK ⟨cx, cy⟩ ⟨dx, dy⟩).x (Geo.highK ⟨cx, cy⟩ ⟨dx, dy⟩).y (Geo.lowK ⟨cx, cy⟩ ⟨dx, dy⟩).x (Geo.lowK ⟨cx, cy⟩ ⟨dx, dy⟩).y (Geo.highK ⟨ax, ay⟩ ⟨bx, bY⟩).x (Geo.highK ⟨ax, ay⟩ ⟨bx, bY⟩).y else impl_HowMeet.j2 k (Geo.lowK ⟨cx, cy⟩ ⟨dx, dy⟩).x (Geo.lowK ⟨cx, cy⟩ ⟨dx, dy⟩).y (Geo.highK ⟨cx, cy⟩ ⟨dx, dy⟩).x (Geo.highK ⟨cx, cy⟩ ⟨dx, dy⟩).y (Geo.lowK ⟨ax, ay⟩ ⟨bx, bY⟩).x (Geo.lowK ⟨ax, ay⟩ ⟨bx, bY⟩).y (Geo.highK ⟨ax, ay⟩ ⟨bx, bY⟩).x (Geo.highK ⟨ax, ay⟩ ⟨bx, bY⟩).y) (fun k => ?_) ?_
          · simp only [impl_HowMeet.j1, beq_self_eq_true, if_true]
            rw [implForward ha hb, implForward hc hd]
            simp only [Option.bind_some]
            rw [implBefore l1 l2]
            simp only [Option.bind_some, decide_eq_true_eq]
          · by_cases q : Geo.key (Geo.lowK ⟨ax, ay⟩ ⟨bx, bY⟩) < Geo.key (Geo.lowK ⟨cx, cy⟩ ⟨dx, dy⟩)
            · exact Told.ite_t q (j2 _ l2 (by unfold Geo.lo2; rw [if_pos q]))
            · exact Told.ite_f q (j2 _ l1 (by unfold Geo.lo2; rw [if_neg q]))
        · exact off _ (by simpa using fun h => z2 (Geo.sgn_eq_zero.1 h)) (fun h => z2 h.2)
      · exact Told.ite_f (fun h => z1 (Geo.sgn_eq_zero.1 h)) (off _ rfl (fun h => z1 h.1))
    · rw [decide_eq_false h2]; exact no (fun h => h2 h.2)
  · exact Told.bind (Told.of (implIsSegment ax ay bx bY)) (Told.ite_f (by simpa using h1) (no (fun h => h1 h.1)))
theorem rdS (l : List S53) (i : Nat) : rd_T53 l (i : Int) = l.getD i z53 := rfl
def ringAt (l : List S27) (i : Nat) : S53 := ⟨l.getD i z27, l.getD ((i + 1) % l.length) z27⟩
def ringSegs (l : List S27) : List S53 := (List.range' 0 l.length).map (ringAt l)
theorem ringSegs_len (l : List S27) : (ringSegs l).length = l.length := by simp [ringSegs]
theorem ringSegs_at (l : List S27) {i : Nat} (h : i < l.length) : (ringSegs l).getD i z53 = ringAt l i := by
  unfold ringSegs
  rw [List.getD_eq_getElem?_getD, List.getElem?_map, List.getElem?_range' h]
  simp
theorem foldl_push' {α β : Type} (g : α → β) (x : List α) : ∀ s : List β, x.foldl (fun s i => s ++ [g i]) s = s ++ x.map g := by
  induction x with
  | nil => intro s; simp
  | cons a x ih => intro s; rw [List.foldl_cons, ih]; simp
theorem tmod_n {i n : Nat} (h : n ≤ 1048576) (hi : i < n) : Int.tmod (wrap64 ((i : Int) + 1)) (n : Int) = (((i + 1) % n : Nat) : Int) := by
  rw [Gen.w64s (by omega)]; rfl
def wantAt (n i k : Nat) : Int := if k + 1 = i ∨ (k = 0 ∧ i + 1 = n) then 1 else 0
def howAt (l : List S27) (i k : Nat) : Int := howV (ringAt l i).f0.f0 (ringAt l i).f0.f1 (ringAt l i).f1.f0 (ringAt l i).f1.f1 (ringAt l k).f0.f0 (ringAt l k).f0.f1 (ringAt l k).f1.f0 (ringAt l k).f1.f1
def SgAt (l : List S27) (i : Nat) : Prop := Sg (ringAt l i).f0.f0 (ringAt l i).f0.f1 (ringAt l i).f1.f0 (ringAt l i).f1.f1
instance (l : List S27) (i : Nat) : Decidable (SgAt l i) := by unfold SgAt; infer_instance
def chkRing (l : List S27) (i : Nat) : Bool := decide (SgAt l i ∧ ∀ k, k < i → howAt l i k = wantAt l.length i k)
def Rg (l : List S27) : Prop := (3 ≤ l.length ∧ l.length ≤ 10) ∧ ∀ i, i < l.length → chkRing l i = true
instance (l : List S27) : Decidable (Rg l) := by unfold Rg; infer_instance
theorem chk_iff (l : List S27) (i : Nat) : chkRing l i = true ↔ SgAt l i ∧ ∀ k, k < i → howAt l i k = wantAt l.length i k := by unfold chkRing; rw [decide_eq_true_eq]
theorem rg_pt {l : List S27} (h : Rg l) {i : Nat} (hi : i < l.length) : SgAt l i := ((chk_iff l i).1 (h.2 i hi)).1
theorem tImplAround (l : List S27) (hl : l.length ≤ 1048576) : Told (fun k => impl_around.f k l) (ringSegs l) := by
  refine Told.up (n := l.length) (fun s i => s ++ [ringAt l i]) (fun k s i => impl_around.l0 k l s l (l.length : Int) i) (fun s i => s.length = i) (fun s i hi hv => ⟨by simp; omega, fun hh => ?_⟩) l.length [] 0 (by omega) rfl ?_
  · refine Told.step (M := fun k => impl_around.l0 k l (s ++ [ringAt l i]) l (l.length : Int) ((i + 1 : Nat) : Int)) (fun k => ?_) hh
    simp only [impl_around.l0]
    have hm : (i + 1) % l.length < l.length := Nat.mod_lt _ (by omega)
    rw [if_pos (by omega), if_pos (by omega), if_pos (by omega), if_neg (by omega), tmod_n hl hi, if_pos (by omega), if_pos (by omega), if_pos (by omega), Gen.w64s (by omega), rdP, rdP]
    rfl
  · refine Told.stepr fun k => ?_
    simp only [impl_around.l0]
    rw [if_neg (by omega), foldl_push']
    rfl
theorem tImplIsRing (l : List S27) (hl : l.length ≤ 1048576) : Told (fun k => impl_IsRing.f k l) (decide (Rg l)) := by
  by_cases h3 : 3 ≤ l.length ∧ l.length ≤ 10
  · refine Told.ite_f (by omega) ?_
    refine Told.step (fun k => by simp only [impl_IsRing.j0]; rw [if_neg (by rw [decide_eq_true_eq]; omega)]) (Told.bind (tImplAround l hl) ?_)
    rw [ringSegs_len]
    refine Told.scan (n := l.length) false (fun i => chkRing l i = true) (fun k i => impl_IsRing.l0 k (ringSegs l) (l.length : Int) i) (fun i hi h1 h2 => ?_) (fun h => Told.stepr fun k => ?_) (fun h => decide_eq_false fun hh => h hh.2)
    · refine Told.step (M := fun k => if SgAt l i then impl_IsRing.l1 k (ringSegs l) (i : Int) (l.length : Int) (i : Int) (i : Int) 0 else some false) (fun k => ?_) ?_
      · simp only [impl_IsRing.l0]
        rw [if_pos (by omega), if_pos (by omega), if_pos (by rw [ringSegs_len]; omega), implIsSegment, rdS, ringSegs_at l hi]
        simp only [Option.bind_some, decide_eq_true_eq]
        rfl
      by_cases c : SgAt l i
      · refine Told.ite_t c ?_
        refine Told.scan (n := i) false (fun k => howAt l i k = wantAt l.length i k) (fun k j => impl_IsRing.l1 k (ringSegs l) (i : Int) (l.length : Int) (i : Int) (i : Int) j) (fun j hj g1 g2 => ?_) (fun h => ?_) (fun h => h2 fun hh => h ((chk_iff l i).1 hh).2)
        · have st : ∀ b : Bool, (b = true ↔ (j + 1 = i ∨ (j = 0 ∧ i + 1 = l.length))) → Told (fun k => impl_IsRing.j3 k (ringSegs l) (i : Int) (j : Int) 0 (l.length : Int) (i : Int) (i : Int) (j : Int) b) (decide (Rg l)) := by
            intro b hb
            refine Told.step (M := fun k => (impl_HowMeet.f k (ringAt l i).f0.f0 (ringAt l i).f0.f1 (ringAt l i).f1.f0 (ringAt l i).f1.f1 (ringAt l j).f0.f0 (ringAt l j).f0.f1 (ringAt l j).f1.f0 (ringAt l j).f1.f1).bind fun t => if t = wantAt l.length i j then impl_IsRing.l1 k (ringSegs l) (i : Int) (l.length : Int) (i : Int) (i : Int) ((j + 1 : Nat) : Int) else some false) (fun k => ?_) (Told.bind (tImplHow _ _ _ _ _ _ _ _) ?_)
            · simp only [impl_IsRing.j3]
              have q1 : (i : Int) < ((ringSegs l).length : Int) := by rw [ringSegs_len]; omega
              have q2 : (j : Int) < ((ringSegs l).length : Int) := by rw [ringSegs_len]; omega
              have q3 : (0 : Int) ≤ (i : Int) := by omega
              have q4 : (0 : Int) ≤ (j : Int) := by omega
              unfold wantAt
              by_cases c : b = true
              · rw [if_pos c, if_pos q3, if_pos q1, if_pos q4, if_pos q2, Gen.w64s (by omega), rdS, rdS, ringSegs_at l hi, ringSegs_at l (by omega), if_pos (hb.1 c)]
              · rw [if_neg c, if_pos q3, if_pos q1, if_pos q4, if_pos q2, Gen.w64s (by omega), rdS, rdS, ringSegs_at l hi, ringSegs_at l (by omega), if_neg (fun h => c (hb.2 h))]
            · by_cases c : howAt l i j = wantAt l.length i j
              · exact Told.ite_t c (g1 c)
              · rw [g2 c]; exact Told.ite_f c (Told.ret _)
          have e0 : wrap64 ((i : Int) - 1) = (i : Int) - 1 := Gen.w64 (by omega) (by omega)
          by_cases e1 : j + 1 = i
          · refine Told.step (fun k => ?_) (st true (by simp [e1]))
            simp only [impl_IsRing.l1]
            rw [if_pos (by omega), e0, if_pos (by omega)]
          · by_cases e2 : j = 0
            · refine Told.step (fun k => ?_) (st ((i : Int) == (wrap64 (((ringSegs l).length : Int) - 1))) ?_)
              · simp only [impl_IsRing.l1]
                rw [if_pos (by omega), e0, if_neg (by omega), if_pos (by omega)]
              · rw [beq_iff_eq, ringSegs_len, Gen.w64 (by omega) (by omega)]; omega
            · refine Told.step (fun k => ?_) (st false ?_)
              · simp only [impl_IsRing.l1]
                rw [if_pos (by omega), e0, if_neg (by omega), if_neg (by omega)]
              · constructor
                · intro h; cases h
                · intro h; omega
        · refine Told.step (fun k => ?_) (h1 ((chk_iff l i).2 ⟨c, h⟩))
          simp only [impl_IsRing.l1]
          rw [if_neg (by omega), Gen.w64s (by omega)]
      · rw [h2 (fun hh => c ((chk_iff l i).1 hh).1)]
        exact Told.ite_f c (Told.ret _)
    · simp only [impl_IsRing.l0]
      rw [if_neg (by omega), decide_eq_true (show Rg l from ⟨h3, h⟩)]
  · rw [decide_eq_false (fun hh : Rg l => h3 hh.1)]
    by_cases h : l.length < 3
    · exact Told.ite_t (by omega) (Told.stepr fun k => by simp only [impl_IsRing.j0, if_true])
    · exact Told.ite_f (by omega) (Told.stepr fun k => by simp only [impl_IsRing.j0]; rw [if_pos (by rw [decide_eq_true_eq]; omega)])
theorem tImplRingSegments (l : List S27) (hl : l.length ≤ 1048576) : Told (fun k => impl_RingSegments.f k l) (if Rg l then ringSegs l else []) := by
  refine Told.bind (tImplIsRing l hl) ?_
  by_cases h : Rg l
  · rw [if_pos h]; exact Told.ite_t (by simpa using h) (Told.bind (tImplAround l hl) (Told.ret _))
  · rw [if_neg h]; exact Told.ite_f (by simpa using h) (Told.ret _)
def termZ (l : List S27) (i : Nat) : Int := (ringAt l i).f0.f0 * (ringAt l i).f1.f1 - (ringAt l i).f0.f1 * (ringAt l i).f1.f0
def areaV (l : List S27) : Int := if Rg l then (List.range' 0 l.length).foldl (fun s i => s + termZ l i) 0 else 0
theorem term_bd {l : List S27} (h : Rg l) {i : Nat} (hi : i < l.length) {s : Int} (hs : -(40000 * (i : Int)) ≤ s ∧ s ≤ 40000 * (i : Int)) :
    (-(40000 * ((i + 1 : Nat) : Int)) ≤ s + termZ l i ∧ s + termZ l i ≤ 40000 * ((i + 1 : Nat) : Int)) ∧
    wrap64 ((wrap64 (s + (wrap64 ((ringAt l i).f0.f0 * (ringAt l i).f1.f1)))) - (wrap64 ((ringAt l i).f0.f1 * (ringAt l i).f1.f0))) = s + termZ l i ∧
    wrap64 (s + (wrap64 ((wrap64 ((ringAt l i).f0.f0 * (ringAt l i).f1.f1)) - (wrap64 ((ringAt l i).f0.f1 * (ringAt l i).f1.f0))))) = s + termZ l i := by
  have h10 := h.1.2
  obtain ⟨⟨a1, a2, a3, a4⟩, ⟨b1, b2, b3, b4⟩, _⟩ := rg_pt h hi
  have p1 := Int.mul_nonneg a1 b3
  have p2 := Int.mul_nonneg a3 b1
  have m1 := Gen.mul_bd (m := 200) (n := 200) (x := (ringAt l i).f0.f0) (y := (ringAt l i).f1.f1) (by omega) (by omega)
  have m2 := Gen.mul_bd (m := 200) (n := 200) (x := (ringAt l i).f0.f1) (y := (ringAt l i).f1.f0) (by omega) (by omega)
  unfold termZ
  rw [Gen.w64 (n := (ringAt l i).f0.f0 * (ringAt l i).f1.f1) (by omega) (by omega), Gen.w64 (n := (ringAt l i).f0.f1 * (ringAt l i).f1.f0) (by omega) (by omega)]
  refine ⟨by omega, ?_, ?_⟩
  · rw [Gen.w64 (n := s + (ringAt l i).f0.f0 * (ringAt l i).f1.f1) (by omega) (by omega), Gen.w64 (by omega) (by omega)]; omega
  · rw [Gen.w64 (n := (ringAt l i).f0.f0 * (ringAt l i).f1.f1 - (ringAt l i).f0.f1 * (ringAt l i).f1.f0) (by omega) (by omega), Gen.w64 (by omega) (by omega)]
theorem tImplArea (l : List S27) (hl : l.length ≤ 1048576) : Told (fun k => impl_TwiceArea.f k l) (areaV l) := by
  refine Told.bind (tImplRingSegments l hl) ?_
  by_cases h : Rg l
  · rw [areaV, if_pos h, if_pos h, ringSegs_len]
    refine Told.up (n := l.length) (fun s i => s + termZ l i) (fun k s i => impl_TwiceArea.l0 k s (ringSegs l) (l.length : Int) i) (fun s i => -(40000 * (i : Int)) ≤ s ∧ s ≤ 40000 * (i : Int)) (fun s i hi hv => ?_) l.length 0 0 (by omega) (by omega) ?_
    · obtain ⟨b1, _, b2⟩ := term_bd h hi hv
      refine ⟨b1, fun hh => ?_⟩
      refine Told.step (fun k => ?_) hh
      simp only [impl_TwiceArea.l0]
      rw [if_pos (by omega), if_pos (by omega), if_pos (by rw [ringSegs_len]; omega), rdS, ringSegs_at l hi, b2, Gen.w64s (by omega)]
    · refine Told.stepr fun k => ?_
      simp only [impl_TwiceArea.l0]
      rw [if_neg (by omega)]
  · rw [areaV, if_neg h, if_neg h]
    refine Told.stepr fun k => ?_
    simp only [impl_TwiceArea.l0]
    rw [if_neg (by simp)]
def gpt (l : List S27) (i : Nat) : Geo.Pt := ⟨(l.getD i z27).f0, (l.getD i z27).f1⟩
theorem nx_mod {n i : Nat} (h : i < n) : (i + 1) % n = Area.nx n i := by
  unfold Area.nx
  split
  · rename_i e; rw [e]; exact Nat.mod_self n
  · exact Nat.mod_eq_of_lt (by omega)
theorem fold_sumZ (f g : Nat → Int) (n : Nat) (h : ∀ i, i < n → f i = g i) : ∀ m, m ≤ n → (List.range' 0 m).foldl (fun s i => s + f i) 0 = Geo.sumZ g m
  | 0, _ => rfl
  | m + 1, hm => by
    rw [List.range'_1_concat, List.foldl_append, fold_sumZ f g n h m (by omega)]
    show Geo.sumZ g m + f (0 + m) = Geo.sumZ g m + g m
    rw [Nat.zero_add, h m (by omega)]
theorem rg_area {l : List S27} (h : Rg l) : areaV l ≠ 0 := by
  have seg := fun i (hi : i < l.length) => rg_pt h hi
  have e2 : ∀ i, i < l.length → (ringAt l i).f1 = l.getD (Area.nx l.length i) z27 := fun i hi => by
    show l.getD ((i + 1) % l.length) _ = _
    rw [nx_mod hi]
  have hR : Geo.RingOk l.length (gpt l) := by
    refine ⟨h.1.1, fun i hi => pt_ok (seg i hi).1, fun i hi => ?_, fun i hi j hj => ?_⟩
    · have := sg_ne (seg i hi)
      rw [e2 i hi] at this
      exact this
    · have h1 := ((chk_iff l i).1 (h.2 i hi)).2 j hj
      unfold howAt howV at h1
      rw [if_pos ⟨seg i hi, seg j (by omega)⟩, e2 i hi, e2 j (by omega)] at h1
      exact h1
  have := Geo.ring_area hR
  rw [areaV, if_pos h, fold_sumZ (termZ l) (fun i => (gpt l i).x * (gpt l (Area.nx l.length i)).y - (gpt l i).y * (gpt l (Area.nx l.length i)).x) l.length (fun i hi => by
    unfold termZ
    rw [e2 i hi]; rfl) l.length (Nat.le_refl _)]
  exact this
def flip (l : List S27) (px py : Int) (i : Nat) : Bool :=
  if ((decide ((ringAt l i).f0.f1 > py)) != (decide ((ringAt l i).f1.f1 > py))) = true then
    (if (ringAt l i).f1.f1 > (ringAt l i).f0.f1 then decide (crossZ (ringAt l i).f0.f0 (ringAt l i).f0.f1 (ringAt l i).f1.f0 (ringAt l i).f1.f1 px py > 0) else decide (crossZ (ringAt l i).f0.f0 (ringAt l i).f0.f1 (ringAt l i).f1.f0 (ringAt l i).f1.f1 px py < 0)) else false
def OnAt (l : List S27) (px py : Int) (i : Nat) : Prop := SgOn (ringAt l i).f0.f0 (ringAt l i).f0.f1 (ringAt l i).f1.f0 (ringAt l i).f1.f1 px py
instance (l : List S27) (px py : Int) (i : Nat) : Decidable (OnAt l px py i) := by unfold OnAt; infer_instance
def insGo (l : List S27) (px py : Int) : Nat → Bool → Bool
  | 0, b => b
  | d + 1, b => if OnAt l px py (l.length - (d + 1)) then true else insGo l px py d (if flip l px py (l.length - (d + 1)) = true then !b else b)
def insV (l : List S27) (px py : Int) : Bool := if Rg l ∧ Pt px py then insGo l px py l.length false else false
theorem on_by_height {ax ay bx bY px py : Int} (hc : crossZ ax ay bx bY px py = 0) (h1 : bY ≤ py) (h2 : py < ay) : min ax bx ≤ px ∧ px ≤ max ax bx := by
  unfold crossZ at hc
  have hd : 0 < ay - bY := by omega
  have e1 : (px - ax) * (ay - bY) = (bx - ax) * (ay - py) := by grind
  have e2 : (bx - px) * (ay - bY) = (bx - ax) * (py - bY) := by grind
  have f1 : 0 ≤ ay - py := by omega
  have f2 : 0 ≤ py - bY := by omega
  rcases Int.le_total ax bx with h | h
  · have g1 : 0 ≤ (px - ax) * (ay - bY) := by rw [e1]; exact Int.mul_nonneg (by omega) f1
    have g2 : 0 ≤ (bx - px) * (ay - bY) := by rw [e2]; exact Int.mul_nonneg (by omega) f2
    have := Int.nonneg_of_mul_nonneg_left g1 hd
    have := Int.nonneg_of_mul_nonneg_left g2 hd
    omega
  · have g1 : 0 ≤ (ax - px) * (ay - bY) := by rw [show (ax - px) * (ay - bY) = (ax - bx) * (ay - py) by grind]; exact Int.mul_nonneg (by omega) f1
    have g2 : 0 ≤ (px - bx) * (ay - bY) := by rw [show (px - bx) * (ay - bY) = (ax - bx) * (py - bY) by grind]; exact Int.mul_nonneg (by omega) f2
    have := Int.nonneg_of_mul_nonneg_left g1 hd
    have := Int.nonneg_of_mul_nonneg_left g2 hd
    omega
theorem sgn_pos (n : Int) : decide (Geo.sgn n > 0) = decide (n > 0) := by
  unfold Geo.sgn
  by_cases h : 0 < n
  · rw [if_pos h]; simp; omega
  · rw [if_neg h]
    split <;> simp <;> omega
theorem flip_impl (l : List S27) (px py : Int) (i : Nat) (hs : SgAt l i) (h2 : Pt px py) (hn : ¬ OnAt l px py i) :
    (if ((decide ((ringAt l i).f1.f1 > py)) != (decide ((ringAt l i).f0.f1 > py))) = true then ((decide (Geo.sgn (crossZ (ringAt l i).f0.f0 (ringAt l i).f0.f1 (ringAt l i).f1.f0 (ringAt l i).f1.f1 px py) > 0)) == (decide ((ringAt l i).f1.f1 > py))) else false) = flip l px py i := by
  unfold flip
  have comm : ((decide ((ringAt l i).f1.f1 > py)) != (decide ((ringAt l i).f0.f1 > py))) = ((decide ((ringAt l i).f0.f1 > py)) != (decide ((ringAt l i).f1.f1 > py))) := by
    cases decide ((ringAt l i).f1.f1 > py) <;> cases decide ((ringAt l i).f0.f1 > py) <;> rfl
  rw [comm, sgn_pos]
  by_cases c1 : ((decide ((ringAt l i).f0.f1 > py)) != (decide ((ringAt l i).f1.f1 > py))) = true
  · rw [if_pos c1, if_pos c1]
    by_cases c2 : (ringAt l i).f1.f1 > py
    · rw [decide_eq_true c2] at c1 ⊢
      have : ¬ (ringAt l i).f0.f1 > py := by intro h; rw [decide_eq_true h] at c1; simp at c1
      rw [if_pos (by omega)]; simp
    · rw [decide_eq_false c2] at c1 ⊢
      have h3 : (ringAt l i).f0.f1 > py := by simpa using c1
      rw [if_neg (by omega)]
      have hz : crossZ (ringAt l i).f0.f0 (ringAt l i).f0.f1 (ringAt l i).f1.f0 (ringAt l i).f1.f1 px py ≠ 0 := by
        intro hz
        apply hn
        refine ⟨hs, h2, (on_iff _ _ _ _ _ _).2 ⟨hz, on_by_height hz (by omega) (by omega), by omega⟩⟩
      rw [Bool.eq_iff_iff]
      simp only [beq_iff_eq, decide_eq_false_iff_not, decide_eq_true_eq]
      omega
  · rw [if_neg c1, if_neg c1]
theorem tImplIns (l : List S27) (px py : Int) (hl : l.length ≤ 1048576) : Told (fun k => impl_IsInside.f k l px py) (insV l px py) := by
  refine Told.bind (Told.of (implIsPoint px py)) ?_
  by_cases h2 : Pt px py
  · refine Told.ite_t (by simpa using h2) (Told.bind (tImplRingSegments l hl) ?_)
    by_cases h1 : Rg l
    · rw [if_pos h1, insV, if_pos ⟨h1, h2⟩, ringSegs_len]
      have key : ∀ d (i : Nat) b, i + d = l.length → Told (fun k => impl_IsInside.l0 k b (ringSegs l) (l.length : Int) (i : Int) px py) (insGo l px py d b) := by
        intro d
        induction d with
        | zero =>
          intro i b hi
          refine Told.stepr fun k => ?_
          simp only [impl_IsInside.l0]
          rw [if_neg (by omega)]; rfl
        | succ d ih =>
          intro i b hi
          have hlt : i < l.length := by omega
          have ei : l.length - (d + 1) = i := by omega
          have q1 : (i : Int) < ((ringSegs l).length : Int) := by rw [ringSegs_len]; omega
          have q2 : (0 : Int) ≤ (i : Int) := by omega
          have q3 : (i : Int) < (l.length : Int) := by omega
          have hs := rg_pt h1 hlt
          simp only [insGo, ei]
          by_cases c : OnAt l px py i
          · rw [if_pos c]
            refine Told.step (fun k => by simp only [impl_IsInside.l0]; rw [if_pos q3, if_pos q2, if_pos q1, rdS, ringSegs_at l hlt]) ?_
            exact Told.bind (tImplIsOn _ _ _ _ _ _) (Told.ite_t (decide_eq_true c) (Told.ret _))
          · rw [if_neg c, ← flip_impl l px py i hs h2 c]
            refine Told.step (fun k => by simp only [impl_IsInside.l0]; rw [if_pos q3, if_pos q2, if_pos q1, rdS, ringSegs_at l hlt, Gen.w64s (by omega)]) ?_
            refine Told.bind (tImplIsOn _ _ _ _ _ _) (Told.ite_f (by rw [decide_eq_true_eq]; exact c) ?_)
            by_cases c1 : ((decide ((ringAt l i).f1.f1 > py)) != (decide ((ringAt l i).f0.f1 > py))) = true
            · rw [if_pos c1]
              refine Told.ite_t c1 (Told.bind (tImplSide _ _ _ _ _ _) ?_)
              have es : sideV (ringAt l i).f0.f0 (ringAt l i).f0.f1 (ringAt l i).f1.f0 (ringAt l i).f1.f1 px py = Geo.sgn (crossZ (ringAt l i).f0.f0 (ringAt l i).f0.f1 (ringAt l i).f1.f0 (ringAt l i).f1.f1 px py) := by unfold sideV; exact if_pos ⟨hs.1, hs.2.1, h2⟩
              rw [es]
              by_cases c3 : ((decide (Geo.sgn (crossZ (ringAt l i).f0.f0 (ringAt l i).f0.f1 (ringAt l i).f1.f0 (ringAt l i).f1.f1 px py) > 0)) == (decide ((ringAt l i).f1.f1 > py))) = true
              · rw [if_pos c3]; exact Told.ite_t c3 (ih (i + 1) _ (by omega))
              · rw [if_neg c3]; exact Told.ite_f c3 (ih (i + 1) _ (by omega))
            · rw [if_neg c1, if_neg (by simp)]
              exact Told.ite_f c1 (ih (i + 1) _ (by omega))
      exact key l.length 0 false (by omega)
    · rw [if_neg h1, insV, if_neg (fun h => h1 h.1)]
      exact Told.stepr fun k => by simp only [impl_IsInside.l0]; rw [if_neg (by simp)]
  · rw [insV, if_neg (fun h => h2 h.2)]
    exact Told.ite_f (by simpa using h2) (Told.ret _)
theorem implClone (l : List S27) (hl : l.length ≤ 1048576) : impl_Point_76.f l = some l := by
  unfold impl_Point_76.f
  simp only [Option.bind_some, List.nil_append]
  rw [if_pos (by simp; omega)]
theorem howV_comm (ax ay bx bY cx cy dx dy : Int) : howV ax ay bx bY cx cy dx dy = howV cx cy dx dy ax ay bx bY := by
  unfold howV
  by_cases h : Sg ax ay bx bY ∧ Sg cx cy dx dy
  · rw [if_pos h, if_pos ⟨h.2, h.1⟩]
    exact Geo.howI_comm (pt_ok h.1.1) (pt_ok h.1.2.1) (pt_ok h.2.1) (pt_ok h.2.2.1) (sg_ne h.1) (sg_ne h.2)
  · rw [if_neg h, if_neg fun q => h ⟨q.2, q.1⟩]
theorem sg_comm {ax ay bx bY : Int} : Sg ax ay bx bY ↔ Sg bx bY ax ay := by unfold Sg; constructor <;> rintro ⟨h1, h2, h3⟩ <;> exact ⟨h2, h1, fun e => h3 ⟨e.1.symm, e.2.symm⟩⟩
theorem howV_rev (ax ay bx bY cx cy dx dy : Int) : howV bx bY ax ay cx cy dx dy = howV ax ay bx bY cx cy dx dy := by
  unfold howV
  by_cases h : Sg ax ay bx bY ∧ Sg cx cy dx dy
  · rw [if_pos h, if_pos ⟨sg_comm.1 h.1, h.2⟩]
    exact Geo.howI_rev (pt_ok h.1.1) (pt_ok h.1.2.1)
  · rw [if_neg h, if_neg fun q => h ⟨sg_comm.1 q.1, q.2⟩]
theorem howV_rev2 (ax ay bx bY cx cy dx dy : Int) : howV bx bY ax ay dx dy cx cy = howV ax ay bx bY cx cy dx dy := by
  rw [howV_rev, howV_comm, howV_rev, howV_comm]
theorem howAt_comm (l : List S27) (i k : Nat) : howAt l i k = howAt l k i := by unfold howAt; exact howV_comm _ _ _ _ _ _ _ _
def turnV (l : List S27) : List S27 := l.take 1 ++ (l.drop 1).reverse
theorem turnV_len (l : List S27) : (turnV l).length = l.length := by unfold turnV; simp; omega
theorem turn_turn (l : List S27) : turnV (turnV l) = l := by
  cases l with
  | nil => rfl
  | cons p l => simp [turnV]
theorem turnV_at (l : List S27) {i : Nat} (h : i < l.length) : (turnV l).getD i z27 = l.getD ((l.length - i) % l.length) z27 := by
  cases l with
  | nil => simp at h
  | cons p l =>
    cases i with
    | zero => simp [turnV]
    | succ i =>
      simp only [List.length_cons] at h ⊢
      rw [Nat.mod_eq_of_lt (by omega)]
      have e : l.length + 1 - (i + 1) = (l.length - 1 - i) + 1 := by omega
      rw [e]
      simp only [turnV, List.take_succ_cons, List.take_zero, List.drop_succ_cons, List.drop_zero, List.getD_eq_getElem?_getD, List.singleton_append, List.getElem?_cons_succ]
      rw [List.getElem?_reverse (by omega)]
theorem ringAt_turn (l : List S27) {i : Nat} (h : i < l.length) : ringAt (turnV l) i = ⟨(ringAt l (l.length - 1 - i)).f1, (ringAt l (l.length - 1 - i)).f0⟩ := by
  unfold ringAt
  rw [turnV_len]
  dsimp only
  have e1 : l.length - 1 - i + 1 = l.length - i := by omega
  rw [e1, turnV_at l h, turnV_at l (Nat.mod_lt _ (by omega))]
  congr 2
  by_cases c : i + 1 < l.length
  · rw [Nat.mod_eq_of_lt c, Nat.mod_eq_of_lt (by omega)]; omega
  · have e2 : i + 1 = l.length := by omega
    rw [e2, Nat.mod_self, Nat.sub_zero, Nat.mod_self]; omega
theorem rg_turn {l : List S27} (h : Rg l) : Rg (turnV l) := by
  have h3 := h.1.1
  refine ⟨by rw [turnV_len]; exact h.1, fun i hi => (chk_iff _ _).2 ⟨?_, fun k hk => ?_⟩⟩
  · rw [turnV_len] at hi
    unfold SgAt
    rw [ringAt_turn l hi]
    exact sg_comm.1 (rg_pt h (by omega : l.length - 1 - i < l.length))
  · rw [turnV_len] at hi
    have e : howAt (turnV l) i k = howAt l (l.length - 1 - i) (l.length - 1 - k) := by
      unfold howAt
      rw [ringAt_turn l hi, ringAt_turn l (by omega)]
      exact howV_rev2 _ _ _ _ _ _ _ _
    rw [e, howAt_comm, ((chk_iff l _).1 (h.2 (l.length - 1 - k) (by omega))).2 (l.length - 1 - i) (by omega), turnV_len]
    unfold wantAt
    by_cases c : k + 1 = i ∨ (k = 0 ∧ i + 1 = l.length)
    · rw [if_pos c, if_pos (by omega)]
    · rw [if_neg c, if_neg (by omega)]
theorem rg_turn_iff (l : List S27) : Rg (turnV l) ↔ Rg l := ⟨fun h => by have := rg_turn h; rwa [turn_turn] at this, rg_turn⟩
def rot1 (l : List S27) : List S27 := l.drop 1 ++ l.take 1
theorem rot1_len (l : List S27) : (rot1 l).length = l.length := by unfold rot1; simp; omega
theorem rot1_at (l : List S27) {i : Nat} (h : i < l.length) : (rot1 l).getD i z27 = l.getD ((i + 1) % l.length) z27 := by
  unfold rot1
  rw [List.getD_eq_getElem?_getD, List.getD_eq_getElem?_getD, List.getElem?_append]
  by_cases c : i + 1 < l.length
  · rw [if_pos (by simp; omega), Nat.mod_eq_of_lt c, List.getElem?_drop, Nat.add_comm]
  · have e : i + 1 = l.length := by omega
    rw [if_neg (by simp; omega), e, Nat.mod_self]
    have : i - (l.drop 1).length = 0 := by simp; omega
    rw [this, List.getElem?_take_of_lt (by omega)]
theorem ringAt_rot (l : List S27) {i : Nat} (h : i < l.length) : ringAt (rot1 l) i = ringAt l ((i + 1) % l.length) := by
  unfold ringAt
  rw [rot1_len, rot1_at l h, rot1_at l (Nat.mod_lt _ (by omega))]
theorem rg_rot1 {l : List S27} (h : Rg l) : Rg (rot1 l) := by
  have h3 := h.1.1
  refine ⟨by rw [rot1_len]; exact h.1, fun i hi => (chk_iff _ _).2 ⟨?_, fun k hk => ?_⟩⟩
  · rw [rot1_len] at hi
    unfold SgAt
    rw [ringAt_rot l hi]
    exact rg_pt h (Nat.mod_lt _ (by omega))
  · rw [rot1_len] at hi ⊢
    have e : howAt (rot1 l) i k = howAt l ((i + 1) % l.length) ((k + 1) % l.length) := by
      unfold howAt
      rw [ringAt_rot l hi, ringAt_rot l (by omega)]
    rw [e, Nat.mod_eq_of_lt (show k + 1 < l.length by omega)]
    unfold wantAt
    by_cases c : i + 1 < l.length
    · rw [Nat.mod_eq_of_lt c, ((chk_iff l _).1 (h.2 (i + 1) c)).2 (k + 1) (by omega)]
      unfold wantAt
      by_cases c2 : k + 1 = i ∨ (k = 0 ∧ i + 1 = l.length)
      · rw [if_pos c2, if_pos (by omega)]
      · rw [if_neg c2, if_neg (by omega)]
    · have e2 : i + 1 = l.length := by omega
      rw [e2, Nat.mod_self, howAt_comm, ((chk_iff l _).1 (h.2 (k + 1) (by omega))).2 0 (by omega)]
      unfold wantAt
      by_cases c2 : k + 1 = i ∨ (k = 0 ∧ l.length = l.length)
      · rw [if_pos c2, if_pos (by omega)]
      · rw [if_neg c2, if_neg (by omega)]
def rotV (l : List S27) (k : Nat) : List S27 := l.drop k ++ l.take k
theorem rot_next (l : List S27) {k : Nat} (h : k < l.length) : rotV l (k + 1) = rot1 (rotV l k) := by
  unfold rotV rot1
  rw [List.drop_append_of_le_length (by simp; omega), List.drop_drop, List.take_append_of_le_length (by simp; omega), List.append_assoc]
  congr 1
  rw [List.take_add_one, List.getElem?_eq_getElem h]
  congr 1
  rw [List.drop_eq_getElem_cons h]; rfl
theorem rot_all {P : List S27 → Prop} (hP : ∀ l, P l → P (rot1 l)) (l : List S27) : ∀ d k, k + d ≤ l.length → P (rotV l k) → P (rotV l (k + d)) := by
  intro d
  induction d with
  | zero => intro k _ h; exact h
  | succ d ih =>
    intro k hk h
    have := ih (k + 1) (by omega) (by rw [rot_next l (by omega)]; exact hP _ h)
    rwa [show k + 1 + d = k + (d + 1) by omega] at this
theorem rot_zero (l : List S27) : rotV l 0 = l := by simp [rotV]
theorem rot_full (l : List S27) : rotV l l.length = l := by simp [rotV]
theorem rg_rot_iff (l : List S27) {k : Nat} (hk : k ≤ l.length) : Rg (rotV l k) ↔ Rg l := by
  constructor
  · intro h
    have := rot_all (P := Rg) (fun _ => rg_rot1) l (l.length - k) k (by omega) h
    rwa [show k + (l.length - k) = l.length by omega, rot_full] at this
  · intro h
    have := rot_all (P := Rg) (fun _ => rg_rot1) l k 0 (by omega) (by rw [rot_zero]; exact h)
    rwa [Nat.zero_add] at this
theorem sumZ_succ' (f : Nat → Int) : ∀ n, Geo.sumZ f (n + 1) = f 0 + Geo.sumZ (fun j => f (j + 1)) n
  | 0 => by simp [Geo.sumZ]
  | n + 1 => by
    show Geo.sumZ f (n + 1) + f (n + 1) = _
    rw [sumZ_succ' f n]
    show _ = f 0 + (Geo.sumZ (fun j => f (j + 1)) n + f (n + 1))
    omega
theorem sumZ_congr {f g : Nat → Int} : ∀ n, (∀ i, i < n → f i = g i) → Geo.sumZ f n = Geo.sumZ g n
  | 0, _ => rfl
  | n + 1, h => by
    show Geo.sumZ f n + f n = Geo.sumZ g n + g n
    rw [sumZ_congr n (fun i hi => h i (by omega)), h n (by omega)]
theorem sumZ_neg (f : Nat → Int) : ∀ n, Geo.sumZ (fun i => - f i) n = - Geo.sumZ f n
  | 0 => rfl
  | n + 1 => by
    show Geo.sumZ (fun i => - f i) n + - f n = - (Geo.sumZ f n + f n)
    rw [sumZ_neg f n]; omega
theorem sumZ_rev (f : Nat → Int) : ∀ n, Geo.sumZ (fun i => f (n - 1 - i)) n = Geo.sumZ f n
  | 0 => rfl
  | n + 1 => by
    rw [sumZ_succ']
    show f n + Geo.sumZ (fun j => f (n + 1 - 1 - (j + 1))) n = Geo.sumZ f n + f n
    rw [sumZ_congr n (g := fun j => f (n - 1 - j)) (fun j hj => by show f _ = f _; congr 1; omega), sumZ_rev f n]
    omega
theorem sumZ_rot (f : Nat → Int) : ∀ n, Geo.sumZ (fun i => f ((i + 1) % n)) n = Geo.sumZ f n
  | 0 => rfl
  | n + 1 => by
    show Geo.sumZ (fun i => f ((i + 1) % (n + 1))) n + f ((n + 1) % (n + 1)) = _
    rw [Nat.mod_self, sumZ_congr n (g := fun i => f (i + 1)) (fun i hi => by show f _ = f _; rw [Nat.mod_eq_of_lt (by omega)]), sumZ_succ' f n]
    omega
theorem areaV_sum {l : List S27} (h : Rg l) : areaV l = Geo.sumZ (termZ l) l.length := by
  rw [areaV, if_pos h]
  exact fold_sumZ (termZ l) (termZ l) l.length (fun _ _ => rfl) l.length (Nat.le_refl _)
theorem area_turn (l : List S27) : areaV (turnV l) = - areaV l := by
  by_cases h : Rg l
  · rw [areaV_sum h, areaV_sum (rg_turn h), turnV_len, ← sumZ_rev (termZ l), ← sumZ_neg]
    refine sumZ_congr _ fun i hi => ?_
    unfold termZ
    rw [ringAt_turn l hi]
    dsimp only
    rw [Int.mul_comm (ringAt l (l.length - 1 - i)).f1.f0, Int.mul_comm (ringAt l (l.length - 1 - i)).f1.f1]; omega
  · have e1 : areaV l = 0 := by unfold areaV; rw [if_neg h]
    have e2 : areaV (turnV l) = 0 := by unfold areaV; rw [if_neg fun q => h ((rg_turn_iff l).1 q)]
    rw [e1, e2]; rfl
theorem area_rot1 {l : List S27} (h : Rg l) : areaV (rot1 l) = areaV l := by
  rw [areaV_sum h, areaV_sum (rg_rot1 h), rot1_len, ← sumZ_rot (termZ l)]
  refine sumZ_congr _ fun i hi => ?_
  unfold termZ
  rw [ringAt_rot l hi]
theorem area_rot (l : List S27) {k : Nat} (hk : k ≤ l.length) : areaV (rotV l k) = areaV l := by
  by_cases h : Rg l
  · have := rot_all (P := fun m => Rg m ∧ areaV m = areaV l) (fun m hm => ⟨rg_rot1 hm.1, (area_rot1 hm.1).trans hm.2⟩) l k 0 (by omega) (by rw [rot_zero]; exact ⟨h, rfl⟩)
    rw [Nat.zero_add] at this
    exact this.2
  · have e1 : areaV l = 0 := by unfold areaV; rw [if_neg h]
    have e2 : areaV (rotV l k) = 0 := by unfold areaV; rw [if_neg fun q => h ((rg_rot_iff l hk).1 q)]
    rw [e1, e2]
theorem area_bd (l : List S27) : -400000 ≤ areaV l ∧ areaV l ≤ 400000 := by
  by_cases h : Rg l
  · rw [areaV_sum h]
    have h10 := h.1.2
    have key : ∀ m, m ≤ l.length → -(40000 * (m : Int)) ≤ Geo.sumZ (termZ l) m ∧ Geo.sumZ (termZ l) m ≤ 40000 * (m : Int) := by
      intro m
      induction m with
      | zero => intro _; exact ⟨by show _ ≤ (0 : Int); omega, by show (0 : Int) ≤ _; omega⟩
      | succ m ih =>
        intro hm
        exact (term_bd h (by omega : m < l.length) (ih (by omega))).1
    have := key l.length (Nat.le_refl _)
    omega
  · unfold areaV; rw [if_neg h]; omega
theorem implTurn (l : List S27) (hl : l.length ≤ 1048576) : impl_TurnRing.f l = some (turnV l) := by
  unfold impl_TurnRing.f
  rw [implClone l hl]; rfl
def cN (p : Nat → Bool) : Nat → Nat
  | 0 => 0
  | n + 1 => cN p n + (if p n = true then 1 else 0)
theorem cN_succ' (p : Nat → Bool) : ∀ n, cN p (n + 1) = (if p 0 = true then 1 else 0) + cN (fun j => p (j + 1)) n
  | 0 => by simp [cN]
  | n + 1 => by
    show cN p (n + 1) + (if p (n + 1) = true then 1 else 0) = _
    rw [cN_succ' p n]
    simp only [cN]
    omega
theorem cN_congr {p q : Nat → Bool} : ∀ n, (∀ i, i < n → p i = q i) → cN p n = cN q n
  | 0, _ => rfl
  | n + 1, h => by simp only [cN]; rw [cN_congr n (fun i hi => h i (by omega)), h n (by omega)]
theorem cN_rev (p : Nat → Bool) : ∀ n, cN (fun i => p (n - 1 - i)) n = cN p n
  | 0 => rfl
  | n + 1 => by
    rw [cN_succ']
    have e : cN (fun j => p (n + 1 - 1 - (j + 1))) n = cN (fun j => p (n - 1 - j)) n := cN_congr n fun j hj => by show p _ = p _; congr 1; omega
    rw [e, cN_rev p n]
    simp only [cN, Nat.add_sub_cancel, Nat.sub_zero]
    omega
theorem insGo_on {l : List S27} {px py : Int} : ∀ d b, d ≤ l.length → (∃ i, l.length - d ≤ i ∧ i < l.length ∧ OnAt l px py i) → insGo l px py d b = true := by
  intro d
  induction d with
  | zero => intro b _ ⟨i, h1, h2, _⟩; omega
  | succ d ih =>
    intro b hd ⟨i, h1, h2, h3⟩
    simp only [insGo]
    by_cases c : OnAt l px py (l.length - (d + 1))
    · rw [if_pos c]
    · rw [if_neg c]
      refine ih _ (by omega) ⟨i, ?_, h2, h3⟩
      by_cases e : i = l.length - (d + 1)
      · subst e; exact absurd h3 c
      · omega
theorem insGo_off {l : List S27} {px py : Int} (h : ∀ i, i < l.length → ¬ OnAt l px py i) : ∀ d b, d ≤ l.length → insGo l px py d b = (b != decide ((cN (fun j => flip l px py (l.length - d + j)) d) % 2 = 1)) := by
  intro d
  induction d with
  | zero => intro b _; simp [insGo, cN]
  | succ d ih =>
    intro b hd
    simp only [insGo]
    rw [if_neg (h _ (by omega)), ih _ (by omega), cN_succ']
    have e : cN (fun j => flip l px py (l.length - (d + 1) + (j + 1))) d = cN (fun j => flip l px py (l.length - d + j)) d := cN_congr d fun j hj => by show flip _ _ _ _ = flip _ _ _ _; congr 1; omega
    rw [e, Nat.add_zero]
    generalize cN (fun j => flip l px py (l.length - d + j)) d = m
    cases flip l px py (l.length - (d + 1)) with
    | false => simp
    | true =>
      simp only [if_true]
      have e2 : decide ((1 + m) % 2 = 1) = !decide (m % 2 = 1) := by
        by_cases c : m % 2 = 1
        · rw [decide_eq_true c, decide_eq_false (by omega)]; rfl
        · rw [decide_eq_false c, decide_eq_true (by omega)]; rfl
      rw [e2]
      cases b <;> cases decide (m % 2 = 1) <;> rfl
theorem on_turn (l : List S27) (px py : Int) {i : Nat} (h : i < l.length) : OnAt (turnV l) px py i ↔ OnAt l px py (l.length - 1 - i) := by
  unfold OnAt
  rw [ringAt_turn l h]
  unfold SgOn
  dsimp only
  rw [Geo.On_rev]
  constructor <;> rintro ⟨h1, h2, h3⟩ <;> exact ⟨sg_comm.1 h1, h2, h3⟩
theorem cross_rev (ax ay bx bY px py : Int) : crossZ bx bY ax ay px py = - crossZ ax ay bx bY px py := by unfold crossZ; grind
theorem flip_turn (l : List S27) (px py : Int) {i : Nat} (h : i < l.length) : flip (turnV l) px py i = flip l px py (l.length - 1 - i) := by
  unfold flip
  rw [ringAt_turn l h]
  dsimp only
  generalize ringAt l (l.length - 1 - i) = s
  rw [cross_rev]
  by_cases c1 : s.f0.f1 > py <;> by_cases c2 : s.f1.f1 > py <;> simp [c1, c2]
  · by_cases c3 : s.f0.f1 < s.f1.f1
    · rw [if_neg (by omega), if_pos c3]
    · rw [if_pos (by omega), if_neg c3]
  · by_cases c3 : s.f0.f1 < s.f1.f1
    · rw [if_neg (by omega), if_pos c3]
    · rw [if_pos (by omega), if_neg c3]
theorem ins_turn (l : List S27) (px py : Int) : insV (turnV l) px py = insV l px py := by
  unfold insV
  by_cases h : Rg l ∧ Pt px py
  · rw [if_pos h, if_pos ⟨rg_turn h.1, h.2⟩, turnV_len]
    by_cases c : ∃ i, i < l.length ∧ OnAt l px py i
    · obtain ⟨i, h1, h2⟩ := c
      have t1 := insGo_on (l := l) (px := px) (py := py) l.length false (Nat.le_refl _) ⟨i, by omega, h1, h2⟩
      have t2 := insGo_on (l := turnV l) (px := px) (py := py) (turnV l).length false (Nat.le_refl _) ⟨l.length - 1 - i, by rw [turnV_len]; omega, by rw [turnV_len]; omega, (on_turn l px py (by omega)).2 (by rw [show l.length - 1 - (l.length - 1 - i) = i by omega]; exact h2)⟩
      rw [turnV_len] at t2
      rw [t1, t2]
    · have o1 : ∀ i, i < l.length → ¬ OnAt l px py i := fun i hi q => c ⟨i, hi, q⟩
      have o2 : ∀ i, i < (turnV l).length → ¬ OnAt (turnV l) px py i := fun i hi q => by
        rw [turnV_len] at hi
        exact o1 _ (by omega) ((on_turn l px py hi).1 q)
      have t1 := insGo_off o1 l.length false (Nat.le_refl _)
      have t2 := insGo_off o2 (turnV l).length false (Nat.le_refl _)
      rw [turnV_len] at t2
      rw [t1, t2]
      congr 2
      have e1 : cN (fun j => flip l px py (l.length - l.length + j)) l.length = cN (flip l px py) l.length := cN_congr _ fun j _ => by show flip _ _ _ _ = _; rw [Nat.sub_self, Nat.zero_add]
      have e2 : cN (fun j => flip (turnV l) px py (l.length - l.length + j)) l.length = cN (fun i => flip l px py (l.length - 1 - i)) l.length := cN_congr _ fun j hj => by show flip _ _ _ _ = _; rw [Nat.sub_self, Nat.zero_add, flip_turn l px py hj]
      rw [e1, e2, cN_rev]
  · rw [if_neg h, if_neg fun q => h ⟨(rg_turn_iff l).1 q.1, q.2⟩]
theorem ins_corner {l : List S27} (h : Rg l) {i : Nat} (hi : i < l.length) : insV l (l.getD i z27).f0 (l.getD i z27).f1 = true := by
  have s := rg_pt h hi
  unfold insV
  rw [if_pos ⟨h, s.1⟩]
  refine insGo_on _ _ (Nat.le_refl _) ⟨i, by omega, hi, s, s.1, ?_⟩
  show Geo.On ⟨(l.getD i z27).f0, _⟩ _ _
  exact ⟨Geo.cross_a, by unfold Geo.InB; dsimp only [ringAt]; omega⟩
theorem implRot (l : List S27) (k : Int) (hl : l.length ≤ 1048576) : ∃ v, impl_RotateRing.f l k = some v ∧ v.length = l.length ∧ (Rg v ↔ Rg l) ∧ areaV v = areaV l := by
  unfold impl_RotateRing.f
  by_cases c : 0 ≤ k ∧ k < (l.length : Int)
  · rw [if_pos c, if_pos (by omega)]
    have e : l.drop k.toNat ++ l.take k.toNat = rotV l k.toNat := rfl
    rw [e]
    exact ⟨_, rfl, by unfold rotV; simp; omega, rg_rot_iff l (by omega), area_rot l (by omega)⟩
  · rw [if_neg c, implClone l hl]
    exact ⟨_, rfl, rfl, Iff.rfl, rfl⟩
theorem dRing (xs : List Int) (h : xs.length ≤ 1048576) : ∃ l, Told (fun k => spec_DrawIsRing.f k xs) l ∧ l.length ≤ 6 := by
  obtain ⟨s, t⟩ := dNew xs h
  obtain ⟨l, p1, s1, e1, _, g, _⟩ := d7Any (ck0 h) s
  exact ⟨l, Told.bind t (Told.bind (Told.of e1) (Told.ret _)), g⟩
theorem dRot (xs : List Int) (h : xs.length ≤ 1048576) : ∃ l k, Told (fun q => spec_DrawRotateRing.f q xs) (l, k) ∧ l.length ≤ 6 := by
  obtain ⟨s, t⟩ := dNew xs h
  obtain ⟨l, p1, s1, e1, _, g, c1⟩ := d7Any (ck0 h) s
  obtain ⟨b, p2, s2, e2, _⟩ := dBelow c1 s1 8
  exact ⟨l, _, Told.bind t (Told.bind (Told.of e1) (Told.bind (Told.of e2) (Told.ret _))), g⟩
theorem dIns (xs : List Int) (h : xs.length ≤ 1048576) : ∃ l x y, Told (fun q => spec_DrawIsInside.f q xs) (l, x, y) ∧ l.length ≤ 6 := by
  obtain ⟨s, t⟩ := dNew xs h
  obtain ⟨l, p1, s1, e1, _, g, c1⟩ := d7Any (ck0 h) s
  obtain ⟨x, y, p2, s2, e2, _⟩ := d4Any c1 s1
  exact ⟨l, x, y, Told.bind t (Told.bind (Told.of e1) (Told.bind (Told.of e2) (Told.ret _))), g⟩
theorem tCorners (l : List S27) (hl : l.length ≤ 6) : Told (fun k => laws_FnRings.l0 k l 0) true := by
  have h1 : l.length ≤ 1048576 := by omega
  have last : Told (fun k => (impl_RingSegments.f k l).bind fun t424 => ((impl_IsRing.f k l).bind fun t427 => (if (((t424.length : Int) == (l.length : Int)) == t427) = true then (some true) else (some ((l.length : Int) == 0))))) true := by
    refine Told.bind (tImplRingSegments l h1) (Told.bind (tImplIsRing l h1) ?_)
    by_cases c : Rg l
    · rw [if_pos c, decide_eq_true c]
      exact Told.ite_t (by rw [ringSegs_len]; simp) (Told.ret _)
    · rw [if_neg c, decide_eq_false c]
      by_cases z : l.length = 0
      · exact Told.ite_f (by rw [z]; simp) (Told.of (by rw [z]; rfl))
      · refine Told.ite_t ?_ (Told.ret _)
        have : ((([] : List S53).length : Int) == (l.length : Int)) = false := by rw [beq_eq_false_iff_ne]; simp; omega
        rw [this]; rfl
  have lastj : ∀ i : Int, Told (fun k => laws_FnRings.j4 k l i false) true := fun i => Told.step (fun k => by simp only [laws_FnRings.j4]; rw [if_neg (by simp)]) last
  by_cases c : Rg l
  · have key : ∀ d (i : Nat), i + d = l.length → Told (fun k => laws_FnRings.l0 k l (i : Int)) true := by
      intro d
      induction d with
      | zero => intro i hi; exact Told.step (fun k => by simp only [laws_FnRings.l0]; rw [if_neg (by omega)]) (lastj i)
      | succ d ih =>
        intro i hi
        refine Told.step (fun k => by simp only [laws_FnRings.l0]; rw [if_pos (by omega)]) (Told.bind (tImplIsRing l h1) ?_)
        rw [decide_eq_true c]
        refine Told.step (M := fun k => (impl_IsInside.f k l (l.getD i z27).f0 (l.getD i z27).f1).bind fun t423 => if t423 = true then laws_FnRings.l0 k l ((i + 1 : Nat) : Int) else some false) (fun k => by simp only [laws_FnRings.j4]; rw [if_pos trivial, if_pos (by omega), if_pos (by omega), rdP, Gen.w64s (by omega)]) (Told.bind (tImplIns l _ _ h1) (Told.ite_t (ins_corner c (by omega)) (ih (i + 1) (by omega))))
    exact key l.length 0 (by omega)
  · by_cases z : l.length = 0
    · exact Told.step (fun k => by simp only [laws_FnRings.l0]; rw [if_neg (by omega)]) (lastj 0)
    · refine Told.step (fun k => by simp only [laws_FnRings.l0]; rw [if_pos (by omega)]) (Told.bind (tImplIsRing l h1) ?_)
      rw [decide_eq_false c]; exact lastj 0
theorem pure_FnRings : ∀ (l0 : (List Int)), (List.length l0 ≤ maxLen ∧ ∀ y ∈ l0, (0 ≤ y ∧ y ≤ 255)) → ∃ k, laws_FnRings.f k l0 = some true := by
  intro xs ⟨_, _⟩
  apply Told.ex
  refine Told.bind (Told.ret _) ?_
  by_cases hb : (xs.length : Int) > 1048576
  · exact Told.ite_t (decide_eq_true hb) (Told.ret _)
  have hx : xs.length ≤ 1048576 := by omega
  refine Told.ite_f (by simpa using hb) ?_
  obtain ⟨l, t, hl⟩ := dRing xs hx
  obtain ⟨m, k, tm, hm⟩ := dRot xs hx
  obtain ⟨y, px, py, ty, hy⟩ := dIns xs hx
  have l1 : l.length ≤ 1048576 := by omega
  have m1 : m.length ≤ 1048576 := by omega
  have y1 : y.length ≤ 1048576 := by omega
  have bd := area_bd l
  have neg : wrap64 (-(areaV l)) = - areaV l := Gen.w64 (by omega) (by omega)
  have j2 : Told (fun k => laws_FnRings.j2 k l false) true := Told.step (fun k => by simp only [laws_FnRings.j2]; rw [if_neg (by simp)]) (tCorners l hl)
  have j1 : Told (fun k => laws_FnRings.j1 k xs l false) true := by
    have it := tImplIns (turnV y) px py (by rw [turnV_len]; exact y1)
    rw [ins_turn] at it
    refine Told.step (fun k => by simp only [laws_FnRings.j1]; rw [if_neg (by simp)]) (Told.bind ty (Told.bind (tImplIns y px py y1) (Told.bind (Told.of (implTurn y y1)) (Told.bind it (Told.ite_f (c := (insV y px py != insV y px py) = true) (by simp) (Told.bind (tImplIns y px py y1) ?_))))))
    by_cases c : insV y px py = true
    · refine Told.ite_t c (Told.bind (Told.of (implIsPoint px py)) ?_)
      have hp : Pt px py := by
        unfold insV at c
        by_cases q : Rg y ∧ Pt px py
        · exact q.2
        · rw [if_neg q] at c; cases c
      rw [decide_eq_true hp]; exact j2
    · exact Told.ite_f c j2
  have j0 : Told (fun k => laws_FnRings.j0 k xs l false) true := by
    obtain ⟨v, e, lv, rg, ar⟩ := implRot m k m1
    have tv : Told (fun k => impl_IsRing.f k v) (decide (Rg m)) := by
      have h_ := tImplIsRing v (by omega)
      rwa [show decide (Rg v) = decide (Rg m) from decide_eq_decide.2 rg] at h_
    refine Told.step (fun k => by simp only [laws_FnRings.j0]; rw [if_neg (by simp)]) (Told.bind tm (Told.bind (Told.of e) (Told.bind (tImplIsRing m m1) (Told.bind tv (Told.ite_f (c := (decide (Rg m) != decide (Rg m)) = true) (by simp) (Told.bind (tImplArea m m1) (Told.bind (tImplArea v (by omega)) (Told.ite_t ar.symm ?_))))))))
    have e2 : ((v.length : Int) != (m.length : Int)) = false := by rw [lv]; simp
    dsimp only
    rw [e2]; exact j1
  have tl := turnV_len l
  have tt : Told (fun k => impl_IsRing.f k (turnV l)) (decide (Rg l)) := by
    have h_ := tImplIsRing (turnV l) (by omega)
    rwa [show decide (Rg (turnV l)) = decide (Rg l) from decide_eq_decide.2 (rg_turn_iff l)] at h_
  refine Told.bind t (Told.bind (Told.of (implTurn l l1)) (Told.bind (tImplIsRing l l1) (Told.bind tt (Told.ite_f (c := (decide (Rg l) != decide (Rg l)) = true) (by simp) (Told.bind (tImplArea _ (by omega)) (Told.bind (tImplArea l l1) (Told.ite_t (by rw [neg]; exact area_turn l) (Told.bind (tImplIsRing l l1) ?_))))))))
  by_cases c : Rg l
  · refine Told.ite_t (by simpa using c) (Told.bind (tImplArea l l1) ?_)
    have : (areaV l == 0) = false := by rw [beq_eq_false_iff_ne]; exact rg_area c
    rw [this]; exact j0
  · exact Told.ite_f (by simpa using c) j0
end Go.Proofs.Ytbackoeakepngaa.MFnRings
