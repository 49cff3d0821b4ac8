/- The plain law behind FnSafe: what the printed functions compute answers true; no condition beyond the arguments' ranges. -/
import Derived.Test.YtbackoeakepngaaZFnSafeTold
import Derived.Test.YtbackoeakepngaaZFnSafeGeo
import Derived.Laws.BitsLemmas
import Derived.Test.YtbackoeakepngaaZFnSafeMx10
import Derived.Test.YtbackoeakepngaaZFnSafeOpn
namespace Go.Proofs.Ytbackoeakepngaa.MFnSafe
open Go Go.RowKit Go.Proofs.YtbackoeakepngaaW.PrintWords Go.Proofs.YtbackoeakepngaaW.PrintLast Go.Proofs.YtbackoeakepngaaW.PrintMore Go.Proofs.Ytbackoeakepngaa.Open
set_option linter.unusedVariables false
set_option linter.unusedSimpArgs false
theorem and255 (n : Int) : 0 ≤ bits .and .i64 n 255 ∧ bits .and .i64 n 255 ≤ 255 := by
  have h : (BitVec.ofInt 64 255).toNat = 2 ^ 8 - 1 := by decide
  have key : (BitVec.ofInt 64 n &&& BitVec.ofInt 64 255).toNat = (n % ((2 ^ 64 : Nat) : Int)).toNat % 2 ^ 8 := by
    rw [BitVec.toNat_and, BitVec.toNat_ofInt, h, Nat.and_two_pow_sub_one_eq_mod]
  show 0 ≤ IntKind.i64.wrap ((BitVec.ofInt 64 n &&& BitVec.ofInt 64 255).toNat : Nat) ∧ IntKind.i64.wrap ((BitVec.ofInt 64 n &&& BitVec.ofInt 64 255).toNat : Nat) ≤ 255
  rw [key, IntKind.wrap_i64]
  omega
structure CK (xs : List Int) (p : Int) : Prop where
  lo : 0 ≤ p
  hi : p ≤ xs.length
  sm : xs.length ≤ 1048576
theorem dByte {xs : List Int} {p : Int} (c : CK xs p) (s : Int) : ∃ b p' s', spec_l1Byte.f xs p s = some (b, p', s') ∧ 0 ≤ b ∧ b ≤ 255 ∧ CK xs p' := by
  obtain ⟨a, b, d⟩ := c
  unfold spec_l1Byte.f
  by_cases h : p < (xs.length : Int)
  · rw [if_pos h, if_pos a]
    refine ⟨_, _, _, rfl, (and255 _).1, (and255 _).2, ?_⟩
    rw [Gen.w64 (by omega) (by omega)]
    exact ⟨by omega, by omega, d⟩
  · rw [if_neg h]
    exact ⟨_, _, _, rfl, (and255 _).1, (and255 _).2, a, b, d⟩
theorem tmod_bd {b n : Int} (h : 0 ≤ b) (hn : 0 < n) : 0 ≤ Int.tmod b n ∧ Int.tmod b n < n := by
  rw [Int.tmod_eq_emod_of_nonneg h]
  exact ⟨Int.emod_nonneg _ (by omega), Int.emod_lt_of_pos _ hn⟩
theorem dBelow {xs : List Int} {p : Int} (c : CK xs p) (s n : Int) : ∃ b p' s', spec_l1Below.f xs p s n = some (b, p', s') ∧ 0 ≤ b ∧ (0 < n → b < n) ∧ (n ≤ 0 → b = 0) ∧ CK xs p' := by
  unfold spec_l1Below.f
  by_cases h : n ≤ 0
  · rw [if_pos h]; exact ⟨_, _, _, rfl, by omega, by omega, fun _ => rfl, c⟩
  · rw [if_neg h]
    obtain ⟨b, p1, s1, e, b0, b1, c1⟩ := dByte c s
    by_cases h2 : n ≤ 256
    · rw [if_pos h2, e]
      simp only [Option.bind_some]
      rw [if_neg (by omega)]
      exact ⟨_, _, _, rfl, (tmod_bd b0 (by omega)).1, fun _ => (tmod_bd b0 (by omega)).2, by omega, c1⟩
    · rw [if_neg h2, e]
      obtain ⟨d, p2, s2, e2, d0, d1, c2⟩ := dByte c1 s1
      obtain ⟨g, p3, s3, e3, g0, g1, c3⟩ := dByte c2 s2
      simp only [Option.bind_some, e2, e3]
      rw [if_neg (by omega)]
      have w : wrap64 ((wrap64 ((wrap64 (b * 65536)) + (wrap64 (d * 256)))) + g) = b * 65536 + d * 256 + g := by
        rw [Gen.w64 (n := b * 65536) (by omega) (by omega), Gen.w64 (n := d * 256) (by omega) (by omega), Gen.w64 (n := b * 65536 + d * 256) (by omega) (by omega), Gen.w64 (by omega) (by omega)]
      rw [w]
      exact ⟨_, _, _, rfl, (tmod_bd (by omega) (by omega)).1, fun _ => (tmod_bd (by omega) (by omega)).2, by omega, c3⟩
theorem dInt {xs : List Int} {p : Int} (c : CK xs p) (s : Int) (l : List Int) (hl : 0 < l.length) : ∃ b p' s', spec_l1Int.f xs p s l = some (b, p', s') ∧ b ∈ l ∧ CK xs p' := by
  unfold spec_l1Int.f
  obtain ⟨b, p1, s1, e, b0, b1, _, c1⟩ := dBelow c s (l.length : Int)
  have b1 := b1 (by omega)
  rw [e]
  simp only [Option.bind_some]
  rw [if_pos b0, if_pos b1]
  refine ⟨_, _, _, rfl, ?_, c1⟩
  unfold rd
  rw [List.getD_eq_getElem?_getD, List.getElem?_eq_getElem (by omega)]
  exact List.getElem_mem _
theorem dNew (xs : List Int) (h : xs.length ≤ 1048576) : ∃ s, Told (fun k => spec_l1New.f k xs) (xs, 0, s) := by
  have key : ∀ d (i : Nat), i + d = xs.length → ∀ s, ∃ s', Told (fun k => spec_l1New.l0 k xs s (i : Int)) (xs, 0, s') := by
    intro d
    induction d with
    | zero => intro i hi s; exact ⟨s, Told.stepr fun k => by simp only [spec_l1New.l0]; rw [if_neg (by omega)]⟩
    | succ d ih =>
      intro i hi s
      by_cases h4 : (i : Int) < 4000
      · obtain ⟨s', hs⟩ := ih (i + 1) (by omega) _
        exact ⟨s', Told.step (fun k => by simp only [spec_l1New.l0]; rw [if_pos (by omega), if_pos h4, if_pos (by omega), Gen.w64s (by omega)]) hs⟩
      · exact ⟨s, Told.stepr fun k => by simp only [spec_l1New.l0]; rw [if_pos (by omega), if_neg h4]⟩
  exact key xs.length 0 (by omega) _
theorem ck0 {xs : List Int} (h : xs.length ≤ 1048576) : CK xs 0 := ⟨by omega, by omega, h⟩
theorem d4Draw {xs : List Int} {p : Int} (c : CK xs p) (s : Int) : ∃ x y p' s', spec_l4Draw.f xs p s = some (x, y, p', s') ∧ 0 ≤ x ∧ x < 12 ∧ 0 ≤ y ∧ y < 12 ∧ CK xs p' := by
  unfold spec_l4Draw.f
  obtain ⟨x, p1, s1, e1, x0, x1, _, c1⟩ := dBelow c s 12
  obtain ⟨y, p2, s2, e2, y0, y1, _, c2⟩ := dBelow c1 s1 12
  simp only [e1, e2, Option.bind_some]
  exact ⟨_, _, _, _, rfl, x0, x1 (by omega), y0, y1 (by omega), c2⟩
theorem d4Raw {xs : List Int} {p : Int} (c : CK xs p) (s : Int) : ∃ x p' s', spec_l4Raw.f xs p s = some (x, p', s') ∧ CK xs p' := by
  unfold spec_l4Raw.f
  obtain ⟨x, p1, s1, e1, x0, c1⟩ := dInt c s [(-1), 0, 200, 201, 1000, 1001, 9223372036854775807, (-9223372036854775808)] (by simp)
  simp only [e1, Option.bind_some]
  exact ⟨_, _, _, rfl, c1⟩
theorem d4Any {xs : List Int} {p : Int} (c : CK xs p) (s : Int) : ∃ x y p' s', spec_l4Any.f xs p s = some (x, y, p', s') ∧ CK xs p' := by
  unfold spec_l4Any.f
  obtain ⟨x, y, p1, s1, e1, _, _, _, _, c1⟩ := d4Draw c s
  obtain ⟨b, p2, s2, e2, _, _, _, c2⟩ := dBelow c1 s1 12
  obtain ⟨z, p3, s3, e3, c3⟩ := d4Raw c2 s2
  simp only [e1, e2, e3, Option.bind_some]
  by_cases h : b = 0
  · rw [if_pos h]; exact ⟨_, _, _, _, rfl, c3⟩
  · rw [if_neg h]
    by_cases h1 : b = 1
    · rw [if_pos h1]; exact ⟨_, _, _, _, rfl, c3⟩
    · rw [if_neg h1]; exact ⟨_, _, _, _, rfl, c2⟩
theorem dl_min (a b : Int) : ∃ v, spec_Min.f a b = some v := by unfold spec_Min.f; split <;> exact ⟨_, rfl⟩
theorem d6DrawL {xs : List Int} : ∀ (d : Nat) (p s : Int) (l : List S27), CK xs p → 1 ≤ l.length → l.length + d ≤ 100 → ∃ l' p' s', Told (fun k => spec_l6Draw.l0 k l (d : Int) xs p s) (l', p', s') ∧ 1 ≤ l'.length ∧ l'.length ≤ l.length + d ∧ CK xs p' := by
  intro d
  induction d with
  | zero => intro p s l c h1 h2; exact ⟨l, p, s, Told.stepr fun k => by simp only [spec_l6Draw.l0]; rw [if_neg (by omega)], h1, by omega, c⟩
  | succ d ih =>
    intro p s l c h1 h2
    obtain ⟨x, p1, s1, e1, _, _, _, c1⟩ := dBelow c s 14
    obtain ⟨y, p2, s2, e2, _, _, _, c2⟩ := dBelow c1 s1 4
    obtain ⟨v, ev⟩ := dl_min 200 (wrap64 (((rd_T27 l (wrap64 ((l.length : Int) - 1))).f1) + y))
    have w : wrap64 (((d + 1 : Nat) : Int) - 1) = (d : Int) := by rw [Gen.w64 (by omega) (by omega)]; omega
    have fit : l.length < 8796093022208 := by omega
    by_cases h : (x == ((rd_T27 l (wrap64 ((l.length : Int) - 1))).f0) && (v == ((rd_T27 l (wrap64 ((l.length : Int) - 1))).f1))) = true
    · obtain ⟨l', p', s', t, g1, g2, g3⟩ := ih p2 s2 (l ++ [⟨wrap64 (x + 1), v⟩]) c2 (by simp) (by simp; omega)
      refine ⟨l', p', s', Told.step (fun k => ?_) t, g1, by simp at g2; omega, g3⟩
      simp only [spec_l6Draw.l0]
      rw [if_pos (by omega), if_pos (by rw [Gen.w64 (by omega) (by omega)]; omega), if_pos (by rw [Gen.w64 (by omega) (by omega)]; omega)]
      simp only [e1, e2, ev, Option.bind_some]
      rw [if_pos h, if_pos fit, w]
    · obtain ⟨l', p', s', t, g1, g2, g3⟩ := ih p2 s2 (l ++ [⟨x, v⟩]) c2 (by simp) (by simp; omega)
      refine ⟨l', p', s', Told.step (fun k => ?_) t, g1, by simp at g2; omega, g3⟩
      simp only [spec_l6Draw.l0]
      rw [if_pos (by omega), if_pos (by rw [Gen.w64 (by omega) (by omega)]; omega), if_pos (by rw [Gen.w64 (by omega) (by omega)]; omega)]
      simp only [e1, e2, ev, Option.bind_some]
      rw [if_neg h, if_pos fit, w]
theorem d6Draw {xs : List Int} {p : Int} (c : CK xs p) (s : Int) : ∃ l p' s', Told (fun k => spec_l6Draw.f k xs p s) (l, p', s') ∧ 1 ≤ l.length ∧ l.length ≤ 10 ∧ CK xs p' := by
  obtain ⟨x, y, p1, s1, e1, _, _, _, _, c1⟩ := d4Draw c s
  obtain ⟨b, p2, s2, e2, b0, b1, _, c2⟩ := dBelow c1 s1 5
  have b1 := b1 (by omega)
  obtain ⟨l, p3, s3, t, g1, g2, g3⟩ := d6DrawL (1 + b).toNat p2 s2 [⟨x, y⟩] c2 (by simp) (by simp; omega)
  refine ⟨l, p3, s3, Told.bind (Told.of e1) (Told.bind (Told.of e2) (Told.eq (fun k => ?_) t)), g1, by simp at g2; omega, g3⟩
  rw [show (((1 + b).toNat : Nat) : Int) = wrap64 (1 + b) by rw [Gen.w64 (by omega) (by omega)]; omega]
theorem d6AnyL {xs : List Int} (p s : Int) : ∀ (d : Nat) (l : List S27), l.length + d = 11 → ∃ l', Told (fun k => spec_l6Any.l0 k l xs p s) (l', p, s) ∧ l'.length = 11 := by
  intro d
  induction d with
  | zero => intro l h; exact ⟨l, Told.stepr fun k => by simp only [spec_l6Any.l0]; rw [if_neg (by omega)], by omega⟩
  | succ d ih =>
    intro l h
    obtain ⟨l', t, g⟩ := ih (l ++ [⟨(l.length : Int), wrap64 (50 + (l.length : Int))⟩]) (by simp; omega)
    exact ⟨l', Told.step (fun k => by simp only [spec_l6Any.l0]; rw [if_pos (by omega), if_pos (by omega)]) t, g⟩
theorem d6Any {xs : List Int} {p : Int} (c : CK xs p) (s : Int) : ∃ l p' s', Told (fun k => spec_l6Any.f k xs p s) (l, p', s') ∧ 1 ≤ l.length ∧ l.length ≤ 11 ∧ CK xs p' := by
  obtain ⟨l, p1, s1, t1, g1, g2, c1⟩ := d6Draw c s
  obtain ⟨b, p2, s2, e2, b0, _, _, c2⟩ := dBelow c1 s1 12
  by_cases h0 : b = 0
  · obtain ⟨x, y, p3, s3, e3, c3⟩ := d4Any c2 s2
    exact ⟨_, p3, s3, Told.bind t1 (Told.bind (Told.of e2) (Told.ite_t h0 (Told.bind (Told.of e3) (Told.ite_t (by dsimp only; omega) (Told.ret _))))), by simpa using g1, by simp; omega, c3⟩
  by_cases h1 : b = 1
  · have w : wrap64 ((l.length : Int) - 1) = (l.length : Int) - 1 := Gen.w64 (by omega) (by omega)
    exact ⟨_, p2, s2, Told.bind t1 (Told.bind (Told.of e2) (Told.ite_f h0 (Told.ite_t h1 (Told.ite_t (by dsimp only; omega) (Told.ite_t (by dsimp only; omega) (Told.ite_t (by dsimp only; omega) (Told.ret _))))))), by simp, by simp; omega, c2⟩
  by_cases h2 : b = 2
  · exact ⟨_, p2, s2, Told.bind t1 (Told.bind (Told.of e2) (Told.ite_f h0 (Told.ite_f h1 (Told.ite_t h2 (Told.ite_t (by dsimp only; omega) (Told.ret _)))))), by dsimp only; rw [List.length_take]; omega, by dsimp only; rw [List.length_take]; omega, c2⟩
  by_cases h3 : b = 3
  · obtain ⟨l', t', g'⟩ := d6AnyL (xs := xs) p2 s2 (11 - l.length) l (by omega)
    exact ⟨_, p2, s2, Told.bind t1 (Told.bind (Told.of e2) (Told.ite_f h0 (Told.ite_f h1 (Told.ite_f h2 (Told.ite_t h3 t'))))), by omega, by omega, c2⟩
  · exact ⟨_, p2, s2, Told.bind t1 (Told.bind (Told.of e2) (Told.ite_f h0 (Told.ite_f h1 (Told.ite_f h2 (Told.ite_f h3 (Told.ret _)))))), g1, by dsimp only; omega, c2⟩
theorem implInRange (a b c : Int) : impl_InRange.f a b c = some (decide (b ≤ a ∧ a ≤ c)) := by
  unfold impl_InRange.f; by_cases h : b ≤ a <;> simp [h]
def Pt (x y : Int) : Prop := 0 ≤ x ∧ x ≤ 200 ∧ 0 ≤ y ∧ y ≤ 200
instance (x y : Int) : Decidable (Pt x y) := by unfold Pt; infer_instance
theorem implIsPoint (x y : Int) : impl_IsPoint.f x y = some (decide (Pt x y)) := by
  unfold impl_IsPoint.f
  rw [implInRange, implInRange]
  simp only [Option.bind_some]
  by_cases h : 0 ≤ x ∧ x ≤ 200
  · rw [if_pos (by simpa using h)]; simp [Pt, h]
  · rw [if_neg (by simpa using h)]; simp only [Option.some.injEq, Bool.false_eq, decide_eq_false_iff_not]; unfold Pt; omega
def D (n : Int) : Prop := -200 ≤ n ∧ n ≤ 200
theorem D_of {x y : Int} (hx : 0 ≤ x ∧ x ≤ 200) (hy : 0 ≤ y ∧ y ≤ 200) : wrap64 (x - y) = x - y ∧ D (x - y) := ⟨Gen.w64 (by omega) (by omega), by unfold D; omega⟩
theorem D_mul {x y : Int} (hx : D x) (hy : D y) : wrap64 (x * y) = x * y ∧ -40000 ≤ x * y ∧ x * y ≤ 40000 := by
  have := Gen.mul_bd (m := 200) (n := 200) hx hy
  exact ⟨Gen.w64 (by omega) (by omega), by omega, by omega⟩
def crossZ (ax ay bx bY px py : Int) : Int := (bx - ax) * (py - ay) - (bY - ay) * (px - ax)
theorem crossZ_bd {ax ay bx bY px py : Int} (ha : Pt ax ay) (hb : Pt bx bY) (hp : Pt px py) :
    wrap64 ((wrap64 ((wrap64 (bx - ax)) * (wrap64 (py - ay)))) - (wrap64 ((wrap64 (bY - ay)) * (wrap64 (px - ax))))) = crossZ ax ay bx bY px py ∧ -80000 ≤ crossZ ax ay bx bY px py ∧ crossZ ax ay bx bY px py ≤ 80000 := by
  obtain ⟨a1, a2, a3, a4⟩ := ha; obtain ⟨b1, b2, b3, b4⟩ := hb; obtain ⟨p1, p2, p3, p4⟩ := hp
  obtain ⟨e1, d1⟩ := D_of ⟨b1, b2⟩ ⟨a1, a2⟩
  obtain ⟨e2, d2⟩ := D_of ⟨p3, p4⟩ ⟨a3, a4⟩
  obtain ⟨e3, d3⟩ := D_of ⟨b3, b4⟩ ⟨a3, a4⟩
  obtain ⟨e4, d4⟩ := D_of ⟨p1, p2⟩ ⟨a1, a2⟩
  obtain ⟨m1, n1, o1⟩ := D_mul d1 d2
  obtain ⟨m2, n2, o2⟩ := D_mul d3 d4
  rw [e1, e2, e3, e4, m1, m2]
  unfold crossZ
  exact ⟨Gen.w64 (by omega) (by omega), by omega, by omega⟩
theorem implCross {ax ay bx bY px py : Int} (ha : Pt ax ay) (hb : Pt bx bY) (hp : Pt px py) : impl_cross.f ax ay bx bY px py = some (crossZ ax ay bx bY px py) := by
  unfold impl_cross.f; rw [(crossZ_bd ha hb hp).1]
def Sg (ax ay bx bY : Int) : Prop := Pt ax ay ∧ Pt bx bY ∧ ¬ (ax = bx ∧ ay = bY)
instance (a b c d : Int) : Decidable (Sg a b c d) := by unfold Sg; infer_instance
theorem implIsSegment (a b c d : Int) : impl_IsSegment.f a b c d = some (decide (Sg a b c d)) := by
  unfold impl_IsSegment.f
  rw [implIsPoint, implIsPoint]
  simp only [Option.bind_some, decide_eq_true_eq]
  by_cases h1 : Pt a b
  · rw [if_pos h1]
    by_cases h2 : Pt c d
    · rw [if_pos h2]
      congr 1
      rw [Bool.eq_iff_iff, decide_eq_true_eq]
      simp only [Bool.or_eq_true, Bool.not_eq_true', beq_eq_false_iff_ne, ne_eq, Sg, h1, h2, true_and]
      omega
    · rw [if_neg h2]; simp [Sg, h2]
  · rw [if_neg h1]; simp [Sg, h1]
def SgOn (ax ay bx bY px py : Int) : Prop := Sg ax ay bx bY ∧ Pt px py ∧ Geo.On ⟨ax, ay⟩ ⟨bx, bY⟩ ⟨px, py⟩
instance (a b c d e f : Int) : Decidable (SgOn a b c d e f) := by unfold SgOn; infer_instance
theorem on_iff (ax ay bx bY px py : Int) : Geo.On ⟨ax, ay⟩ ⟨bx, bY⟩ ⟨px, py⟩ ↔ crossZ ax ay bx bY px py = 0 ∧ (min ax bx ≤ px ∧ px ≤ max ax bx) ∧ (min ay bY ≤ py ∧ py ≤ max ay bY) := by
  unfold Geo.On Geo.InB
  have e : Geo.cross ⟨ax, ay⟩ ⟨bx, bY⟩ ⟨px, py⟩ = crossZ ax ay bx bY px py := rfl
  rw [e]
  simp only [and_assoc]
def sideV (ax ay bx bY px py : Int) : Int := if Pt ax ay ∧ Pt bx bY ∧ Pt px py then Geo.sgn (crossZ ax ay bx bY px py) else 0
theorem cmpZ (n : Int) : cmp_Compare_int.f n 0 = some (Geo.sgn n) := by
  unfold cmp_Compare_int.f cmp_isNaN_int.f
  simp only [Option.bind_some, bne_self_eq_false, Bool.false_eq_true, if_false]
  unfold Geo.sgn
  by_cases h1 : n < 0
  · rw [if_pos h1, if_neg (by omega), if_pos h1]
  · rw [if_neg h1]
    by_cases h2 : n > 0
    · rw [if_pos h2, if_pos (by omega)]
    · rw [if_neg h2, if_neg (by omega), if_neg (by omega)]
theorem tImplSide (ax ay bx bY px py : Int) : Told (fun k => impl_SideOf.f k ax ay bx bY px py) (sideV ax ay bx bY px py) := by
  have no : ¬ (Pt ax ay ∧ Pt bx bY ∧ Pt px py) → Told (fun k => impl_SideOf.j0 k true ax ay bx bY px py) (sideV ax ay bx bY px py) := fun h => Told.stepr fun k => by simp only [impl_SideOf.j0, if_true]; rw [sideV, if_neg h]
  by_cases h1 : Pt ax ay
  · by_cases h2 : Pt bx bY
    · refine Told.bind (Told.of (implIsPoint ax ay)) (Told.ite_t (by simpa using h1) (Told.bind (Told.of (implIsPoint bx bY)) (Told.ite_t (by simpa using h2) (Told.bind (Told.of (implIsPoint px py)) ?_))))
      by_cases h3 : Pt px py
      · refine Told.stepr fun k => ?_
        simp only [impl_SideOf.j0, decide_eq_true h3, Bool.not_true, Bool.false_eq_true, if_false]
        rw [implCross h1 h2 h3]
        simp only [Option.bind_some, cmpZ]
        rw [sideV, if_pos ⟨h1, h2, h3⟩]
      · rw [decide_eq_false h3]; exact no (fun h => h3 h.2.2)
    · exact Told.bind (Told.of (implIsPoint ax ay)) (Told.ite_t (by simpa using h1) (Told.bind (Told.of (implIsPoint bx bY)) (Told.ite_f (by simpa using h2) (no (fun h => h2 h.2.1)))))
  · exact Told.bind (Told.of (implIsPoint ax ay)) (Told.ite_f (by simpa using h1) (no (fun h => h1 h.1)))
theorem tImplIsOn (ax ay bx bY px py : Int) : Told (fun k => impl_IsOn.f k ax ay bx bY px py) (decide (SgOn ax ay bx bY px py)) := by
  by_cases h1 : Sg ax ay bx bY
  · by_cases h2 : Pt px py
    · refine Told.bind (Told.of (implIsSegment ax ay bx bY)) (Told.ite_t (by simpa using h1) (Told.bind (Told.of (implIsPoint px py)) (Told.ite_t (by simpa using h2) (Told.bind (tImplSide ax ay bx bY px py) ?_))))
      have e : SgOn ax ay bx bY px py ↔ crossZ ax ay bx bY px py = 0 ∧ (min ax bx ≤ px ∧ px ≤ max ax bx) ∧ (min ay bY ≤ py ∧ py ≤ max ay bY) := by unfold SgOn; rw [on_iff]; exact ⟨fun h => h.2.2, fun h => ⟨h1, h2, h⟩⟩
      refine Told.of ?_
      have es : sideV ax ay bx bY px py = Geo.sgn (crossZ ax ay bx bY px py) := by unfold sideV; exact if_pos ⟨h1.1, h1.2.1, h2⟩
      simp only [es, e, Geo.sgn_eq_zero, Gen.mn_eq, Gen.mx_eq, implInRange, Option.bind_some, decide_eq_true_eq]
      by_cases c1 : crossZ ax ay bx bY px py = 0
      · rw [if_pos c1]
        by_cases c2 : min ax bx ≤ px ∧ px ≤ max ax bx
        · rw [if_pos c2]; simp only [c1, c2, true_and, and_self]
        · rw [if_neg c2]; simp only [c2, false_and, and_false, decide_false]
      · rw [if_neg c1]; simp only [c1, false_and, decide_false]
    · rw [decide_eq_false (fun h : SgOn ax ay bx bY px py => h2 h.2.1)]
      exact Told.bind (Told.of (implIsSegment ax ay bx bY)) (Told.ite_t (by simpa using h1) (Told.bind (Told.of (implIsPoint px py)) (Told.ite_f (by simpa using h2) (Told.ret _))))
  · rw [decide_eq_false (fun h : SgOn ax ay bx bY px py => h1 h.1)]
    exact Told.bind (Told.of (implIsSegment ax ay bx bY)) (Told.ite_f (by simpa using h1) (Told.ret _))
def Ln (l : List S27) : Prop := 2 ≤ l.length ∧ l.length ≤ 10 ∧ ∀ i, i < l.length → Pt (l.getD i z27).f0 (l.getD i z27).f1 ∧ ¬ (0 < i ∧ (l.getD (i - 1) z27).f0 = (l.getD i z27).f0 ∧ (l.getD (i - 1) z27).f1 = (l.getD i z27).f1)
def lnChk (l : List S27) (i : Nat) : Bool := decide (Pt (l.getD i z27).f0 (l.getD i z27).f1 ∧ ¬ (0 < i ∧ (l.getD (i - 1) z27).f0 = (l.getD i z27).f0 ∧ (l.getD (i - 1) z27).f1 = (l.getD i z27).f1))
instance (l : List S27) : Decidable (Ln l) := decidable_of_iff ((2 ≤ l.length ∧ l.length ≤ 10) ∧ ∀ i, i < l.length → lnChk l i = true) (by unfold Ln lnChk; simp only [decide_eq_true_eq, and_assoc])
theorem rdP (l : List S27) (i : Nat) : rd_T27 l (i : Int) = l.getD i z27 := rfl
theorem sgOn_iff {ax ay bx bY px py : Int} (h1 : Sg ax ay bx bY) (h2 : Pt px py) : SgOn ax ay bx bY px py ↔ Geo.On ⟨ax, ay⟩ ⟨bx, bY⟩ ⟨px, py⟩ := ⟨fun h => h.2.2, fun h => ⟨h1, h2, h⟩⟩
def howV (ax ay bx bY cx cy dx dy : Int) : Int := if Sg ax ay bx bY ∧ Sg cx cy dx dy then Geo.howI ⟨ax, ay⟩ ⟨bx, bY⟩ ⟨cx, cy⟩ ⟨dx, dy⟩ else 0
theorem sgn_mul_bd (m n : Int) : wrap64 (Geo.sgn m * Geo.sgn n) = Geo.sgn m * Geo.sgn n := by
  have h1 : -1 ≤ Geo.sgn m ∧ Geo.sgn m ≤ 1 := by unfold Geo.sgn; split <;> (try split) <;> omega
  have h2 : -1 ≤ Geo.sgn n ∧ Geo.sgn n ≤ 1 := by unfold Geo.sgn; split <;> (try split) <;> omega
  have := Gen.mul_bd h1 h2
  exact Gen.w64 (by omega) (by omega)
theorem implBefore {px py qx qy : Int} (hp : Pt px py) (hq : Pt qx qy) : impl_BeforePoint.f px py qx qy = some (decide (Geo.key ⟨px, py⟩ < Geo.key ⟨qx, qy⟩)) := by
  obtain ⟨a1, a2, a3, a4⟩ := hp; obtain ⟨b1, b2, b3, b4⟩ := hq
  unfold impl_BeforePoint.f Geo.key
  show _ = some (decide (1000 * py + px < 1000 * qy + qx))
  split
  · rw [decide_eq_true (by omega)]
  · split
    · congr 1; rw [decide_eq_decide]; omega
    · rw [decide_eq_false (by omega)]
def gP (p : Geo.Pt) : Prop := Pt p.x p.y
theorem gP_lo {a b : Geo.Pt} (ha : gP a) (hb : gP b) : gP (Geo.lowK a b) := by unfold Geo.lowK; split <;> assumption
theorem gP_hi {a b : Geo.Pt} (ha : gP a) (hb : gP b) : gP (Geo.highK a b) := by unfold Geo.highK; split <;> assumption
theorem implForward {ax ay bx bY : Int} (ha : Pt ax ay) (hb : Pt bx bY) : impl_forward.f ax ay bx bY = some ((Geo.lowK ⟨ax, ay⟩ ⟨bx, bY⟩).x, (Geo.lowK ⟨ax, ay⟩ ⟨bx, bY⟩).y, (Geo.highK ⟨ax, ay⟩ ⟨bx, bY⟩).x, (Geo.highK ⟨ax, ay⟩ ⟨bx, bY⟩).y) := by
  unfold impl_forward.f
  rw [implBefore hb ha]
  simp only [Option.bind_some, decide_eq_true_eq, impl_TurnSegment.f]
  unfold Geo.lowK Geo.highK
  split <;> rfl
theorem tImplHow (ax ay bx bY cx cy dx dy : Int) : Told (fun k => impl_HowMeet.f k ax ay bx bY cx cy dx dy) (howV ax ay bx bY cx cy dx dy) := by
  have no : ¬ (Sg ax ay bx bY ∧ Sg cx cy dx dy) → Told (fun k => impl_HowMeet.j0 k true ax ay bx bY cx cy dx dy) (howV ax ay bx bY cx cy dx dy) := fun h => Told.stepr fun k => by simp only [impl_HowMeet.j0, if_true]; rw [howV, if_neg h]
  by_cases h1 : Sg ax ay bx bY
  · refine Told.bind (Told.of (implIsSegment ax ay bx bY)) (Told.ite_t (by simpa using h1) (Told.bind (Told.of (implIsSegment cx cy dx dy)) ?_))
    by_cases h2 : Sg cx cy dx dy
    · have e : howV ax ay bx bY cx cy dx dy = Geo.howI ⟨ax, ay⟩ ⟨bx, bY⟩ ⟨cx, cy⟩ ⟨dx, dy⟩ := by rw [howV, if_pos ⟨h1, h2⟩]
      have ha := h1.1; have hb := h1.2.1; have hc := h2.1; have hd := h2.2.1
      have sd : ∀ {ax ay bx bY px py : Int}, Pt ax ay → Pt bx bY → Pt px py → sideV ax ay bx bY px py = Geo.sgn (crossZ ax ay bx bY px py) := fun p q r => by unfold sideV; exact if_pos ⟨p, q, r⟩
      unfold Geo.howI at e
      rw [decide_eq_true h2]
      refine Told.step (M := fun k => (impl_SideOf.f k ax ay bx bY cx cy).bind fun t1 => (impl_SideOf.f k ax ay bx bY dx dy).bind fun t2 => if t1 = 0 then impl_HowMeet.j1 k t1 t2 (t2 == 0) ax ay bx bY cx cy dx dy else impl_HowMeet.j1 k t1 t2 false ax ay bx bY cx cy dx dy) (fun k => by simp only [impl_HowMeet.j0, Bool.not_true, Bool.false_eq_true, if_false]) (Told.bind (tImplSide ax ay bx bY cx cy) (Told.bind (tImplSide ax ay bx bY dx dy) ?_))
      rw [sd ha hb hc, sd ha hb hd]
      have on4 : ∀ b : Bool, ¬ (crossZ ax ay bx bY cx cy = 0 ∧ crossZ ax ay bx bY dx dy = 0) → (b = true ↔ Geo.Proper ⟨ax, ay⟩ ⟨bx, bY⟩ ⟨cx, cy⟩ ⟨dx, dy⟩) → Told (fun k => impl_HowMeet.j4 k b ax ay bx bY cx cy dx dy) (howV ax ay bx bY cx cy dx dy) := by
        intro b hn hb4
        rw [if_neg (show ¬ (Geo.cross ⟨ax, ay⟩ ⟨bx, bY⟩ ⟨cx, cy⟩ = 0 ∧ Geo.cross ⟨ax, ay⟩ ⟨bx, bY⟩ ⟨dx, dy⟩ = 0) from hn)] at e
        by_cases c : b = true
        · rw [if_pos (hb4.1 c)] at e
          refine Told.stepr fun k => ?_
          simp only [impl_HowMeet.j4]
          rw [if_pos c, e]
        · rw [if_neg (fun h => c (hb4.2 h))] at e
          have o0 := sgOn_iff (px := cx) (py := cy) h1 h2.1
          have o1 := sgOn_iff (px := dx) (py := dy) h1 h2.2.1
          have o2 := sgOn_iff (px := ax) (py := ay) h2 h1.1
          have o3 := sgOn_iff (px := bx) (py := bY) h2 h1.2.1
          simp only [← o0, ← o1, ← o2, ← o3] at e
          refine Told.step (fun k => by simp only [impl_HowMeet.j4]; rw [if_neg c]) (Told.bind (tImplIsOn ax ay bx bY cx cy) ?_)
          by_cases d0 : SgOn ax ay bx bY cx cy
          · rw [if_pos (.inl d0)] at e; rw [e]; exact Told.ite_t (by simpa using d0) (Told.ret _)
          refine Told.ite_f (by simpa using d0) (Told.bind (tImplIsOn ax ay bx bY dx dy) ?_)
          by_cases d1 : SgOn ax ay bx bY dx dy
          · rw [if_pos (.inr (.inl d1))] at e; rw [e]; exact Told.ite_t (by simpa using d1) (Told.ret _)
          refine Told.ite_f (by simpa using d1) (Told.bind (tImplIsOn cx cy dx dy ax ay) ?_)
          by_cases d2 : SgOn cx cy dx dy ax ay
          · rw [if_pos (.inr (.inr (.inl d2)))] at e; rw [e]; exact Told.ite_t (by simpa using d2) (Told.ret _)
          refine Told.ite_f (by simpa using d2) (Told.bind (tImplIsOn cx cy dx dy bx bY) ?_)
          by_cases d3 : SgOn cx cy dx dy bx bY
          · rw [if_pos (.inr (.inr (.inr d3)))] at e; rw [e]; exact Told.ite_t (by simpa using d3) (Told.ret _)
          rw [if_neg (fun h => by rcases h with h | h | h | h <;> contradiction)] at e
          rw [e]
          exact Told.ite_f (by simpa using d3) (Told.ret _)
      have off : ∀ b : Bool, b = false → ¬ (crossZ ax ay bx bY cx cy = 0 ∧ crossZ ax ay bx bY dx dy = 0) → Told (fun k => impl_HowMeet.j1 k (Geo.sgn (crossZ ax ay bx bY cx cy)) (Geo.sgn (crossZ ax ay bx bY dx dy)) b ax ay bx bY cx cy dx dy) (howV ax ay bx bY cx cy dx dy) := by
        intro b hbf hn
        subst hbf
        refine Told.step (fun k => by simp only [impl_HowMeet.j1, Bool.false_eq_true, if_false]; rw [sgn_mul_bd]) ?_
        by_cases p1 : Geo.sgn (crossZ ax ay bx bY cx cy) * Geo.sgn (crossZ ax ay bx bY dx dy) < 0
        · refine Told.ite_t p1 (Told.bind (tImplSide cx cy dx dy ax ay) (Told.bind (tImplSide cx cy dx dy bx bY) ?_))
          rw [sd hc hd ha, sd hc hd hb, sgn_mul_bd]
          refine on4 _ hn ?_
          rw [decide_eq_true_eq]
          exact ⟨fun h => ⟨p1, h⟩, fun h => h.2⟩
        · exact Told.ite_f p1 (on4 _ hn ⟨fun h => (by cases h), fun h => absurd h.1 p1⟩)
      by_cases z1 : crossZ ax ay bx bY cx cy = 0
      · have s1 : Geo.sgn (crossZ ax ay bx bY cx cy) = 0 := Geo.sgn_eq_zero.2 z1
        refine Told.ite_t s1 ?_
        by_cases z2 : crossZ ax ay bx bY dx dy = 0
        · have s2 : Geo.sgn (crossZ ax ay bx bY dx dy) = 0 := Geo.sgn_eq_zero.2 z2
          rw [s1, s2]
          rw [if_pos (show Geo.cross ⟨ax, ay⟩ ⟨bx, bY⟩ ⟨cx, cy⟩ = 0 ∧ Geo.cross ⟨ax, ay⟩ ⟨bx, bY⟩ ⟨dx, dy⟩ = 0 from ⟨z1, z2⟩)] at e
          have ga : gP ⟨ax, ay⟩ := ha
          have gb : gP ⟨bx, bY⟩ := hb
          have gc : gP ⟨cx, cy⟩ := hc
          have gd : gP ⟨dx, dy⟩ := hd
          have l1 := gP_lo ga gb; have l2 := gP_lo gc gd; have i1 := gP_hi ga gb; have i2 := gP_hi gc gd
          have j3 : ∀ s t : Geo.Pt, gP s → gP t → s = Geo.lo2 ⟨ax, ay⟩ ⟨bx, bY⟩ ⟨cx, cy⟩ ⟨dx, dy⟩ → t = Geo.hi2 ⟨ax, ay⟩ ⟨bx, bY⟩ ⟨cx, cy⟩ ⟨dx, dy⟩ → Told (fun k => impl_HowMeet.j3 k s.x s.y t.x t.y) (howV ax ay bx bY cx cy dx dy) := by
            intro s t hs ht es et
            rw [← es, ← et] at e
            refine Told.stepr fun k => ?_
            simp only [impl_HowMeet.j3]
            rw [implBefore ht hs]
            simp only [Option.bind_some, decide_eq_true_eq]
            have e1 : (⟨t.x, t.y⟩ : Geo.Pt) = t := rfl
            have e2 : (⟨s.x, s.y⟩ : Geo.Pt) = s := rfl
            rw [e1, e2, e]
            split
            · rfl
            · by_cases q : s = t
              · subst q; simp
              · rw [if_neg q, if_neg]
                intro h
                simp only [Bool.and_eq_true, beq_iff_eq] at h
                apply q
                cases s; cases t; simp_all
          have j2 : ∀ s : Geo.Pt, gP s → s = Geo.lo2 ⟨ax, ay⟩ ⟨bx, bY⟩ ⟨cx, cy⟩ ⟨dx, dy⟩ → Told (fun k => impl_HowMeet.j2 k (Geo.lowK ⟨cx, cy⟩ ⟨dx, dy⟩).x (Geo.lowK ⟨cx, cy⟩ ⟨dx, dy⟩).y (Geo.highK ⟨cx, cy⟩ ⟨dx, dy⟩).x (Geo.highK ⟨cx, cy⟩ ⟨dx, dy⟩).y s.x s.y (Geo.highK ⟨ax, ay⟩ ⟨bx, bY⟩).x (Geo.highK ⟨ax, ay⟩ ⟨bx, bY⟩).y) (howV ax ay bx bY cx cy dx dy) := by
            intro s hs es
            refine Told.step (M := fun k => if Geo.key (Geo.highK ⟨cx, cy⟩ ⟨dx, dy⟩) < Geo.key (Geo.highK ⟨ax, ay⟩ ⟨bx, bY⟩) then impl_HowMeet.j3 k s.x s.y (Geo.highK ⟨cx, cy⟩ ⟨dx, dy⟩).x (Geo.highK ⟨cx, cy⟩ ⟨dx, dy⟩).y else impl_HowMeet.j3 k s.x s.y (Geo.highK ⟨ax, ay⟩ ⟨bx, bY⟩).x (Geo.highK ⟨ax, ay⟩ ⟨bx, bY⟩).y) (fun k => ?_) ?_
            · simp only [impl_HowMeet.j2]
              rw [implBefore i2 i1]
              simp only [Option.bind_some, decide_eq_true_eq]
            · by_cases q : Geo.key (Geo.highK ⟨cx, cy⟩ ⟨dx, dy⟩) < Geo.key (Geo.highK ⟨ax, ay⟩ ⟨bx, bY⟩)
              · exact Told.ite_t q (j3 s _ hs i2 es (by unfold Geo.hi2; rw [if_pos q]))
              · exact Told.ite_f q (j3 s _ hs i1 es (by unfold Geo.hi2; rw [if_neg q]))
          refine Told.step (M := fun k => if Geo.key (Geo.lowK ⟨ax, ay⟩ ⟨bx, bY⟩) < Geo.key (Geo.lowK ⟨cx, cy⟩ ⟨dx, dy⟩) then impl_HowMeet.j2 k (Geo.lowK ⟨cx, cy⟩ ⟨dx, dy⟩).x (Geo.lowK ⟨cx, cy⟩ ⟨dx, dy⟩).y (Geo.highK ⟨cx, cy⟩ ⟨dx, dy⟩).x (Geo.highK ⟨cx, cy⟩ ⟨dx, dy⟩).y (Geo.lowK ⟨cx, cy⟩ ⟨dx, dy⟩).x (Geo.lowK ⟨cx, cy⟩ ⟨dx, dy⟩).y (Geo.highK ⟨ax, ay⟩ ⟨bx, bY⟩).x (Geo.highK ⟨ax, ay⟩ ⟨bx, bY⟩).y else impl_HowMeet.j2 k (Geo.lowK ⟨cx, cy⟩ ⟨dx, dy⟩).x (Geo.lowK ⟨cx, cy⟩ ⟨dx, dy⟩).y (Geo.highK ⟨cx, cy⟩ ⟨dx, dy⟩).x (Geo.highK ⟨cx, cy⟩ ⟨dx, dy⟩).y (Geo.lowK ⟨ax, ay⟩ ⟨bx, bY⟩).x (Geo.lowK ⟨ax, ay⟩ ⟨bx, bY⟩).y (Geo.highK ⟨ax, ay⟩ ⟨bx, bY⟩).x (Geo.highK ⟨ax, ay⟩ ⟨bx, bY⟩).y) (fun k => ?_) ?_
          · simp only [impl_HowMeet.j1, beq_self_eq_true, if_true]
            rw [implForward ha hb, implForward hc hd]
            simp only [Option.bind_some]
            rw [implBefore l1 l2]
            simp only [Option.bind_some, decide_eq_true_eq]
          · by_cases q : Geo.key (Geo.lowK ⟨ax, ay⟩ ⟨bx, bY⟩) < Geo.key (Geo.lowK ⟨cx, cy⟩ ⟨dx, dy⟩)
            · exact Told.ite_t q (j2 _ l2 (by unfold Geo.lo2; rw [if_pos q]))
            · exact Told.ite_f q (j2 _ l1 (by unfold Geo.lo2; rw [if_neg q]))
        · exact off _ (by simpa using fun h => z2 (Geo.sgn_eq_zero.1 h)) (fun h => z2 h.2)
      · exact Told.ite_f (fun h => z1 (Geo.sgn_eq_zero.1 h)) (off _ rfl (fun h => z1 h.1))
    · rw [decide_eq_false h2]; exact no (fun h => h2 h.2)
  · exact Told.bind (Told.of (implIsSegment ax ay bx bY)) (Told.ite_f (by simpa using h1) (no (fun h => h1 h.1)))
theorem implIsLine (l : List S27) (hl : l.length ≤ 1048576) {k : Nat} (hk : l.length + 1 < k) : impl_IsLine.f k l = some (decide (Ln l)) := by
  obtain ⟨k, rfl⟩ : ∃ m, k = m + 1 := ⟨k - 1, by omega⟩
  unfold impl_IsLine.f
  simp only [impl_IsLine.j0]
  by_cases h2 : l.length < 2
  · rw [if_pos (by omega), if_pos trivial]
    congr 1
    rw [eq_comm, decide_eq_false_iff_not]
    intro h; have := h.1; omega
  · rw [if_neg (by omega)]
    by_cases h10 : l.length > 10
    · rw [if_pos (by rw [decide_eq_true_eq]; omega)]
      congr 1
      rw [eq_comm, decide_eq_false_iff_not]
      intro h; have := h.2.1; omega
    · rw [if_neg (by rw [decide_eq_true_eq]; omega)]
      rw [Gen.scan_all l.length 0 (lnChk l) true (fun k i => impl_IsLine.l0 k l l l.length i) (fun k i _ hi => by
        simp only [impl_IsLine.l0]
        rw [if_pos (by omega), if_pos (by omega), if_pos (by omega), implIsPoint, rdP]
        simp only [Option.bind_some, decide_eq_true_eq]
        unfold lnChk
        by_cases h1 : Pt (l.getD i z27).f0 (l.getD i z27).f1
        · rw [if_pos h1]
          by_cases h0 : 0 < i
          · have e1 : wrap64 ((i : Int) - 1) = ((i - 1 : Nat) : Int) := by rw [Gen.w64 (by omega) (by omega)]; omega
            rw [if_pos (by omega), e1, if_pos (by omega), if_pos (by omega), rdP, Gen.w64s (by omega)]
            by_cases h2 : (l.getD (i - 1) z27).f0 = (l.getD i z27).f0 ∧ (l.getD (i - 1) z27).f1 = (l.getD i z27).f1
            · rw [if_pos (by rw [h2.1, h2.2]; simp), if_neg (by simp only [decide_eq_true_eq]; exact fun h => h.2 ⟨h0, h2⟩)]
            · rw [if_neg (by simp only [Bool.and_eq_true, beq_iff_eq]; exact fun h => h2 ⟨h.1.symm, h.2.symm⟩), if_pos (by simp only [decide_eq_true_eq]; exact ⟨h1, fun h => h2 h.2⟩)]
          · rw [if_neg (by omega), if_pos (by simp only [decide_eq_true_eq]; exact ⟨h1, fun h => h0 h.1⟩), Gen.w64s (by omega)]
        · rw [if_neg h1, if_neg (by simp only [decide_eq_true_eq]; exact fun h => h1 h.1)]) (fun k _ => by
        simp only [impl_IsLine.l0]
        rw [if_neg (by omega)]) (by omega)]
      congr 1
      rw [Bool.eq_iff_iff, Bool.and_eq_true, decide_eq_true_eq, decide_eq_true_eq]
      unfold Ln lnChk
      simp only [decide_eq_true_eq, and_true]
      constructor
      · intro h; exact ⟨by omega, by omega, h⟩
      · intro h; exact h.2.2
theorem tImplIsLine (l : List S27) (hl : l.length ≤ 1048576) : Told (fun k => impl_IsLine.f k l) (decide (Ln l)) := ⟨l.length + 2, fun k hk => implIsLine l hl (by omega)⟩
def segAt (l : List S27) (i : Nat) : S53 := ⟨l.getD (i - 1) z27, l.getD i z27⟩
def segs (l : List S27) : List S53 := (List.range' 1 (l.length - 1)).map (segAt l)
theorem foldl_push {α β : Type} (g : α → β) (x : List α) : ∀ s : List β, x.foldl (fun s i => s ++ [g i]) s = s ++ x.map g := by
  induction x with
  | nil => intro s; simp
  | cons a x ih => intro s; rw [List.foldl_cons, ih]; simp
theorem tImplSegmentsOf (l : List S27) (h : Ln l) : Told (fun k => impl_SegmentsOf.f k l) (segs l) := by
  have hn := h.1; have hm := h.2.1
  refine Told.eq (M := fun k => (impl_IsLine.f k l).bind fun t => if t = true then impl_SegmentsOf.l0 k l [] ((1 : Nat) : Int) else some []) (fun k => rfl) (Told.bind (tImplIsLine l (by omega)) (Told.eq (fun _ => if_pos (by simpa using h)) ?_))
  refine Told.up (n := l.length) (fun s i => s ++ [segAt l i]) (fun k s i => impl_SegmentsOf.l0 k l s i) (fun s i => s.length + 1 = i) (fun s i hi hv => ⟨by simp; omega, fun hh => ?_⟩) (l.length - 1) [] 1 (by omega) rfl ?_
  · refine Told.step (M := fun k => impl_SegmentsOf.l0 k l (s ++ [segAt l i]) ((i + 1 : Nat) : Int)) (fun k => ?_) hh
    simp only [impl_SegmentsOf.l0]
    have e1 : wrap64 ((i : Int) - 1) = ((i - 1 : Nat) : Int) := by rw [Gen.w64 (by omega) (by omega)]; omega
    rw [if_pos (by omega), e1, Gen.w64s (by omega), if_pos (by omega), if_pos (by omega), if_pos (by omega), if_pos (by omega), rdP, rdP]
    rfl
  · refine Told.stepr fun k => ?_
    simp only [impl_SegmentsOf.l0]
    rw [if_neg (by omega), foldl_push]
    rfl
theorem rdSg (l : List S53) (i : Nat) : rd_T53 l (i : Int) = l.getD i z53 := rfl
theorem segs_len' (l : List S27) : (segs l).length = l.length - 1 := by simp [segs]
theorem segs_at (l : List S27) {i : Nat} (h : i + 1 < l.length) : (segs l).getD i z53 = segAt l (i + 1) := by
  unfold segs
  rw [List.getD_eq_getElem?_getD, List.getElem?_map, List.getElem?_range' (by omega)]
  simp [Nat.add_comm]
def segsV (l : List S27) : List S53 := if Ln l then segs l else []
def howL (l : List S27) (i k : Nat) : Int := howV (segAt l (i + 1)).f0.f0 (segAt l (i + 1)).f0.f1 (segAt l (i + 1)).f1.f0 (segAt l (i + 1)).f1.f1 (segAt l (k + 1)).f0.f0 (segAt l (k + 1)).f0.f1 (segAt l (k + 1)).f1.f0 (segAt l (k + 1)).f1.f1
def chkSm (l : List S27) (i : Nat) : Bool := decide (∀ k, k < i → howL l i k = if k + 1 = i then 1 else 0)
theorem chkSm_iff (l : List S27) (i : Nat) : chkSm l i = true ↔ ∀ k, k < i → howL l i k = if k + 1 = i then 1 else 0 := by unfold chkSm; rw [decide_eq_true_eq]
def Sm (l : List S27) : Prop := Ln l ∧ ∀ i, i < l.length - 1 → chkSm l i = true
instance (l : List S27) : Decidable (Sm l) := by unfold Sm; infer_instance
theorem tImplSimple (l : List S27) (hl : l.length ≤ 1048576) : Told (fun k => impl_IsSimple.f k l) (decide (Sm l)) := by
  refine Told.bind (tImplIsLine l hl) ?_
  by_cases h : Ln l
  · have h2 := h.1
    have h10 := h.2.1
    have hn := segs_len' l
    refine Told.ite_t (by simpa using h) (Told.bind (tImplSegmentsOf l h) ?_)
    rw [hn]
    refine Told.scan (n := l.length - 1) false (fun i => chkSm l i = true) (fun k i => impl_IsSimple.l0 k (segs l) ((l.length - 1 : Nat) : Int) i) (fun i hi h1 h2 => ?_) (fun hh => ?_) (fun hh => decide_eq_false fun hs => hh hs.2)
    · refine Told.step (M := fun k => impl_IsSimple.l1 k (segs l) (i : Int) ((l.length - 1 : Nat) : Int) (i : Int) (i : Int) 0) (fun k => by simp only [impl_IsSimple.l0]; rw [if_pos (by omega)]) ?_
      refine Told.scan (n := i) false (fun k => howL l i k = if k + 1 = i then 1 else 0) (fun k j => impl_IsSimple.l1 k (segs l) (i : Int) ((l.length - 1 : Nat) : Int) (i : Int) (i : Int) j) (fun j hj g1 g2 => ?_) (fun hh => ?_) (fun hh => h2 fun hs => hh ((chkSm_iff l i).1 hs))
      · refine Told.step (M := fun k => (impl_HowMeet.f k (segAt l (i + 1)).f0.f0 (segAt l (i + 1)).f0.f1 (segAt l (i + 1)).f1.f0 (segAt l (i + 1)).f1.f1 (segAt l (j + 1)).f0.f0 (segAt l (j + 1)).f0.f1 (segAt l (j + 1)).f1.f0 (segAt l (j + 1)).f1.f1).bind fun t => if t = (if j + 1 = i then 1 else 0) then impl_IsSimple.l1 k (segs l) (i : Int) ((l.length - 1 : Nat) : Int) (i : Int) (i : Int) ((j + 1 : Nat) : Int) else some false) (fun k => ?_) (Told.bind (tImplHow _ _ _ _ _ _ _ _) ?_)
        · simp only [impl_IsSimple.l1]
          have q1 : (i : Int) < ((segs l).length : Int) := by omega
          have q2 : (j : Int) < ((segs l).length : Int) := by omega
          have q3 : (0 : Int) ≤ (i : Int) := by omega
          have q4 : (0 : Int) ≤ (j : Int) := by omega
          have q5 : (j : Int) < (i : Int) := by omega
          rw [if_pos q5, Gen.w64 (n := (i : Int) - 1) (by omega) (by omega), Gen.w64s (by omega)]
          by_cases c : j + 1 = i
          · have c' : (j : Int) = (i : Int) - 1 := by omega
            rw [if_pos c', if_pos q3, if_pos q1, if_pos q4, if_pos q2, rdSg, rdSg, segs_at l (by omega), segs_at l (by omega), if_pos c]
          · have c' : ¬ (j : Int) = (i : Int) - 1 := by omega
            rw [if_neg c', if_pos q3, if_pos q1, if_pos q4, if_pos q2, rdSg, rdSg, segs_at l (by omega), segs_at l (by omega), if_neg c]
        · by_cases c : howL l i j = if j + 1 = i then 1 else 0
          · exact Told.ite_t c (g1 c)
          · rw [g2 c]; exact Told.ite_f c (Told.ret _)
      · refine Told.step (fun k => ?_) (h1 ((chkSm_iff l i).2 hh))
        simp only [impl_IsSimple.l1]
        rw [if_neg (by omega), Gen.w64s (by omega)]
    · rw [decide_eq_true (show Sm l from ⟨h, hh⟩)]
      exact Told.stepr fun k => by simp only [impl_IsSimple.l0]; rw [if_neg (by omega)]
  · rw [decide_eq_false (fun hh : Sm l => h hh.1)]
    exact Told.ite_f (by simpa using h) (Told.ret _)
theorem tImplSegs (l : List S27) (hl : l.length ≤ 1048576) : Told (fun k => impl_SegmentsOf.f k l) (segsV l) := by
  by_cases h : Ln l
  · rw [segsV, if_pos h]; exact tImplSegmentsOf l h
  · rw [segsV, if_neg h]
    exact Told.eq (M := fun k => (impl_IsLine.f k l).bind fun t => if t = true then impl_SegmentsOf.l0 k l [] 1 else some []) (fun k => rfl) (Told.bind (tImplIsLine l hl) (Told.ite_f (by simpa using h) (Told.ret _)))
def howSg (a b : S53) : Int := howV a.f0.f0 a.f0.f1 a.f1.f0 a.f1.f1 b.f0.f0 b.f0.f1 b.f1.f0 b.f1.f1
def rowV (S T : List S53) (i : Nat) (n : Int) : Int := (List.range' 0 T.length).foldl (fun n j => max n (howSg (S.getD i z53) (T.getD j z53))) n
def greatV (S T : List S53) : Int := (List.range' 0 S.length).foldl (fun n i => rowV S T i n) 0
theorem tImplGreat (S T : List S53) (hS : S.length ≤ 10) (hT : T.length ≤ 10) : Told (fun k => impl_greatest.f k S T) (greatV S T) := by
  refine Told.up (n := S.length) (fun n i => rowV S T i n) (fun k n i => impl_greatest.l0 k T n S (S.length : Int) i) (fun _ _ => True) (fun n i hi _ => ⟨trivial, fun hh => ?_⟩) S.length 0 0 (by omega) trivial (Told.stepr fun k => by simp only [impl_greatest.l0]; rw [if_neg (by omega)]; rfl)
  refine Told.step (M := fun k => impl_greatest.l1 k T n S (S.length : Int) (i : Int) T (T.length : Int) 0 (S.getD i z53).f0.f0 (S.getD i z53).f0.f1 (S.getD i z53).f1.f0 (S.getD i z53).f1.f1) (fun k => by simp only [impl_greatest.l0]; rw [if_pos (by omega), if_pos (by omega), if_pos (by omega), rdSg]) ?_
  refine Told.up (n := T.length) (fun n j => max n (howSg (S.getD i z53) (T.getD j z53))) (fun k n j => impl_greatest.l1 k T n S (S.length : Int) (i : Int) T (T.length : Int) j (S.getD i z53).f0.f0 (S.getD i z53).f0.f1 (S.getD i z53).f1.f0 (S.getD i z53).f1.f1) (fun _ _ => True) (fun n j hj _ => ⟨trivial, fun h2 => ?_⟩) T.length n 0 (by omega) trivial ?_
  · refine Told.step (fun k => by simp only [impl_greatest.l1, Gen.mx_eq]; rw [if_pos (by omega), if_pos (by omega), if_pos (by omega), rdSg, Gen.w64s (by omega)]) ?_
    exact Told.bind (tImplHow _ _ _ _ _ _ _ _) h2
  · refine Told.step (fun k => by simp only [impl_greatest.l1]; rw [if_neg (by omega), Gen.w64s (by omega)]) ?_
    exact hh
theorem segsV_len (l : List S27) : (segsV l).length ≤ 10 := by
  unfold segsV
  split
  · rename_i h; have := h.2.1; rw [segs_len']; omega
  · simp
def lmV (l m : List S27) : Int := greatV (segsV l) (segsV m)
theorem tImplLM (l m : List S27) (hl : l.length ≤ 1048576) (hm : m.length ≤ 1048576) : Told (fun k => impl_LinesMeet.f k l m) (lmV l m) :=
  Told.bind (tImplSegs l hl) (Told.bind (tImplSegs m hm) (Told.bind (tImplGreat _ _ (segsV_len _) (segsV_len _)) (Told.ret _)))
def SmallSS {α : Type} (ls : List (List α)) : Prop := ls.length ≤ 1048576 ∧ ∀ i, i < ls.length → (ls.getD i []).length ≤ 1048576
theorem rdPi (ls : List (List S27)) (i : Nat) : rd_L3 ls (i : Int) = ls.getD i [] := rfl
theorem tImplLine (l : List S27) (hl : l.length ≤ 1048576) : Told (fun k => impl_IsLine.f k l) (decide (Ln l)) := ⟨l.length + 2, fun k hk => implIsLine l hl (by omega)⟩
def wo (l : List S27) (i : Int) : List S27 := l.take i.toNat ++ l.drop (i.toNat + 1)
theorem wo_len (l : List S27) (i : Int) : (wo l i).length ≤ l.length := by unfold wo; simp; omega
def dropV (l : List S27) (i : Int) : List S27 × Bool := if Ln l ∧ 1 ≤ i ∧ i ≤ l.length - 2 then (if Ln (wo l i) then (wo l i, true) else (l, false)) else (l, false)
theorem drop_len (l : List S27) (i : Int) : (dropV l i).1.length ≤ l.length := by
  unfold dropV; split
  · split
    · exact wo_len l i
    · exact Nat.le_refl _
  · exact Nat.le_refl _
theorem implWo (l : List S27) (i : Int) (h0 : 0 ≤ i) (h1 : i < l.length) (hl : l.length ≤ 1048576) : impl_without.f l i = some (wo l i) := by
  unfold impl_without.f wo; rw [if_pos h0, if_pos h1, if_pos (by omega)]
theorem implClone (l : List S27) (hl : l.length ≤ 1048576) : impl_Point_76.f l = some l := by
  unfold impl_Point_76.f
  simp only [Option.bind_some, List.nil_append]
  rw [if_pos (by simp; omega)]
theorem tImplDrop (l : List S27) (i : Int) (hl : l.length ≤ 1048576) : Told (fun k => impl_DropPoint.f k l i) (dropV l i) := by
  have no : ¬ (Ln l ∧ 1 ≤ i ∧ i ≤ l.length - 2) → Told (fun k => impl_DropPoint.j0 k l i true) (dropV l i) := fun h => by
    unfold dropV; rw [if_neg h]
    refine Told.step (fun k => by simp only [impl_DropPoint.j0]; rw [if_pos trivial]) ?_
    exact Told.bind (Told.of (implClone l hl)) (Told.ret _)
  refine Told.bind (tImplLine l hl) ?_
  by_cases h1 : Ln l
  · refine Told.ite_t (by simpa using h1) (Told.bind (Told.of (implInRange _ _ _)) ?_)
    rw [Gen.w64 (by omega) (by omega)]
    by_cases h2 : 1 ≤ i ∧ i ≤ l.length - 2
    · have ev : dropV l i = if Ln (wo l i) then (wo l i, true) else (l, false) := by unfold dropV; exact if_pos ⟨h1, h2⟩
      rw [ev]
      refine Told.step (fun k => by simp only [impl_DropPoint.j0]; rw [if_neg (by simp [h2])]) ?_
      refine Told.bind (Told.of (implWo l i (by omega) (by omega) hl)) (Told.bind (tImplLine (wo l i) (Nat.le_trans (wo_len l i) hl)) ?_)
      by_cases h3 : Ln (wo l i)
      · rw [if_pos h3]; exact Told.ite_t (by simpa using h3) (Told.ret _)
      · rw [if_neg h3]; exact Told.ite_f (by simpa using h3) (Told.bind (Told.of (implClone l hl)) (Told.ret _))
    · rw [decide_eq_false h2]; exact no (fun h => h2 h.2)
  · exact Told.ite_f (by simpa using h1) (no (fun h => h1 h.1))
def canChk (l d : List S27) (os : List (List S27)) (k : Nat) : Prop := ¬ (lmV d (os.getD k []) > lmV l (os.getD k []))
instance (l d : List S27) (os : List (List S27)) (k : Nat) : Decidable (canChk l d os k) := by unfold canChk; infer_instance
def canV (l : List S27) (i : Int) (os : List (List S27)) : Bool := decide ((dropV l i).2 = true ∧ Sm (dropV l i).1 ∧ ∀ k, k < os.length → canChk l (dropV l i).1 os k)
theorem tImplCan (l : List S27) (i : Int) (os : List (List S27)) (hl : l.length ≤ 1048576) (ho : SmallSS os) : Told (fun k => impl_CanDrop.f k l i os) (canV l i os) := by
  have hd := Nat.le_trans (drop_len l i) hl
  have hn := ho.1
  have no : ¬ ((dropV l i).2 = true ∧ Sm (dropV l i).1) → Told (fun k => impl_CanDrop.j0 k l os (dropV l i).1 true) (canV l i os) := fun h => by
    rw [canV, decide_eq_false (fun q => h ⟨q.1, q.2.1⟩)]
    exact Told.stepr fun k => by simp only [impl_CanDrop.j0]; rw [if_pos trivial]
  refine Told.bind (tImplDrop l i hl) ?_
  by_cases h1 : (dropV l i).2 = true
  · refine Told.ite_t h1 (Told.bind (tImplSimple _ hd) ?_)
    by_cases h2 : Sm (dropV l i).1
    · rw [decide_eq_true h2]
      refine Told.step (M := fun k => impl_CanDrop.l0 k l (dropV l i).1 os (os.length : Int) 0) (fun k => by simp only [impl_CanDrop.j0]; rw [if_neg (by simp)]) ?_
      refine Told.scan (n := os.length) false (fun k => canChk l (dropV l i).1 os k) (fun k j => impl_CanDrop.l0 k l (dropV l i).1 os (os.length : Int) j) (fun j hj c1 c2 => ?_) (fun hh => Told.stepr fun k => ?_) (fun hh => decide_eq_false fun q => hh q.2.2)
      · refine Told.step (fun k => by simp only [impl_CanDrop.l0]; rw [if_pos (by omega), if_pos (by omega), if_pos (by omega), rdPi, Gen.w64s (by omega)]) (Told.bind (tImplLM _ _ hd (ho.2 j hj)) (Told.bind (tImplLM _ _ hl (ho.2 j hj)) ?_))
        by_cases c : lmV (dropV l i).1 (os.getD j []) > lmV l (os.getD j [])
        · rw [c2 (fun h => h c)]; exact Told.ite_t c (Told.ret _)
        · exact Told.ite_f c (c1 c)
      · simp only [impl_CanDrop.l0]
        rw [if_neg (by omega), canV, decide_eq_true ⟨h1, h2, hh⟩]
    · rw [decide_eq_false h2]; exact no (fun h => h2 h.2)
  · exact Told.ite_f h1 (no (fun h => h1 h.1))
def crn (l : List S27) (i : Nat) : Int := crossZ (l.getD (i - 1) z27).f0 (l.getD (i - 1) z27).f1 (l.getD i z27).f0 (l.getD i z27).f1 (l.getD (i + 1) z27).f0 (l.getD (i + 1) z27).f1
def crnA (l : List S27) (i : Int) : Int := if Ln l ∧ 1 ≤ i ∧ i ≤ l.length - 2 then max (crn l i.toNat) (-(crn l i.toNat)) else -1
theorem implCorner (l : List S27) (i : Int) (hl : l.length ≤ 1048576) {k : Nat} (hk : l.length + 1 < k) : impl_CornerArea.f k l i = some (crnA l i) := by
  unfold impl_CornerArea.f crnA
  rw [implIsLine l hl hk, implInRange]
  simp only [Option.bind_some, decide_eq_true_eq]
  rw [Gen.w64 (by omega) (by omega)]
  by_cases h1 : Ln l
  · rw [if_pos h1]
    by_cases h2 : 1 ≤ i ∧ i ≤ l.length - 2
    · obtain ⟨m, rfl⟩ := Int.eq_ofNat_of_zero_le (show 0 ≤ i by omega)
      have e1 : wrap64 ((m : Int) - 1) = ((m - 1 : Nat) : Int) := by rw [Gen.w64 (by omega) (by omega)]; omega
      rw [if_pos (c := Ln l ∧ 1 ≤ (m : Int) ∧ (m : Int) ≤ l.length - 2) ⟨h1, h2⟩, if_pos h2, e1, Gen.w64s (by omega), if_pos (by omega), if_pos (by omega), if_pos (by omega), if_pos (by omega), if_pos (by omega), if_pos (by omega), rdP, rdP, rdP]
      have p0 := (h1.2.2 (m - 1) (by omega)).1
      have p1 := (h1.2.2 m (by omega)).1
      have p2 := (h1.2.2 (m + 1) (by omega)).1
      unfold impl_twice.f
      rw [implCross p0 p1 p2]
      obtain ⟨_, b1, b2⟩ := crossZ_bd p0 p1 p2
      simp only [Option.bind_some]
      rw [Gen.w64 (by omega) (by omega), Gen.mx_eq]
      rfl
    · rw [if_neg h2, if_neg (fun h => h2 h.2)]
  · rw [if_neg h1, if_neg (fun h => h1 h.1)]
def maV (l : List S27) (os : List (List S27)) : List Int := (List.range' 0 os.length).foldl (fun s i => s ++ [lmV l (os.getD i [])]) []
theorem ma_len (l : List S27) (os : List (List S27)) : (maV l os).length = os.length := by
  unfold maV; rw [foldl_push (fun i => lmV l (os.getD i []))]; simp
theorem tImplMA (l : List S27) (os : List (List S27)) (hl : l.length ≤ 1048576) (ho : SmallSS os) : Told (fun k => impl_MeetsAll.f k l os) (maV l os) := by
  have hn := ho.1
  refine Told.up (n := os.length) (fun s i => s ++ [lmV l (os.getD i [])]) (fun k s i => impl_MeetsAll.l0 k l s os (os.length : Int) i) (fun s i => s.length = i) (fun s i hi hs => ⟨by simp [hs], fun hh => ?_⟩) os.length [] 0 (by omega) rfl (Told.stepr fun k => by simp only [impl_MeetsAll.l0]; rw [if_neg (by omega)]; rfl)
  refine Told.step (fun k => by simp only [impl_MeetsAll.l0]; rw [if_pos (by omega), if_pos (by omega), if_pos (by omega), rdPi, Gen.w64s (by omega)]) (Told.bind (tImplLM _ _ hl (ho.2 i hi)) ?_)
  exact Told.ite_t (show s.length < 17592186044416 by have h_ : s.length = i := hs; omega) hh
theorem pt_eq {a b : S27} (h0 : a.f0 = b.f0) (h1 : a.f1 = b.f1) : a = b := by cases a; cases b; simp at h0 h1; subst h0; subst h1; rfl
theorem ptEq_iff (a b : S27) : ((a.f0 == b.f0 && (a.f1 == b.f1)) = true) ↔ a = b := by
  rw [Bool.and_eq_true, beq_iff_eq, beq_iff_eq]
  constructor
  · rintro ⟨h0, h1⟩; exact pt_eq h0 h1
  · rintro rfl; exact ⟨rfl, rfl⟩
theorem pdrop (l : List S27) (i : Nat) (hi : i < l.length) : l.drop i = l.getD i z27 :: l.drop (i + 1) := by
  rw [List.drop_eq_getElem_cons hi, List.getD_eq_getElem?_getD, List.getElem?_eq_getElem hi]; rfl
theorem sub_ne {α : Type} {a b : α} {x y : List α} (h : List.Sublist (a :: x) (b :: y)) (n : a ≠ b) : List.Sublist (a :: x) y := by
  cases h with
  | cons _ h => exact h
  | cons_cons _ h => exact absurd rfl n
theorem tImplPart (v l : List S27) (hl : l.length ≤ 1048576) (hs : List.Sublist v l) : Told (fun k => impl_IsPartOf.f k v l) true := by
  have hv := hs.length_le
  have key : ∀ d (j i : Nat), j + d = l.length → i ≤ v.length → List.Sublist (v.drop i) (l.drop j) → Told (fun k => impl_IsPartOf.l0 k v (i : Int) l (l.length : Int) (j : Int)) true := by
    intro d
    induction d with
    | zero =>
      intro j i hj hi h
      have e : i = v.length := by
        have := h.length_le
        simp at this; omega
      exact Told.stepr fun k => by simp only [impl_IsPartOf.l0]; rw [if_neg (by omega)]; simp [e]
    | succ d ih =>
      intro j i hj hi h
      by_cases c : i < v.length
      · rw [pdrop v i c, pdrop l j (by omega)] at h
        by_cases e : v.getD i z27 = l.getD j z27
        · have h' : List.Sublist (v.drop (i + 1)) (l.drop (j + 1)) := by rw [e] at h; exact List.cons_sublist_cons.mp h
          refine Told.step (fun k => ?_) (ih (j + 1) (i + 1) (by omega) (by omega) h')
          simp only [impl_IsPartOf.l0]
          rw [if_pos (by omega), if_pos (by omega), if_pos (by omega), if_pos (by omega), if_pos (by omega), rdP, rdP, if_pos ((ptEq_iff _ _).mpr e), Gen.w64s (by omega), Gen.w64s (by omega)]
        · have h' := sub_ne h e
          rw [← pdrop v i c] at h'
          refine Told.step (fun k => ?_) (ih (j + 1) i (by omega) (by omega) h')
          simp only [impl_IsPartOf.l0]
          rw [if_pos (by omega), if_pos (by omega), if_pos (by omega), if_pos (by omega), if_pos (by omega), rdP, rdP, if_neg (fun q => e ((ptEq_iff _ _).mp q)), Gen.w64s (by omega)]
      · refine Told.step (fun k => ?_) (ih (j + 1) i (by omega) (by omega) (by rw [List.drop_of_length_le (by omega)]; exact List.nil_sublist _))
        simp only [impl_IsPartOf.l0]
        rw [if_pos (by omega), if_pos (by omega), if_pos (by omega), if_neg (by omega), Gen.w64s (by omega)]
  exact key l.length 0 0 (by omega) (by omega) hs
theorem wo_sub (l : List S27) (i : Int) : List.Sublist (wo l i) l := by
  unfold wo
  have h : List.Sublist (l.drop (i.toNat + 1)) (l.drop i.toNat) := by rw [← List.drop_drop]; exact List.drop_sublist 1 _
  have := List.Sublist.append (List.Sublist.refl (l.take i.toNat)) h
  rwa [List.take_append_drop] at this
theorem tEqSelf (l : List S27) (hl : l.length ≤ 1048576) : Told (fun k => impl_EqualLines.f k l l) true := by
  suffices h : Told (fun k => impl_Point_97.f k l l) true from Told.bind h (Told.ret _)
  refine Told.ite_t rfl ?_
  refine Told.scan (n := l.length) true (fun _ => True) (fun k i => impl_Point_97.l0 k l l (l.length : Int) i) (fun i hi h1 _ => ?_) (fun _ => Told.stepr fun k => by simp only [impl_Point_97.l0]; rw [if_neg (by omega)]) (fun _ => rfl)
  exact Told.step (fun k => by simp only [impl_Point_97.l0]; rw [if_pos (by omega), if_pos (by omega), if_pos (by omega), if_pos (by omega), if_neg (by simp), Gen.w64s (by omega)]) (h1 trivial)
theorem tImplCA (l : List S27) (i : Int) (hl : l.length ≤ 1048576) : Told (fun k => impl_CornerArea.f k l i) (crnA l i) := ⟨l.length + 2, fun k hk => implCorner l i hl (by omega)⟩
theorem drop_true {l : List S27} {b : Int} (h : (dropV l b).2 = true) : dropV l b = (wo l b, true) ∧ 1 ≤ b ∧ b ≤ l.length - 2 ∧ (wo l b).length + 1 = l.length := by
  unfold dropV at h ⊢
  split at h
  · rename_i h1
    split at h
    · rename_i h2
      rw [if_pos h1, if_pos h2]
      refine ⟨rfl, h1.2.1, h1.2.2, ?_⟩
      unfold wo
      simp
      omega
    · cases h
  · cases h
structure SQ (l v : List S27) (os : List (List S27)) (a : Int) : Prop where
  sub : List.Sublist v l
  sm : Sm v
  fst : v.getD 0 z27 = l.getD 0 z27
  lst : v.getD (v.length - 1) z27 = l.getD (l.length - 1) z27
  lm : ∀ k, k < os.length → lmV v (os.getD k []) ≤ lmV l (os.getD k [])
  fin : ∀ i : Nat, 1 ≤ i → i + 1 < v.length → ¬ (crnA v i < a ∧ canV v i os = true)
theorem wo_first {l : List S27} {b : Int} (h1 : 1 ≤ b) : (wo l b).getD 0 z27 = l.getD 0 z27 := by
  unfold wo
  cases l with
  | nil => simp
  | cons p l =>
    have : b.toNat = (b.toNat - 1) + 1 := by omega
    rw [this]; simp
theorem wo_last {l : List S27} {b : Int} (h1 : 1 ≤ b) (h2 : b ≤ l.length - 2) (hl : (wo l b).length + 1 = l.length) : (wo l b).getD ((wo l b).length - 1) z27 = l.getD (l.length - 1) z27 := by
  have e : (wo l b).length - 1 = l.length - 2 := by omega
  rw [e]
  unfold wo
  rw [List.getD_eq_getElem?_getD, List.getD_eq_getElem?_getD, List.getElem?_append_right (by simp; omega), List.getElem?_drop]
  congr 2
  simp; omega
def NInv (l : List S27) (os : List (List S27)) (a b : Int) (i : Nat) : Prop := (b = -1 ∧ ∀ j : Nat, 1 ≤ j → j < i → ¬ (crnA l j < a ∧ canV l j os = true)) ∨ (0 ≤ b ∧ b < l.length ∧ canV l b os = true)
theorem tSafeBest (os : List (List S27)) (ho : SmallSS os) (a : Int) (l : List S27) (hb : l.length ≤ 1048576) : ∀ d (i : Nat), 1 ≤ i → i + d + 1 = max l.length 2 → ∀ s, NInv l os a s i → ∃ b, NInv l os a b (max l.length 2 - 1) ∧ ∀ v, Told (fun k => impl_SafeSimplify.l1 k os a l b ((max l.length 2 - 1 : Nat) : Int)) v → Told (fun k => impl_SafeSimplify.l1 k os a l s (i : Int)) v := by
  intro d
  induction d with
  | zero =>
    intro i h1 hi s hs
    have e : max l.length 2 - 1 = i := by omega
    rw [e]; exact ⟨s, hs, fun v h => h⟩
  | succ d ih =>
    intro i h1 hi s hs
    have go : ∀ s', NInv l os a s' (i + 1) → (∀ v, Told (fun k => impl_SafeSimplify.l1 k os a l s' ((i + 1 : Nat) : Int)) v → Told (fun k => impl_SafeSimplify.l1 k os a l s (i : Int)) v) → ∃ b, NInv l os a b (max l.length 2 - 1) ∧ ∀ v, Told (fun k => impl_SafeSimplify.l1 k os a l b ((max l.length 2 - 1 : Nat) : Int)) v → Told (fun k => impl_SafeSimplify.l1 k os a l s (i : Int)) v := fun s' h h2 => by
      obtain ⟨b, hb, ht⟩ := ih (i + 1) (by omega) (by omega) s' h
      exact ⟨b, hb, fun v hv => h2 v (ht v hv)⟩
    have st : ∀ v, Told (fun k => if crnA l i < a then (if s < 0 then ((impl_CanDrop.f k l i os).bind fun t => if t = true then impl_SafeSimplify.l1 k os a l i ((i + 1 : Nat) : Int) else impl_SafeSimplify.l1 k os a l s ((i + 1 : Nat) : Int)) else ((impl_CornerArea.f k l s).bind fun t383 => (if crnA l i < t383 then ((impl_CanDrop.f k l i os).bind fun t384 => (if t384 = true then (impl_SafeSimplify.l1 k os a l i ((i + 1 : Nat) : Int)) else (impl_SafeSimplify.l1 k os a l s ((i + 1 : Nat) : Int)))) else (impl_SafeSimplify.l1 k os a l s ((i + 1 : Nat) : Int))))) else impl_SafeSimplify.l1 k os a l s ((i + 1 : Nat) : Int)) v → Told (fun k => impl_SafeSimplify.l1 k os a l s (i : Int)) v := fun v h =>
      Told.step (fun k => by simp only [impl_SafeSimplify.l1]; rw [Gen.w64 (n := (l.length : Int) - 1) (by omega) (by omega), if_pos (by omega), Gen.w64s (by omega)]) (Told.bind (tImplCA l i hb) h)
    have keep : ∀ {b : Int}, 0 ≤ b ∧ b < l.length ∧ canV l b os = true → ∀ j, NInv l os a b j := fun h j => .inr h
    by_cases c1 : crnA l i < a
    · by_cases c2 : canV l i os = true
      · rcases hs with ⟨rfl, hs⟩ | hs
        · exact go i (keep ⟨by omega, by omega, c2⟩ _) fun v h => st v (Told.ite_t c1 (Told.ite_t (by omega) (Told.bind (tImplCan l i os hb ho) (Told.ite_t c2 h))))
        · by_cases c3 : crnA l i < crnA l s
          · exact go i (keep ⟨by omega, by omega, c2⟩ _) fun v h => st v (Told.ite_t c1 (Told.ite_f (by omega) (Told.bind (tImplCA l s hb) (Told.ite_t c3 (Told.bind (tImplCan l i os hb ho) (Told.ite_t c2 h))))))
          · exact go s (keep hs _) fun v h => st v (Told.ite_t c1 (Told.ite_f (by omega) (Told.bind (tImplCA l s hb) (Told.ite_f c3 h))))
      · rcases hs with ⟨rfl, hs⟩ | hs
        · refine go (-1) (.inl ⟨rfl, fun j j1 j2 => ?_⟩) fun v h => st v (Told.ite_t c1 (Told.ite_t (by omega) (Told.bind (tImplCan l i os hb ho) (Told.ite_f c2 h))))
          by_cases e : j = i
          · subst e; exact fun q => c2 q.2
          · exact hs j j1 (by omega)
        · by_cases c3 : crnA l i < crnA l s
          · exact go s (keep hs _) fun v h => st v (Told.ite_t c1 (Told.ite_f (by omega) (Told.bind (tImplCA l s hb) (Told.ite_t c3 (Told.bind (tImplCan l i os hb ho) (Told.ite_f c2 h))))))
          · exact go s (keep hs _) fun v h => st v (Told.ite_t c1 (Told.ite_f (by omega) (Told.bind (tImplCA l s hb) (Told.ite_f c3 h))))
    · rcases hs with ⟨rfl, hs⟩ | hs
      · refine go (-1) (.inl ⟨rfl, fun j j1 j2 => ?_⟩) fun v h => st v (Told.ite_f c1 h)
        by_cases e : j = i
        · subst e; exact fun q => c1 q.1
        · exact hs j j1 (by omega)
      · exact go s (keep hs _) fun v h => st v (Told.ite_f c1 h)
theorem tSafeI (os : List (List S27)) (ho : SmallSS os) (a : Int) : ∀ n (l : List S27), l.length = n → l.length ≤ 1048576 → Sm l → ∃ v, SQ l v os a ∧ Told (fun k => impl_SafeSimplify.l0 k os a l) v := by
  intro n
  induction n with
  | zero => intro l hl _ hs; have := hs.1.1; omega
  | succ n ih =>
    intro l hl hb hs
    have h2 : 2 ≤ l.length := hs.1.1
    have em : max l.length 2 - 1 = l.length - 1 := by omega
    obtain ⟨b, hv, ht⟩ := tSafeBest os ho a l hb (l.length - 2) 1 (Nat.le_refl _) (by omega) (-1) (.inl ⟨rfl, fun j j1 j2 => by omega⟩)
    rw [em] at hv ht
    have st : ∀ v, Told (fun k => impl_SafeSimplify.l1 k os a l b ((l.length - 1 : Nat) : Int)) v → Told (fun k => impl_SafeSimplify.l0 k os a l) v := fun v h => Told.step (M := fun k => impl_SafeSimplify.l1 k os a l (-1) 1) (fun k => by simp only [impl_SafeSimplify.l0]) (ht v h)
    have en : ¬ (((l.length - 1 : Nat) : Int) < wrap64 ((l.length : Int) - 1)) := by unfold wrap64; omega
    rcases hv with ⟨rfl, hv⟩ | ⟨b0, b1, b2⟩
    · refine ⟨l, ⟨List.Sublist.refl l, hs, rfl, rfl, fun k _ => Int.le_refl _, fun i i1 i2 => hv i i1 (by omega)⟩, st _ (Told.stepr fun k => ?_)⟩
      simp only [impl_SafeSimplify.l1]; rw [if_neg en, if_pos (by omega)]
    · have b3 := of_decide_eq_true b2
      obtain ⟨q0, q1, q2, q3⟩ := drop_true b3.1
      rw [q0] at b3
      obtain ⟨v, hq, hvt⟩ := ih (wo l b) (by omega) (by omega) b3.2.1
      refine ⟨v, ⟨hq.sub.trans (wo_sub l b), hq.sm, hq.fst.trans (wo_first q1), hq.lst.trans (wo_last q1 q2 q3), fun k hk => ?_, hq.fin⟩, st _ (Told.step (fun k => by simp only [impl_SafeSimplify.l1]; rw [if_neg en, if_neg (by omega)]) (Told.bind (Told.of (implWo l b (by omega) b1 hb)) hvt))⟩
      have := b3.2.2 k hk
      unfold canChk at this
      have := hq.lm k hk
      simp only at *
      omega
theorem dOthersL {xs : List Int} : ∀ (d : Nat) (p s : Int) (l : List (List S27)), CK xs p → l.length + d ≤ 100 → (∀ i, i < l.length → (l.getD i []).length ≤ 1048576) → ∃ l' p' s', Told (fun k => spec_l12Others.l0 k l (d : Int) xs p s) (l', p', s') ∧ SmallSS l' ∧ CK xs p' := by
  intro d
  induction d with
  | zero => intro p s l c h1 h2; exact ⟨l, p, s, Told.stepr fun k => by simp only [spec_l12Others.l0]; rw [if_neg (by omega)], ⟨by omega, h2⟩, c⟩
  | succ d ih =>
    intro p s l c h1 h2
    obtain ⟨m, p1, s1, t, g1, g2, c1⟩ := d6Draw c s
    have w : wrap64 (((d + 1 : Nat) : Int) - 1) = (d : Int) := by rw [Gen.w64 (by omega) (by omega)]; omega
    obtain ⟨l', p', s', t', h3, h4⟩ := ih p1 s1 (l ++ [m]) c1 (by simp; omega) (fun i hi => by
      rw [List.getD_eq_getElem?_getD, List.getElem?_append]
      split
      · rename_i h; have := h2 i h; rw [List.getD_eq_getElem?_getD] at this; exact this
      · rename_i h
        have : i - l.length = 0 := by simp at hi; omega
        rw [this]; simp; omega)
    refine ⟨l', p', s', ?_, h3, h4⟩
    refine Told.step (fun k => by simp only [spec_l12Others.l0]; rw [if_pos (by omega)]) ?_
    refine Told.bind t ?_
    have fit : l.length < 5864062014805 := by omega
    refine Told.ite_t fit ?_
    rw [w]; exact t'
theorem dSafe (xs : List Int) (h : xs.length ≤ 1048576) : ∃ l os a, Told (fun k => spec_DrawSafeSimplify.f k xs) (l, os, a) ∧ l.length ≤ 11 ∧ SmallSS os := by
  obtain ⟨s, t⟩ := dNew xs h
  obtain ⟨l, p1, s1, t1, g1, g2, c1⟩ := d6Any (ck0 h) s
  obtain ⟨b, p2, s2, e2, b0, b1, _, c2⟩ := dBelow c1 s1 4
  have b1 := b1 (by omega)
  obtain ⟨os, p3, s3, t3, h3, c3⟩ := dOthersL b.toNat p2 s2 [] c2 (by simp; omega) (fun i hi => by simp at hi)
  obtain ⟨a, p4, s4, e4, _, c4⟩ := dInt c3 s3 [0, 1, 5, 20, 100, 99999, (-1)] (by simp)
  have eb : ((b.toNat : Nat) : Int) = b := by omega
  rw [eb] at t3
  exact ⟨l, os, a, Told.bind t (Told.bind t1 (Told.bind (Told.bind (Told.of e2) t3) (Told.bind (Told.of e4) (Told.ret _)))), g2, h3⟩
theorem dDrop (xs : List Int) (h : xs.length ≤ 1048576) : ∃ l a, Told (fun k => spec_DrawDropPoint.f k xs) (l, a) ∧ l.length ≤ 11 := by
  obtain ⟨s, t⟩ := dNew xs h
  obtain ⟨l, p1, s1, t1, g1, g2, c1⟩ := d6Any (ck0 h) s
  obtain ⟨b, p2, s2, e2, _, _, _, c2⟩ := dBelow c1 s1 8
  exact ⟨l, _, Told.bind t (Told.bind t1 (Told.bind (Told.of e2) (Told.ret _))), g2⟩
theorem tDropPart (xs : List Int) (h : xs.length ≤ 1048576) : Told (fun k => (spec_DrawDropPoint.f k xs).bind fun bt430 => ((impl_DropPoint.f k bt430.1 bt430.2).bind fun bt434 => (if bt434.2 = true then (if (bt434.1.length : Int) = (wrap64 ((bt430.1.length : Int) - 1)) then ((impl_IsPartOf.f k bt434.1 bt430.1).bind fun t438 => (some t438)) else (some false)) else (some true)))) true := by
  obtain ⟨l, a, t, hl⟩ := dDrop xs h
  refine Told.bind t (Told.bind (tImplDrop l a (by omega)) ?_)
  by_cases c : (dropV l a).2 = true
  · obtain ⟨q0, q1, q2, q3⟩ := drop_true c
    rw [q0]
    have w : wrap64 ((l.length : Int) - 1) = (l.length : Int) - 1 := Gen.w64 (by omega) (by omega)
    exact Told.ite_t rfl (Told.ite_t (by dsimp only; omega) (Told.bind (tImplPart _ l (by omega) (wo_sub l a)) (Told.ret _)))
  · exact Told.ite_f c (Told.ret _)
theorem ma_get (l : List S27) (os : List (List S27)) (i : Nat) (hi : i < os.length) : rd (maV l os) (i : Int) = lmV l (os.getD i []) := by
  unfold maV rd
  rw [foldl_push (fun i => lmV l (os.getD i []))]
  rw [List.getD_eq_getElem?_getD, Int.toNat_natCast, List.nil_append, List.getElem?_map, List.getElem?_range' (by omega)]
  simp
theorem tNoLess (l v : List S27) (os : List (List S27)) (ho : SmallSS os) (h : ∀ k, k < os.length → lmV v (os.getD k []) ≤ lmV l (os.getD k [])) : Told (fun k => laws_noLess.f k (maV l os) (maV v os)) true := by
  have h1 := ma_len l os
  have h2 := ma_len v os
  have hn := ho.1
  refine Told.scan (n := os.length) true (fun _ => True) (fun k i => laws_noLess.l0 k (maV l os) (maV v os) i) (fun i hi g1 _ => ?_) (fun _ => Told.stepr fun k => by simp only [laws_noLess.l0]; rw [if_neg (by omega)]; simp [h1, h2]) (fun _ => rfl)
  have := h i hi
  exact Told.step (fun k => by simp only [laws_noLess.l0]; rw [if_pos (by omega), if_pos (by omega), if_pos (by omega), ma_get _ _ _ hi, ma_get _ _ _ hi, if_neg (by omega), Gen.w64s (by omega)]) (g1 trivial)
theorem pure_FnSafe : ∀ (l0 : (List Int)), (List.length l0 ≤ maxLen ∧ ∀ y ∈ l0, (0 ≤ y ∧ y ≤ 255)) → ∃ k, laws_FnSafe.f k l0 = some true := by
  intro xs ⟨_, _⟩
  apply Told.ex
  refine Told.bind (Told.ret _) ?_
  by_cases hb : (xs.length : Int) > 1048576
  · exact Told.ite_t (decide_eq_true hb) (Told.ret _)
  have hx : xs.length ≤ 1048576 := by omega
  refine Told.ite_f (by simpa using hb) ?_
  obtain ⟨l, os, a, t, hl, ho⟩ := dSafe xs hx
  refine Told.bind t ?_
  have l1 : l.length ≤ 1048576 := by omega
  have tma := tImplMA l os l1 ho
  by_cases hs : Sm l
  · obtain ⟨v, q, tv⟩ := tSafeI os ho a l.length l rfl l1 hs
    have hv := q.sub.length_le
    have v1 : v.length ≤ 1048576 := by omega
    have v2 : 2 ≤ v.length := q.sm.1.1
    have l2 : 2 ≤ l.length := hs.1.1
    refine Told.bind (Told.bind (Told.of (implClone l l1)) (Told.bind (tImplSimple l l1) (Told.ite_t (decide_eq_true hs) tv))) (Told.bind (tImplPart v l l1 q.sub) (Told.ite_t rfl (Told.bind tma (Told.bind (tImplMA v os v1 ho) (Told.bind (tNoLess l v os ho q.lm) ?_)))))
    refine Told.step (fun k => by simp only [laws_FnSafe.j0]; rw [if_neg (by simp)]) ?_
    refine Told.bind (tImplSimple l l1) (Told.ite_t (decide_eq_true hs) (Told.bind (tImplSimple v v1) (Told.ite_t (decide_eq_true q.sm) ?_)))
    have n0 : 0 < (v.length : Int) := by omega
    have n1 : 0 < (l.length : Int) := by omega
    refine Told.ite_t n0 (Told.ite_t n1 ?_)
    have e0 : rd_T27 v 0 = rd_T27 l 0 := q.fst
    have wl : wrap64 ((l.length : Int) - 1) = ((l.length - 1 : Nat) : Int) := by rw [Gen.w64 (by omega) (by omega)]; omega
    have wv : wrap64 ((v.length : Int) - 1) = ((v.length - 1 : Nat) : Int) := by rw [Gen.w64 (by omega) (by omega)]; omega
    have e1 : rd_T27 v (wrap64 ((v.length : Int) - 1)) = rd_T27 l (wrap64 ((l.length : Int) - 1)) := by rw [wl, wv]; exact q.lst
    refine Told.ite_f (by rw [e0]; simp) (Told.ite_t (by rw [wv]; omega) (Told.ite_t (by rw [wv]; omega) (Told.ite_t (by rw [wl]; omega) (Told.ite_t (by rw [wl]; omega) ?_))))
    rw [e1]
    refine Told.step (fun k => by simp only [laws_FnSafe.j1]; rw [if_neg (by simp)]) ?_
    have key : ∀ d (i : Nat), 1 ≤ i → i + d + 1 = v.length → Told (fun k => laws_FnSafe.l0 k xs os a v (i : Int)) true := by
      intro d
      induction d with
      | zero => intro i i1 hi; exact Told.step (fun k => by simp only [laws_FnSafe.l0]; rw [Gen.w64s (by omega), if_neg (by omega)]) (tDropPart xs hx)
      | succ d ih =>
        intro i i1 hi
        refine Told.step (fun k => by simp only [laws_FnSafe.l0]; rw [Gen.w64s (by omega), if_pos (by omega)]) (Told.bind (tImplCA v i v1) ?_)
        by_cases c : crnA v i < a
        · exact Told.ite_t c (Told.bind (tImplCan v i os v1 ho) (Told.ite_f (fun h => q.fin i i1 (by omega) ⟨c, h⟩) (ih (i + 1) (by omega) (by omega))))
        · exact Told.ite_f c (ih (i + 1) (by omega) (by omega))
    exact key (v.length - 2) 1 (Nat.le_refl _) (by omega)
  · refine Told.bind (Told.bind (Told.of (implClone l l1)) (Told.bind (tImplSimple l l1) (Told.ite_f (fun h => hs (of_decide_eq_true h)) (Told.ret _)))) (Told.bind (tImplPart l l l1 (List.Sublist.refl l)) (Told.ite_t rfl (Told.bind tma (Told.bind tma (Told.bind (tNoLess l l os ho fun k _ => Int.le_refl _) ?_)))))
    exact Told.step (fun k => by simp only [laws_FnSafe.j0]; rw [if_neg (by simp)]) (Told.bind (tImplSimple l l1) (Told.ite_f (fun h => hs (of_decide_eq_true h)) (Told.bind (tEqSelf l l1) (Told.ite_t rfl (tDropPart xs hx)))))
end Go.Proofs.Ytbackoeakepngaa.MFnSafe
