/- The plain law behind FnSimplified: what the printed functions compute answers true; no condition beyond the arguments' ranges. -/
import Derived.Test.YtbackoeakepngaaZFnSimplifiedTold
import Derived.Laws.BitsLemmas
import Derived.Test.YtbackoeakepngaaZFnSimplifiedMx9
import Derived.Test.YtbackoeakepngaaZFnSimplifiedOpn
namespace Go.Proofs.Ytbackoeakepngaa.MFnSimplified
open Go Go.RowKit Go.Proofs.YtbackoeakepngaaW.PrintWords Go.Proofs.YtbackoeakepngaaW.PrintLast Go.Proofs.YtbackoeakepngaaW.PrintMore Go.Proofs.Ytbackoeakepngaa.Open
set_option linter.unusedVariables false
set_option linter.unusedSimpArgs false
theorem and255 (n : Int) : 0 ≤ bits .and .i64 n 255 ∧ bits .and .i64 n 255 ≤ 255 := by
  have h : (BitVec.ofInt 64 255).toNat = 2 ^ 8 - 1 := by decide
  have key : (BitVec.ofInt 64 n &&& BitVec.ofInt 64 255).toNat = (n % ((2 ^ 64 : Nat) : Int)).toNat % 2 ^ 8 := by
    rw [BitVec.toNat_and, BitVec.toNat_ofInt, h, Nat.and_two_pow_sub_one_eq_mod]
  show 0 ≤ IntKind.i64.wrap ((BitVec.ofInt 64 n &&& BitVec.ofInt 64 255).toNat : Nat) ∧ IntKind.i64.wrap ((BitVec.ofInt 64 n &&& BitVec.ofInt 64 255).toNat : Nat) ≤ 255
  rw [key, IntKind.wrap_i64]
  omega
structure CK (xs : List Int) (p : Int) : Prop where
  lo : 0 ≤ p
  hi : p ≤ xs.length
  sm : xs.length ≤ 1048576
theorem dByte {xs : List Int} {p : Int} (c : CK xs p) (s : Int) : ∃ b p' s', spec_l1Byte.f xs p s = some (b, p', s') ∧ 0 ≤ b ∧ b ≤ 255 ∧ CK xs p' := by
  obtain ⟨a, b, d⟩ := c
  unfold spec_l1Byte.f
  by_cases h : p < (xs.length : Int)
  · rw [if_pos h, if_pos a]
    refine ⟨_, _, _, rfl, (and255 _).1, (and255 _).2, ?_⟩
    rw [Gen.w64 (by omega) (by omega)]
    exact ⟨by omega, by omega, d⟩
  · rw [if_neg h]
    exact ⟨_, _, _, rfl, (and255 _).1, (and255 _).2, a, b, d⟩
theorem tmod_bd {b n : Int} (h : 0 ≤ b) (hn : 0 < n) : 0 ≤ Int.tmod b n ∧ Int.tmod b n < n := by
  rw [Int.tmod_eq_emod_of_nonneg h]
  exact ⟨Int.emod_nonneg _ (by omega), Int.emod_lt_of_pos _ hn⟩
theorem dBelow {xs : List Int} {p : Int} (c : CK xs p) (s n : Int) : ∃ b p' s', spec_l1Below.f xs p s n = some (b, p', s') ∧ 0 ≤ b ∧ (0 < n → b < n) ∧ (n ≤ 0 → b = 0) ∧ CK xs p' := by
  unfold spec_l1Below.f
  by_cases h : n ≤ 0
  · rw [if_pos h]; exact ⟨_, _, _, rfl, by omega, by omega, fun _ => rfl, c⟩
  · rw [if_neg h]
    obtain ⟨b, p1, s1, e, b0, b1, c1⟩ := dByte c s
    by_cases h2 : n ≤ 256
    · rw [if_pos h2, e]
      simp only [Option.bind_some]
      rw [if_neg (by omega)]
      exact ⟨_, _, _, rfl, (tmod_bd b0 (by omega)).1, fun _ => (tmod_bd b0 (by omega)).2, by omega, c1⟩
    · rw [if_neg h2, e]
      obtain ⟨d, p2, s2, e2, d0, d1, c2⟩ := dByte c1 s1
      obtain ⟨g, p3, s3, e3, g0, g1, c3⟩ := dByte c2 s2
      simp only [Option.bind_some, e2, e3]
      rw [if_neg (by omega)]
      have w : wrap64 ((wrap64 ((wrap64 (b * 65536)) + (wrap64 (d * 256)))) + g) = b * 65536 + d * 256 + g := by
        rw [Gen.w64 (n := b * 65536) (by omega) (by omega), Gen.w64 (n := d * 256) (by omega) (by omega), Gen.w64 (n := b * 65536 + d * 256) (by omega) (by omega), Gen.w64 (by omega) (by omega)]
      rw [w]
      exact ⟨_, _, _, rfl, (tmod_bd (by omega) (by omega)).1, fun _ => (tmod_bd (by omega) (by omega)).2, by omega, c3⟩
theorem dInt {xs : List Int} {p : Int} (c : CK xs p) (s : Int) (l : List Int) (hl : 0 < l.length) : ∃ b p' s', spec_l1Int.f xs p s l = some (b, p', s') ∧ b ∈ l ∧ CK xs p' := by
  unfold spec_l1Int.f
  obtain ⟨b, p1, s1, e, b0, b1, _, c1⟩ := dBelow c s (l.length : Int)
  have b1 := b1 (by omega)
  rw [e]
  simp only [Option.bind_some]
  rw [if_pos b0, if_pos b1]
  refine ⟨_, _, _, rfl, ?_, c1⟩
  unfold rd
  rw [List.getD_eq_getElem?_getD, List.getElem?_eq_getElem (by omega)]
  exact List.getElem_mem _
theorem dNew (xs : List Int) (h : xs.length ≤ 1048576) : ∃ s, Told (fun k => spec_l1New.f k xs) (xs, 0, s) := by
  have key : ∀ d (i : Nat), i + d = xs.length → ∀ s, ∃ s', Told (fun k => spec_l1New.l0 k xs s (i : Int)) (xs, 0, s') := by
    intro d
    induction d with
    | zero => intro i hi s; exact ⟨s, Told.stepr fun k => by simp only [spec_l1New.l0]; rw [if_neg (by omega)]⟩
    | succ d ih =>
      intro i hi s
      by_cases h4 : (i : Int) < 4000
      · obtain ⟨s', hs⟩ := ih (i + 1) (by omega) _
        exact ⟨s', Told.step (fun k => by simp only [spec_l1New.l0]; rw [if_pos (by omega), if_pos h4, if_pos (by omega), Gen.w64s (by omega)]) hs⟩
      · exact ⟨s, Told.stepr fun k => by simp only [spec_l1New.l0]; rw [if_pos (by omega), if_neg h4]⟩
  exact key xs.length 0 (by omega) _
theorem ck0 {xs : List Int} (h : xs.length ≤ 1048576) : CK xs 0 := ⟨by omega, by omega, h⟩
theorem d4Draw {xs : List Int} {p : Int} (c : CK xs p) (s : Int) : ∃ x y p' s', spec_l4Draw.f xs p s = some (x, y, p', s') ∧ 0 ≤ x ∧ x < 12 ∧ 0 ≤ y ∧ y < 12 ∧ CK xs p' := by
  unfold spec_l4Draw.f
  obtain ⟨x, p1, s1, e1, x0, x1, _, c1⟩ := dBelow c s 12
  obtain ⟨y, p2, s2, e2, y0, y1, _, c2⟩ := dBelow c1 s1 12
  simp only [e1, e2, Option.bind_some]
  exact ⟨_, _, _, _, rfl, x0, x1 (by omega), y0, y1 (by omega), c2⟩
theorem d4Raw {xs : List Int} {p : Int} (c : CK xs p) (s : Int) : ∃ x p' s', spec_l4Raw.f xs p s = some (x, p', s') ∧ CK xs p' := by
  unfold spec_l4Raw.f
  obtain ⟨x, p1, s1, e1, x0, c1⟩ := dInt c s [(-1), 0, 200, 201, 1000, 1001, 9223372036854775807, (-9223372036854775808)] (by simp)
  simp only [e1, Option.bind_some]
  exact ⟨_, _, _, rfl, c1⟩
theorem d4Any {xs : List Int} {p : Int} (c : CK xs p) (s : Int) : ∃ x y p' s', spec_l4Any.f xs p s = some (x, y, p', s') ∧ CK xs p' := by
  unfold spec_l4Any.f
  obtain ⟨x, y, p1, s1, e1, _, _, _, _, c1⟩ := d4Draw c s
  obtain ⟨b, p2, s2, e2, _, _, _, c2⟩ := dBelow c1 s1 12
  obtain ⟨z, p3, s3, e3, c3⟩ := d4Raw c2 s2
  simp only [e1, e2, e3, Option.bind_some]
  by_cases h : b = 0
  · rw [if_pos h]; exact ⟨_, _, _, _, rfl, c3⟩
  · rw [if_neg h]
    by_cases h1 : b = 1
    · rw [if_pos h1]; exact ⟨_, _, _, _, rfl, c3⟩
    · rw [if_neg h1]; exact ⟨_, _, _, _, rfl, c2⟩
theorem dl_min (a b : Int) : ∃ v, spec_Min.f a b = some v := by unfold spec_Min.f; split <;> exact ⟨_, rfl⟩
theorem d6DrawL {xs : List Int} : ∀ (d : Nat) (p s : Int) (l : List S27), CK xs p → 1 ≤ l.length → l.length + d ≤ 100 → ∃ l' p' s', Told (fun k => spec_l6Draw.l0 k l (d : Int) xs p s) (l', p', s') ∧ 1 ≤ l'.length ∧ l'.length ≤ l.length + d ∧ CK xs p' := by
  intro d
  induction d with
  | zero => intro p s l c h1 h2; exact ⟨l, p, s, Told.stepr fun k => by simp only [spec_l6Draw.l0]; rw [if_neg (by omega)], h1, by omega, c⟩
  | succ d ih =>
    intro p s l c h1 h2
    obtain ⟨x, p1, s1, e1, _, _, _, c1⟩ := dBelow c s 14
    obtain ⟨y, p2, s2, e2, _, _, _, c2⟩ := dBelow c1 s1 4
    obtain ⟨v, ev⟩ := dl_min 200 (wrap64 (((rd_T27 l (wrap64 ((l.length : Int) - 1))).f1) + y))
    have w : wrap64 (((d + 1 : Nat) : Int) - 1) = (d : Int) := by rw [Gen.w64 (by omega) (by omega)]; omega
    have fit : l.length < 8796093022208 := by omega
    by_cases h : (x == ((rd_T27 l (wrap64 ((l.length : Int) - 1))).f0) && (v == ((rd_T27 l (wrap64 ((l.length : Int) - 1))).f1))) = true
    · obtain ⟨l', p', s', t, g1, g2, g3⟩ := ih p2 s2 (l ++ [⟨wrap64 (x + 1), v⟩]) c2 (by simp) (by simp; omega)
      refine ⟨l', p', s', Told.step (fun k => ?_) t, g1, by simp at g2; omega, g3⟩
      simp only [spec_l6Draw.l0]
      rw [if_pos (by omega), if_pos (by rw [Gen.w64 (by omega) (by omega)]; omega), if_pos (by rw [Gen.w64 (by omega) (by omega)]; omega)]
      simp only [e1, e2, ev, Option.bind_some]
      rw [if_pos h, if_pos fit, w]
    · obtain ⟨l', p', s', t, g1, g2, g3⟩ := ih p2 s2 (l ++ [⟨x, v⟩]) c2 (by simp) (by simp; omega)
      refine ⟨l', p', s', Told.step (fun k => ?_) t, g1, by simp at g2; omega, g3⟩
      simp only [spec_l6Draw.l0]
      rw [if_pos (by omega), if_pos (by rw [Gen.w64 (by omega) (by omega)]; omega), if_pos (by rw [Gen.w64 (by omega) (by omega)]; omega)]
      simp only [e1, e2, ev, Option.bind_some]
      rw [if_neg h, if_pos fit, w]
theorem d6Draw {xs : List Int} {p : Int} (c : CK xs p) (s : Int) : ∃ l p' s', Told (fun k => spec_l6Draw.f k xs p s) (l, p', s') ∧ 1 ≤ l.length ∧ l.length ≤ 10 ∧ CK xs p' := by
  obtain ⟨x, y, p1, s1, e1, _, _, _, _, c1⟩ := d4Draw c s
  obtain ⟨b, p2, s2, e2, b0, b1, _, c2⟩ := dBelow c1 s1 5
  have b1 := b1 (by omega)
  obtain ⟨l, p3, s3, t, g1, g2, g3⟩ := d6DrawL (1 + b).toNat p2 s2 [⟨x, y⟩] c2 (by simp) (by simp; omega)
  refine ⟨l, p3, s3, Told.bind (Told.of e1) (Told.bind (Told.of e2) (Told.eq (fun k => ?_) t)), g1, by simp at g2; omega, g3⟩
  rw [show (((1 + b).toNat : Nat) : Int) = wrap64 (1 + b) by rw [Gen.w64 (by omega) (by omega)]; omega]
theorem d6AnyL {xs : List Int} (p s : Int) : ∀ (d : Nat) (l : List S27), l.length + d = 11 → ∃ l', Told (fun k => spec_l6Any.l0 k l xs p s) (l', p, s) ∧ l'.length = 11 := by
  intro d
  induction d with
  | zero => intro l h; exact ⟨l, Told.stepr fun k => by simp only [spec_l6Any.l0]; rw [if_neg (by omega)], by omega⟩
  | succ d ih =>
    intro l h
    obtain ⟨l', t, g⟩ := ih (l ++ [⟨(l.length : Int), wrap64 (50 + (l.length : Int))⟩]) (by simp; omega)
    exact ⟨l', Told.step (fun k => by simp only [spec_l6Any.l0]; rw [if_pos (by omega), if_pos (by omega)]) t, g⟩
theorem d6Any {xs : List Int} {p : Int} (c : CK xs p) (s : Int) : ∃ l p' s', Told (fun k => spec_l6Any.f k xs p s) (l, p', s') ∧ 1 ≤ l.length ∧ l.length ≤ 11 ∧ CK xs p' := by
  obtain ⟨l, p1, s1, t1, g1, g2, c1⟩ := d6Draw c s
  obtain ⟨b, p2, s2, e2, b0, _, _, c2⟩ := dBelow c1 s1 12
  by_cases h0 : b = 0
  · obtain ⟨x, y, p3, s3, e3, c3⟩ := d4Any c2 s2
    exact ⟨_, p3, s3, Told.bind t1 (Told.bind (Told.of e2) (Told.ite_t h0 (Told.bind (Told.of e3) (Told.ite_t (by dsimp only; omega) (Told.ret _))))), by simpa using g1, by simp; omega, c3⟩
  by_cases h1 : b = 1
  · have w : wrap64 ((l.length : Int) - 1) = (l.length : Int) - 1 := Gen.w64 (by omega) (by omega)
    exact ⟨_, p2, s2, Told.bind t1 (Told.bind (Told.of e2) (Told.ite_f h0 (Told.ite_t h1 (Told.ite_t (by dsimp only; omega) (Told.ite_t (by dsimp only; omega) (Told.ite_t (by dsimp only; omega) (Told.ret _))))))), by simp, by simp; omega, c2⟩
  by_cases h2 : b = 2
  · exact ⟨_, p2, s2, Told.bind t1 (Told.bind (Told.of e2) (Told.ite_f h0 (Told.ite_f h1 (Told.ite_t h2 (Told.ite_t (by dsimp only; omega) (Told.ret _)))))), by dsimp only; rw [List.length_take]; omega, by dsimp only; rw [List.length_take]; omega, c2⟩
  by_cases h3 : b = 3
  · obtain ⟨l', t', g'⟩ := d6AnyL (xs := xs) p2 s2 (11 - l.length) l (by omega)
    exact ⟨_, p2, s2, Told.bind t1 (Told.bind (Told.of e2) (Told.ite_f h0 (Told.ite_f h1 (Told.ite_f h2 (Told.ite_t h3 t'))))), by omega, by omega, c2⟩
  · exact ⟨_, p2, s2, Told.bind t1 (Told.bind (Told.of e2) (Told.ite_f h0 (Told.ite_f h1 (Told.ite_f h2 (Told.ite_f h3 (Told.ret _)))))), g1, by dsimp only; omega, c2⟩
theorem implInRange (a b c : Int) : impl_InRange.f a b c = some (decide (b ≤ a ∧ a ≤ c)) := by
  unfold impl_InRange.f; by_cases h : b ≤ a <;> simp [h]
def Pt (x y : Int) : Prop := 0 ≤ x ∧ x ≤ 200 ∧ 0 ≤ y ∧ y ≤ 200
instance (x y : Int) : Decidable (Pt x y) := by unfold Pt; infer_instance
theorem implIsPoint (x y : Int) : impl_IsPoint.f x y = some (decide (Pt x y)) := by
  unfold impl_IsPoint.f
  rw [implInRange, implInRange]
  simp only [Option.bind_some]
  by_cases h : 0 ≤ x ∧ x ≤ 200
  · rw [if_pos (by simpa using h)]; simp [Pt, h]
  · rw [if_neg (by simpa using h)]; simp only [Option.some.injEq, Bool.false_eq, decide_eq_false_iff_not]; unfold Pt; omega
def D (n : Int) : Prop := -200 ≤ n ∧ n ≤ 200
theorem D_of {x y : Int} (hx : 0 ≤ x ∧ x ≤ 200) (hy : 0 ≤ y ∧ y ≤ 200) : wrap64 (x - y) = x - y ∧ D (x - y) := ⟨Gen.w64 (by omega) (by omega), by unfold D; omega⟩
theorem D_mul {x y : Int} (hx : D x) (hy : D y) : wrap64 (x * y) = x * y ∧ -40000 ≤ x * y ∧ x * y ≤ 40000 := by
  have := Gen.mul_bd (m := 200) (n := 200) hx hy
  exact ⟨Gen.w64 (by omega) (by omega), by omega, by omega⟩
def crossZ (ax ay bx bY px py : Int) : Int := (bx - ax) * (py - ay) - (bY - ay) * (px - ax)
theorem crossZ_bd {ax ay bx bY px py : Int} (ha : Pt ax ay) (hb : Pt bx bY) (hp : Pt px py) :
    wrap64 ((wrap64 ((wrap64 (bx - ax)) * (wrap64 (py - ay)))) - (wrap64 ((wrap64 (bY - ay)) * (wrap64 (px - ax))))) = crossZ ax ay bx bY px py ∧ -80000 ≤ crossZ ax ay bx bY px py ∧ crossZ ax ay bx bY px py ≤ 80000 := by
  obtain ⟨a1, a2, a3, a4⟩ := ha; obtain ⟨b1, b2, b3, b4⟩ := hb; obtain ⟨p1, p2, p3, p4⟩ := hp
  obtain ⟨e1, d1⟩ := D_of ⟨b1, b2⟩ ⟨a1, a2⟩
  obtain ⟨e2, d2⟩ := D_of ⟨p3, p4⟩ ⟨a3, a4⟩
  obtain ⟨e3, d3⟩ := D_of ⟨b3, b4⟩ ⟨a3, a4⟩
  obtain ⟨e4, d4⟩ := D_of ⟨p1, p2⟩ ⟨a1, a2⟩
  obtain ⟨m1, n1, o1⟩ := D_mul d1 d2
  obtain ⟨m2, n2, o2⟩ := D_mul d3 d4
  rw [e1, e2, e3, e4, m1, m2]
  unfold crossZ
  exact ⟨Gen.w64 (by omega) (by omega), by omega, by omega⟩
theorem implCross {ax ay bx bY px py : Int} (ha : Pt ax ay) (hb : Pt bx bY) (hp : Pt px py) : impl_cross.f ax ay bx bY px py = some (crossZ ax ay bx bY px py) := by
  unfold impl_cross.f; rw [(crossZ_bd ha hb hp).1]
def farZ (ax ay bx bY : Int) : Int := (ax - bx) * (ax - bx) + (ay - bY) * (ay - bY)
theorem farZ_bd {ax ay bx bY : Int} (ha : Pt ax ay) (hb : Pt bx bY) :
    wrap64 ((wrap64 ((wrap64 (ax - bx)) * (wrap64 (ax - bx)))) + (wrap64 ((wrap64 (ay - bY)) * (wrap64 (ay - bY))))) = farZ ax ay bx bY ∧ 0 ≤ farZ ax ay bx bY ∧ farZ ax ay bx bY ≤ 80000 := by
  obtain ⟨a1, a2, a3, a4⟩ := ha; obtain ⟨b1, b2, b3, b4⟩ := hb
  obtain ⟨e1, d1⟩ := D_of ⟨a1, a2⟩ ⟨b1, b2⟩
  obtain ⟨e2, d2⟩ := D_of ⟨a3, a4⟩ ⟨b3, b4⟩
  obtain ⟨m1, n1, o1⟩ := D_mul d1 d1
  obtain ⟨m2, n2, o2⟩ := D_mul d2 d2
  have s1 : 0 ≤ (ax - bx) * (ax - bx) := by
    rcases Int.le_total 0 (ax - bx) with h | h
    · exact Int.mul_nonneg h h
    · exact Int.mul_nonneg_of_nonpos_of_nonpos h h
  have s2 : 0 ≤ (ay - bY) * (ay - bY) := by
    rcases Int.le_total 0 (ay - bY) with h | h
    · exact Int.mul_nonneg h h
    · exact Int.mul_nonneg_of_nonpos_of_nonpos h h
  rw [e1, e2, m1, m2]
  unfold farZ
  exact ⟨Gen.w64 (by omega) (by omega), by omega, by omega⟩
theorem farZ_zero {ax ay bx bY : Int} (h : farZ ax ay bx bY = 0) : ax = bx ∧ ay = bY := by
  unfold farZ at h
  have s1 : 0 ≤ (ax - bx) * (ax - bx) := by
    rcases Int.le_total 0 (ax - bx) with h | h
    · exact Int.mul_nonneg h h
    · exact Int.mul_nonneg_of_nonpos_of_nonpos h h
  have s2 : 0 ≤ (ay - bY) * (ay - bY) := by
    rcases Int.le_total 0 (ay - bY) with h | h
    · exact Int.mul_nonneg h h
    · exact Int.mul_nonneg_of_nonpos_of_nonpos h h
  have e1 : (ax - bx) * (ax - bx) = 0 := by omega
  have e2 : (ay - bY) * (ay - bY) = 0 := by omega
  have := Int.mul_eq_zero.1 e1; have := Int.mul_eq_zero.1 e2; omega
theorem implFar (ax ay bx bY : Int) : impl_FarSquared.f ax ay bx bY = some (if Pt ax ay ∧ Pt bx bY then farZ ax ay bx bY else -1) := by
  unfold impl_FarSquared.f
  rw [implIsPoint, implIsPoint]
  simp only [Option.bind_some, decide_eq_true_eq]
  by_cases ha : Pt ax ay <;> by_cases hb : Pt bx bY
  · rw [if_pos ha, if_pos hb, if_pos ⟨ha, hb⟩, (farZ_bd ha hb).1]
  · rw [if_pos ha, if_neg hb, if_neg (fun h => hb h.2)]
  · rw [if_neg ha, if_neg (fun h => ha h.1)]
  · rw [if_neg ha, if_neg (fun h => ha h.1)]
theorem implFar_ok {ax ay bx bY : Int} (ha : Pt ax ay) (hb : Pt bx bY) : impl_FarSquared.f ax ay bx bY = some (farZ ax ay bx bY) := by rw [implFar, if_pos ⟨ha, hb⟩]
def Sg (ax ay bx bY : Int) : Prop := Pt ax ay ∧ Pt bx bY ∧ ¬ (ax = bx ∧ ay = bY)
instance (a b c d : Int) : Decidable (Sg a b c d) := by unfold Sg; infer_instance
theorem implIsSegment (a b c d : Int) : impl_IsSegment.f a b c d = some (decide (Sg a b c d)) := by
  unfold impl_IsSegment.f
  rw [implIsPoint, implIsPoint]
  simp only [Option.bind_some, decide_eq_true_eq]
  by_cases h1 : Pt a b
  · rw [if_pos h1]
    by_cases h2 : Pt c d
    · rw [if_pos h2]
      congr 1
      rw [Bool.eq_iff_iff, decide_eq_true_eq]
      simp only [Bool.or_eq_true, Bool.not_eq_true', beq_eq_false_iff_ne, ne_eq, Sg, h1, h2, true_and]
      omega
    · rw [if_neg h2]; simp [Sg, h2]
  · rw [if_neg h1]; simp [Sg, h1]
def dotZ (ax ay bx bY px py : Int) : Int := (px - ax) * (bx - ax) + (py - ay) * (bY - ay)
theorem dotZ_bd {ax ay bx bY px py : Int} (ha : Pt ax ay) (hb : Pt bx bY) (hp : Pt px py) :
    wrap64 ((wrap64 ((wrap64 (px - ax)) * (wrap64 (bx - ax)))) + (wrap64 ((wrap64 (py - ay)) * (wrap64 (bY - ay))))) = dotZ ax ay bx bY px py := by
  obtain ⟨a1, a2, a3, a4⟩ := ha; obtain ⟨b1, b2, b3, b4⟩ := hb; obtain ⟨p1, p2, p3, p4⟩ := hp
  obtain ⟨e1, d1⟩ := D_of ⟨p1, p2⟩ ⟨a1, a2⟩
  obtain ⟨e2, d2⟩ := D_of ⟨b1, b2⟩ ⟨a1, a2⟩
  obtain ⟨e3, d3⟩ := D_of ⟨p3, p4⟩ ⟨a3, a4⟩
  obtain ⟨e4, d4⟩ := D_of ⟨b3, b4⟩ ⟨a3, a4⟩
  obtain ⟨m1, n1, o1⟩ := D_mul d1 d2
  obtain ⟨m2, n2, o2⟩ := D_mul d3 d4
  rw [e1, e2, e3, e4, m1, m2]
  unfold dotZ
  exact Gen.w64 (by omega) (by omega)
def farN (ax ay bx bY px py : Int) : Int := if dotZ ax ay bx bY px py ≤ 0 then farZ ax ay px py else if dotZ ax ay bx bY px py ≥ farZ bx bY ax ay then farZ bx bY px py else crossZ ax ay bx bY px py * crossZ ax ay bx bY px py
def farD (ax ay bx bY px py : Int) : Int := if dotZ ax ay bx bY px py ≤ 0 then 1 else if dotZ ax ay bx bY px py ≥ farZ bx bY ax ay then 1 else farZ bx bY ax ay
theorem farZ_comm (ax ay bx bY : Int) : farZ ax ay bx bY = farZ bx bY ax ay := by unfold farZ; grind
theorem crossSq {ax ay bx bY px py : Int} (ha : Pt ax ay) (hb : Pt bx bY) (hp : Pt px py) : wrap64 (crossZ ax ay bx bY px py * crossZ ax ay bx bY px py) = crossZ ax ay bx bY px py * crossZ ax ay bx bY px py := by
  obtain ⟨_, h1, h2⟩ := crossZ_bd ha hb hp
  have := Gen.mul_bd (m := 80000) (n := 80000) (x := crossZ ax ay bx bY px py) (y := crossZ ax ay bx bY px py) (by omega) (by omega)
  exact Gen.w64 (by omega) (by omega)
theorem implFarness {ax ay bx bY px py : Int} (hs : Sg ax ay bx bY) (hp : Pt px py) : impl_farness.f ax ay bx bY px py = some (farN ax ay bx bY px py * (if dotZ ax ay bx bY px py ≤ 0 ∨ dotZ ax ay bx bY px py ≥ farZ bx bY ax ay then farZ bx bY ax ay else 1), farZ bx bY ax ay) := by
  obtain ⟨ha, hb, hn⟩ := hs
  unfold impl_farness.f
  rw [implFar_ok ha hb]
  simp only [Option.bind_some]
  have h0 : farZ ax ay bx bY ≠ 0 := fun e => hn (farZ_zero e)
  rw [if_neg h0, dotZ_bd ha hb hp, implFar_ok ha hp, implFar_ok hb hp, implCross ha hb hp, farZ_comm ax ay bx bY]
  simp only [Option.bind_some]
  have b0 := (farZ_bd hb ha).2; have b1 := (farZ_bd ha hp).2; have b2 := (farZ_bd hb hp).2
  have m1 := Gen.mul_bd (m := 80000) (n := 80000) (x := farZ ax ay px py) (y := farZ bx bY ax ay) (by omega) (by omega)
  have m2 := Gen.mul_bd (m := 80000) (n := 80000) (x := farZ bx bY px py) (y := farZ bx bY ax ay) (by omega) (by omega)
  have e1 : wrap64 (farZ ax ay px py * farZ bx bY ax ay) = farZ ax ay px py * farZ bx bY ax ay := Gen.w64 (by omega) (by omega)
  have e2 : wrap64 (farZ bx bY px py * farZ bx bY ax ay) = farZ bx bY px py * farZ bx bY ax ay := Gen.w64 (by omega) (by omega)
  rw [e1, e2, crossSq ha hb hp]
  unfold farN
  by_cases c1 : dotZ ax ay bx bY px py ≤ 0
  · rw [if_pos c1, if_pos c1, if_pos (.inl c1)]
  · by_cases c2 : dotZ ax ay bx bY px py ≥ farZ bx bY ax ay
    · rw [if_neg c1, if_pos c2, if_neg c1, if_pos c2, if_pos (.inr c2)]
    · rw [if_neg c1, if_neg c2, if_neg c1, if_neg c2, if_neg (fun h => by omega), Int.mul_one]
def Nr (ax ay bx bY px py n : Int) : Prop := farN ax ay bx bY px py ≤ n * n * farD ax ay bx bY px py
instance (a b c d e f n : Int) : Decidable (Nr a b c d e f n) := by unfold Nr; infer_instance
theorem farD_bd {ax ay bx bY px py : Int} (hs : Sg ax ay bx bY) : 1 ≤ farD ax ay bx bY px py ∧ farD ax ay bx bY px py ≤ 80000 := by
  obtain ⟨ha, hb, hn⟩ := hs
  have b0 := (farZ_bd hb ha).2
  have h0 : farZ bx bY ax ay ≠ 0 := fun e => hn (by have := farZ_zero e; omega)
  unfold farD
  split
  · omega
  · split <;> omega
theorem near_wrap {n d : Int} (hn : 0 ≤ n ∧ n ≤ 200) (hd : 0 ≤ d ∧ d ≤ 80000) : wrap64 ((wrap64 (n * n)) * d) = n * n * d := by
  have m1 := Gen.mul_bd (m := 200) (n := 200) (x := n) (y := n) (by omega) (by omega)
  have e1 : wrap64 (n * n) = n * n := Gen.w64 (by omega) (by omega)
  rw [e1]
  have m2 := Gen.mul_bd (m := 40000) (n := 80000) (x := n * n) (y := d) (by omega) (by omega)
  exact Gen.w64 (by omega) (by omega)
theorem near_iff {ax ay bx bY px py n : Int} (h1 : Sg ax ay bx bY) :
    farN ax ay bx bY px py * (if dotZ ax ay bx bY px py ≤ 0 ∨ dotZ ax ay bx bY px py ≥ farZ bx bY ax ay then farZ bx bY ax ay else 1) ≤ n * n * farZ bx bY ax ay ↔ Nr ax ay bx bY px py n := by
  have b0 := (farZ_bd h1.2.1 h1.1).2
  have h0 : farZ bx bY ax ay ≠ 0 := fun e => h1.2.2 (by have := farZ_zero e; omega)
  have hp : 0 < farZ bx bY ax ay := by omega
  unfold Nr farD
  by_cases c1 : dotZ ax ay bx bY px py ≤ 0
  · rw [if_pos (.inl c1), if_pos c1, Int.mul_one]
    exact Int.mul_le_mul_right hp
  · by_cases c2 : dotZ ax ay bx bY px py ≥ farZ bx bY ax ay
    · rw [if_pos (.inr c2), if_neg c1, if_pos c2, Int.mul_one]
      exact Int.mul_le_mul_right hp
    · rw [if_neg (fun h => by omega), if_neg c1, if_neg c2, Int.mul_one]
theorem implNear {ax ay bx bY px py n : Int} : impl_IsNear.f ax ay bx bY px py n = some (decide (Sg ax ay bx bY ∧ Pt px py ∧ (0 ≤ n ∧ n ≤ 200) ∧ Nr ax ay bx bY px py n)) := by
  unfold impl_IsNear.f
  rw [implIsSegment, implIsPoint, implInRange]
  simp only [Option.bind_some, decide_eq_true_eq]
  by_cases h1 : Sg ax ay bx bY
  · by_cases h2 : Pt px py
    · by_cases h3 : 0 ≤ n ∧ n ≤ 200
      · have b0 := (farZ_bd h1.2.1 h1.1).2
        rw [if_pos h1, if_pos h2, if_pos h3, implFarness h1 h2]
        simp only [Option.bind_some]
        rw [near_wrap h3 (by omega)]
        simp only [near_iff h1, h1, h2, h3, true_and, and_self]
      · rw [if_pos h1, if_pos h2, if_neg h3]; simp [h3]
    · rw [if_pos h1, if_neg h2]; simp [h2]
  · rw [if_neg h1]; simp [h1]
def Ln (l : List S27) : Prop := 2 ≤ l.length ∧ l.length ≤ 10 ∧ ∀ i, i < l.length → Pt (l.getD i z27).f0 (l.getD i z27).f1 ∧ ¬ (0 < i ∧ (l.getD (i - 1) z27).f0 = (l.getD i z27).f0 ∧ (l.getD (i - 1) z27).f1 = (l.getD i z27).f1)
def lnChk (l : List S27) (i : Nat) : Bool := decide (Pt (l.getD i z27).f0 (l.getD i z27).f1 ∧ ¬ (0 < i ∧ (l.getD (i - 1) z27).f0 = (l.getD i z27).f0 ∧ (l.getD (i - 1) z27).f1 = (l.getD i z27).f1))
instance (l : List S27) : Decidable (Ln l) := decidable_of_iff ((2 ≤ l.length ∧ l.length ≤ 10) ∧ ∀ i, i < l.length → lnChk l i = true) (by unfold Ln lnChk; simp only [decide_eq_true_eq, and_assoc])
theorem rdP (l : List S27) (i : Nat) : rd_T27 l (i : Int) = l.getD i z27 := rfl
theorem implIsLine (l : List S27) (hl : l.length ≤ 1048576) {k : Nat} (hk : l.length + 1 < k) : impl_IsLine.f k l = some (decide (Ln l)) := by
  obtain ⟨k, rfl⟩ : ∃ m, k = m + 1 := ⟨k - 1, by omega⟩
  unfold impl_IsLine.f
  simp only [impl_IsLine.j0]
  by_cases h2 : l.length < 2
  · rw [if_pos (by omega), if_pos trivial]
    congr 1
    rw [eq_comm, decide_eq_false_iff_not]
    intro h; have := h.1; omega
  · rw [if_neg (by omega)]
    by_cases h10 : l.length > 10
    · rw [if_pos (by rw [decide_eq_true_eq]; omega)]
      congr 1
      rw [eq_comm, decide_eq_false_iff_not]
      intro h; have := h.2.1; omega
    · rw [if_neg (by rw [decide_eq_true_eq]; omega)]
      rw [Gen.scan_all l.length 0 (lnChk l) true (fun k i => impl_IsLine.l0 k l l l.length i) (fun k i _ hi => by
        simp only [impl_IsLine.l0]
        rw [if_pos (by omega), if_pos (by omega), if_pos (by omega), implIsPoint, rdP]
        simp only [Option.bind_some, decide_eq_true_eq]
        unfold lnChk
        by_cases h1 : Pt (l.getD i z27).f0 (l.getD i z27).f1
        · rw [if_pos h1]
          by_cases h0 : 0 < i
          · have e1 : wrap64 ((i : Int) - 1) = ((i - 1 : Nat) : Int) := by rw [Gen.w64 (by omega) (by omega)]; omega
            rw [if_pos (by omega), e1, if_pos (by omega), if_pos (by omega), rdP, Gen.w64s (by omega)]
            by_cases h2 : (l.getD (i - 1) z27).f0 = (l.getD i z27).f0 ∧ (l.getD (i - 1) z27).f1 = (l.getD i z27).f1
            · rw [if_pos (by rw [h2.1, h2.2]; simp), if_neg (by simp only [decide_eq_true_eq]; exact fun h => h.2 ⟨h0, h2⟩)]
            · rw [if_neg (by simp only [Bool.and_eq_true, beq_iff_eq]; exact fun h => h2 ⟨h.1.symm, h.2.symm⟩), if_pos (by simp only [decide_eq_true_eq]; exact ⟨h1, fun h => h2 h.2⟩)]
          · rw [if_neg (by omega), if_pos (by simp only [decide_eq_true_eq]; exact ⟨h1, fun h => h0 h.1⟩), Gen.w64s (by omega)]
        · rw [if_neg h1, if_neg (by simp only [decide_eq_true_eq]; exact fun h => h1 h.1)]) (fun k _ => by
        simp only [impl_IsLine.l0]
        rw [if_neg (by omega)]) (by omega)]
      congr 1
      rw [Bool.eq_iff_iff, Bool.and_eq_true, decide_eq_true_eq, decide_eq_true_eq]
      unfold Ln lnChk
      simp only [decide_eq_true_eq, and_true]
      constructor
      · intro h; exact ⟨by omega, by omega, h⟩
      · intro h; exact h.2.2
theorem tImplIsLine (l : List S27) (hl : l.length ≤ 1048576) : Told (fun k => impl_IsLine.f k l) (decide (Ln l)) := ⟨l.length + 2, fun k hk => implIsLine l hl (by omega)⟩
def segAt (l : List S27) (i : Nat) : S53 := ⟨l.getD (i - 1) z27, l.getD i z27⟩
def segs (l : List S27) : List S53 := (List.range' 1 (l.length - 1)).map (segAt l)
theorem foldl_push {α β : Type} (g : α → β) (x : List α) : ∀ s : List β, x.foldl (fun s i => s ++ [g i]) s = s ++ x.map g := by
  induction x with
  | nil => intro s; simp
  | cons a x ih => intro s; rw [List.foldl_cons, ih]; simp
theorem tImplSegmentsOf (l : List S27) (h : Ln l) : Told (fun k => impl_SegmentsOf.f k l) (segs l) := by
  have hn := h.1; have hm := h.2.1
  refine Told.eq (M := fun k => (impl_IsLine.f k l).bind fun t => if t = true then impl_SegmentsOf.l0 k l [] ((1 : Nat) : Int) else some []) (fun k => rfl) (Told.bind (tImplIsLine l (by omega)) (Told.eq (fun _ => if_pos (by simpa using h)) ?_))
  refine Told.up (n := l.length) (fun s i => s ++ [segAt l i]) (fun k s i => impl_SegmentsOf.l0 k l s i) (fun s i => s.length + 1 = i) (fun s i hi hv => ⟨by simp; omega, fun hh => ?_⟩) (l.length - 1) [] 1 (by omega) rfl ?_
  · refine Told.step (M := fun k => impl_SegmentsOf.l0 k l (s ++ [segAt l i]) ((i + 1 : Nat) : Int)) (fun k => ?_) hh
    simp only [impl_SegmentsOf.l0]
    have e1 : wrap64 ((i : Int) - 1) = ((i - 1 : Nat) : Int) := by rw [Gen.w64 (by omega) (by omega)]; omega
    rw [if_pos (by omega), e1, Gen.w64s (by omega), if_pos (by omega), if_pos (by omega), if_pos (by omega), if_pos (by omega), rdP, rdP]
    rfl
  · refine Told.stepr fun k => ?_
    simp only [impl_SegmentsOf.l0]
    rw [if_neg (by omega), foldl_push]
    rfl
theorem rdSg (l : List S53) (i : Nat) : rd_T53 l (i : Int) = l.getD i z53 := rfl
theorem implClone (l : List S27) (hl : l.length ≤ 1048576) : impl_Point.f l = some l := by
  unfold impl_Point.f
  simp only [Option.bind_some, List.nil_append]
  rw [if_pos (by simp; omega)]
def nrAt (l : List S27) (s : List S53) (n : Int) (i j : Nat) : Bool := decide (Sg (s.getD j z53).f0.f0 (s.getD j z53).f0.f1 (s.getD j z53).f1.f0 (s.getD j z53).f1.f1 ∧ Pt (l.getD i z27).f0 (l.getD i z27).f1 ∧ (0 ≤ n ∧ n ≤ 200) ∧ Nr (s.getD j z53).f0.f0 (s.getD j z53).f0.f1 (s.getD j z53).f1.f0 (s.getD j z53).f1.f1 (l.getD i z27).f0 (l.getD i z27).f1 n)
def anyNr (l : List S27) (s : List S53) (n : Int) (i : Nat) : Bool := (List.range' 0 s.length).foldl (fun b j => b || nrAt l s n i j) false
theorem segs_len (l : List S27) : (segs l).length = l.length - 1 := by simp [segs]
theorem tImplL1 (l : List S27) (s : List S53) (n : Int) (i : Nat) (hl : l.length ≤ 10) (hs : s.length ≤ 10) (hi : i < l.length) (r : Bool) (h : Told (fun k => if anyNr l s n i = true then impl_IsFaithful.l0 k n s l (l.length : Int) ((i + 1 : Nat) : Int) else some false) r) :
    Told (fun k => impl_IsFaithful.l1 k n s false l (l.length : Int) (i : Int) s (s.length : Int) 0 (l.getD i z27).f0 (l.getD i z27).f1) r := by
  refine Told.up (n := s.length) (fun b j => b || nrAt l s n i j) (fun k b j => impl_IsFaithful.l1 k n s b l (l.length : Int) (i : Int) s (s.length : Int) j (l.getD i z27).f0 (l.getD i z27).f1) (fun _ _ => True) (fun b j hj _ => ⟨trivial, fun hh => ?_⟩) s.length false 0 (by omega) trivial ?_
  · refine Told.step (fun k => ?_) hh
    simp only [impl_IsFaithful.l1]
    rw [if_pos (by omega), if_pos (by omega), if_pos (by omega), Gen.w64s (by omega)]
    by_cases hb : b = true
    · rw [if_pos hb, hb]; rfl
    · rw [if_neg hb, implNear, rdSg]
      simp only [Option.bind_some]
      obtain rfl : b = false := by simpa using hb
      rfl
  · refine Told.step (fun k => ?_) h
    simp only [impl_IsFaithful.l1]
    rw [if_neg (by omega), Gen.w64s (by omega)]
    rfl
def endsOff (a b : List S27) : Bool := !(((a.getD 0 z27).f0) == ((b.getD 0 z27).f0)) || (!(((a.getD 0 z27).f1) == ((b.getD 0 z27).f1)))
def endsOff2 (a b : List S27) : Bool := !(((a.getD (a.length - 1) z27).f0) == ((b.getD (b.length - 1) z27).f0)) || (!(((a.getD (a.length - 1) z27).f1) == ((b.getD (b.length - 1) z27).f1)))
def faith (a b : List S27) (n : Int) : Bool := if Ln a ∧ Ln b ∧ endsOff a b = false ∧ endsOff2 a b = false then (if ∀ i, i < a.length → anyNr a (segs b) n i = true then true else false) else false
theorem wl1 {n : Nat} (h : 0 < n) (h2 : n ≤ 1048576) : wrap64 ((n : Int) - 1) = ((n - 1 : Nat) : Int) := by rw [Gen.w64 (by omega) (by omega)]; omega
theorem tImplFaith (a b : List S27) (n : Int) (ha : a.length ≤ 1048576) (hb : b.length ≤ 1048576) : Told (fun k => impl_IsFaithful.f k a b n) (faith a b n) := by
  by_cases h1 : Ln a
  · by_cases h2 : Ln b
    · have a1 := h1.1; have a2 := h1.2.1; have b1 := h2.1; have b2 := h2.2.1
      refine Told.bind (tImplIsLine a ha) (Told.ite_t (by simpa using h1) (Told.bind (tImplIsLine b hb) (Told.ite_t (by simpa using h2) (Told.ite_t (by omega) (Told.ite_t (by omega) ?_)))))
      by_cases e1 : endsOff a b = true
      · refine Told.ite_t e1 (Told.stepr fun k => ?_)
        simp only [impl_IsFaithful.j0, if_true]
        rw [faith, if_neg (by simp [e1])]
      · refine Told.ite_f e1 (Told.eq (M := fun k => impl_IsFaithful.j0 k a b n (endsOff2 a b)) (fun k => ?_) ?_)
        · rw [wl1 (by omega) ha, wl1 (by omega) hb, if_pos (by omega), if_pos (by omega), if_pos (by omega), if_pos (by omega)]; rfl
        · by_cases e2 : endsOff2 a b = true
          · refine Told.stepr fun k => ?_
            simp only [impl_IsFaithful.j0]
            rw [if_pos e2, faith, if_neg (by simp [e2])]
          · refine Told.step (fun k => by simp only [impl_IsFaithful.j0]; rw [if_neg e2]) (Told.bind (tImplSegmentsOf b h2) ?_)
            rw [faith, if_pos (by simp only [Bool.not_eq_true] at e1 e2; exact ⟨h1, h2, e1, e2⟩)]
            have hs := segs_len b
            refine Told.all (n := a.length) (r := true) (q := false) (fun i => anyNr a (segs b) n i = true) (fun k i => impl_IsFaithful.l0 k n (segs b) a (a.length : Int) i) (fun i hi => ?_) (Told.stepr fun k => by simp only [impl_IsFaithful.l0]; rw [if_neg (by omega)])
            have st : ∀ r, Told (fun k => if anyNr a (segs b) n i = true then impl_IsFaithful.l0 k n (segs b) a (a.length : Int) ((i + 1 : Nat) : Int) else some false) r → Told (fun k => impl_IsFaithful.l0 k n (segs b) a (a.length : Int) (i : Int)) r := fun r h => Told.step (fun k => by simp only [impl_IsFaithful.l0]; rw [if_pos (by omega), if_pos (by omega), if_pos (by omega)]; rfl) (tImplL1 a (segs b) n i a2 (by omega) hi r h)
            exact ⟨fun c h => st _ (Told.ite_t c h), fun c h => st _ (Told.ite_t c h), fun c => st _ (Told.ite_f c (Told.ret _))⟩
    · refine Told.bind (tImplIsLine a ha) (Told.ite_t (by simpa using h1) (Told.bind (tImplIsLine b hb) (Told.ite_f (by simpa using h2) (Told.stepr fun k => ?_))))
      simp only [impl_IsFaithful.j0, if_true]
      rw [faith, if_neg (by simp [h2])]
  · refine Told.bind (tImplIsLine a ha) (Told.ite_f (by simpa using h1) (Told.stepr fun k => ?_))
    simp only [impl_IsFaithful.j0, if_true]
    rw [faith, if_neg (by simp [h1])]
theorem tImplLine (l : List S27) (hl : l.length ≤ 1048576) : Told (fun k => impl_IsLine.f k l) (decide (Ln l)) := ⟨l.length + 2, fun k hk => implIsLine l hl (by omega)⟩
theorem lt_mulc {c a b : Int} (hc : 0 < c) : c * a < c * b ↔ a < b := ⟨fun h => Int.lt_of_mul_lt_mul_left h (by omega), fun h => Int.mul_lt_mul_of_pos_left h hc⟩
def mulZ (ax ay bx bY px py : Int) : Int := if farZ bx bY ax ay = 0 then 1 else if dotZ ax ay bx bY px py ≤ 0 ∨ dotZ ax ay bx bY px py ≥ farZ bx bY ax ay then farZ bx bY ax ay else 1
def timZ (ax ay bx bY : Int) : Int := if farZ bx bY ax ay = 0 then 1 else farZ bx bY ax ay
theorem dot_same {ax ay bx bY px py : Int} (h : farZ bx bY ax ay = 0) : dotZ ax ay bx bY px py = 0 := by
  obtain ⟨e1, e2⟩ := farZ_zero h
  unfold dotZ; rw [e1, e2]; simp
theorem mulZ_far {ax ay bx bY px py : Int} (h : 0 ≤ farZ bx bY ax ay) : mulZ ax ay bx bY px py * farD ax ay bx bY px py = timZ ax ay bx bY ∧ 0 < mulZ ax ay bx bY px py ∧ 0 < farD ax ay bx bY px py := by
  unfold mulZ farD timZ
  by_cases h0 : farZ bx bY ax ay = 0
  · rw [if_pos h0, if_pos h0, if_pos (by rw [dot_same h0]; omega)]; omega
  · rw [if_neg h0, if_neg h0]
    by_cases c1 : dotZ ax ay bx bY px py ≤ 0
    · rw [if_pos (.inl c1), if_pos c1]; omega
    · by_cases c2 : dotZ ax ay bx bY px py ≥ farZ bx bY ax ay
      · rw [if_pos (.inr c2), if_neg c1, if_pos c2]; omega
      · rw [if_neg (by omega), if_neg c1, if_neg c2]; omega
def nF (l : List S27) (i k j : Nat) : Int := farN (l.getD i z27).f0 (l.getD i z27).f1 (l.getD k z27).f0 (l.getD k z27).f1 (l.getD j z27).f0 (l.getD j z27).f1
def dF (l : List S27) (i k j : Nat) : Int := farD (l.getD i z27).f0 (l.getD i z27).f1 (l.getD k z27).f0 (l.getD k z27).f1 (l.getD j z27).f0 (l.getD j z27).f1
def mF (l : List S27) (i k j : Nat) : Int := mulZ (l.getD i z27).f0 (l.getD i z27).f1 (l.getD k z27).f0 (l.getD k z27).f1 (l.getD j z27).f0 (l.getD j z27).f1
def tF (l : List S27) (i k : Nat) : Int := timZ (l.getD i z27).f0 (l.getD i z27).f1 (l.getD k z27).f0 (l.getD k z27).f1
def isFar (l : List S27) (near : Int) (i k j : Nat) : Prop := nF l i k j > near * near * dF l i k j
instance (l : List S27) (near : Int) (i k j : Nat) : Decidable (isFar l near i k j) := by unfold isFar; infer_instance
def pk (l : List S27) (near : Int) (i k : Nat) (s : Int) (j : Nat) : Int := if isFar l near i k j then (if s < 0 then (j : Int) else if nF l i k j * dF l i k s.toNat > nF l i k s.toNat * dF l i k j then (j : Int) else s) else s
def bestV (l : List S27) (near : Int) (i k : Nat) : Int := (List.range' (i + 1) (k - (i + 1))).foldl (pk l near i k) (-1)
def btw (l : List S27) (near : Int) : Nat → Nat → Nat → List Bool → List Bool
  | 0, _, _, r => r
  | n + 1, i, k, r => if bestV l near i k < 0 then r else btw l near n (bestV l near i k).toNat k (btw l near n i (bestV l near i k).toNat (r.set (bestV l near i k).toNat true))
theorem btw_len (l : List S27) (near : Int) : ∀ n i k r, (btw l near n i k r).length = r.length := by
  intro n
  induction n with
  | zero => intro i k r; rfl
  | succ n ih =>
    intro i k r
    simp only [btw]
    split
    · rfl
    · rw [ih, ih, List.length_set]
theorem best_gen (l : List S27) (near : Int) (i k : Nat) : ∀ d (j : Nat) (s : Int), i < j → (s = -1 ∧ (∀ m, i < m → m < j → ¬ isFar l near i k m) ∨ ((i : Int) < s ∧ s < j ∧ isFar l near i k s.toNat)) →
    ((List.range' j d).foldl (pk l near i k) s = -1 ∧ (∀ m, i < m → m < j + d → ¬ isFar l near i k m)) ∨ ((i : Int) < (List.range' j d).foldl (pk l near i k) s ∧ (List.range' j d).foldl (pk l near i k) s < (j + d : Nat) ∧ isFar l near i k ((List.range' j d).foldl (pk l near i k) s).toNat) := by
  intro d
  induction d with
  | zero => intro j s hj h; exact h
  | succ d ih =>
    intro j s hj h
    have e : j + (d + 1) = j + 1 + d := by omega
    rw [List.range'_succ, List.foldl_cons, e]
    refine ih (j + 1) _ (by omega) ?_
    unfold pk
    by_cases c : isFar l near i k j
    · rw [if_pos c]
      split
      · exact .inr ⟨by omega, by omega, c⟩
      · split
        · exact .inr ⟨by omega, by omega, c⟩
        · rcases h with h | h
          · omega
          · exact .inr ⟨h.1, by omega, h.2.2⟩
    · rw [if_neg c]
      rcases h with h | h
      · refine .inl ⟨h.1, fun m m1 m2 => ?_⟩
        by_cases q : m = j
        · subst q; exact c
        · exact h.2 m m1 (by omega)
      · exact .inr ⟨h.1, by omega, h.2.2⟩
theorem best_spec (l : List S27) (near : Int) (i k : Nat) : (bestV l near i k = -1 ∧ ∀ m, i < m → m < k → ¬ isFar l near i k m) ∨ ((i : Int) < bestV l near i k ∧ bestV l near i k < k) := by
  have := best_gen l near i k (k - (i + 1)) (i + 1) (-1) (by omega) (.inl ⟨rfl, fun m m1 m2 => by omega⟩)
  unfold bestV
  rcases this with h | h
  · exact .inl ⟨h.1, fun m m1 m2 => h.2 m m1 (by omega)⟩
  · refine .inr ⟨h.1, ?_⟩
    by_cases c : i + 1 ≤ k
    · omega
    · have e : k - (i + 1) = 0 := by omega
      rw [e] at h; simp at h; omega
theorem implFarness' {ax ay bx bY px py : Int} (ha : Pt ax ay) (hb : Pt bx bY) (hp : Pt px py) : impl_farness.f ax ay bx bY px py = some (farN ax ay bx bY px py * mulZ ax ay bx bY px py, timZ ax ay bx bY) := by
  by_cases h0 : farZ bx bY ax ay = 0
  · unfold impl_farness.f mulZ timZ
    rw [implFar_ok ha hb]
    simp only [Option.bind_some]
    rw [if_pos (by rw [farZ_comm]; exact h0), implFar_ok ha hp, if_pos h0, if_pos h0]
    simp only [Option.bind_some]
    unfold farN
    rw [if_pos (by rw [dot_same h0]; omega), Int.mul_one]
  · have hs : Sg ax ay bx bY := ⟨ha, hb, fun ⟨e1, e2⟩ => h0 (by unfold farZ; rw [e1, e2]; simp)⟩
    rw [implFarness hs hp]
    unfold mulZ timZ
    rw [if_neg h0, if_neg h0]
theorem tImplBtw (l : List S27) (h : Ln l) (near : Int) (hn : 0 ≤ near ∧ near ≤ 200) : ∀ n (i k : Nat) (r : List Bool), i < l.length → k < l.length → k ≤ i + 1 + n → r.length = l.length → Told (fun q => impl_keepBetween.f q l r (i : Int) (k : Int) near) (btw l near n i k r) := by
  have h10 := h.2.1
  have hpt : ∀ m, m < l.length → Pt (l.getD m z27).f0 (l.getD m z27).f1 := fun m hm => (h.2.2 m hm).1
  have nn := Gen.mul_bd (m := 200) (n := 200) (x := near) (y := near) (by omega) (by omega)
  have n0 := Int.mul_nonneg hn.1 hn.1
  have walk : ∀ (i k : Nat) (r : List Bool) (v : List Bool), i < l.length → k < l.length → Told (fun q => impl_keepBetween.l0 q l r i k near (bestV l near i k) (if bestV l near i k < 0 then 0 else nF l i k (bestV l near i k).toNat * mF l i k (bestV l near i k).toNat) (max k (i + 1) : Nat) (l.getD i z27).f0 (l.getD i z27).f1 (l.getD k z27).f0 (l.getD k z27).f1) v → Told (fun q => impl_keepBetween.f q l r (i : Int) (k : Int) near) v := by
    intro i k r v hi hk hv
    refine Told.step (M := fun q => impl_keepBetween.l0 q l r i k near (-1) 0 ((i + 1 : Nat) : Int) (l.getD i z27).f0 (l.getD i z27).f1 (l.getD k z27).f0 (l.getD k z27).f1) (fun q => by simp only [impl_keepBetween.f]; rw [if_pos (by omega), if_pos (by omega), if_pos (by omega), if_pos (by omega), Gen.w64s (by omega), rdP, rdP]) ?_
    refine Told.up (n := max k (i + 1)) (fun s j => pk l near i k s j) (fun q s j => impl_keepBetween.l0 q l r i k near s (if s < 0 then 0 else nF l i k s.toNat * mF l i k s.toNat) j (l.getD i z27).f0 (l.getD i z27).f1 (l.getD k z27).f0 (l.getD k z27).f1) (fun s j => s < l.length ∧ i < j) (fun s j hj hs => ⟨⟨?_, by omega⟩, fun h2 => ?_⟩) (max k (i + 1) - (i + 1)) (-1) (i + 1) (by omega) ⟨by omega, by omega⟩ ?_
    · unfold pk; split
      · split
        · omega
        · split <;> omega
      · exact hs.1
    · have jk : j < k := by omega
      have far : impl_farness.f (l.getD i z27).f0 (l.getD i z27).f1 (l.getD k z27).f0 (l.getD k z27).f1 (l.getD j z27).f0 (l.getD j z27).f1 = some (nF l i k j * mF l i k j, tF l i k) := implFarness' (hpt i hi) (hpt k hk) (hpt j (by omega))
      have z0 := (farZ_bd (hpt k hk) (hpt i hi)).2
      have mm : ∀ m, mF l i k m * dF l i k m = tF l i k ∧ 0 < mF l i k m ∧ 0 < dF l i k m := fun m => mulZ_far z0.1
      have tb : 0 < tF l i k ∧ tF l i k ≤ 80000 := by unfold tF timZ; split <;> omega
      have m3 := Gen.mul_bd (m := 40000) (n := 80000) (x := near * near) (y := tF l i k) (by omega) (by omega)
      have e1 : wrap64 ((wrap64 (near * near)) * tF l i k) = near * near * tF l i k := by rw [Gen.w64 (n := near * near) (by omega) (by omega), Gen.w64 (by omega) (by omega)]
      obtain ⟨mj, mj0, dj0⟩ := mm j
      have cf : isFar l near i k j ↔ nF l i k j * mF l i k j > near * near * tF l i k := by
        unfold isFar
        have q1 : nF l i k j * mF l i k j = mF l i k j * nF l i k j := Int.mul_comm _ _
        have q2 : near * near * tF l i k = mF l i k j * (near * near * dF l i k j) := by rw [← mj, ← Int.mul_assoc, ← Int.mul_assoc, Int.mul_comm (mF l i k j) (near * near)]
        rw [q1, q2]
        exact (lt_mulc mj0).symm
      refine Told.step (M := fun q => (impl_farness.f (l.getD i z27).f0 (l.getD i z27).f1 (l.getD k z27).f0 (l.getD k z27).f1 (l.getD j z27).f0 (l.getD j z27).f1).bind fun bt => if bt.1 > (wrap64 ((wrap64 (near * near)) * bt.2)) then (if s < 0 then (impl_keepBetween.l0 q l r i k near j bt.1 ((j + 1 : Nat) : Int) (l.getD i z27).f0 (l.getD i z27).f1 (l.getD k z27).f0 (l.getD k z27).f1) else (if bt.1 > (if s < 0 then 0 else nF l i k s.toNat * mF l i k s.toNat) then (impl_keepBetween.l0 q l r i k near j bt.1 ((j + 1 : Nat) : Int) (l.getD i z27).f0 (l.getD i z27).f1 (l.getD k z27).f0 (l.getD k z27).f1) else (impl_keepBetween.l0 q l r i k near s (if s < 0 then 0 else nF l i k s.toNat * mF l i k s.toNat) ((j + 1 : Nat) : Int) (l.getD i z27).f0 (l.getD i z27).f1 (l.getD k z27).f0 (l.getD k z27).f1))) else (impl_keepBetween.l0 q l r i k near s (if s < 0 then 0 else nF l i k s.toNat * mF l i k s.toNat) ((j + 1 : Nat) : Int) (l.getD i z27).f0 (l.getD i z27).f1 (l.getD k z27).f0 (l.getD k z27).f1)) (fun q => ?_) (Told.bind (Told.of far) ?_)
      · simp only [impl_keepBetween.l0]
        rw [if_pos (c := (j : Int) < (k : Int)) (by omega), if_pos (c := (0 : Int) ≤ (j : Int)) (by omega), if_pos (c := (j : Int) < (l.length : Int)) (by omega), rdP, Gen.w64s (by omega)]
      · have pn : ∀ {s' : Int} (_ : s' = (j : Int)), Told (fun q => impl_keepBetween.l0 q l r i k near s' (if s' < 0 then 0 else nF l i k s'.toNat * mF l i k s'.toNat) ((j + 1 : Nat) : Int) (l.getD i z27).f0 (l.getD i z27).f1 (l.getD k z27).f0 (l.getD k z27).f1) v → Told (fun q => impl_keepBetween.l0 q l r i k near j (nF l i k j * mF l i k j) ((j + 1 : Nat) : Int) (l.getD i z27).f0 (l.getD i z27).f1 (l.getD k z27).f0 (l.getD k z27).f1) v := fun {s'} e hh => by
          subst e
          rw [if_neg (by omega), Int.toNat_natCast] at hh; exact hh
        unfold pk at h2
        by_cases c : isFar l near i k j
        · simp only [if_pos c] at h2
          refine Told.ite_t (by dsimp only; rw [e1]; exact cf.mp c) ?_
          by_cases c1 : s < 0
          · simp only [if_pos c1] at h2
            exact Told.ite_t c1 (pn rfl h2)
          · simp only [if_neg c1] at h2
            refine Told.ite_f c1 ?_
            obtain ⟨ms_, ms0, ds0⟩ := mm s.toNat
            have cc : nF l i k j * dF l i k s.toNat > nF l i k s.toNat * dF l i k j ↔ nF l i k j * mF l i k j > nF l i k s.toNat * mF l i k s.toNat := by
              have q : (dF l i k j * dF l i k s.toNat) * (nF l i k j * mF l i k j) = tF l i k * (nF l i k j * dF l i k s.toNat) := by rw [← mj]; grind
              have q' : (dF l i k j * dF l i k s.toNat) * (nF l i k s.toNat * mF l i k s.toNat) = tF l i k * (nF l i k s.toNat * dF l i k j) := by rw [← ms_]; grind
              have a1 := lt_mulc (a := nF l i k s.toNat * dF l i k j) (b := nF l i k j * dF l i k s.toNat) tb.1
              have a2 := lt_mulc (a := nF l i k s.toNat * mF l i k s.toNat) (b := nF l i k j * mF l i k j) (Int.mul_pos dj0 ds0)
              rw [q, q'] at a2
              exact a1.symm.trans a2
            simp only [if_neg c1]
            by_cases c2 : nF l i k j * dF l i k s.toNat > nF l i k s.toNat * dF l i k j
            · simp only [if_pos c2] at h2
              exact Told.ite_t (cc.mp c2) (pn rfl h2)
            · simp only [if_neg c2, if_neg c1] at h2
              exact Told.ite_f (fun h => c2 (cc.mpr h)) h2
        · simp only [if_neg c] at h2
          exact Told.ite_f (by dsimp only; rw [e1]; exact fun h => c (cf.mpr h)) h2
    · have e : max k (i + 1) - (i + 1) = k - (i + 1) := by omega
      rw [e]; exact hv
  intro n
  induction n with
  | zero =>
    intro i k r hi hk hn' hr
    have e : bestV l near i k = -1 := by unfold bestV; rw [show k - (i + 1) = 0 by omega]; rfl
    refine walk i k r _ hi hk (Told.stepr fun q => ?_)
    simp only [impl_keepBetween.l0, btw, e]
    rw [if_neg (by omega), if_pos (by omega)]
  | succ n ih =>
    intro i k r hi hk hn' hr
    refine walk i k r _ hi hk ?_
    rcases best_spec l near i k with ⟨e, _⟩ | ⟨b1, b2⟩
    · have ev : btw l near (n + 1) i k r = r := by simp only [btw]; rw [if_pos (by omega)]
      rw [ev]
      refine Told.stepr fun q => ?_
      simp only [impl_keepBetween.l0]
      rw [if_neg (by omega), if_pos (by omega)]
    · obtain ⟨b, hb⟩ : ∃ b : Nat, bestV l near i k = b := ⟨(bestV l near i k).toNat, by omega⟩
      have ev : btw l near (n + 1) i k r = btw l near n b k (btw l near n i b (r.set b true)) := by simp only [btw]; rw [if_neg (by omega), hb, Int.toNat_natCast]
      rw [ev]
      refine Told.step (fun q => by simp only [impl_keepBetween.l0]; rw [if_neg (by omega), if_neg (by omega), if_pos (by omega), if_pos (by omega), hb, Int.toNat_natCast]) ?_
      have t1 := ih i b (r.set b true) hi (by omega) (by omega) (by simpa using hr)
      have t2 := ih b k (btw l near n i b (r.set b true)) (by omega) hk (by omega) (by rw [btw_len]; simpa using hr)
      exact Told.bind t1 (Told.bind t2 (Told.ret _))
theorem foldl_keep {α : Type} (g : Nat → α) (p : Nat → Bool) (x : List Nat) : ∀ s : List α, x.foldl (fun s i => if p i = true then s ++ [g i] else s) s = s ++ (x.filter p).map g := by
  induction x with
  | nil => intro s; simp
  | cons a x ih =>
    intro s
    rw [List.foldl_cons, ih]
    by_cases h : p a = true
    · rw [if_pos h, List.filter_cons_of_pos h]; simp
    · rw [if_neg h, List.filter_cons_of_neg h]
def keptV (l : List S27) (r : List Bool) : List S27 := ((List.range' 0 l.length).filter fun i => r.getD i false).map fun i => l.getD i z27
theorem range_all (l : List S27) : (List.range' 0 l.length).map (fun i => l.getD i z27) = l := by
  apply List.ext_getElem (by simp)
  intro i h1 h2
  simp [List.getD_eq_getElem?_getD, h2]
theorem kept_sub (l : List S27) (r : List Bool) : List.Sublist (keptV l r) l := by
  have h := (List.filter_sublist (p := fun i => r.getD i false) (l := List.range' 0 l.length)).map fun i => l.getD i z27
  rw [range_all] at h
  exact h
def endsR (n : Nat) : List Bool := (List.range' 0 n).map fun i => decide (i = 0 ∨ i + 1 = n)
theorem endsR_len (n : Nat) : (endsR n).length = n := by simp [endsR]
theorem endsR_at {n i : Nat} (h : i < n) : (endsR n).getD i false = decide (i = 0 ∨ i + 1 = n) := by
  unfold endsR
  rw [List.getD_eq_getElem?_getD, List.getElem?_map, List.getElem?_range' h]
  simp
def marksV (l : List S27) (near : Int) : List Bool := btw l near l.length 0 (l.length - 1) (endsR l.length)
def simplV (l : List S27) (near : Int) : List S27 := if Ln l ∧ 0 ≤ near ∧ near ≤ 200 then keptV l (marksV l near) else l
theorem simplV_sub (l : List S27) (near : Int) : List.Sublist (simplV l near) l := by
  unfold simplV
  split
  · exact kept_sub _ _
  · exact List.Sublist.refl _
theorem gset (r : List Bool) (b m : Nat) (hb : b < r.length) : (r.set b true).getD m false = if b = m then true else r.getD m false := by
  simp only [List.getD_eq_getElem?_getD, List.getElem?_set]
  by_cases h : b = m
  · subst h; simp [hb]
  · simp [h]
theorem btw_keep (l : List S27) (near : Int) : ∀ n i k r, k ≤ r.length → ∀ m, m ≤ i ∨ k ≤ m → (btw l near n i k r).getD m false = r.getD m false := by
  intro n
  induction n with
  | zero => intro i k r _ m _; rfl
  | succ n ih =>
    intro i k r hk m hm
    simp only [btw]
    split
    · rfl
    · rename_i hb
      rcases best_spec l near i k with ⟨e, _⟩ | ⟨b1, b2⟩
      · omega
      · have hs : (r.set (bestV l near i k).toNat true).length = r.length := List.length_set
        rw [ih _ _ _ (by rw [btw_len, hs]; exact hk) m (by omega), ih _ _ _ (by rw [hs]; omega) m (by omega), gset _ _ _ (by omega), if_neg (by omega)]
def Cov (l : List S27) (near : Int) (r : List Bool) (i k j : Nat) : Prop := r.getD j false = true ∨ ∃ a b, i ≤ a ∧ a < j ∧ j < b ∧ b ≤ k ∧ r.getD a false = true ∧ r.getD b false = true ∧ (∀ m, a < m → m < b → r.getD m false = false) ∧ ¬ isFar l near a b j
theorem btw_cov (l : List S27) (near : Int) : ∀ n i k r, k ≤ i + 1 + n → k < r.length → r.getD i false = true → r.getD k false = true → (∀ m, i < m → m < k → r.getD m false = false) → ∀ j, i < j → j < k → Cov l near (btw l near n i k r) i k j := by
  intro n
  induction n with
  | zero => intro i k r h1 h2 hi hk hm j hj hj'; omega
  | succ n ih =>
    intro i k r h1 h2 hi hk hm j hj hj'
    rcases best_spec l near i k with ⟨e, hf⟩ | ⟨b1, b2⟩
    · have ev : btw l near (n + 1) i k r = r := by simp only [btw]; rw [if_pos (by omega)]
      rw [ev]
      exact .inr ⟨i, k, Nat.le_refl _, hj, hj', Nat.le_refl _, hi, hk, hm, hf j hj hj'⟩
    · obtain ⟨b, hb⟩ : ∃ b : Nat, bestV l near i k = b := ⟨(bestV l near i k).toNat, by omega⟩
      have ev : btw l near (n + 1) i k r = btw l near n b k (btw l near n i b (r.set b true)) := by simp only [btw]; rw [if_neg (by omega), hb, Int.toNat_natCast]
      rw [ev]
      have hs : (r.set b true).length = r.length := List.length_set
      have l2 : (btw l near n i b (r.set b true)).length = r.length := by rw [btw_len, hs]
      have g1 : ∀ m, (r.set b true).getD m false = if b = m then true else r.getD m false := fun m => gset r b m (by omega)
      have g2 : ∀ m, m ≤ i ∨ b ≤ m → (btw l near n i b (r.set b true)).getD m false = if b = m then true else r.getD m false := fun m hm => by rw [btw_keep l near n i b _ (by omega) m hm, g1]
      have g3 : ∀ m, m ≤ b ∨ k ≤ m → (btw l near n b k (btw l near n i b (r.set b true))).getD m false = (btw l near n i b (r.set b true)).getD m false := fun m hm => btw_keep l near n b k _ (by omega) m hm
      by_cases c : j = b
      · subst c
        exact .inl (by rw [g3 j (.inl (Nat.le_refl _)), g2 j (.inr (Nat.le_refl _)), if_pos rfl])
      by_cases c2 : j < b
      · rcases ih i b (r.set b true) (by omega) (by omega) (by rw [g1, if_neg (by omega)]; exact hi) (by rw [g1, if_pos rfl]) (fun m m1 m2 => by rw [g1, if_neg (by omega)]; exact hm m m1 (by omega)) j hj c2 with h | ⟨x, y, x1, x2, x3, x4, x5, x6, x7, x8⟩
        · exact .inl (by rw [g3 j (.inl (by omega))]; exact h)
        · exact .inr ⟨x, y, x1, x2, x3, by omega, by rw [g3 x (.inl (by omega))]; exact x5, by rw [g3 y (.inl (by omega))]; exact x6, fun m m1 m2 => by rw [g3 m (.inl (by omega))]; exact x7 m m1 m2, x8⟩
      · rcases ih b k (btw l near n i b (r.set b true)) (by omega) (by omega) (by rw [g2 b (.inr (Nat.le_refl _)), if_pos rfl]) (by rw [g2 k (.inr (by omega)), if_neg (by omega)]; exact hk) (fun m m1 m2 => by rw [g2 m (.inr (by omega)), if_neg (by omega)]; exact hm m (by omega) m2) j (by omega) hj' with h | ⟨x, y, x1, x2, x3, x4, x5, x6, x7, x8⟩
        · exact .inl h
        · exact .inr ⟨x, y, by omega, x2, x3, x4, x5, x6, x7, x8⟩
theorem none_btw (r : List Bool) (a d : Nat) (h : ∀ m, a ≤ m → m < a + d → r.getD m false = false) : (List.range' a d).filter (fun i => r.getD i false) = [] := by
  rw [List.filter_eq_nil_iff]
  intro m hm
  rw [List.mem_range'_1] at hm
  rw [h m hm.1 hm.2]; simp
theorem kept_mem {l : List S27} {r : List Bool} {j : Nat} (hj : j < l.length) (h : r.getD j false = true) : ∃ m, m < (keptV l r).length ∧ (keptV l r).getD m z27 = l.getD j z27 := by
  have : l.getD j z27 ∈ keptV l r := by
    unfold keptV
    exact List.mem_map.2 ⟨j, List.mem_filter.2 ⟨by rw [List.mem_range'_1]; omega, h⟩, rfl⟩
  obtain ⟨m, hm, e⟩ := List.mem_iff_getElem.1 this
  exact ⟨m, hm, by rw [List.getD_eq_getElem?_getD, List.getElem?_eq_getElem hm]; exact e⟩
theorem kept_adj {l : List S27} {r : List Bool} {a b : Nat} (hab : a < b) (hb : b < l.length) (ha' : r.getD a false = true) (hb' : r.getD b false = true) (h : ∀ m, a < m → m < b → r.getD m false = false) :
    ∃ m, m + 1 < (keptV l r).length ∧ (keptV l r).getD m z27 = l.getD a z27 ∧ (keptV l r).getD (m + 1) z27 = l.getD b z27 := by
  have e : List.range' 0 l.length = List.range' 0 a ++ (a :: (List.range' (a + 1) (b - a - 1) ++ (b :: List.range' (b + 1) (l.length - b - 1)))) := by
    rw [← List.range'_succ, show l.length - b - 1 + 1 = l.length - b by omega]
    have e1 := List.range'_append_1 (s := a + 1) (m := b - a - 1) (n := l.length - b)
    rw [show a + 1 + (b - a - 1) = b by omega] at e1
    rw [e1, ← List.range'_succ]
    have e2 := List.range'_append_1 (s := 0) (m := a) (n := b - a - 1 + (l.length - b) + 1)
    rw [Nat.zero_add] at e2
    rw [e2]
    congr 1; omega
  have f : keptV l r = (((List.range' 0 a).filter fun i => r.getD i false).map fun i => l.getD i z27) ++ (l.getD a z27 :: l.getD b z27 :: (((List.range' (b + 1) (l.length - b - 1)).filter fun i => r.getD i false).map fun i => l.getD i z27)) := by
    unfold keptV
    rw [e, List.filter_append, List.filter_cons_of_pos (p := fun i => r.getD i false) ha', List.filter_append, none_btw r (a + 1) (b - a - 1) (fun m m1 m2 => h m (by omega) (by omega)), List.nil_append, List.filter_cons_of_pos (p := fun i => r.getD i false) hb', List.map_append, List.map_cons, List.map_cons]
  generalize (((List.range' 0 a).filter fun i => r.getD i false).map fun i => l.getD i z27) = X at f
  rw [f]
  refine ⟨X.length, by simp, ?_, ?_⟩
  · simp [List.getD_eq_getElem?_getD]
  · simp [List.getD_eq_getElem?_getD]
theorem kept_first {l : List S27} {r : List Bool} (hl : 0 < l.length) (h : r.getD 0 false = true) : 0 < (keptV l r).length ∧ (keptV l r).getD 0 z27 = l.getD 0 z27 := by
  have e : List.range' 0 l.length = 0 :: List.range' 1 (l.length - 1) := by rw [show l.length = l.length - 1 + 1 by omega, List.range'_succ]; simp
  unfold keptV
  rw [e, List.filter_cons_of_pos (p := fun i => r.getD i false) h, List.map_cons]
  exact ⟨by simp, rfl⟩
theorem kept_last {l : List S27} {r : List Bool} (hl : 0 < l.length) (h : r.getD (l.length - 1) false = true) : (keptV l r).getD ((keptV l r).length - 1) z27 = l.getD (l.length - 1) z27 := by
  have e : List.range' 0 l.length = List.range' 0 (l.length - 1) ++ [l.length - 1] := by
    have e1 := List.range'_append_1 (s := 0) (m := l.length - 1) (n := 1)
    rw [Nat.zero_add, show l.length - 1 + 1 = l.length by omega] at e1
    rw [← e1]; rfl
  have f : keptV l r = (((List.range' 0 (l.length - 1)).filter fun i => r.getD i false).map fun i => l.getD i z27) ++ [l.getD (l.length - 1) z27] := by
    unfold keptV
    rw [e, List.filter_append, List.map_append, List.filter_cons_of_pos (p := fun i => r.getD i false) h]; rfl
  generalize (((List.range' 0 (l.length - 1)).filter fun i => r.getD i false).map fun i => l.getD i z27) = X at f
  rw [f]
  simp [List.getD_eq_getElem?_getD]
theorem anyNr_of {l : List S27} {s : List S53} {n : Int} {i : Nat} (h : ∃ j, j < s.length ∧ nrAt l s n i j = true) : anyNr l s n i = true := by
  have key : ∀ (x : List Nat) (b : Bool), b = true ∨ (∃ j, j ∈ x ∧ nrAt l s n i j = true) → x.foldl (fun b j => b || nrAt l s n i j) b = true := by
    intro x
    induction x with
    | nil => intro b h; rcases h with h | ⟨j, hj, _⟩
             · exact h
             · simp at hj
    | cons a x ih =>
      intro b h
      rw [List.foldl_cons]
      refine ih _ ?_
      rcases h with h | ⟨j, hj, h⟩
      · exact .inl (by rw [h]; rfl)
      · rcases List.mem_cons.1 hj with rfl | hj
        · exact .inl (by rw [h]; simp)
        · exact .inr ⟨j, hj, h⟩
  obtain ⟨j, h1, h2⟩ := h
  exact key _ false (.inr ⟨j, by rw [List.mem_range'_1]; omega, h2⟩)
theorem Nr_a {ax ay bx bY n : Int} (hn : 0 ≤ n) : Nr ax ay bx bY ax ay n := by
  have d : dotZ ax ay bx bY ax ay = 0 := by unfold dotZ; rw [Int.sub_self, Int.sub_self]; simp
  have f : farZ ax ay ax ay = 0 := by unfold farZ; rw [Int.sub_self, Int.sub_self]; rfl
  unfold Nr farN farD
  rw [if_pos (by omega), if_pos (by omega), f, Int.mul_one]
  exact Int.mul_nonneg hn hn
theorem Nr_b {ax ay bx bY n : Int} (ha : Pt ax ay) (hb : Pt bx bY) (hn : 0 ≤ n) : Nr ax ay bx bY bx bY n := by
  have d : dotZ ax ay bx bY bx bY = farZ bx bY ax ay := by unfold dotZ farZ; rfl
  have f : farZ bx bY bx bY = 0 := by unfold farZ; rw [Int.sub_self, Int.sub_self]; rfl
  have b0 := (farZ_bd hb ha).2
  unfold Nr farN farD
  rw [d]
  by_cases c : farZ bx bY ax ay ≤ 0
  · have e : farZ bx bY ax ay = 0 := by omega
    obtain ⟨e1, e2⟩ := farZ_zero e
    rw [if_pos c, if_pos c]
    have f2 : farZ ax ay bx bY = 0 := by rw [farZ_comm]; exact e
    rw [f2, Int.mul_one]; exact Int.mul_nonneg hn hn
  · rw [if_neg c, if_neg c, if_pos (Int.le_refl _), if_pos (Int.le_refl _), f, Int.mul_one]
    exact Int.mul_nonneg hn hn
theorem segs_at (l : List S27) {m : Nat} (h : m + 1 < l.length) : (segs l).getD m z53 = ⟨l.getD m z27, l.getD (m + 1) z27⟩ := by
  unfold segs
  rw [List.getD_eq_getElem?_getD, List.getElem?_map, List.getElem?_range' (by omega)]
  simp [segAt, Nat.add_comm]
theorem ln_sg {l : List S27} (h : Ln l) {m : Nat} (hm : m + 1 < l.length) : Sg (l.getD m z27).f0 (l.getD m z27).f1 (l.getD (m + 1) z27).f0 (l.getD (m + 1) z27).f1 :=
  ⟨(h.2.2 m (by omega)).1, (h.2.2 (m + 1) hm).1, fun e => (h.2.2 (m + 1) hm).2 ⟨by omega, e⟩⟩
theorem simplV_faith {l : List S27} {near : Int} (h : Ln l) (hn : 0 ≤ near ∧ near ≤ 200) (hk : Ln (simplV l near)) : faith l (simplV l near) near = true := by
  have ev : simplV l near = keptV l (marksV l near) := by unfold simplV; rw [if_pos ⟨h, hn⟩]
  rw [ev] at hk ⊢
  have h2 := h.1
  have e0 : (marksV l near).getD 0 false = true := by
    unfold marksV
    rw [btw_keep _ _ _ _ _ _ (by rw [endsR_len]; omega) 0 (.inl (Nat.le_refl _)), endsR_at (by omega)]; simp
  have e1 : (marksV l near).getD (l.length - 1) false = true := by
    unfold marksV
    rw [btw_keep _ _ _ _ _ _ (by rw [endsR_len]; omega) _ (.inr (Nat.le_refl _)), endsR_at (by omega), decide_eq_true (.inr (by omega))]
  obtain ⟨k0, k1⟩ := kept_first (l := l) (r := marksV l near) (by omega) e0
  have k2 := kept_last (l := l) (r := marksV l near) (by omega) e1
  have cov := btw_cov l near l.length 0 (l.length - 1) (endsR l.length) (by omega) (by rw [endsR_len]; omega) (by rw [endsR_at (by omega)]; simp) (by rw [endsR_at (by omega), decide_eq_true (.inr (by omega))]) (fun m m1 m2 => by rw [endsR_at (by omega), decide_eq_false (by omega)])
  have o1 : endsOff l (keptV l (marksV l near)) = false := by unfold endsOff; rw [k1]; simp
  have o2 : endsOff2 l (keptV l (marksV l near)) = false := by unfold endsOff2; rw [k2]; simp
  rw [faith, if_pos ⟨h, hk, o1, o2⟩, if_pos]
  intro i hi
  have pi := (h.2.2 i hi).1
  have hs := segs_len (keptV l (marksV l near))
  have kept : (marksV l near).getD i false = true → anyNr l (segs (keptV l (marksV l near))) near i = true := fun hm => by
    obtain ⟨m, m1, m2⟩ := kept_mem (l := l) (r := marksV l near) hi hm
    have l2 := hk.1
    by_cases c : m + 1 < (keptV l (marksV l near)).length
    · refine anyNr_of ⟨m, by omega, ?_⟩
      unfold nrAt
      rw [segs_at _ c, m2]
      have sg := ln_sg hk c
      rw [m2] at sg
      exact decide_eq_true ⟨sg, pi, hn, Nr_a hn.1⟩
    · have c' : m - 1 + 1 < (keptV l (marksV l near)).length := by omega
      have em : m - 1 + 1 = m := by omega
      refine anyNr_of ⟨m - 1, by omega, ?_⟩
      unfold nrAt
      rw [segs_at _ c']
      have sg := ln_sg hk c'
      rw [em, m2] at sg ⊢
      exact decide_eq_true ⟨sg, pi, hn, Nr_b sg.1 pi hn.1⟩
  by_cases c0 : i = 0
  · subst c0; exact kept e0
  by_cases c1 : i = l.length - 1
  · subst c1; exact kept e1
  rcases cov i (by omega) (by omega) with c | ⟨a, b, a1, a2, a3, a4, a5, a6, a7, a8⟩
  · exact kept c
  · obtain ⟨m, m1, m2, m3⟩ := kept_adj (l := l) (r := marksV l near) (by omega : a < b) (by omega) a5 a6 a7
    refine anyNr_of ⟨m, by omega, ?_⟩
    unfold nrAt
    rw [segs_at _ m1, m2, m3]
    have sg := ln_sg hk m1
    rw [m2, m3] at sg
    exact decide_eq_true ⟨sg, pi, hn, Int.not_lt.1 a8⟩
theorem Nr_more {ax ay bx bY px py n : Int} (h0 : 0 ≤ n) (hd : 0 ≤ farD ax ay bx bY px py) (h : Nr ax ay bx bY px py n) : Nr ax ay bx bY px py (n + 1) := by
  unfold Nr at *
  have h1 : n * n ≤ (n + 1) * (n + 1) := Int.mul_le_mul (by omega) (by omega) h0 (by omega)
  exact Int.le_trans h (Int.mul_le_mul_of_nonneg_right h1 hd)
theorem ends_set (n : Nat) (h : 2 ≤ n) : ((List.replicate n false).set 0 true).set (n - 1) true = endsR n := by
  apply List.ext_getElem (by simp [endsR])
  intro i h1 h2
  simp only [List.length_set, List.length_replicate] at h1
  have e : (endsR n)[i] = decide (i = 0 ∨ i + 1 = n) := by
    have := endsR_at h1
    rw [List.getD_eq_getElem?_getD, List.getElem?_eq_getElem h2] at this
    exact this
  rw [e, List.getElem_set, List.getElem_set, List.getElem_replicate]
  by_cases c : n - 1 = i
  · rw [if_pos c, decide_eq_true (.inr (by omega))]
  · rw [if_neg c]
    by_cases c0 : 0 = i
    · rw [if_pos c0, decide_eq_true (.inl c0.symm)]
    · rw [if_neg c0, decide_eq_false (by omega)]
theorem tImplSimpl (l : List S27) (near : Int) (hl : l.length ≤ 1048576) : Told (fun k => impl_SimplifyLine.f k l near) (simplV l near) := by
  have no : ¬ (Ln l ∧ 0 ≤ near ∧ near ≤ 200) → Told (fun k => impl_SimplifyLine.j0 k l near true) (simplV l near) := fun h => Told.stepr fun k => by
    simp only [impl_SimplifyLine.j0, if_true]
    rw [implClone l hl, simplV, if_neg h]; rfl
  refine Told.bind (tImplLine l hl) ?_
  by_cases h : Ln l
  · refine Told.ite_t (by simpa using h) (Told.bind (Told.of (implInRange _ _ _)) ?_)
    by_cases hn : 0 ≤ near ∧ near ≤ 200
    · have h2 := h.1; have h10 := h.2.1
      rw [decide_eq_true hn, simplV, if_pos ⟨h, hn⟩]
      have w : wrap64 ((l.length : Int) - 1) = ((l.length - 1 : Nat) : Int) := by rw [Gen.w64 (by omega) (by omega)]; omega
      refine Told.step (M := fun k => (impl_keepBetween.f k l (endsR l.length) ((0 : Nat) : Int) ((l.length - 1 : Nat) : Int) near).bind fun t => impl_SimplifyLine.l0 k t [] l (l.length : Int) ((0 : Nat) : Int)) (fun k => ?_) ?_
      · simp only [impl_SimplifyLine.j0, Bool.not_true, Bool.false_eq_true, if_false, Option.bind_some]
        rw [if_pos (by omega), if_pos (by omega), if_pos (by simp; omega), w, if_pos (by omega), if_pos (by simp; omega)]
        simp only [Int.toNat_natCast, Int.toNat_zero]
        rw [ends_set _ h2]; rfl
      refine Told.bind (tImplBtw l h near hn l.length 0 (l.length - 1) (endsR l.length) (by omega) (by omega) (by omega) (endsR_len _)) ?_
      have hm : (marksV l near).length = l.length := by unfold marksV; rw [btw_len, endsR_len]
      refine Told.up (n := l.length) (fun s i => if (marksV l near).getD i false = true then s ++ [l.getD i z27] else s) (fun k s i => impl_SimplifyLine.l0 k (marksV l near) s l (l.length : Int) i) (fun s i => s.length ≤ i) (fun s i hi hv => ⟨by split <;> (try simp only [List.length_append, List.length_singleton]) <;> omega, fun hh => ?_⟩) l.length [] 0 (by omega) (by simp) ?_
      · refine Told.step (fun k => ?_) hh
        simp only [impl_SimplifyLine.l0]
        rw [if_pos (by omega), if_pos (by omega), if_pos (by omega), if_pos (by omega), Gen.w64s (by omega)]
        show (if (marksV l near).getD i false = true then _ else _) = _
        by_cases c : (marksV l near).getD i false = true
        · rw [if_pos c, if_pos c, if_pos (by omega)]; rfl
        · rw [if_neg c, if_neg c]
      · refine Told.stepr fun k => ?_
        simp only [impl_SimplifyLine.l0]
        rw [if_neg (by omega), foldl_keep (fun i => l.getD i z27) (fun i => (marksV l near).getD i false)]
        rfl
    · rw [decide_eq_false hn]; exact no fun q => hn q.2
  · exact Told.ite_f (by simpa using h) (no fun q => h q.1)
theorem pt_eq {a b : S27} (h0 : a.f0 = b.f0) (h1 : a.f1 = b.f1) : a = b := by cases a; cases b; simp at h0 h1; subst h0; subst h1; rfl
theorem ptEq_iff (a b : S27) : ((a.f0 == b.f0 && (a.f1 == b.f1)) = true) ↔ a = b := by
  rw [Bool.and_eq_true, beq_iff_eq, beq_iff_eq]
  constructor
  · rintro ⟨h0, h1⟩; exact pt_eq h0 h1
  · rintro rfl; exact ⟨rfl, rfl⟩
theorem pdrop (l : List S27) (i : Nat) (hi : i < l.length) : l.drop i = l.getD i z27 :: l.drop (i + 1) := by
  rw [List.drop_eq_getElem_cons hi, List.getD_eq_getElem?_getD, List.getElem?_eq_getElem hi]; rfl
theorem sub_ne {α : Type} {a b : α} {x y : List α} (h : List.Sublist (a :: x) (b :: y)) (n : a ≠ b) : List.Sublist (a :: x) y := by
  cases h with
  | cons _ h => exact h
  | cons_cons _ h => exact absurd rfl n
theorem tImplPart (v l : List S27) (hl : l.length ≤ 1048576) (hs : List.Sublist v l) : Told (fun k => impl_IsPartOf.f k v l) true := by
  have hv := hs.length_le
  have key : ∀ d (j i : Nat), j + d = l.length → i ≤ v.length → List.Sublist (v.drop i) (l.drop j) → Told (fun k => impl_IsPartOf.l0 k v (i : Int) l (l.length : Int) (j : Int)) true := by
    intro d
    induction d with
    | zero =>
      intro j i hj hi h
      have e : i = v.length := by
        have := h.length_le
        simp at this; omega
      exact Told.stepr fun k => by simp only [impl_IsPartOf.l0]; rw [if_neg (by omega)]; simp [e]
    | succ d ih =>
      intro j i hj hi h
      by_cases c : i < v.length
      · rw [pdrop v i c, pdrop l j (by omega)] at h
        by_cases e : v.getD i z27 = l.getD j z27
        · have h' : List.Sublist (v.drop (i + 1)) (l.drop (j + 1)) := by rw [e] at h; exact List.cons_sublist_cons.mp h
          refine Told.step (fun k => ?_) (ih (j + 1) (i + 1) (by omega) (by omega) h')
          simp only [impl_IsPartOf.l0]
          rw [if_pos (by omega), if_pos (by omega), if_pos (by omega), if_pos (by omega), if_pos (by omega), rdP, rdP, if_pos ((ptEq_iff _ _).mpr e), Gen.w64s (by omega), Gen.w64s (by omega)]
        · have h' := sub_ne h e
          rw [← pdrop v i c] at h'
          refine Told.step (fun k => ?_) (ih (j + 1) i (by omega) (by omega) h')
          simp only [impl_IsPartOf.l0]
          rw [if_pos (by omega), if_pos (by omega), if_pos (by omega), if_pos (by omega), if_pos (by omega), rdP, rdP, if_neg (fun q => e ((ptEq_iff _ _).mp q)), Gen.w64s (by omega)]
      · refine Told.step (fun k => ?_) (ih (j + 1) i (by omega) (by omega) (by rw [List.drop_of_length_le (by omega)]; exact List.nil_sublist _))
        simp only [impl_IsPartOf.l0]
        rw [if_pos (by omega), if_pos (by omega), if_pos (by omega), if_neg (by omega), Gen.w64s (by omega)]
  exact key l.length 0 0 (by omega) (by omega) hs
theorem dOnce {xs : List Int} {p : Int} (c : CK xs p) (s n : Int) : ∃ b p' s', spec_l1Once.f xs p s n = some (b, p', s') ∧ CK xs p' := by
  obtain ⟨b, p1, s1, e1, _, _, _, c1⟩ := dBelow c s n
  unfold spec_l1Once.f
  rw [e1]
  exact ⟨_, _, _, rfl, c1⟩
theorem dNear {xs : List Int} {p : Int} (c : CK xs p) (s : Int) : ∃ b p' s', spec_l11Near.f xs p s = some (b, p', s') ∧ b ∈ ([0, 1, 2, 3, 5, 200, 201, (-1)] : List Int) ∧ CK xs p' := by
  obtain ⟨b, p1, s1, e1, h, c1⟩ := dInt c s [0, 1, 2, 3, 5, 200, 201, (-1)] (by simp)
  unfold spec_l11Near.f
  rw [e1]
  exact ⟨_, _, _, rfl, h, c1⟩
theorem d5Draw {xs : List Int} {p : Int} (c : CK xs p) (s : Int) : ∃ x y z u p' s', spec_l5Draw.f xs p s = some (x, y, z, u, p', s') ∧ CK xs p' := by
  obtain ⟨x, y, p1, s1, e1, _, _, _, _, c1⟩ := d4Draw c s
  obtain ⟨z, p2, s2, e2, _, _, _, c2⟩ := dBelow c1 s1 12
  obtain ⟨b, p3, s3, e3, c3⟩ := dOnce c2 s2 3
  obtain ⟨u, p4, s4, e4, _, _, _, c4⟩ := dBelow c3 s3 12
  unfold spec_l5Draw.f
  simp only [e1, e2, e3, e4, Option.bind_some]
  by_cases h : b = true
  · rw [if_pos h]; exact ⟨_, _, _, _, _, _, rfl, c3⟩
  · rw [if_neg h]; exact ⟨_, _, _, _, _, _, rfl, c4⟩
theorem d5Any {xs : List Int} {p : Int} (c : CK xs p) (s : Int) : ∃ x y z u p' s', spec_l5Any.f xs p s = some (x, y, z, u, p', s') ∧ CK xs p' := by
  obtain ⟨x, y, z, u, p1, s1, e1, c1⟩ := d5Draw c s
  obtain ⟨b, p2, s2, e2, c2⟩ := dOnce c1 s1 9
  obtain ⟨v, w, p3, s3, e3, c3⟩ := d4Any c2 s2
  unfold spec_l5Any.f
  simp only [e1, e2, e3, Option.bind_some]
  by_cases h : b = true
  · rw [if_pos h]; exact ⟨_, _, _, _, _, _, rfl, c3⟩
  · rw [if_neg h]; exact ⟨_, _, _, _, _, _, rfl, c2⟩
theorem dSimpl (xs : List Int) (h : xs.length ≤ 1048576) : ∃ l n, Told (fun k => spec_DrawSimplifyLine.f k xs) (l, n) ∧ l.length ≤ 11 := by
  obtain ⟨s, t⟩ := dNew xs h
  obtain ⟨l, p1, s1, t1, g1, g2, c1⟩ := d6Any (ck0 h) s
  obtain ⟨n, p2, s2, e2, _, c2⟩ := dNear c1 s1
  exact ⟨l, n, Told.bind t (Told.bind t1 (Told.bind (Told.of e2) (Told.ret _))), g2⟩
theorem tNears (xs : List Int) (h : xs.length ≤ 1048576) : Told (fun k => laws_FnSimplified.j1 k xs false) true := by
  obtain ⟨s, t⟩ := dNew xs h
  obtain ⟨x, y, z, u, p1, s1, e1, c1⟩ := d5Any (ck0 h) s
  obtain ⟨v, w, p2, s2, e2, c2⟩ := d4Any c1 s1
  obtain ⟨n, p3, s3, e3, hn, c3⟩ := dNear c2 s2
  have hn' : -1 ≤ n ∧ n ≤ 201 := by
    simp only [List.mem_cons, List.not_mem_nil, or_false] at hn
    omega
  refine Told.step (fun k => by simp only [laws_FnSimplified.j1]; rw [if_neg (by simp)]) ?_
  refine Told.bind (Told.bind t (Told.bind (Told.of e1) (Told.bind (Told.of e2) (Told.bind (Told.of e3) (Told.ret _))))) (Told.bind (Told.of implNear) ?_)
  by_cases hh : Sg x y z u ∧ Pt v w ∧ (0 ≤ n ∧ n ≤ 200) ∧ Nr x y z u v w n
  · refine Told.ite_t (by simpa using hh) ?_
    by_cases c : n = 200
    · exact Told.ite_t c (Told.ret _)
    · refine Told.ite_f c (Told.bind (Told.of implNear) (Told.of ?_))
      have e : wrap64 (n + 1) = n + 1 := Gen.w64 (by omega) (by omega)
      dsimp only
      rw [e, decide_eq_true]
      refine ⟨hh.1, hh.2.1, by omega, Nr_more (by omega) ?_ hh.2.2.2⟩
      have := (farD_bd (px := v) (py := w) hh.1).1
      omega
  · exact Told.ite_f (by simpa using hh) (Told.ret _)
theorem pure_FnSimplified : ∀ (l0 : (List Int)), (List.length l0 ≤ maxLen ∧ ∀ y ∈ l0, (0 ≤ y ∧ y ≤ 255)) → ∃ k, laws_FnSimplified.f k l0 = some true := by
  intro xs ⟨_, _⟩
  apply Told.ex
  refine Told.bind (Told.ret _) ?_
  by_cases hb : (xs.length : Int) > 1048576
  · exact Told.ite_t (decide_eq_true hb) (Told.ret _)
  have hx : xs.length ≤ 1048576 := by omega
  refine Told.ite_f (by simpa using hb) ?_
  obtain ⟨l, n, t, hl⟩ := dSimpl xs hx
  have l1 : l.length ≤ 1048576 := by omega
  have ti := tImplSimpl l n l1
  have sub := simplV_sub l n
  have lv := sub.length_le
  refine Told.bind t (Told.bind ti (Told.bind (tImplPart _ l l1 sub) (Told.ite_t rfl (Told.bind (Told.bind ti (Told.ret _)) ?_))))
  refine Told.step (M := fun k => (impl_IsLine.f k l).bind fun t376 => (if t376 = true then (if n ≥ 0 then (if n ≤ 200 then ((impl_IsLine.f k (simplV l n)).bind fun t377 => (if t377 = true then ((impl_IsFaithful.f k l (simplV l n) n).bind fun t378 => (laws_FnSimplified.j1 k xs (!t378))) else (laws_FnSimplified.j1 k xs false))) else (laws_FnSimplified.j1 k xs false)) else (laws_FnSimplified.j1 k xs false)) else (laws_FnSimplified.j1 k xs false))) (fun k => by simp only [laws_FnSimplified.j0, bne_self_eq_false, Bool.false_eq_true, if_false]) (Told.bind (tImplLine l l1) ?_)
  have no := tNears xs hx
  by_cases h1 : Ln l
  · refine Told.ite_t (by simpa using h1) ?_
    by_cases h2 : n ≥ 0
    · refine Told.ite_t h2 ?_
      by_cases h3 : n ≤ 200
      · refine Told.ite_t h3 (Told.bind (tImplLine _ (by omega)) ?_)
        by_cases h4 : Ln (simplV l n)
        · refine Told.ite_t (by simpa using h4) (Told.bind (tImplFaith l _ n l1 (by omega)) ?_)
          rw [simplV_faith h1 ⟨h2, h3⟩ h4]
          exact no
        · exact Told.ite_f (by simpa using h4) no
      · exact Told.ite_f h3 no
    · exact Told.ite_f h2 no
  · exact Told.ite_f (by simpa using h1) no
end Go.Proofs.Ytbackoeakepngaa.MFnSimplified
