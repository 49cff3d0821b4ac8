/- The plain law behind FnBoxes: what the printed functions compute answers true; no condition beyond the arguments' ranges. -/
import Derived.Test.YtbackoeakepngaaZFnBoxesTold
import Derived.Laws.BitsLemmas
import Derived.Test.YtbackoeakepngaaZFnBoxesMx7
import Derived.Test.YtbackoeakepngaaZFnBoxesOpn
namespace Go.Proofs.Ytbackoeakepngaa.MFnBoxes
open Go Go.RowKit Go.Proofs.YtbackoeakepngaaW.PrintWords Go.Proofs.YtbackoeakepngaaW.PrintLast Go.Proofs.YtbackoeakepngaaW.PrintMore Go.Proofs.Ytbackoeakepngaa.Open
set_option linter.unusedVariables false
set_option linter.unusedSimpArgs false
theorem and255 (n : Int) : 0 ≤ bits .and .i64 n 255 ∧ bits .and .i64 n 255 ≤ 255 := by
  have h : (BitVec.ofInt 64 255).toNat = 2 ^ 8 - 1 := by decide
  have key : (BitVec.ofInt 64 n &&& BitVec.ofInt 64 255).toNat = (n % ((2 ^ 64 : Nat) : Int)).toNat % 2 ^ 8 := by
    rw [BitVec.toNat_and, BitVec.toNat_ofInt, h, Nat.and_two_pow_sub_one_eq_mod]
  show 0 ≤ IntKind.i64.wrap ((BitVec.ofInt 64 n &&& BitVec.ofInt 64 255).toNat : Nat) ∧ IntKind.i64.wrap ((BitVec.ofInt 64 n &&& BitVec.ofInt 64 255).toNat : Nat) ≤ 255
  rw [key, IntKind.wrap_i64]
  omega
structure CK (xs : List Int) (p : Int) : Prop where
  lo : 0 ≤ p
  hi : p ≤ xs.length
  sm : xs.length ≤ 1048576
theorem dByte {xs : List Int} {p : Int} (c : CK xs p) (s : Int) : ∃ b p' s', spec_l1Byte.f xs p s = some (b, p', s') ∧ 0 ≤ b ∧ b ≤ 255 ∧ CK xs p' := by
  obtain ⟨a, b, d⟩ := c
  unfold spec_l1Byte.f
  by_cases h : p < (xs.length : Int)
  · rw [if_pos h, if_pos a]
    refine ⟨_, _, _, rfl, (and255 _).1, (and255 _).2, ?_⟩
    rw [Gen.w64 (by omega) (by omega)]
    exact ⟨by omega, by omega, d⟩
  · rw [if_neg h]
    exact ⟨_, _, _, rfl, (and255 _).1, (and255 _).2, a, b, d⟩
theorem tmod_bd {b n : Int} (h : 0 ≤ b) (hn : 0 < n) : 0 ≤ Int.tmod b n ∧ Int.tmod b n < n := by
  rw [Int.tmod_eq_emod_of_nonneg h]
  exact ⟨Int.emod_nonneg _ (by omega), Int.emod_lt_of_pos _ hn⟩
theorem dBelow {xs : List Int} {p : Int} (c : CK xs p) (s n : Int) : ∃ b p' s', spec_l1Below.f xs p s n = some (b, p', s') ∧ 0 ≤ b ∧ (0 < n → b < n) ∧ (n ≤ 0 → b = 0) ∧ CK xs p' := by
  unfold spec_l1Below.f
  by_cases h : n ≤ 0
  · rw [if_pos h]; exact ⟨_, _, _, rfl, by omega, by omega, fun _ => rfl, c⟩
  · rw [if_neg h]
    obtain ⟨b, p1, s1, e, b0, b1, c1⟩ := dByte c s
    by_cases h2 : n ≤ 256
    · rw [if_pos h2, e]
      simp only [Option.bind_some]
      rw [if_neg (by omega)]
      exact ⟨_, _, _, rfl, (tmod_bd b0 (by omega)).1, fun _ => (tmod_bd b0 (by omega)).2, by omega, c1⟩
    · rw [if_neg h2, e]
      obtain ⟨d, p2, s2, e2, d0, d1, c2⟩ := dByte c1 s1
      obtain ⟨g, p3, s3, e3, g0, g1, c3⟩ := dByte c2 s2
      simp only [Option.bind_some, e2, e3]
      rw [if_neg (by omega)]
      have w : wrap64 ((wrap64 ((wrap64 (b * 65536)) + (wrap64 (d * 256)))) + g) = b * 65536 + d * 256 + g := by
        rw [Gen.w64 (n := b * 65536) (by omega) (by omega), Gen.w64 (n := d * 256) (by omega) (by omega), Gen.w64 (n := b * 65536 + d * 256) (by omega) (by omega), Gen.w64 (by omega) (by omega)]
      rw [w]
      exact ⟨_, _, _, rfl, (tmod_bd (by omega) (by omega)).1, fun _ => (tmod_bd (by omega) (by omega)).2, by omega, c3⟩
theorem dInt {xs : List Int} {p : Int} (c : CK xs p) (s : Int) (l : List Int) (hl : 0 < l.length) : ∃ b p' s', spec_l1Int.f xs p s l = some (b, p', s') ∧ b ∈ l ∧ CK xs p' := by
  unfold spec_l1Int.f
  obtain ⟨b, p1, s1, e, b0, b1, _, c1⟩ := dBelow c s (l.length : Int)
  have b1 := b1 (by omega)
  rw [e]
  simp only [Option.bind_some]
  rw [if_pos b0, if_pos b1]
  refine ⟨_, _, _, rfl, ?_, c1⟩
  unfold rd
  rw [List.getD_eq_getElem?_getD, List.getElem?_eq_getElem (by omega)]
  exact List.getElem_mem _
theorem dNew (xs : List Int) (h : xs.length ≤ 1048576) : ∃ s, Told (fun k => spec_l1New.f k xs) (xs, 0, s) := by
  have key : ∀ d (i : Nat), i + d = xs.length → ∀ s, ∃ s', Told (fun k => spec_l1New.l0 k xs s (i : Int)) (xs, 0, s') := by
    intro d
    induction d with
    | zero => intro i hi s; exact ⟨s, Told.stepr fun k => by simp only [spec_l1New.l0]; rw [if_neg (by omega)]⟩
    | succ d ih =>
      intro i hi s
      by_cases h4 : (i : Int) < 4000
      · obtain ⟨s', hs⟩ := ih (i + 1) (by omega) _
        exact ⟨s', Told.step (fun k => by simp only [spec_l1New.l0]; rw [if_pos (by omega), if_pos h4, if_pos (by omega), Gen.w64s (by omega)]) hs⟩
      · exact ⟨s, Told.stepr fun k => by simp only [spec_l1New.l0]; rw [if_pos (by omega), if_neg h4]⟩
  exact key xs.length 0 (by omega) _
theorem ck0 {xs : List Int} (h : xs.length ≤ 1048576) : CK xs 0 := ⟨by omega, by omega, h⟩
theorem d4Draw {xs : List Int} {p : Int} (c : CK xs p) (s : Int) : ∃ x y p' s', spec_l4Draw.f xs p s = some (x, y, p', s') ∧ 0 ≤ x ∧ x < 12 ∧ 0 ≤ y ∧ y < 12 ∧ CK xs p' := by
  unfold spec_l4Draw.f
  obtain ⟨x, p1, s1, e1, x0, x1, _, c1⟩ := dBelow c s 12
  obtain ⟨y, p2, s2, e2, y0, y1, _, c2⟩ := dBelow c1 s1 12
  simp only [e1, e2, Option.bind_some]
  exact ⟨_, _, _, _, rfl, x0, x1 (by omega), y0, y1 (by omega), c2⟩
theorem d4Raw {xs : List Int} {p : Int} (c : CK xs p) (s : Int) : ∃ x p' s', spec_l4Raw.f xs p s = some (x, p', s') ∧ CK xs p' := by
  unfold spec_l4Raw.f
  obtain ⟨x, p1, s1, e1, x0, c1⟩ := dInt c s [(-1), 0, 200, 201, 1000, 1001, 9223372036854775807, (-9223372036854775808)] (by simp)
  simp only [e1, Option.bind_some]
  exact ⟨_, _, _, rfl, c1⟩
theorem d4Any {xs : List Int} {p : Int} (c : CK xs p) (s : Int) : ∃ x y p' s', spec_l4Any.f xs p s = some (x, y, p', s') ∧ CK xs p' := by
  unfold spec_l4Any.f
  obtain ⟨x, y, p1, s1, e1, _, _, _, _, c1⟩ := d4Draw c s
  obtain ⟨b, p2, s2, e2, _, _, _, c2⟩ := dBelow c1 s1 12
  obtain ⟨z, p3, s3, e3, c3⟩ := d4Raw c2 s2
  simp only [e1, e2, e3, Option.bind_some]
  by_cases h : b = 0
  · rw [if_pos h]; exact ⟨_, _, _, _, rfl, c3⟩
  · rw [if_neg h]
    by_cases h1 : b = 1
    · rw [if_pos h1]; exact ⟨_, _, _, _, rfl, c3⟩
    · rw [if_neg h1]; exact ⟨_, _, _, _, rfl, c2⟩
theorem dl_min (a b : Int) : ∃ v, spec_Min.f a b = some v := by unfold spec_Min.f; split <;> exact ⟨_, rfl⟩
theorem d6DrawL {xs : List Int} : ∀ (d : Nat) (p s : Int) (l : List S27), CK xs p → 1 ≤ l.length → l.length + d ≤ 100 → ∃ l' p' s', Told (fun k => spec_l6Draw.l0 k l (d : Int) xs p s) (l', p', s') ∧ 1 ≤ l'.length ∧ l'.length ≤ l.length + d ∧ CK xs p' := by
  intro d
  induction d with
  | zero => intro p s l c h1 h2; exact ⟨l, p, s, Told.stepr fun k => by simp only [spec_l6Draw.l0]; rw [if_neg (by omega)], h1, by omega, c⟩
  | succ d ih =>
    intro p s l c h1 h2
    obtain ⟨x, p1, s1, e1, _, _, _, c1⟩ := dBelow c s 14
    obtain ⟨y, p2, s2, e2, _, _, _, c2⟩ := dBelow c1 s1 4
    obtain ⟨v, ev⟩ := dl_min 200 (wrap64 (((rd_T27 l (wrap64 ((l.length : Int) - 1))).f1) + y))
    have w : wrap64 (((d + 1 : Nat) : Int) - 1) = (d : Int) := by rw [Gen.w64 (by omega) (by omega)]; omega
    have fit : l.length < 8796093022208 := by omega
    by_cases h : (x == ((rd_T27 l (wrap64 ((l.length : Int) - 1))).f0) && (v == ((rd_T27 l (wrap64 ((l.length : Int) - 1))).f1))) = true
    · obtain ⟨l', p', s', t, g1, g2, g3⟩ := ih p2 s2 (l ++ [⟨wrap64 (x + 1), v⟩]) c2 (by simp) (by simp; omega)
      refine ⟨l', p', s', Told.step (fun k => ?_) t, g1, by simp at g2; omega, g3⟩
      simp only [spec_l6Draw.l0]
      rw [if_pos (by omega), if_pos (by rw [Gen.w64 (by omega) (by omega)]; omega), if_pos (by rw [Gen.w64 (by omega) (by omega)]; omega)]
      simp only [e1, e2, ev, Option.bind_some]
      rw [if_pos h, if_pos fit, w]
    · obtain ⟨l', p', s', t, g1, g2, g3⟩ := ih p2 s2 (l ++ [⟨x, v⟩]) c2 (by simp) (by simp; omega)
      refine ⟨l', p', s', Told.step (fun k => ?_) t, g1, by simp at g2; omega, g3⟩
      simp only [spec_l6Draw.l0]
      rw [if_pos (by omega), if_pos (by rw [Gen.w64 (by omega) (by omega)]; omega), if_pos (by rw [Gen.w64 (by omega) (by omega)]; omega)]
      simp only [e1, e2, ev, Option.bind_some]
      rw [if_neg h, if_pos fit, w]
theorem d6Draw {xs : List Int} {p : Int} (c : CK xs p) (s : Int) : ∃ l p' s', Told (fun k => spec_l6Draw.f k xs p s) (l, p', s') ∧ 1 ≤ l.length ∧ l.length ≤ 10 ∧ CK xs p' := by
  obtain ⟨x, y, p1, s1, e1, _, _, _, _, c1⟩ := d4Draw c s
  obtain ⟨b, p2, s2, e2, b0, b1, _, c2⟩ := dBelow c1 s1 5
  have b1 := b1 (by omega)
  obtain ⟨l, p3, s3, t, g1, g2, g3⟩ := d6DrawL (1 + b).toNat p2 s2 [⟨x, y⟩] c2 (by simp) (by simp; omega)
  refine ⟨l, p3, s3, Told.bind (Told.of e1) (Told.bind (Told.of e2) (Told.eq (fun k => ?_) t)), g1, by simp at g2; omega, g3⟩
  rw [show (((1 + b).toNat : Nat) : Int) = wrap64 (1 + b) by rw [Gen.w64 (by omega) (by omega)]; omega]
theorem d6AnyL {xs : List Int} (p s : Int) : ∀ (d : Nat) (l : List S27), l.length + d = 11 → ∃ l', Told (fun k => spec_l6Any.l0 k l xs p s) (l', p, s) ∧ l'.length = 11 := by
  intro d
  induction d with
  | zero => intro l h; exact ⟨l, Told.stepr fun k => by simp only [spec_l6Any.l0]; rw [if_neg (by omega)], by omega⟩
  | succ d ih =>
    intro l h
    obtain ⟨l', t, g⟩ := ih (l ++ [⟨(l.length : Int), wrap64 (50 + (l.length : Int))⟩]) (by simp; omega)
    exact ⟨l', Told.step (fun k => by simp only [spec_l6Any.l0]; rw [if_pos (by omega), if_pos (by omega)]) t, g⟩
theorem d6Any {xs : List Int} {p : Int} (c : CK xs p) (s : Int) : ∃ l p' s', Told (fun k => spec_l6Any.f k xs p s) (l, p', s') ∧ 1 ≤ l.length ∧ l.length ≤ 11 ∧ CK xs p' := by
  obtain ⟨l, p1, s1, t1, g1, g2, c1⟩ := d6Draw c s
  obtain ⟨b, p2, s2, e2, b0, _, _, c2⟩ := dBelow c1 s1 12
  by_cases h0 : b = 0
  · obtain ⟨x, y, p3, s3, e3, c3⟩ := d4Any c2 s2
    exact ⟨_, p3, s3, Told.bind t1 (Told.bind (Told.of e2) (Told.ite_t h0 (Told.bind (Told.of e3) (Told.ite_t (by dsimp only; omega) (Told.ret _))))), by simpa using g1, by simp; omega, c3⟩
  by_cases h1 : b = 1
  · have w : wrap64 ((l.length : Int) - 1) = (l.length : Int) - 1 := Gen.w64 (by omega) (by omega)
    exact ⟨_, p2, s2, Told.bind t1 (Told.bind (Told.of e2) (Told.ite_f h0 (Told.ite_t h1 (Told.ite_t (by dsimp only; omega) (Told.ite_t (by dsimp only; omega) (Told.ite_t (by dsimp only; omega) (Told.ret _))))))), by simp, by simp; omega, c2⟩
  by_cases h2 : b = 2
  · exact ⟨_, p2, s2, Told.bind t1 (Told.bind (Told.of e2) (Told.ite_f h0 (Told.ite_f h1 (Told.ite_t h2 (Told.ite_t (by dsimp only; omega) (Told.ret _)))))), by dsimp only; rw [List.length_take]; omega, by dsimp only; rw [List.length_take]; omega, c2⟩
  by_cases h3 : b = 3
  · obtain ⟨l', t', g'⟩ := d6AnyL (xs := xs) p2 s2 (11 - l.length) l (by omega)
    exact ⟨_, p2, s2, Told.bind t1 (Told.bind (Told.of e2) (Told.ite_f h0 (Told.ite_f h1 (Told.ite_f h2 (Told.ite_t h3 t'))))), by omega, by omega, c2⟩
  · exact ⟨_, p2, s2, Told.bind t1 (Told.bind (Told.of e2) (Told.ite_f h0 (Told.ite_f h1 (Told.ite_f h2 (Told.ite_f h3 (Told.ret _)))))), g1, by dsimp only; omega, c2⟩
theorem dIsLine (xs : List Int) (h : xs.length ≤ 1048576) : ∃ l, Told (fun k => spec_DrawIsLine.f k xs) l ∧ 1 ≤ l.length ∧ l.length ≤ 11 := by
  obtain ⟨s, t⟩ := dNew xs h
  obtain ⟨l, p, s', t2, g1, g2, _⟩ := d6Any (ck0 h) s
  exact ⟨l, Told.bind t (Told.bind t2 (Told.ret _)), g1, g2⟩
theorem d8Draw {xs : List Int} {p : Int} (c : CK xs p) (s : Int) : ∃ a b d e p' s', spec_l8Draw.f xs p s = some (a, b, d, e, p', s') ∧ CK xs p' := by
  unfold spec_l8Draw.f
  obtain ⟨x, y, p1, s1, e1, _, _, _, _, c1⟩ := d4Draw c s
  obtain ⟨b, p2, s2, e2, _, _, _, c2⟩ := dBelow c1 s1 6
  obtain ⟨d, p3, s3, e3, _, _, _, c3⟩ := dBelow c2 s2 6
  simp only [e1, e2, e3, Option.bind_some]
  exact ⟨_, _, _, _, _, _, rfl, c3⟩
theorem d8Any {xs : List Int} {p : Int} (c : CK xs p) (s : Int) : ∃ a b d e p' s', spec_l8Any.f xs p s = some (a, b, d, e, p', s') ∧ CK xs p' := by
  unfold spec_l8Any.f
  obtain ⟨a, b, d, e, p1, s1, e1, c1⟩ := d8Draw c s
  obtain ⟨n, p2, s2, e2, _, _, _, c2⟩ := dBelow c1 s1 10
  obtain ⟨x, y, p3, s3, e3, c3⟩ := d4Any c2 s2
  simp only [e1, e2, e3, Option.bind_some]
  by_cases h : n = 0
  · rw [if_pos h]; exact ⟨_, _, _, _, _, _, rfl, c3⟩
  · rw [if_neg h]
    by_cases h1 : n = 1
    · rw [if_pos h1]; exact ⟨_, _, _, _, _, _, rfl, c3⟩
    · rw [if_neg h1]; exact ⟨_, _, _, _, _, _, rfl, c2⟩
theorem dBoxesMeet (xs : List Int) (h : xs.length ≤ 1048576) : ∃ a b c d e f g i, Told (fun k => spec_DrawBoxesMeet.f k xs) (a, b, c, d, e, f, g, i) := by
  obtain ⟨s, t⟩ := dNew xs h
  obtain ⟨a, b, c, d, p1, s1, e1, c1⟩ := d8Any (ck0 h) s
  obtain ⟨e, f, g, i, p2, s2, e2, c2⟩ := d8Any c1 s1
  exact ⟨a, b, c, d, e, f, g, i, Told.bind t (Told.bind (Told.of e1) (Told.bind (Told.of e2) (Told.ret _)))⟩
theorem dGrowBox (xs : List Int) (h : xs.length ≤ 1048576) : ∃ a b c d n, Told (fun k => spec_DrawGrowBox.f k xs) (a, b, c, d, n) := by
  obtain ⟨s, t⟩ := dNew xs h
  obtain ⟨a, b, c, d, p1, s1, e1, c1⟩ := d8Any (ck0 h) s
  obtain ⟨n, p2, s2, e2, _, c2⟩ := dInt c1 s1 [0, 1, 5, 200, 201, (-1)] (by simp)
  exact ⟨a, b, c, d, n, Told.bind t (Told.bind (Told.of e1) (Told.bind (Told.of e2) (Told.ret _)))⟩
theorem implInRange (a b c : Int) : impl_InRange.f a b c = some (decide (b ≤ a ∧ a ≤ c)) := by
  unfold impl_InRange.f; by_cases h : b ≤ a <;> simp [h]
theorem specIn (a b c : Int) : spec_l1In.f a b c = some (decide (b ≤ a ∧ a ≤ c)) := by
  unfold spec_l1In.f; by_cases h : b ≤ a <;> simp [h]
def Pt (x y : Int) : Prop := 0 ≤ x ∧ x ≤ 200 ∧ 0 ≤ y ∧ y ≤ 200
instance (x y : Int) : Decidable (Pt x y) := by unfold Pt; infer_instance
theorem implIsPoint (x y : Int) : impl_IsPoint.f x y = some (decide (Pt x y)) := by
  unfold impl_IsPoint.f
  rw [implInRange, implInRange]
  simp only [Option.bind_some]
  by_cases h : 0 ≤ x ∧ x ≤ 200
  · rw [if_pos (by simpa using h)]; simp [Pt, h]
  · rw [if_neg (by simpa using h)]; simp only [Option.some.injEq, Bool.false_eq, decide_eq_false_iff_not]; unfold Pt; omega
theorem specIsPoint (x y : Int) : spec_IsPoint.f x y = some (decide (Pt x y)) := by
  unfold spec_IsPoint.f
  rw [specIn, specIn]
  simp only [Option.bind_some]
  by_cases h : 0 ≤ x ∧ x ≤ 200
  · rw [if_pos (by simpa using h)]; simp [Pt, h]
  · rw [if_neg (by simpa using h)]; simp only [Option.some.injEq, Bool.false_eq, decide_eq_false_iff_not]; unfold Pt; omega
def Bx (a b c d : Int) : Prop := Pt a b ∧ Pt c d ∧ a ≤ c ∧ b ≤ d
instance (a b c d : Int) : Decidable (Bx a b c d) := by unfold Bx; infer_instance
theorem implIsBox (a b c d : Int) : impl_IsBox.f a b c d = some (decide (Bx a b c d)) := by
  unfold impl_IsBox.f
  rw [implIsPoint, implIsPoint]
  simp only [Option.bind_some, decide_eq_true_eq]
  by_cases h1 : Pt a b <;> by_cases h2 : Pt c d <;> by_cases h3 : a ≤ c <;> simp [Bx, h1, h2, h3]
theorem specIsBox (a b c d : Int) : spec_IsBox.f a b c d = some (decide (Bx a b c d)) := by
  unfold spec_IsBox.f
  rw [specIsPoint, specIsPoint]
  simp only [Option.bind_some, decide_eq_true_eq]
  by_cases h1 : Pt a b <;> by_cases h2 : Pt c d <;> by_cases h3 : a ≤ c <;> simp [Bx, h1, h2, h3]
def bxP (p : S27) : Prop := Pt p.f0 p.f1
instance (p : S27) : Decidable (bxP p) := by unfold bxP; infer_instance
def boxGo : List S27 → Int → Int → Int → Int → Int × Int × Int × Int × Bool
  | [], a, b, c, d => (a, b, c, d, true)
  | p :: l, a, b, c, d => if bxP p then boxGo l (mn a p.f0) (mn b p.f1) (mx c p.f0) (mx d p.f1) else (0, 0, 0, 0, false)
def boxV (l : List S27) : Int × Int × Int × Int × Bool := if l.length = 0 then (0, 0, 0, 0, false) else boxGo l (l.getD 0 z27).f0 (l.getD 0 z27).f1 (l.getD 0 z27).f0 (l.getD 0 z27).f1
theorem bx_drop (l : List S27) (i : Nat) (hi : i < l.length) : l.drop i = l.getD i z27 :: l.drop (i + 1) := by
  rw [List.drop_eq_getElem_cons hi, List.getD_eq_getElem?_getD, List.getElem?_eq_getElem hi]; rfl
theorem bx_rd (l : List S27) (i : Nat) : rd_T27 l (i : Int) = l.getD i z27 := rfl
theorem tImplBoxGo (l : List S27) (hl : l.length ≤ 1048576) : ∀ d (i : Nat), i + d = l.length → ∀ a b c e, Told (fun k => impl_BoxOf.l0 k l (l.length : Int) i a b c e) (boxGo (l.drop i) a b c e) := by
  intro d
  induction d with
  | zero =>
    intro i hi a b c e
    rw [List.drop_eq_nil_of_le (by omega)]
    exact Told.stepr fun k => by simp only [impl_BoxOf.l0]; rw [if_neg (by omega)]; rfl
  | succ d ih =>
    intro i hi a b c e
    rw [bx_drop l i (by omega), boxGo]
    refine Told.step (M := fun k => if bxP (l.getD i z27) then impl_BoxOf.l0 k l (l.length : Int) ((i + 1 : Nat) : Int) (mn a (l.getD i z27).f0) (mn b (l.getD i z27).f1) (mx c (l.getD i z27).f0) (mx e (l.getD i z27).f1) else some (0, 0, 0, 0, false)) (fun k => by simp only [impl_BoxOf.l0]; rw [if_pos (by omega), if_pos (by omega), if_pos (by omega), bx_rd, implIsPoint, Gen.w64s (by omega)]; simp only [Option.bind_some, decide_eq_true_eq, bxP]) ?_
    by_cases h : bxP (l.getD i z27)
    · rw [if_pos h]; exact Told.ite_t h (ih (i + 1) (by omega) _ _ _ _)
    · rw [if_neg h]; exact Told.ite_f h (Told.ret _)
theorem tImplBoxOf (l : List S27) (hl : l.length ≤ 1048576) : Told (fun k => impl_BoxOf.f k l) (boxV l) := by
  unfold boxV
  by_cases h : l.length = 0
  · rw [if_pos h]; exact Told.ite_t (by omega) (Told.ret _)
  · rw [if_neg h]; exact Told.ite_f (by omega) (Told.ite_t (by omega) (tImplBoxGo l hl l.length 0 (by omega) _ _ _ _))
def InB (a b c d x y : Int) : Prop := Bx a b c d ∧ (a ≤ x ∧ x ≤ c) ∧ b ≤ y ∧ y ≤ d
instance (a b c d x y : Int) : Decidable (InB a b c d x y) := by unfold InB; infer_instance
theorem implInBox (a b c d x y : Int) : impl_InBox.f a b c d x y = some (decide (InB a b c d x y)) := by
  unfold impl_InBox.f
  rw [implIsBox, implInRange, implInRange]
  simp only [Option.bind_some, decide_eq_true_eq]
  by_cases h1 : Bx a b c d <;> by_cases h2 : a ≤ x ∧ x ≤ c <;> simp [InB, h1, h2]
theorem boxGo_in : ∀ (l : List S27) (a b c d a' b' c' d' : Int), boxGo l a b c d = (a', b', c', d', true) → Pt a b → Pt c d → (a' ≤ a ∧ b' ≤ b ∧ c ≤ c' ∧ d ≤ d') ∧ Pt a' b' ∧ Pt c' d' ∧ ∀ p ∈ l, (a' ≤ p.f0 ∧ p.f0 ≤ c') ∧ b' ≤ p.f1 ∧ p.f1 ≤ d' := by
  intro l
  induction l with
  | nil =>
    intro a b c d a' b' c' d' h hp hq
    simp only [boxGo, Prod.mk.injEq] at h
    obtain ⟨rfl, rfl, rfl, rfl, _⟩ := h
    exact ⟨by omega, hp, hq, fun p hp => by simp at hp⟩
  | cons p l ih =>
    intro a b c d a' b' c' d' h hp hq
    simp only [boxGo] at h
    by_cases hb : bxP p
    · rw [if_pos hb] at h
      have hb' := hb
      unfold bxP at hb'
      simp only [Gen.mn_eq, Gen.mx_eq] at h
      obtain ⟨h1, h2, h3, h4⟩ := ih _ _ _ _ _ _ _ _ h (by unfold Pt at *; omega) (by unfold Pt at *; omega)
      refine ⟨by omega, h2, h3, fun q hq => ?_⟩
      rcases List.mem_cons.mp hq with rfl | hq
      · omega
      · exact h4 q hq
    · rw [if_neg hb] at h; simp at h
theorem boxV_in {l : List S27} {a b c d : Int} (h : boxV l = (a, b, c, d, true)) : Bx a b c d ∧ ∀ p ∈ l, InB a b c d p.f0 p.f1 := by
  unfold boxV at h
  by_cases hl : l.length = 0
  · rw [if_pos hl] at h; simp at h
  · rw [if_neg hl] at h
    cases l with
    | nil => simp at hl
    | cons p l =>
      have hb : bxP p := by
        simp only [boxGo, List.getD_cons_zero] at h
        by_cases hb : bxP p
        · exact hb
        · rw [if_neg hb] at h; simp at h
      simp only [List.getD_cons_zero] at h
      obtain ⟨h1, h2, h3, h4⟩ := boxGo_in _ _ _ _ _ _ _ _ _ h hb hb
      have bx : Bx a b c d := ⟨h2, h3, by omega, by omega⟩
      exact ⟨bx, fun q hq => ⟨bx, h4 q hq⟩⟩
def MeetV (a b c d e f g h : Int) : Prop := Bx a b c d ∧ Bx e f g h ∧ (a ≤ g ∧ e ≤ c) ∧ b ≤ h ∧ f ≤ d
def OverV (a b c d e f g h : Int) : Prop := Bx a b c d ∧ Bx e f g h ∧ ((a < g ∧ e < c) ∧ a < c ∧ e < g) ∧ (b < h ∧ f < d) ∧ b < d ∧ f < h
instance (a b c d e f g h : Int) : Decidable (MeetV a b c d e f g h) := by unfold MeetV; infer_instance
instance (a b c d e f g h : Int) : Decidable (OverV a b c d e f g h) := by unfold OverV; infer_instance
theorem implMeet (a b c d e f g h : Int) : impl_BoxesMeet.f a b c d e f g h = some (decide (MeetV a b c d e f g h)) := by
  simp only [impl_BoxesMeet.f, impl_common.f, implIsBox, Option.bind_some, decide_eq_true_eq, Gen.mx_eq, Gen.mn_eq]
  by_cases h1 : Bx a b c d
  · rw [if_pos h1]
    by_cases h2 : Bx e f g h
    · rw [if_pos h2]
      have h1' := h1
      have h2' := h2
      unfold Bx Pt at h1' h2'
      rw [Gen.w64 (by omega) (by omega), Gen.w64 (by omega) (by omega)]
      have e1 : (min c g - max a e ≥ 0) ↔ (a ≤ g ∧ e ≤ c) := by omega
      have e2 : (min d h - max b f ≥ 0) ↔ (b ≤ h ∧ f ≤ d) := by omega
      simp only [e1, e2]
      by_cases k1 : a ≤ g ∧ e ≤ c <;> simp [MeetV, h1, h2, k1]
    · rw [if_neg h2]; simp [MeetV, h2]
  · rw [if_neg h1]; simp [MeetV, h1]
theorem specMeet (a b c d e f g h : Int) : spec_BoxesMeet.f a b c d e f g h = some (decide (MeetV a b c d e f g h)) := by
  simp only [spec_BoxesMeet.f, specIsBox, Option.bind_some, decide_eq_true_eq]
  by_cases h1 : Bx a b c d <;> by_cases h2 : Bx e f g h <;> by_cases h3 : a ≤ g <;> by_cases h4 : e ≤ c <;> by_cases h5 : b ≤ h <;> simp [MeetV, h1, h2, h3, h4, h5]
theorem implOver (a b c d e f g h : Int) : impl_BoxesOverlap.f a b c d e f g h = some (decide (OverV a b c d e f g h)) := by
  simp only [impl_BoxesOverlap.f, impl_common.f, implIsBox, Option.bind_some, decide_eq_true_eq, Gen.mx_eq, Gen.mn_eq]
  by_cases h1 : Bx a b c d
  · rw [if_pos h1]
    by_cases h2 : Bx e f g h
    · rw [if_pos h2]
      have h1' := h1
      have h2' := h2
      unfold Bx Pt at h1' h2'
      rw [Gen.w64 (by omega) (by omega), Gen.w64 (by omega) (by omega)]
      have e1 : (min c g - max a e > 0) ↔ ((a < g ∧ e < c) ∧ a < c ∧ e < g) := by omega
      have e2 : (min d h - max b f > 0) ↔ ((b < h ∧ f < d) ∧ b < d ∧ f < h) := by omega
      simp only [e1, e2]
      by_cases k1 : (a < g ∧ e < c) ∧ a < c ∧ e < g <;> simp [OverV, h1, h2, k1]
    · rw [if_neg h2]; simp [OverV, h2]
  · rw [if_neg h1]; simp [OverV, h1]
theorem MeetV.symm {a b c d e f g h : Int} : MeetV a b c d e f g h ↔ MeetV e f g h a b c d := by unfold MeetV; constructor <;> rintro ⟨p, q, r, s⟩ <;> exact ⟨q, p, by omega, by omega⟩
theorem OverV.symm {a b c d e f g h : Int} : OverV a b c d e f g h ↔ OverV e f g h a b c d := by unfold OverV; constructor <;> rintro ⟨p, q, r, s⟩ <;> exact ⟨q, p, by omega, by omega⟩
theorem OverV.meet {a b c d e f g h : Int} (o : OverV a b c d e f g h) : MeetV a b c d e f g h := by unfold OverV at o; exact ⟨o.1, o.2.1, by omega, by omega⟩
theorem tGrown (xs : List Int) (hx : xs.length ≤ 1048576) : Told (fun k => laws_FnBoxes.j3 k xs false) true := by
  obtain ⟨a, b, c, d, n, t⟩ := dGrowBox xs hx
  refine Told.step (fun k => by simp only [laws_FnBoxes.j3]; rw [if_neg (by simp)]) (Told.bind t ?_)
  by_cases h : Bx a b c d ∧ 0 ≤ n ∧ n ≤ 200
  · have h' := h
    unfold Bx Pt at h'
    have e : impl_GrowBox.f a b c d n = some (max 0 (a - n), max 0 (b - n), min 200 (c + n), min 200 (d + n), true) := by
      unfold impl_GrowBox.f
      rw [implIsBox, implInRange]
      simp only [Option.bind_some, decide_eq_true_eq]
      rw [if_pos h.1, if_pos h.2, Gen.w64 (by omega) (by omega), Gen.w64 (by omega) (by omega), Gen.w64 (by omega) (by omega), Gen.w64 (by omega) (by omega)]
      simp only [Gen.mx_eq, Gen.mn_eq]
    have hb : Bx (max 0 (a - n)) (max 0 (b - n)) (min 200 (c + n)) (min 200 (d + n)) := by unfold Bx Pt; omega
    refine Told.bind (Told.of e) (Told.ite_t rfl (Told.bind (Told.of (implIsBox _ _ _ _)) (Told.ite_t (by simpa using hb) (Told.bind (Told.of (implInBox _ _ _ _ _ _)) (Told.ite_t (by simp only [decide_eq_true_eq]; exact ⟨hb, by omega, by omega⟩) (Told.bind (Told.of (implInBox _ _ _ _ _ _)) (Told.of ?_)))))))
    rw [decide_eq_true (show InB _ _ _ _ c d from ⟨hb, by omega, by omega⟩)]
  · have e : impl_GrowBox.f a b c d n = some (a, b, c, d, false) := by
      unfold impl_GrowBox.f
      rw [implIsBox, implInRange]
      simp only [Option.bind_some, decide_eq_true_eq]
      by_cases h1 : Bx a b c d
      · rw [if_pos h1, if_neg fun h2 => h ⟨h1, h2⟩]
      · rw [if_neg h1]
    exact Told.bind (Told.of e) (Told.ite_f (by simp) (Told.ret _))
theorem tJoined (xs : List Int) (hx : xs.length ≤ 1048576) (a b c d e f g h : Int) : Told (fun k => laws_FnBoxes.j2 k xs false a b c d e f g h) true := by
  refine Told.step (fun k => by simp only [laws_FnBoxes.j2]; rw [if_neg (by simp)]) ?_
  have no : ∀ w : Int × Int × Int × Int × Bool, w.2.2.2.2 = false → Told (fun k => impl_JoinBoxes.f k a b c d e f g h) w → Told (fun k => (impl_JoinBoxes.f k a b c d e f g h).bind fun bt367 => (if bt367.2.2.2.2 = true then ((impl_InBox.f bt367.1 bt367.2.1 bt367.2.2.1 bt367.2.2.2.1 a b).bind fun t373 => (if t373 = true then ((impl_InBox.f bt367.1 bt367.2.1 bt367.2.2.1 bt367.2.2.2.1 c d).bind fun t374 => (if t374 = true then ((impl_InBox.f bt367.1 bt367.2.1 bt367.2.2.1 bt367.2.2.2.1 e f).bind fun t375 => (if t375 = true then ((impl_InBox.f bt367.1 bt367.2.1 bt367.2.2.1 bt367.2.2.2.1 g h).bind fun t376 => (laws_FnBoxes.j3 k xs (!t376))) else (laws_FnBoxes.j3 k xs true))) else (laws_FnBoxes.j3 k xs true))) else (laws_FnBoxes.j3 k xs true))) else (laws_FnBoxes.j3 k xs false))) true := fun w hw t =>
    Told.bind t (Told.ite_f (by rw [hw]; simp) (tGrown xs hx))
  by_cases h1 : Bx a b c d
  · by_cases h2 : Bx e f g h
    · have t : Told (fun k => impl_JoinBoxes.f k a b c d e f g h) (boxV [⟨a, b⟩, ⟨c, d⟩, ⟨e, f⟩, ⟨g, h⟩]) := Told.bind (Told.of (implIsBox a b c d)) (Told.ite_t (by simpa using h1) (Told.bind (Told.of (implIsBox e f g h)) (Told.ite_t (by simpa using h2) (Told.bind (tImplBoxOf _ (by simp)) (Told.ret _)))))
      obtain ⟨v, hv⟩ : ∃ v, v = boxV [⟨a, b⟩, ⟨c, d⟩, ⟨e, f⟩, ⟨g, h⟩] := ⟨_, rfl⟩
      rw [← hv] at t
      obtain ⟨v0, v1, v2, v3, v4⟩ := v
      cases v4 with
      | false => exact no _ rfl t
      | true =>
        obtain ⟨bx, hin⟩ := boxV_in hv.symm
        have i1 := hin ⟨a, b⟩ (by simp)
        have i2 := hin ⟨c, d⟩ (by simp)
        have i3 := hin ⟨e, f⟩ (by simp)
        have i4 := hin ⟨g, h⟩ (by simp)
        refine Told.bind t (Told.ite_t rfl (Told.bind (Told.of (implInBox _ _ _ _ _ _)) (Told.ite_t (by simpa using i1) (Told.bind (Told.of (implInBox _ _ _ _ _ _)) (Told.ite_t (by simpa using i2) (Told.bind (Told.of (implInBox _ _ _ _ _ _)) (Told.ite_t (by simpa using i3) (Told.bind (Told.of (implInBox _ _ _ _ _ _)) ?_))))))))
        have e4 : decide (InB v0 v1 v2 v3 g h) = true := decide_eq_true i4
        rw [e4]
        exact tGrown xs hx
    · exact no (0, 0, 0, 0, false) rfl (Told.bind (Told.of (implIsBox a b c d)) (Told.ite_t (by simpa using h1) (Told.bind (Told.of (implIsBox e f g h)) (Told.ite_f (by simpa using h2) (Told.ret _)))))
  · exact no (0, 0, 0, 0, false) rfl (Told.bind (Told.of (implIsBox a b c d)) (Told.ite_f (by simpa using h1) (Told.ret _)))
theorem tRest (xs : List Int) (hx : xs.length ≤ 1048576) (l : List S27) (ok : Bool) (i a b c d : Int) : Told (fun k => laws_FnBoxes.j1 k xs l ok i false a b c d) true := by
  obtain ⟨a, b, c, d, e, f, g, h, t⟩ := dBoxesMeet xs hx
  refine Told.step (fun k => by simp only [laws_FnBoxes.j1]; rw [if_neg (by simp)]) (Told.bind t ?_)
  have m1 := implMeet a b c d e f g h
  have m2 : impl_BoxesMeet.f e f g h a b c d = some (decide (MeetV a b c d e f g h)) := by rw [implMeet]; exact congrArg some (decide_eq_decide.mpr MeetV.symm)
  have o1 := implOver a b c d e f g h
  have o2 : impl_BoxesOverlap.f e f g h a b c d = some (decide (OverV a b c d e f g h)) := by rw [implOver]; exact congrArg some (decide_eq_decide.mpr OverV.symm)
  refine Told.bind (Told.of m1) (Told.bind (Told.of (specMeet _ _ _ _ _ _ _ _)) (Told.ite_f (by simp) (Told.bind (Told.of m1) (Told.bind (Told.of m2) (Told.ite_f (by simp) (Told.bind (Told.of o1) (Told.bind (Told.of o2) (Told.ite_f (by simp) (Told.bind (Told.of o1) ?_)))))))))
  by_cases o : OverV a b c d e f g h
  · refine Told.ite_t (decide_eq_true o) (Told.bind (Told.of m1) ?_)
    rw [decide_eq_true o.meet]
    exact tJoined xs hx a b c d e f g h
  · exact Told.ite_f (by simpa using o) (tJoined xs hx a b c d e f g h)
theorem pure_FnBoxes : ∀ (l0 : (List Int)), (List.length l0 ≤ maxLen ∧ ∀ y ∈ l0, (0 ≤ y ∧ y ≤ 255)) → ∃ k, laws_FnBoxes.f k l0 = some true := by
  intro xs ⟨_, _⟩
  apply Told.ex
  refine Told.bind (Told.ret _) ?_
  by_cases hb : (xs.length : Int) > 1048576
  · exact Told.ite_t (decide_eq_true hb) (Told.ret _)
  have hx : xs.length ≤ 1048576 := by omega
  refine Told.ite_f (by simpa using hb) ?_
  obtain ⟨l, t, g1, g2⟩ := dIsLine xs hx
  refine Told.bind (Told.bind t (Told.ret _)) (Told.bind (tImplBoxOf l (by omega)) ?_)
  obtain ⟨v, hv⟩ : ∃ v, v = boxV l := ⟨_, rfl⟩
  rw [← hv]
  obtain ⟨a, b, c, d, ok⟩ := v
  cases ok with
  | false =>
    refine Told.step (M := fun k => laws_FnBoxes.j1 k xs l false 0 false a b c d) (fun k => ?_) (tRest xs hx l false 0 a b c d)
    simp only [laws_FnBoxes.l0]; split <;> rfl
  | true =>
    obtain ⟨bx, hin⟩ := boxV_in hv.symm
    have key : ∀ n (i : Nat), i + n = l.length → Told (fun k => laws_FnBoxes.l0 k xs l true (i : Int) a b c d) true := by
      intro n
      induction n with
      | zero => intro i hi; exact Told.step (fun k => by simp only [laws_FnBoxes.l0]; rw [if_neg (by omega)]) (tRest xs hx l true i a b c d)
      | succ n ih =>
        intro i hi
        refine Told.step (fun k => by simp only [laws_FnBoxes.l0]; rw [if_pos (by omega)]) (Told.step (fun k => by simp only [laws_FnBoxes.j1, if_true]; rw [if_pos (by omega), if_pos (by omega), bx_rd, Gen.w64s (by omega)]) (Told.bind (Told.of (implInBox _ _ _ _ _ _)) (Told.ite_t ?_ (ih (i + 1) (by omega)))))
        refine decide_eq_true (hin _ ?_)
        rw [List.getD_eq_getElem?_getD, List.getElem?_eq_getElem (by omega)]
        exact List.getElem_mem _
    exact key l.length 0 (by omega)
end Go.Proofs.Ytbackoeakepngaa.MFnBoxes
