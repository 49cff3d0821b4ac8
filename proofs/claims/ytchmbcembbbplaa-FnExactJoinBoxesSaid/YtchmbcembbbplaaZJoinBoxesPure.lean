/- The plain law behind FnExactJoinBoxes: what the printed functions compute answers true; no condition beyond the arguments' ranges. -/
import Derived.Test.YtchmbcembbbplaaZJoinBoxesTold
import Derived.Test.YtchmbcembbbplaaZJoinBoxesMx3
import Derived.Test.YtchmbcembbbplaaZJoinBoxesOpn
namespace Go.Proofs.Ytchmbcembbbplaa.MFnExactJoinBoxes
open Go Go.RowKit Go.Proofs.YtchmbcembbbplaaW.PrintWords Go.Proofs.YtchmbcembbbplaaW.PrintLast Go.Proofs.YtchmbcembbbplaaW.PrintMore Go.Proofs.Ytchmbcembbbplaa.Open
set_option linter.unusedVariables false
set_option linter.unusedSimpArgs false
theorem implInRange (a b c : Int) : impl_InRange.f a b c = some (decide (b ≤ a ∧ a ≤ c)) := by
  unfold impl_InRange.f; by_cases h : b ≤ a <;> simp [h]
theorem specIn (a b c : Int) : spec_l1In.f a b c = some (decide (b ≤ a ∧ a ≤ c)) := by
  unfold spec_l1In.f; by_cases h : b ≤ a <;> simp [h]
def Pt (x y : Int) : Prop := 0 ≤ x ∧ x ≤ 200 ∧ 0 ≤ y ∧ y ≤ 200
instance (x y : Int) : Decidable (Pt x y) := by unfold Pt; infer_instance
theorem implIsPoint (x y : Int) : impl_IsPoint.f x y = some (decide (Pt x y)) := by
  unfold impl_IsPoint.f
  rw [implInRange, implInRange]
  simp only [Option.bind_some]
  by_cases h : 0 ≤ x ∧ x ≤ 200
  · rw [if_pos (by simpa using h)]; simp [Pt, h]
  · rw [if_neg (by simpa using h)]; simp only [Option.some.injEq, Bool.false_eq, decide_eq_false_iff_not]; unfold Pt; omega
theorem specIsPoint (x y : Int) : spec_IsPoint.f x y = some (decide (Pt x y)) := by
  unfold spec_IsPoint.f
  rw [specIn, specIn]
  simp only [Option.bind_some]
  by_cases h : 0 ≤ x ∧ x ≤ 200
  · rw [if_pos (by simpa using h)]; simp [Pt, h]
  · rw [if_neg (by simpa using h)]; simp only [Option.some.injEq, Bool.false_eq, decide_eq_false_iff_not]; unfold Pt; omega
def Bx (a b c d : Int) : Prop := Pt a b ∧ Pt c d ∧ a ≤ c ∧ b ≤ d
instance (a b c d : Int) : Decidable (Bx a b c d) := by unfold Bx; infer_instance
theorem implIsBox (a b c d : Int) : impl_IsBox.f a b c d = some (decide (Bx a b c d)) := by
  unfold impl_IsBox.f
  rw [implIsPoint, implIsPoint]
  simp only [Option.bind_some, decide_eq_true_eq]
  by_cases h1 : Pt a b <;> by_cases h2 : Pt c d <;> by_cases h3 : a ≤ c <;> simp [Bx, h1, h2, h3]
theorem specIsBox (a b c d : Int) : spec_IsBox.f a b c d = some (decide (Bx a b c d)) := by
  unfold spec_IsBox.f
  rw [specIsPoint, specIsPoint]
  simp only [Option.bind_some, decide_eq_true_eq]
  by_cases h1 : Pt a b <;> by_cases h2 : Pt c d <;> by_cases h3 : a ≤ c <;> simp [Bx, h1, h2, h3]
def bxP (p : S44) : Prop := Pt p.f0 p.f1
instance (p : S44) : Decidable (bxP p) := by unfold bxP; infer_instance
def boxGo : List S44 → Int → Int → Int → Int → Int × Int × Int × Int × Bool
  | [], a, b, c, d => (a, b, c, d, true)
  | p :: l, a, b, c, d => if bxP p then boxGo l (mn a p.f0) (mn b p.f1) (mx c p.f0) (mx d p.f1) else (0, 0, 0, 0, false)
def boxV (l : List S44) : Int × Int × Int × Int × Bool := if l.length = 0 then (0, 0, 0, 0, false) else boxGo l (l.getD 0 z44).f0 (l.getD 0 z44).f1 (l.getD 0 z44).f0 (l.getD 0 z44).f1
theorem bxMin (a b : Int) : spec_Min.f a b = some (mn a b) := by unfold spec_Min.f mn; split <;> rfl
theorem bxMax (a b : Int) : spec_Max.f a b = some (mx a b) := by
  unfold spec_Max.f mx
  by_cases h : a < b
  · rw [if_pos (show b > a from h), if_pos h]
  · rw [if_neg (show ¬ b > a from h), if_neg h]
theorem bx_drop (l : List S44) (i : Nat) (hi : i < l.length) : l.drop i = l.getD i z44 :: l.drop (i + 1) := by
  rw [List.drop_eq_getElem_cons hi, List.getD_eq_getElem?_getD, List.getElem?_eq_getElem hi]; rfl
theorem bx_rd (l : List S44) (i : Nat) : rd_T44 l (i : Int) = l.getD i z44 := rfl
theorem tSpecBoxGo (l : List S44) (hl : l.length ≤ 1048576) : ∀ d (i : Nat), i + d = l.length → ∀ a b c e, Told (fun k => spec_BoxOf.l0 k l i a b c e) (boxGo (l.drop i) a b c e) := by
  intro d
  induction d with
  | zero =>
    intro i hi a b c e
    rw [List.drop_eq_nil_of_le (by omega)]
    exact Told.stepr fun k => by simp only [spec_BoxOf.l0]; rw [if_neg (by omega)]; rfl
  | succ d ih =>
    intro i hi a b c e
    rw [bx_drop l i (by omega), boxGo]
    refine Told.step (M := fun k => if bxP (l.getD i z44) then spec_BoxOf.l0 k l ((i + 1 : Nat) : Int) (mn a (l.getD i z44).f0) (mn b (l.getD i z44).f1) (mx c (l.getD i z44).f0) (mx e (l.getD i z44).f1) else some (0, 0, 0, 0, false)) (fun k => by simp only [spec_BoxOf.l0]; rw [if_pos (by omega), if_pos (by omega), bx_rd, specIsPoint, Gen.w64s (by omega)]; simp only [Option.bind_some, decide_eq_true_eq, bxMin, bxMax, bxP]) ?_
    by_cases h : bxP (l.getD i z44)
    · rw [if_pos h]; exact Told.ite_t h (ih (i + 1) (by omega) _ _ _ _)
    · rw [if_neg h]; exact Told.ite_f h (Told.ret _)
theorem tSpecBoxOf (l : List S44) (hl : l.length ≤ 1048576) : Told (fun k => spec_BoxOf.f k l) (boxV l) := by
  unfold boxV
  by_cases h : l.length = 0
  · rw [if_pos h]; exact Told.ite_t (by omega) (Told.ret _)
  · rw [if_neg h]; exact Told.ite_f (by omega) (Told.ite_t (by omega) (tSpecBoxGo l hl l.length 0 (by omega) _ _ _ _))
theorem tImplBoxGo (l : List S44) (hl : l.length ≤ 1048576) : ∀ d (i : Nat), i + d = l.length → ∀ a b c e, Told (fun k => impl_BoxOf.l0 k l (l.length : Int) i a b c e) (boxGo (l.drop i) a b c e) := by
  intro d
  induction d with
  | zero =>
    intro i hi a b c e
    rw [List.drop_eq_nil_of_le (by omega)]
    exact Told.stepr fun k => by simp only [impl_BoxOf.l0]; rw [if_neg (by omega)]; rfl
  | succ d ih =>
    intro i hi a b c e
    rw [bx_drop l i (by omega), boxGo]
    refine Told.step (M := fun k => if bxP (l.getD i z44) then impl_BoxOf.l0 k l (l.length : Int) ((i + 1 : Nat) : Int) (mn a (l.getD i z44).f0) (mn b (l.getD i z44).f1) (mx c (l.getD i z44).f0) (mx e (l.getD i z44).f1) else some (0, 0, 0, 0, false)) (fun k => by simp only [impl_BoxOf.l0]; rw [if_pos (by omega), if_pos (by omega), if_pos (by omega), bx_rd, implIsPoint, Gen.w64s (by omega)]; simp only [Option.bind_some, decide_eq_true_eq, bxP]) ?_
    by_cases h : bxP (l.getD i z44)
    · rw [if_pos h]; exact Told.ite_t h (ih (i + 1) (by omega) _ _ _ _)
    · rw [if_neg h]; exact Told.ite_f h (Told.ret _)
theorem tImplBoxOf (l : List S44) (hl : l.length ≤ 1048576) : Told (fun k => impl_BoxOf.f k l) (boxV l) := by
  unfold boxV
  by_cases h : l.length = 0
  · rw [if_pos h]; exact Told.ite_t (by omega) (Told.ret _)
  · rw [if_neg h]; exact Told.ite_f (by omega) (Told.ite_t (by omega) (tImplBoxGo l hl l.length 0 (by omega) _ _ _ _))
def joinV (a b c d e f g h : Int) : Int × Int × Int × Int × Bool := if Bx a b c d then (if Bx e f g h then boxV [⟨a, b⟩, ⟨c, d⟩, ⟨e, f⟩, ⟨g, h⟩] else (0, 0, 0, 0, false)) else (0, 0, 0, 0, false)
theorem tSpecJoin (a b c d e f g h : Int) : Told (fun k => spec_JoinBoxes.f k a b c d e f g h) (joinV a b c d e f g h) := by
  unfold joinV
  refine Told.bind (Told.of (specIsBox a b c d)) ?_
  by_cases h1 : Bx a b c d
  · rw [if_pos h1]
    refine Told.ite_t (by simpa using h1) (Told.bind (Told.of (specIsBox e f g h)) ?_)
    by_cases h2 : Bx e f g h
    · rw [if_pos h2]; exact Told.ite_t (by simpa using h2) (Told.bind (tSpecBoxOf _ (by simp)) (Told.ret _))
    · rw [if_neg h2]; exact Told.ite_f (by simpa using h2) (Told.ret _)
  · rw [if_neg h1]; exact Told.ite_f (by simpa using h1) (Told.ret _)
theorem tImplJoin (a b c d e f g h : Int) : Told (fun k => impl_JoinBoxes.f k a b c d e f g h) (joinV a b c d e f g h) := by
  unfold joinV
  refine Told.bind (Told.of (implIsBox a b c d)) ?_
  by_cases h1 : Bx a b c d
  · rw [if_pos h1]
    refine Told.ite_t (by simpa using h1) (Told.bind (Told.of (implIsBox e f g h)) ?_)
    by_cases h2 : Bx e f g h
    · rw [if_pos h2]; exact Told.ite_t (by simpa using h2) (Told.bind (tImplBoxOf _ (by simp)) (Told.ret _))
    · rw [if_neg h2]; exact Told.ite_f (by simpa using h2) (Told.ret _)
  · rw [if_neg h1]; exact Told.ite_f (by simpa using h1) (Told.ret _)
theorem pure_FnExactJoinBoxes : ∀ (a0_0 : Int) (a0_1 : Int) (a0_2 : Int) (a0_3 : Int) (a1_0 : Int) (a1_1 : Int) (a1_2 : Int) (a1_3 : Int), (((I64 a0_0) ∧ (I64 a0_1)) ∧ ((I64 a0_2) ∧ (I64 a0_3))) → (((I64 a1_0) ∧ (I64 a1_1)) ∧ ((I64 a1_2) ∧ (I64 a1_3))) → ∃ k, laws_FnExactJoinBoxes.f k a0_0 a0_1 a0_2 a0_3 a1_0 a1_1 a1_2 a1_3 = some true := by
  intro a b c d e f g h _ _
  apply Told.ex
  have tb (a b c d : Int) : laws_toBox.f a b c d = some (a, b, c, d) := rfl
  refine Told.bind (Told.of (tb a b c d)) (Told.bind (Told.of (tb e f g h)) (Told.bind (tSpecJoin _ _ _ _ _ _ _ _) (Told.bind (Told.of (tb a b c d)) (Told.bind (Told.of (tb e f g h)) (Told.bind (tImplJoin _ _ _ _ _ _ _ _) (Told.bind (Told.of (r := true) (by simp [laws_eqBox.f, laws_eqPoint.f])) (Told.ite_t rfl ?_)))))))
  exact Told.ite_f (by simp) (Told.ret _)
end Go.Proofs.Ytchmbcembbbplaa.MFnExactJoinBoxes
