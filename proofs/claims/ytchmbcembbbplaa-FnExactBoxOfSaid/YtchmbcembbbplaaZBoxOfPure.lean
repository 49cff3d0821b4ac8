/- The plain law behind FnExactBoxOf: what the printed functions compute answers true; no condition beyond the arguments' ranges. -/
import Derived.Test.YtchmbcembbbplaaZBoxOfTold
import Derived.Test.YtchmbcembbbplaaZBoxOfMx3
import Derived.Test.YtchmbcembbbplaaZBoxOfOpn
namespace Go.Proofs.Ytchmbcembbbplaa.MFnExactBoxOf
open Go Go.RowKit Go.Proofs.YtchmbcembbbplaaW.PrintWords Go.Proofs.YtchmbcembbbplaaW.PrintLast Go.Proofs.YtchmbcembbbplaaW.PrintMore Go.Proofs.Ytchmbcembbbplaa.Open
set_option linter.unusedVariables false
set_option linter.unusedSimpArgs false
theorem implInRange (a b c : Int) : impl_InRange.f a b c = some (decide (b ≤ a ∧ a ≤ c)) := by
  unfold impl_InRange.f; by_cases h : b ≤ a <;> simp [h]
theorem specIn (a b c : Int) : spec_l1In.f a b c = some (decide (b ≤ a ∧ a ≤ c)) := by
  unfold spec_l1In.f; by_cases h : b ≤ a <;> simp [h]
def Pt (x y : Int) : Prop := 0 ≤ x ∧ x ≤ 200 ∧ 0 ≤ y ∧ y ≤ 200
instance (x y : Int) : Decidable (Pt x y) := by unfold Pt; infer_instance
theorem implIsPoint (x y : Int) : impl_IsPoint.f x y = some (decide (Pt x y)) := by
  unfold impl_IsPoint.f
  rw [implInRange, implInRange]
  simp only [Option.bind_some]
  by_cases h : 0 ≤ x ∧ x ≤ 200
  · rw [if_pos (by simpa using h)]; simp [Pt, h]
  · rw [if_neg (by simpa using h)]; simp only [Option.some.injEq, Bool.false_eq, decide_eq_false_iff_not]; unfold Pt; omega
theorem specIsPoint (x y : Int) : spec_IsPoint.f x y = some (decide (Pt x y)) := by
  unfold spec_IsPoint.f
  rw [specIn, specIn]
  simp only [Option.bind_some]
  by_cases h : 0 ≤ x ∧ x ≤ 200
  · rw [if_pos (by simpa using h)]; simp [Pt, h]
  · rw [if_neg (by simpa using h)]; simp only [Option.some.injEq, Bool.false_eq, decide_eq_false_iff_not]; unfold Pt; omega
def cP (p : S40) : S44 := ⟨p.f0, p.f1⟩
theorem toPointS_some (l : List S40) (hl : l.length ≤ 1048576) {k : Nat} (hk : l.length < k) : laws_toPointS.f k l = some (l.map cP) := by
  unfold laws_toPointS.f
  rw [if_pos (by omega), if_pos (by omega)]
  have := Gen.fill_all l z40 cP 0 (fun k out i => laws_toPointS.l0 k l out i) (fun k out i _ hi ho => by
      simp only [laws_toPointS.l0]
      rw [if_pos (by omega), if_pos (by omega)]
      simp only [laws_toPoint.f, Option.bind_some]
      rw [if_pos (by omega), Gen.w64s (by omega)]
      rfl) (fun k out ho => by
      simp only [laws_toPointS.l0]
      rw [if_neg (by omega)]) (k := k) (out := List.replicate l.length z44) (by simp) (by omega)
  simpa using this
theorem szPointS_some (l : List S40) (a : Int) (hl : l.length ≤ maxLen) (ha : 0 ≤ a) (ha' : a ≤ 1048576) : laws_szPointS.f l a = some (if a < l.length then -1 else a - l.length) := by
  unfold laws_szPointS.f
  unfold maxLen at hl
  rw [Gen.w64 (by omega) (by omega)]
  split <;> split <;> first | rfl | omega
theorem eqPointS_self (a : List S44) (hl : a.length ≤ 1048576) {k : Nat} (hk : a.length < k) : laws_eqPointS.f k a a = some true := by
  unfold laws_eqPointS.f
  rw [if_pos rfl]
  refine Gen.up_all a.length 0 true (fun k i => laws_eqPointS.l0 k a a i) (fun k i _ hi => ?_) (fun k _ => ?_) (k := k) (by omega)
  · simp only [laws_eqPointS.l0, laws_eqPoint.f]
    rw [if_pos (by omega), if_pos (by omega), if_pos (by omega)]
    simp only [if_true, Option.bind_some]
    rw [Gen.w64s (by omega)]
  · simp only [laws_eqPointS.l0]
    rw [if_neg (by omega)]
theorem tToPointS (l : List S40) (hl : l.length ≤ 1048576) : Told (fun k => laws_toPointS.f k l) (l.map cP) := ⟨l.length + 1, fun k hk => toPointS_some l hl (by omega)⟩
theorem tEqPointS (l : List S44) (hl : l.length ≤ 1048576) : Told (fun k => laws_eqPointS.f k l l) true := ⟨l.length + 1, fun k hk => eqPointS_self l hl (by omega)⟩
def bxP (p : S44) : Prop := Pt p.f0 p.f1
instance (p : S44) : Decidable (bxP p) := by unfold bxP; infer_instance
def boxGo : List S44 → Int → Int → Int → Int → Int × Int × Int × Int × Bool
  | [], a, b, c, d => (a, b, c, d, true)
  | p :: l, a, b, c, d => if bxP p then boxGo l (mn a p.f0) (mn b p.f1) (mx c p.f0) (mx d p.f1) else (0, 0, 0, 0, false)
def boxV (l : List S44) : Int × Int × Int × Int × Bool := if l.length = 0 then (0, 0, 0, 0, false) else boxGo l (l.getD 0 z44).f0 (l.getD 0 z44).f1 (l.getD 0 z44).f0 (l.getD 0 z44).f1
theorem bxMin (a b : Int) : spec_Min.f a b = some (mn a b) := by unfold spec_Min.f mn; split <;> rfl
theorem bxMax (a b : Int) : spec_Max.f a b = some (mx a b) := by
  unfold spec_Max.f mx
  by_cases h : a < b
  · rw [if_pos (show b > a from h), if_pos h]
  · rw [if_neg (show ¬ b > a from h), if_neg h]
theorem bx_drop (l : List S44) (i : Nat) (hi : i < l.length) : l.drop i = l.getD i z44 :: l.drop (i + 1) := by
  rw [List.drop_eq_getElem_cons hi, List.getD_eq_getElem?_getD, List.getElem?_eq_getElem hi]; rfl
theorem bx_rd (l : List S44) (i : Nat) : rd_T44 l (i : Int) = l.getD i z44 := rfl
theorem tSpecBoxGo (l : List S44) (hl : l.length ≤ 1048576) : ∀ d (i : Nat), i + d = l.length → ∀ a b c e, Told (fun k => spec_BoxOf.l0 k l i a b c e) (boxGo (l.drop i) a b c e) := by
  intro d
  induction d with
  | zero =>
    intro i hi a b c e
    rw [List.drop_eq_nil_of_le (by omega)]
    exact Told.stepr fun k => by simp only [spec_BoxOf.l0]; rw [if_neg (by omega)]; rfl
  | succ d ih =>
    intro i hi a b c e
    rw [bx_drop l i (by omega), boxGo]
    refine Told.step (M := fun k => if bxP (l.getD i z44) then spec_BoxOf.l0 k l ((i + 1 : Nat) : Int) (mn a (l.getD i z44).f0) (mn b (l.getD i z44).f1) (mx c (l.getD i z44).f0) (mx e (l.getD i z44).f1) else some (0, 0, 0, 0, false)) (fun k => by simp only [spec_BoxOf.l0]; rw [if_pos (by omega), if_pos (by omega), bx_rd, specIsPoint, Gen.w64s (by omega)]; simp only [Option.bind_some, decide_eq_true_eq, bxMin, bxMax, bxP]) ?_
    by_cases h : bxP (l.getD i z44)
    · rw [if_pos h]; exact Told.ite_t h (ih (i + 1) (by omega) _ _ _ _)
    · rw [if_neg h]; exact Told.ite_f h (Told.ret _)
theorem tSpecBoxOf (l : List S44) (hl : l.length ≤ 1048576) : Told (fun k => spec_BoxOf.f k l) (boxV l) := by
  unfold boxV
  by_cases h : l.length = 0
  · rw [if_pos h]; exact Told.ite_t (by omega) (Told.ret _)
  · rw [if_neg h]; exact Told.ite_f (by omega) (Told.ite_t (by omega) (tSpecBoxGo l hl l.length 0 (by omega) _ _ _ _))
theorem tImplBoxGo (l : List S44) (hl : l.length ≤ 1048576) : ∀ d (i : Nat), i + d = l.length → ∀ a b c e, Told (fun k => impl_BoxOf.l0 k l (l.length : Int) i a b c e) (boxGo (l.drop i) a b c e) := by
  intro d
  induction d with
  | zero =>
    intro i hi a b c e
    rw [List.drop_eq_nil_of_le (by omega)]
    exact Told.stepr fun k => by simp only [impl_BoxOf.l0]; rw [if_neg (by omega)]; rfl
  | succ d ih =>
    intro i hi a b c e
    rw [bx_drop l i (by omega), boxGo]
    refine Told.step (M := fun k => if bxP (l.getD i z44) then impl_BoxOf.l0 k l (l.length : Int) ((i + 1 : Nat) : Int) (mn a (l.getD i z44).f0) (mn b (l.getD i z44).f1) (mx c (l.getD i z44).f0) (mx e (l.getD i z44).f1) else some (0, 0, 0, 0, false)) (fun k => by simp only [impl_BoxOf.l0]; rw [if_pos (by omega), if_pos (by omega), if_pos (by omega), bx_rd, implIsPoint, Gen.w64s (by omega)]; simp only [Option.bind_some, decide_eq_true_eq, bxP]) ?_
    by_cases h : bxP (l.getD i z44)
    · rw [if_pos h]; exact Told.ite_t h (ih (i + 1) (by omega) _ _ _ _)
    · rw [if_neg h]; exact Told.ite_f h (Told.ret _)
theorem tImplBoxOf (l : List S44) (hl : l.length ≤ 1048576) : Told (fun k => impl_BoxOf.f k l) (boxV l) := by
  unfold boxV
  by_cases h : l.length = 0
  · rw [if_pos h]; exact Told.ite_t (by omega) (Told.ret _)
  · rw [if_neg h]; exact Told.ite_f (by omega) (Told.ite_t (by omega) (tImplBoxGo l hl l.length 0 (by omega) _ _ _ _))
theorem pure_FnExactBoxOf : ∀ (l0 : (List S40)), (List.length l0 ≤ maxLen ∧ ∀ y ∈ l0, G40 y) → ∃ k, laws_FnExactBoxOf.f k l0 = some true := by
  intro a ⟨ha, _⟩
  apply Told.ex
  unfold maxLen at ha
  refine Told.bind (Told.of (szPointS_some a 1048576 (by unfold maxLen; omega) (by omega) (by omega))) ?_
  by_cases h1 : (1048576 : Int) < a.length
  · rw [if_pos h1]; exact Told.ite_t (by omega) (Told.ret _)
  rw [if_neg h1]
  have la : (a.map cP).length ≤ 1048576 := by simp; omega
  refine Told.ite_f (by omega) (Told.bind (tToPointS a (by omega)) (Told.bind (tSpecBoxOf _ la) (Told.bind (tToPointS a (by omega)) (Told.bind (tImplBoxOf _ la) (Told.bind (Told.of (r := true) (by simp [laws_eqBox.f, laws_eqPoint.f])) (Told.ite_t rfl ?_))))))
  refine Told.step (fun k => by simp only [laws_FnExactBoxOf.j0, bne_self_eq_false, Bool.false_eq_true, if_false]; rfl) ?_
  exact Told.bind (tToPointS a (by omega)) (Told.bind (tEqPointS _ la) (Told.ite_t rfl (Told.ret _)))
end Go.Proofs.Ytchmbcembbbplaa.MFnExactBoxOf
