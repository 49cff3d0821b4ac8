/- The plain law behind FnExactSafeSimplify: what the printed functions compute answers true; no condition beyond the arguments' ranges. -/
import Derived.Test.YtchmbcembbbplacZSafeSimplifyTold
import Derived.Test.YtchmbcembbbplacZSafeSimplifyGeo
import Derived.Test.YtchmbcembbbplacZSafeSimplifyMx13
import Derived.Test.YtchmbcembbbplacZSafeSimplifyOpn
namespace Go.Proofs.Ytchmbcembbbplac.MFnExactSafeSimplify
open Go Go.RowKit Go.Proofs.YtchmbcembbbplacW.PrintWords Go.Proofs.YtchmbcembbbplacW.PrintLast Go.Proofs.YtchmbcembbbplacW.PrintMore Go.Proofs.Ytchmbcembbbplac.Open
set_option linter.unusedVariables false
set_option linter.unusedSimpArgs false
theorem implInRange (a b c : Int) : impl_InRange.f a b c = some (decide (b ≤ a ∧ a ≤ c)) := by
  unfold impl_InRange.f; by_cases h : b ≤ a <;> simp [h]
theorem specIn (a b c : Int) : spec_l1In.f a b c = some (decide (b ≤ a ∧ a ≤ c)) := by
  unfold spec_l1In.f; by_cases h : b ≤ a <;> simp [h]
def Pt (x y : Int) : Prop := 0 ≤ x ∧ x ≤ 200 ∧ 0 ≤ y ∧ y ≤ 200
instance (x y : Int) : Decidable (Pt x y) := by unfold Pt; infer_instance
theorem implIsPoint (x y : Int) : impl_IsPoint.f x y = some (decide (Pt x y)) := by
  unfold impl_IsPoint.f
  rw [implInRange, implInRange]
  simp only [Option.bind_some]
  by_cases h : 0 ≤ x ∧ x ≤ 200
  · rw [if_pos (by simpa using h)]; simp [Pt, h]
  · rw [if_neg (by simpa using h)]; simp only [Option.some.injEq, Bool.false_eq, decide_eq_false_iff_not]; unfold Pt; omega
theorem specIsPoint (x y : Int) : spec_IsPoint.f x y = some (decide (Pt x y)) := by
  unfold spec_IsPoint.f
  rw [specIn, specIn]
  simp only [Option.bind_some]
  by_cases h : 0 ≤ x ∧ x ≤ 200
  · rw [if_pos (by simpa using h)]; simp [Pt, h]
  · rw [if_neg (by simpa using h)]; simp only [Option.some.injEq, Bool.false_eq, decide_eq_false_iff_not]; unfold Pt; omega
def D (n : Int) : Prop := -200 ≤ n ∧ n ≤ 200
theorem D_of {x y : Int} (hx : 0 ≤ x ∧ x ≤ 200) (hy : 0 ≤ y ∧ y ≤ 200) : wrap64 (x - y) = x - y ∧ D (x - y) := ⟨Gen.w64 (by omega) (by omega), by unfold D; omega⟩
theorem D_mul {x y : Int} (hx : D x) (hy : D y) : wrap64 (x * y) = x * y ∧ -40000 ≤ x * y ∧ x * y ≤ 40000 := by
  have := Gen.mul_bd (m := 200) (n := 200) hx hy
  exact ⟨Gen.w64 (by omega) (by omega), by omega, by omega⟩
def crossZ (ax ay bx bY px py : Int) : Int := (bx - ax) * (py - ay) - (bY - ay) * (px - ax)
theorem crossZ_bd {ax ay bx bY px py : Int} (ha : Pt ax ay) (hb : Pt bx bY) (hp : Pt px py) :
    wrap64 ((wrap64 ((wrap64 (bx - ax)) * (wrap64 (py - ay)))) - (wrap64 ((wrap64 (bY - ay)) * (wrap64 (px - ax))))) = crossZ ax ay bx bY px py ∧ -80000 ≤ crossZ ax ay bx bY px py ∧ crossZ ax ay bx bY px py ≤ 80000 := by
  obtain ⟨a1, a2, a3, a4⟩ := ha; obtain ⟨b1, b2, b3, b4⟩ := hb; obtain ⟨p1, p2, p3, p4⟩ := hp
  obtain ⟨e1, d1⟩ := D_of ⟨b1, b2⟩ ⟨a1, a2⟩
  obtain ⟨e2, d2⟩ := D_of ⟨p3, p4⟩ ⟨a3, a4⟩
  obtain ⟨e3, d3⟩ := D_of ⟨b3, b4⟩ ⟨a3, a4⟩
  obtain ⟨e4, d4⟩ := D_of ⟨p1, p2⟩ ⟨a1, a2⟩
  obtain ⟨m1, n1, o1⟩ := D_mul d1 d2
  obtain ⟨m2, n2, o2⟩ := D_mul d3 d4
  rw [e1, e2, e3, e4, m1, m2]
  unfold crossZ
  exact ⟨Gen.w64 (by omega) (by omega), by omega, by omega⟩
theorem implCross {ax ay bx bY px py : Int} (ha : Pt ax ay) (hb : Pt bx bY) (hp : Pt px py) : impl_cross.f ax ay bx bY px py = some (crossZ ax ay bx bY px py) := by
  unfold impl_cross.f; rw [(crossZ_bd ha hb hp).1]
theorem specCross {ax ay bx bY px py : Int} (ha : Pt ax ay) (hb : Pt bx bY) (hp : Pt px py) : spec_l4Cross.f ax ay bx bY px py = some (crossZ ax ay bx bY px py) := by
  unfold spec_l4Cross.f; rw [(crossZ_bd ha hb hp).1]
def Sg (ax ay bx bY : Int) : Prop := Pt ax ay ∧ Pt bx bY ∧ ¬ (ax = bx ∧ ay = bY)
instance (a b c d : Int) : Decidable (Sg a b c d) := by unfold Sg; infer_instance
theorem implIsSegment (a b c d : Int) : impl_IsSegment.f a b c d = some (decide (Sg a b c d)) := by
  unfold impl_IsSegment.f
  rw [implIsPoint, implIsPoint]
  simp only [Option.bind_some, decide_eq_true_eq]
  by_cases h1 : Pt a b
  · rw [if_pos h1]
    by_cases h2 : Pt c d
    · rw [if_pos h2]
      congr 1
      rw [Bool.eq_iff_iff, decide_eq_true_eq]
      simp only [Bool.or_eq_true, Bool.not_eq_true', beq_eq_false_iff_ne, ne_eq, Sg, h1, h2, true_and]
      omega
    · rw [if_neg h2]; simp [Sg, h2]
  · rw [if_neg h1]; simp [Sg, h1]
theorem specIsSegment (a b c d : Int) : spec_IsSegment.f a b c d = some (decide (Sg a b c d)) := by
  unfold spec_IsSegment.f
  rw [specIsPoint, specIsPoint]
  simp only [Option.bind_some, decide_eq_true_eq]
  by_cases h1 : Pt a b
  · rw [if_pos h1]
    by_cases h2 : Pt c d
    · rw [if_pos h2]
      congr 1
      rw [Bool.eq_iff_iff, decide_eq_true_eq]
      simp only [Bool.or_eq_true, Bool.not_eq_true', beq_eq_false_iff_ne, ne_eq, Sg, h1, h2, true_and]
      omega
    · rw [if_neg h2]; simp [Sg, h2]
  · rw [if_neg h1]; simp [Sg, h1]
theorem specMin' (a b : Int) : spec_Min.f a b = some (min a b) := by unfold spec_Min.f; split <;> (congr 1; omega)
theorem specMax' (a b : Int) : spec_Max.f a b = some (max a b) := by unfold spec_Max.f; split <;> (congr 1; omega)
def SgOn (ax ay bx bY px py : Int) : Prop := Sg ax ay bx bY ∧ Pt px py ∧ Geo.On ⟨ax, ay⟩ ⟨bx, bY⟩ ⟨px, py⟩
instance (a b c d e f : Int) : Decidable (SgOn a b c d e f) := by unfold SgOn; infer_instance
theorem on_iff (ax ay bx bY px py : Int) : Geo.On ⟨ax, ay⟩ ⟨bx, bY⟩ ⟨px, py⟩ ↔ crossZ ax ay bx bY px py = 0 ∧ (min ax bx ≤ px ∧ px ≤ max ax bx) ∧ (min ay bY ≤ py ∧ py ≤ max ay bY) := by
  unfold Geo.On Geo.InB
  have e : Geo.cross ⟨ax, ay⟩ ⟨bx, bY⟩ ⟨px, py⟩ = crossZ ax ay bx bY px py := rfl
  rw [e]
  simp only [and_assoc]
theorem specIsOn (ax ay bx bY px py : Int) : spec_IsOn.f ax ay bx bY px py = some (decide (SgOn ax ay bx bY px py)) := by
  unfold spec_IsOn.f
  rw [specIsSegment, specIsPoint]
  simp only [Option.bind_some, decide_eq_true_eq]
  by_cases h1 : Sg ax ay bx bY
  · by_cases h2 : Pt px py
    · rw [if_pos h1, if_pos h2, specCross h1.1 h1.2.1 h2]
      simp only [Option.bind_some, specMin', specMax', specIn, decide_eq_true_eq]
      have e : SgOn ax ay bx bY px py ↔ crossZ ax ay bx bY px py = 0 ∧ (min ax bx ≤ px ∧ px ≤ max ax bx) ∧ (min ay bY ≤ py ∧ py ≤ max ay bY) := by unfold SgOn; rw [on_iff]; exact ⟨fun h => h.2.2, fun h => ⟨h1, h2, h⟩⟩
      simp only [e]
      by_cases c1 : crossZ ax ay bx bY px py = 0
      · rw [if_pos c1]
        by_cases c2 : min ax bx ≤ px ∧ px ≤ max ax bx
        · rw [if_pos c2]; simp only [c1, c2, true_and, and_self]
        · rw [if_neg c2]; simp only [c2, false_and, and_false, decide_false]
      · rw [if_neg c1]; simp only [c1, false_and, decide_false]
    · rw [if_pos h1, if_neg h2]
      rw [decide_eq_false (fun h : SgOn ax ay bx bY px py => h2 h.2.1)]
  · rw [if_neg h1]
    rw [decide_eq_false (fun h : SgOn ax ay bx bY px py => h1 h.1)]
def sideV (ax ay bx bY px py : Int) : Int := if Pt ax ay ∧ Pt bx bY ∧ Pt px py then Geo.sgn (crossZ ax ay bx bY px py) else 0
theorem cmpZ (n : Int) : cmp_Compare_int.f n 0 = some (Geo.sgn n) := by
  unfold cmp_Compare_int.f cmp_isNaN_int.f
  simp only [Option.bind_some, bne_self_eq_false, Bool.false_eq_true, if_false]
  unfold Geo.sgn
  by_cases h1 : n < 0
  · rw [if_pos h1, if_neg (by omega), if_pos h1]
  · rw [if_neg h1]
    by_cases h2 : n > 0
    · rw [if_pos h2, if_pos (by omega)]
    · rw [if_neg h2, if_neg (by omega), if_neg (by omega)]
theorem tImplSide (ax ay bx bY px py : Int) : Told (fun k => impl_SideOf.f k ax ay bx bY px py) (sideV ax ay bx bY px py) := by
  have no : ¬ (Pt ax ay ∧ Pt bx bY ∧ Pt px py) → Told (fun k => impl_SideOf.j0 k true ax ay bx bY px py) (sideV ax ay bx bY px py) := fun h => Told.stepr fun k => by simp only [impl_SideOf.j0, if_true]; rw [sideV, if_neg h]
  by_cases h1 : Pt ax ay
  · by_cases h2 : Pt bx bY
    · refine Told.bind (Told.of (implIsPoint ax ay)) (Told.ite_t (by simpa using h1) (Told.bind (Told.of (implIsPoint bx bY)) (Told.ite_t (by simpa using h2) (Told.bind (Told.of (implIsPoint px py)) ?_))))
      by_cases h3 : Pt px py
      · refine Told.stepr fun k => ?_
        simp only [impl_SideOf.j0, decide_eq_true h3, Bool.not_true, Bool.false_eq_true, if_false]
        rw [implCross h1 h2 h3]
        simp only [Option.bind_some, cmpZ]
        rw [sideV, if_pos ⟨h1, h2, h3⟩]
      · rw [decide_eq_false h3]; exact no (fun h => h3 h.2.2)
    · exact Told.bind (Told.of (implIsPoint ax ay)) (Told.ite_t (by simpa using h1) (Told.bind (Told.of (implIsPoint bx bY)) (Told.ite_f (by simpa using h2) (no (fun h => h2 h.2.1)))))
  · exact Told.bind (Told.of (implIsPoint ax ay)) (Told.ite_f (by simpa using h1) (no (fun h => h1 h.1)))
theorem tImplIsOn (ax ay bx bY px py : Int) : Told (fun k => impl_IsOn.f k ax ay bx bY px py) (decide (SgOn ax ay bx bY px py)) := by
  by_cases h1 : Sg ax ay bx bY
  · by_cases h2 : Pt px py
    · refine Told.bind (Told.of (implIsSegment ax ay bx bY)) (Told.ite_t (by simpa using h1) (Told.bind (Told.of (implIsPoint px py)) (Told.ite_t (by simpa using h2) (Told.bind (tImplSide ax ay bx bY px py) ?_))))
      have e : SgOn ax ay bx bY px py ↔ crossZ ax ay bx bY px py = 0 ∧ (min ax bx ≤ px ∧ px ≤ max ax bx) ∧ (min ay bY ≤ py ∧ py ≤ max ay bY) := by unfold SgOn; rw [on_iff]; exact ⟨fun h => h.2.2, fun h => ⟨h1, h2, h⟩⟩
      refine Told.of ?_
      have es : sideV ax ay bx bY px py = Geo.sgn (crossZ ax ay bx bY px py) := by unfold sideV; exact if_pos ⟨h1.1, h1.2.1, h2⟩
      simp only [es, e, Geo.sgn_eq_zero, Gen.mn_eq, Gen.mx_eq, implInRange, Option.bind_some, decide_eq_true_eq]
      by_cases c1 : crossZ ax ay bx bY px py = 0
      · rw [if_pos c1]
        by_cases c2 : min ax bx ≤ px ∧ px ≤ max ax bx
        · rw [if_pos c2]; simp only [c1, c2, true_and, and_self]
        · rw [if_neg c2]; simp only [c2, false_and, and_false, decide_false]
      · rw [if_neg c1]; simp only [c1, false_and, decide_false]
    · rw [decide_eq_false (fun h : SgOn ax ay bx bY px py => h2 h.2.1)]
      exact Told.bind (Told.of (implIsSegment ax ay bx bY)) (Told.ite_t (by simpa using h1) (Told.bind (Told.of (implIsPoint px py)) (Told.ite_f (by simpa using h2) (Told.ret _))))
  · rw [decide_eq_false (fun h : SgOn ax ay bx bY px py => h1 h.1)]
    exact Told.bind (Told.of (implIsSegment ax ay bx bY)) (Told.ite_f (by simpa using h1) (Told.ret _))
def cP (p : S98) : S49 := ⟨p.f0, p.f1⟩
theorem toPointS_some (l : List S98) (hl : l.length ≤ 1048576) {k : Nat} (hk : l.length < k) : laws_toPointS.f k l = some (l.map cP) := by
  unfold laws_toPointS.f
  rw [if_pos (by omega), if_pos (by omega)]
  have := Gen.fill_all l z98 cP 0 (fun k out i => laws_toPointS.l0 k l out i) (fun k out i _ hi ho => by
      simp only [laws_toPointS.l0]
      rw [if_pos (by omega), if_pos (by omega)]
      simp only [laws_toPoint.f, Option.bind_some]
      rw [if_pos (by omega), Gen.w64s (by omega)]
      rfl) (fun k out ho => by
      simp only [laws_toPointS.l0]
      rw [if_neg (by omega)]) (k := k) (out := List.replicate l.length z49) (by simp) (by omega)
  simpa using this
theorem szPointS_some (l : List S98) (a : Int) (hl : l.length ≤ maxLen) (ha : 0 ≤ a) (ha' : a ≤ 1048576) : laws_szPointS.f l a = some (if a < l.length then -1 else a - l.length) := by
  unfold laws_szPointS.f
  unfold maxLen at hl
  rw [Gen.w64 (by omega) (by omega)]
  split <;> split <;> first | rfl | omega
theorem eqPointS_self (a : List S49) (hl : a.length ≤ 1048576) {k : Nat} (hk : a.length < k) : laws_eqPointS.f k a a = some true := by
  unfold laws_eqPointS.f
  rw [if_pos rfl]
  refine Gen.up_all a.length 0 true (fun k i => laws_eqPointS.l0 k a a i) (fun k i _ hi => ?_) (fun k _ => ?_) (k := k) (by omega)
  · simp only [laws_eqPointS.l0, laws_eqPoint.f]
    rw [if_pos (by omega), if_pos (by omega), if_pos (by omega)]
    simp only [if_true, Option.bind_some]
    rw [Gen.w64s (by omega)]
  · simp only [laws_eqPointS.l0]
    rw [if_neg (by omega)]
theorem tToPointS (l : List S98) (hl : l.length ≤ 1048576) : Told (fun k => laws_toPointS.f k l) (l.map cP) := ⟨l.length + 1, fun k hk => toPointS_some l hl (by omega)⟩
theorem tEqPointS (l : List S49) (hl : l.length ≤ 1048576) : Told (fun k => laws_eqPointS.f k l l) true := ⟨l.length + 1, fun k hk => eqPointS_self l hl (by omega)⟩
def Ln (l : List S49) : Prop := 2 ≤ l.length ∧ l.length ≤ 10 ∧ ∀ i, i < l.length → Pt (l.getD i z49).f0 (l.getD i z49).f1 ∧ ¬ (0 < i ∧ (l.getD (i - 1) z49).f0 = (l.getD i z49).f0 ∧ (l.getD (i - 1) z49).f1 = (l.getD i z49).f1)
def lnChk (l : List S49) (i : Nat) : Bool := decide (Pt (l.getD i z49).f0 (l.getD i z49).f1 ∧ ¬ (0 < i ∧ (l.getD (i - 1) z49).f0 = (l.getD i z49).f0 ∧ (l.getD (i - 1) z49).f1 = (l.getD i z49).f1))
instance (l : List S49) : Decidable (Ln l) := decidable_of_iff ((2 ≤ l.length ∧ l.length ≤ 10) ∧ ∀ i, i < l.length → lnChk l i = true) (by unfold Ln lnChk; simp only [decide_eq_true_eq, and_assoc])
theorem rdP (l : List S49) (i : Nat) : rd_T49 l (i : Int) = l.getD i z49 := rfl
theorem tSpecSide (ax ay bx bY px py : Int) (h1 : Pt ax ay) (h2 : Pt bx bY) (h3 : Pt px py) : Told (fun k => spec_SideOf.f k ax ay bx bY px py) (Geo.sgn (crossZ ax ay bx bY px py)) := by
  refine Told.bind (Told.of (specIsPoint ax ay)) (Told.ite_t (by simpa using h1) (Told.bind (Told.of (specIsPoint bx bY)) (Told.ite_t (by simpa using h2) (Told.bind (Told.of (specIsPoint px py)) (Told.stepr fun k => ?_)))))
  simp only [spec_SideOf.j0, decide_eq_true h3, Bool.not_true, Bool.false_eq_true, if_false]
  rw [specCross h1 h2 h3]
  simp only [Option.bind_some]
  unfold Geo.sgn
  split
  · rfl
  · split <;> rfl
def shAt (ax ay bx bY cx cy dx dy : Int) (i : Nat) (q : S49) : Bool := if i < 2 then decide (SgOn cx cy dx dy q.f0 q.f1) else decide (SgOn ax ay bx bY q.f0 q.f1)
def pNe (p q : S49) : Bool := !(p.f0 == q.f0) || (!(p.f1 == q.f1))
theorem fold_all {α : Type} (f : α → Bool) (z : α) (out : List α) (b : Bool) : (List.range' 0 out.length).foldl (fun b j => if b = true then f (out.getD j z) else false) b = (b && out.all f) := by
  have key : ∀ (d i : Nat) (b : Bool), i + d = out.length → (List.range' i d).foldl (fun b j => if b = true then f (out.getD j z) else false) b = (b && (out.drop i).all f) := by
    intro d
    induction d with
    | zero => intro i b h; rw [List.drop_of_length_le (by omega)]; simp
    | succ d ih =>
      intro i b h
      rw [List.range'_succ, List.foldl_cons, ih (i + 1) _ (by omega), List.drop_eq_getElem_cons (by omega : i < out.length), List.all_cons]
      have e : out.getD i z = out[i] := by rw [List.getD_eq_getElem?_getD, List.getElem?_eq_getElem (by omega)]; rfl
      rw [e]
      cases b <;> simp
  have := key out.length 0 b (by omega)
  rwa [List.drop_zero] at this
def shNext (ax ay bx bY cx cy dx dy : Int) (out P : List S49) (i : Nat) : List S49 :=
  if (shAt ax ay bx bY cx cy dx dy i (P.getD i z49) && out.all (fun q => pNe q (P.getD i z49))) = true then out ++ [P.getD i z49] else out
theorem tShStep (ax ay bx bY cx cy dx dy : Int) (out P : List S49) (i : Nat) (hP : P.length = 4) (ho : out.length ≤ 4) (hi : i < 4) (r : Int)
    (h : Told (fun k => spec_l5Shared.l0 k (shNext ax ay bx bY cx cy dx dy out P i) P ((i + 1 : Nat) : Int) ax ay bx bY cx cy dx dy) r) : Told (fun k => spec_l5Shared.l0 k out P (i : Int) ax ay bx bY cx cy dx dy) r := by
  have inner : ∀ b, b = shAt ax ay bx bY cx cy dx dy i (P.getD i z49) → Told (fun k => spec_l5Shared.l1 k out P (i : Int) b 0 ax ay bx bY cx cy dx dy) r := by
    intro b hb
    refine Told.up (n := out.length) (fun b j => if b = true then pNe (out.getD j z49) (P.getD i z49) else false) (fun k b j => spec_l5Shared.l1 k out P (i : Int) b j ax ay bx bY cx cy dx dy) (fun _ _ => True) (fun b j hj _ => ⟨trivial, fun hh => ?_⟩) out.length b 0 (by omega) trivial ?_
    · refine Told.step (fun k => ?_) hh
      simp only [spec_l5Shared.l1]
      rw [if_pos (by omega), Gen.w64s (by omega)]
      by_cases c : b = true
      · rw [if_pos c, if_pos (by omega), if_pos (by omega), if_pos (by omega), if_pos c]; rfl
      · rw [if_neg c, if_neg c]
    · refine Told.step (fun k => ?_) h
      simp only [spec_l5Shared.l1]
      rw [if_neg (by omega), Gen.w64s (by omega)]
      unfold shNext
      rw [fold_all (fun q => pNe q (P.getD i z49)), ← hb]
      split
      · rw [if_pos (by omega), if_pos (by omega), if_pos (by omega)]; rfl
      · rfl
  have j1 : ∀ b, b = shAt ax ay bx bY cx cy dx dy i (P.getD i z49) → Told (fun k => spec_l5Shared.j1 k out P (i : Int) b ax ay bx bY cx cy dx dy) r := fun b hb => Told.step (fun k => rfl) (inner b hb)
  by_cases c2 : i < 2
  · have e : shAt ax ay bx bY cx cy dx dy i (P.getD i z49) = decide (SgOn cx cy dx dy (P.getD i z49).f0 (P.getD i z49).f1) := by unfold shAt; rw [if_pos c2]
    refine Told.step (fun k => ?_) (j1 _ e.symm)
    simp only [spec_l5Shared.l0]
    rw [if_pos (by omega), if_pos (by omega), if_pos (by omega), if_pos (by omega), rdP, specIsOn]
    simp only [Option.bind_some]
    by_cases c : SgOn cx cy dx dy (P.getD i z49).f0 (P.getD i z49).f1
    · rw [if_pos (by simpa using c), decide_eq_true c]
    · rw [if_neg (by simpa using c), if_neg (by omega), decide_eq_false c]
  · have e : shAt ax ay bx bY cx cy dx dy i (P.getD i z49) = decide (SgOn ax ay bx bY (P.getD i z49).f0 (P.getD i z49).f1) := by unfold shAt; rw [if_neg c2]
    refine Told.step (fun k => ?_) (j1 _ e.symm)
    simp only [spec_l5Shared.l0]
    rw [if_pos (by omega), if_neg (by omega), if_pos (by omega), if_pos (by omega), if_pos (by omega), rdP, specIsOn]
    simp only [Option.bind_some]
theorem pt_ok {x y : Int} (h : Pt x y) : Geo.Ok ⟨x, y⟩ := h
theorem sg_ne {ax ay bx bY : Int} (h : Sg ax ay bx bY) : (⟨ax, ay⟩ : Geo.Pt) ≠ ⟨bx, bY⟩ := by intro e; injection e with e1 e2; exact h.2.2 ⟨e1, e2⟩
theorem sgOn_iff {ax ay bx bY px py : Int} (h1 : Sg ax ay bx bY) (h2 : Pt px py) : SgOn ax ay bx bY px py ↔ Geo.On ⟨ax, ay⟩ ⟨bx, bY⟩ ⟨px, py⟩ := ⟨fun h => h.2.2, fun h => ⟨h1, h2, h⟩⟩
theorem pNe_eq (a b c d : Int) : pNe ⟨a, b⟩ ⟨c, d⟩ = !decide ((⟨a, b⟩ : Geo.Pt) = ⟨c, d⟩) := by
  unfold pNe
  rw [Bool.eq_iff_iff]
  simp only [Bool.or_eq_true, Bool.not_eq_true', beq_eq_false_iff_ne, ne_eq, decide_eq_false_iff_not, Geo.Pt.mk.injEq]
  omega
theorem tShared (ax ay bx bY cx cy dx dy : Int) (h1 : Sg ax ay bx bY) (h2 : Sg cx cy dx dy) : Told (fun k => spec_l5Shared.f k ax ay bx bY cx cy dx dy) (Geo.nShared ⟨ax, ay⟩ ⟨bx, bY⟩ ⟨cx, cy⟩ ⟨dx, dy⟩ : Int) := by
  let P : List S49 := [⟨ax, ay⟩, ⟨bx, bY⟩, ⟨cx, cy⟩, ⟨dx, dy⟩]
  have hP : P.length = 4 := rfl
  refine Told.eq (M := fun k => spec_l5Shared.l0 k [] P ((0 : Nat) : Int) ax ay bx bY cx cy dx dy) (fun k => rfl) ?_
  have l1 : ∀ out i, out.length ≤ i → (shNext ax ay bx bY cx cy dx dy out P i).length ≤ i + 1 := by intro out i h; unfold shNext; split <;> (try simp) <;> omega
  have a0 := l1 [] 0 (by simp)
  have a1 := l1 _ 1 a0
  have a2 := l1 _ 2 a1
  refine tShStep _ _ _ _ _ _ _ _ _ _ _ hP (by simp) (by omega) _ (tShStep _ _ _ _ _ _ _ _ _ _ 1 hP (by omega) (by omega) _ (tShStep _ _ _ _ _ _ _ _ _ _ 2 hP (by omega) (by omega) _ (tShStep _ _ _ _ _ _ _ _ _ _ 3 hP (by omega) (by omega) _ (Told.stepr fun k => ?_))))
  simp only [spec_l5Shared.l0]
  rw [if_neg (by omega)]
  congr 1
  have o0 := sgOn_iff (px := ax) (py := ay) h2 h1.1
  have o1 := sgOn_iff (px := bx) (py := bY) h2 h1.2.1
  have o2 := sgOn_iff (px := cx) (py := cy) h1 h2.1
  have o3 := sgOn_iff (px := dx) (py := dy) h1 h2.2.1
  have n1 := sg_ne h1
  have n2 := sg_ne h2
  unfold Geo.nShared shNext shAt
  simp only [P, List.getD_cons_zero, List.getD_cons_succ, o0, o1, o2, o3, show (0 : Nat) < 2 from by omega, show (1 : Nat) < 2 from by omega, show ¬ (2 : Nat) < 2 from by omega, show ¬ (3 : Nat) < 2 from by omega, if_true, if_false]
  by_cases c0 : Geo.On ⟨cx, cy⟩ ⟨dx, dy⟩ ⟨ax, ay⟩ <;> by_cases c1 : Geo.On ⟨cx, cy⟩ ⟨dx, dy⟩ ⟨bx, bY⟩ <;> by_cases c2 : Geo.On ⟨ax, ay⟩ ⟨bx, bY⟩ ⟨cx, cy⟩ <;> by_cases c3 : Geo.On ⟨ax, ay⟩ ⟨bx, bY⟩ ⟨dx, dy⟩ <;>
    simp only [c0, c1, c2, c3, decide_true, decide_false, Bool.true_and, Bool.false_and, Bool.false_eq_true, List.all_nil, List.all_cons, List.nil_append, List.cons_append, pNe_eq, n1, n2, if_true, if_false, Bool.not_false, Bool.and_true, true_and, false_and, not_false_eq_true, List.length_nil, List.length_cons] <;>
    (repeat' split) <;> simp_all [pNe_eq] <;> grind
def howV (ax ay bx bY cx cy dx dy : Int) : Int := if Sg ax ay bx bY ∧ Sg cx cy dx dy then Geo.howI ⟨ax, ay⟩ ⟨bx, bY⟩ ⟨cx, cy⟩ ⟨dx, dy⟩ else 0
theorem howV_eq {ax ay bx bY cx cy dx dy : Int} (h1 : Sg ax ay bx bY) (h2 : Sg cx cy dx dy) : howV ax ay bx bY cx cy dx dy = Geo.howS ⟨ax, ay⟩ ⟨bx, bY⟩ ⟨cx, cy⟩ ⟨dx, dy⟩ := by
  rw [howV, if_pos ⟨h1, h2⟩]
  exact Geo.how_eq (pt_ok h1.1) (pt_ok h1.2.1) (pt_ok h2.1) (pt_ok h2.2.1) (sg_ne h1) (sg_ne h2)
theorem sgn_mul_bd (m n : Int) : wrap64 (Geo.sgn m * Geo.sgn n) = Geo.sgn m * Geo.sgn n := by
  have h1 : -1 ≤ Geo.sgn m ∧ Geo.sgn m ≤ 1 := by unfold Geo.sgn; split <;> (try split) <;> omega
  have h2 : -1 ≤ Geo.sgn n ∧ Geo.sgn n ≤ 1 := by unfold Geo.sgn; split <;> (try split) <;> omega
  have := Gen.mul_bd h1 h2
  exact Gen.w64 (by omega) (by omega)
theorem tSpecHow (ax ay bx bY cx cy dx dy : Int) : Told (fun k => spec_HowMeet.f k ax ay bx bY cx cy dx dy) (howV ax ay bx bY cx cy dx dy) := by
  have no : ¬ (Sg ax ay bx bY ∧ Sg cx cy dx dy) → Told (fun k => spec_HowMeet.j0 k true ax ay bx bY cx cy dx dy) (howV ax ay bx bY cx cy dx dy) := fun h => Told.stepr fun k => by simp only [spec_HowMeet.j0, if_true]; rw [howV, if_neg h]
  by_cases h1 : Sg ax ay bx bY
  · refine Told.bind (Told.of (specIsSegment ax ay bx bY)) (Told.ite_t (by simpa using h1) (Told.bind (Told.of (specIsSegment cx cy dx dy)) ?_))
    by_cases h2 : Sg cx cy dx dy
    · have e := howV_eq h1 h2
      unfold Geo.howS at e
      rw [decide_eq_true h2]
      have ap : ∀ b : Bool, (b = true ↔ Geo.Apart ⟨ax, ay⟩ ⟨bx, bY⟩ ⟨cx, cy⟩ ⟨dx, dy⟩) → Told (fun k => spec_HowMeet.j1 k b ax ay bx bY cx cy dx dy) (howV ax ay bx bY cx cy dx dy) := by
        intro b hb
        by_cases c : b = true
        · refine Told.stepr fun k => ?_
          simp only [spec_HowMeet.j1]
          rw [if_pos c, e, if_pos (hb.1 c)]
        · rw [if_neg (fun h => c (hb.2 h))] at e
          refine Told.step (fun k => by simp only [spec_HowMeet.j1]; rw [if_neg c]) (Told.bind (tShared ax ay bx bY cx cy dx dy h1 h2) ?_)
          by_cases n0 : Geo.nShared ⟨ax, ay⟩ ⟨bx, bY⟩ ⟨cx, cy⟩ ⟨dx, dy⟩ = 0
          · rw [if_pos n0] at e
            refine Told.ite_t (by omega) (Told.bind (tSpecSide ax ay bx bY cx cy h1.1 h1.2.1 h2.1) (Told.bind (tSpecSide ax ay bx bY dx dy h1.1 h1.2.1 h2.2.1) ?_))
            rw [sgn_mul_bd]
            by_cases p1 : Geo.sgn (crossZ ax ay bx bY cx cy) * Geo.sgn (crossZ ax ay bx bY dx dy) < 0
            · refine Told.ite_t p1 (Told.bind (tSpecSide cx cy dx dy ax ay h2.1 h2.2.1 h1.1) (Told.bind (tSpecSide cx cy dx dy bx bY h2.1 h2.2.1 h1.2.1) ?_))
              rw [sgn_mul_bd]
              by_cases p2 : Geo.sgn (crossZ cx cy dx dy ax ay) * Geo.sgn (crossZ cx cy dx dy bx bY) < 0
              · rw [if_pos ⟨p1, p2⟩] at e; rw [e]; exact Told.ite_t p2 (Told.ret _)
              · rw [if_neg (fun h => p2 h.2)] at e; rw [e]; exact Told.ite_f p2 (Told.ret _)
            · rw [if_neg (fun h => p1 h.1)] at e; rw [e]; exact Told.ite_f p1 (Told.ret _)
          · rw [if_neg n0] at e
            refine Told.ite_f (by omega) ?_
            by_cases n1 : Geo.nShared ⟨ax, ay⟩ ⟨bx, bY⟩ ⟨cx, cy⟩ ⟨dx, dy⟩ = 1
            · rw [if_pos n1] at e; rw [e]; exact Told.ite_t (by omega) (Told.ret _)
            · rw [if_neg n1] at e; rw [e]; exact Told.ite_f (by omega) (Told.ret _)
      have ad : Geo.Apart ⟨ax, ay⟩ ⟨bx, bY⟩ ⟨cx, cy⟩ ⟨dx, dy⟩ ↔ (max ax bx < min cx dx ∨ max cx dx < min ax bx ∨ max ay bY < min cy dy ∨ max cy dy < min ay bY) := Iff.rfl
      rw [ad] at ap
      refine Told.step (M := fun k => if max ax bx < min cx dx then spec_HowMeet.j1 k true ax ay bx bY cx cy dx dy else if max cx dx < min ax bx then spec_HowMeet.j1 k true ax ay bx bY cx cy dx dy else if max ay bY < min cy dy then spec_HowMeet.j1 k true ax ay bx bY cx cy dx dy else spec_HowMeet.j1 k (decide (max cy dy < min ay bY)) ax ay bx bY cx cy dx dy) (fun k => ?_) ?_
      · simp only [spec_HowMeet.j0, Bool.not_true, Bool.false_eq_true, if_false, specMin', specMax', Option.bind_some]
      by_cases c1 : max ax bx < min cx dx
      · exact Told.ite_t c1 (ap true (by simp [c1]))
      refine Told.ite_f c1 ?_
      by_cases c2 : max cx dx < min ax bx
      · exact Told.ite_t c2 (ap true (by simp [c2]))
      refine Told.ite_f c2 ?_
      by_cases c3 : max ay bY < min cy dy
      · exact Told.ite_t c3 (ap true (by simp [c3]))
      exact Told.ite_f c3 (ap _ (by rw [decide_eq_true_eq]; omega))
    · rw [decide_eq_false h2]; exact no (fun h => h2 h.2)
  · exact Told.bind (Told.of (specIsSegment ax ay bx bY)) (Told.ite_f (by simpa using h1) (no (fun h => h1 h.1)))
theorem implBefore {px py qx qy : Int} (hp : Pt px py) (hq : Pt qx qy) : impl_BeforePoint.f px py qx qy = some (decide (Geo.key ⟨px, py⟩ < Geo.key ⟨qx, qy⟩)) := by
  obtain ⟨a1, a2, a3, a4⟩ := hp; obtain ⟨b1, b2, b3, b4⟩ := hq
  unfold impl_BeforePoint.f Geo.key
  show _ = some (decide (1000 * py + px < 1000 * qy + qx))
  split
  · rw [decide_eq_true (by omega)]
  · split
    · congr 1; rw [decide_eq_decide]; omega
    · rw [decide_eq_false (by omega)]
def gP (p : Geo.Pt) : Prop := Pt p.x p.y
theorem gP_lo {a b : Geo.Pt} (ha : gP a) (hb : gP b) : gP (Geo.lowK a b) := by unfold Geo.lowK; split <;> assumption
theorem gP_hi {a b : Geo.Pt} (ha : gP a) (hb : gP b) : gP (Geo.highK a b) := by unfold Geo.highK; split <;> assumption
theorem implForward {ax ay bx bY : Int} (ha : Pt ax ay) (hb : Pt bx bY) : impl_forward.f ax ay bx bY = some ((Geo.lowK ⟨ax, ay⟩ ⟨bx, bY⟩).x, (Geo.lowK ⟨ax, ay⟩ ⟨bx, bY⟩).y, (Geo.highK ⟨ax, ay⟩ ⟨bx, bY⟩).x, (Geo.highK ⟨ax, ay⟩ ⟨bx, bY⟩).y) := by
  unfold impl_forward.f
  rw [implBefore hb ha]
  simp only [Option.bind_some, decide_eq_true_eq, impl_TurnSegment.f]
  unfold Geo.lowK Geo.highK
  split <;> rfl
theorem tImplHow (ax ay bx bY cx cy dx dy : Int) : Told (fun k => impl_HowMeet.f k ax ay bx bY cx cy dx dy) (howV ax ay bx bY cx cy dx dy) := by
  have no : ¬ (Sg ax ay bx bY ∧ Sg cx cy dx dy) → Told (fun k => impl_HowMeet.j0 k true ax ay bx bY cx cy dx dy) (howV ax ay bx bY cx cy dx dy) := fun h => Told.stepr fun k => by simp only [impl_HowMeet.j0, if_true]; rw [howV, if_neg h]
  by_cases h1 : Sg ax ay bx bY
  · refine Told.bind (Told.of (implIsSegment ax ay bx bY)) (Told.ite_t (by simpa using h1) (Told.bind (Told.of (implIsSegment cx cy dx dy)) ?_))
    by_cases h2 : Sg cx cy dx dy
    · have e : howV ax ay bx bY cx cy dx dy = Geo.howI ⟨ax, ay⟩ ⟨bx, bY⟩ ⟨cx, cy⟩ ⟨dx, dy⟩ := by rw [howV, if_pos ⟨h1, h2⟩]
      have ha := h1.1; have hb := h1.2.1; have hc := h2.1; have hd := h2.2.1
      have sd : ∀ {ax ay bx bY px py : Int}, Pt ax ay → Pt bx bY → Pt px py → sideV ax ay bx bY px py = Geo.sgn (crossZ ax ay bx bY px py) := fun p q r => by unfold sideV; exact if_pos ⟨p, q, r⟩
      unfold Geo.howI at e
      rw [decide_eq_true h2]
      refine Told.step (M := fun k => (impl_SideOf.f k ax ay bx bY cx cy).bind fun t1 => (impl_SideOf.f k ax ay bx bY dx dy).bind fun t2 => if t1 = 0 then impl_HowMeet.j1 k t1 t2 (t2 == 0) ax ay bx bY cx cy dx dy else impl_HowMeet.j1 k t1 t2 false ax ay bx bY cx cy dx dy) (fun k => by simp only [impl_HowMeet.j0, Bool.not_true, Bool.false_eq_true, if_false]) (Told.bind (tImplSide ax ay bx bY cx cy) (Told.bind (tImplSide ax ay bx bY dx dy) ?_))
      rw [sd ha hb hc, sd ha hb hd]
      have on4 : ∀ b : Bool, ¬ (crossZ ax ay bx bY cx cy = 0 ∧ crossZ ax ay bx bY dx dy = 0) → (b = true ↔ Geo.Proper ⟨ax, ay⟩ ⟨bx, bY⟩ ⟨cx, cy⟩ ⟨dx, dy⟩) → Told (fun k => impl_HowMeet.j4 k b ax ay bx bY cx cy dx dy) (howV ax ay bx bY cx cy dx dy) := by
        intro b hn hb4
        rw [if_neg (show ¬ (Geo.cross ⟨ax, ay⟩ ⟨bx, bY⟩ ⟨cx, cy⟩ = 0 ∧ Geo.cross ⟨ax, ay⟩ ⟨bx, bY⟩ ⟨dx, dy⟩ = 0) from hn)] at e
        by_cases c : b = true
        · rw [if_pos (hb4.1 c)] at e
          refine Told.stepr fun k => ?_
          simp only [impl_HowMeet.j4]
          rw [if_pos c, e]
        · rw [if_neg (fun h => c (hb4.2 h))] at e
          have o0 := sgOn_iff (px := cx) (py := cy) h1 h2.1
          have o1 := sgOn_iff (px := dx) (py := dy) h1 h2.2.1
          have o2 := sgOn_iff (px := ax) (py := ay) h2 h1.1
          have o3 := sgOn_iff (px := bx) (py := bY) h2 h1.2.1
          simp only [← o0, ← o1, ← o2, ← o3] at e
          refine Told.step (fun k => by simp only [impl_HowMeet.j4]; rw [if_neg c]) (Told.bind (tImplIsOn ax ay bx bY cx cy) ?_)
          by_cases d0 : SgOn ax ay bx bY cx cy
          · rw [if_pos (.inl d0)] at e; rw [e]; exact Told.ite_t (by simpa using d0) (Told.ret _)
          refine Told.ite_f (by simpa using d0) (Told.bind (tImplIsOn ax ay bx bY dx dy) ?_)
          by_cases d1 : SgOn ax ay bx bY dx dy
          · rw [if_pos (.inr (.inl d1))] at e; rw [e]; exact Told.ite_t (by simpa using d1) (Told.ret _)
          refine Told.ite_f (by simpa using d1) (Told.bind (tImplIsOn cx cy dx dy ax ay) ?_)
          by_cases d2 : SgOn cx cy dx dy ax ay
          · rw [if_pos (.inr (.inr (.inl d2)))] at e; rw [e]; exact Told.ite_t (by simpa using d2) (Told.ret _)
          refine Told.ite_f (by simpa using d2) (Told.bind (tImplIsOn cx cy dx dy bx bY) ?_)
          by_cases d3 : SgOn cx cy dx dy bx bY
          · rw [if_pos (.inr (.inr (.inr d3)))] at e; rw [e]; exact Told.ite_t (by simpa using d3) (Told.ret _)
          rw [if_neg (fun h => by rcases h with h | h | h | h <;> contradiction)] at e
          rw [e]
          exact Told.ite_f (by simpa using d3) (Told.ret _)
      have off : ∀ b : Bool, b = false → ¬ (crossZ ax ay bx bY cx cy = 0 ∧ crossZ ax ay bx bY dx dy = 0) → Told (fun k => impl_HowMeet.j1 k (Geo.sgn (crossZ ax ay bx bY cx cy)) (Geo.sgn (crossZ ax ay bx bY dx dy)) b ax ay bx bY cx cy dx dy) (howV ax ay bx bY cx cy dx dy) := by
        intro b hbf hn
        subst hbf
        refine Told.step (fun k => by simp only [impl_HowMeet.j1, Bool.false_eq_true, if_false]; rw [sgn_mul_bd]) ?_
        by_cases p1 : Geo.sgn (crossZ ax ay bx bY cx cy) * Geo.sgn (crossZ ax ay bx bY dx dy) < 0
        · refine Told.ite_t p1 (Told.bind (tImplSide cx cy dx dy ax ay) (Told.bind (tImplSide cx cy dx dy bx bY) ?_))
          rw [sd hc hd ha, sd hc hd hb, sgn_mul_bd]
          refine on4 _ hn ?_
          rw [decide_eq_true_eq]
          exact ⟨fun h => ⟨p1, h⟩, fun h => h.2⟩
        · exact Told.ite_f p1 (on4 _ hn ⟨fun h => (by cases h), fun h => absurd h.1 p1⟩)
      by_cases z1 : crossZ ax ay bx bY cx cy = 0
      · have s1 : Geo.sgn (crossZ ax ay bx bY cx cy) = 0 := Geo.sgn_eq_zero.2 z1
        refine Told.ite_t s1 ?_
        by_cases z2 : crossZ ax ay bx bY dx dy = 0
        · have s2 : Geo.sgn (crossZ ax ay bx bY dx dy) = 0 := Geo.sgn_eq_zero.2 z2
          rw [s1, s2]
          rw [if_pos (show Geo.cross ⟨ax, ay⟩ ⟨bx, bY⟩ ⟨cx, cy⟩ = 0 ∧ Geo.cross ⟨ax, ay⟩ ⟨bx, bY⟩ ⟨dx, dy⟩ = 0 from ⟨z1, z2⟩)] at e
          have ga : gP ⟨ax, ay⟩ := ha
          have gb : gP ⟨bx, bY⟩ := hb
          have gc : gP ⟨cx, cy⟩ := hc
          have gd : gP ⟨dx, dy⟩ := hd
          have l1 := gP_lo ga gb; have l2 := gP_lo gc gd; have i1 := gP_hi ga gb; have i2 := gP_hi gc gd
          have j3 : ∀ s t : Geo.Pt, gP s → gP t → s = Geo.lo2 ⟨ax, ay⟩ ⟨bx, bY⟩ ⟨cx, cy⟩ ⟨dx, dy⟩ → t = Geo.hi2 ⟨ax, ay⟩ ⟨bx, bY⟩ ⟨cx, cy⟩ ⟨dx, dy⟩ → Told (fun k => impl_HowMeet.j3 k s.x s.y t.x t.y) (howV ax ay bx bY cx cy dx dy) := by
            intro s t hs ht es et
            rw [← es, ← et] at e
            refine Told.stepr fun k => ?_
            simp only [impl_HowMeet.j3]
            rw [implBefore ht hs]
            simp only [Option.bind_some, decide_eq_true_eq]
            have e1 : (⟨t.x, t.y⟩ : Geo.Pt) = t := rfl
            have e2 : (⟨s.x, s.y⟩ : Geo.Pt) = s := rfl
            rw [e1, e2, e]
            split
            · rfl
            · by_cases q : s = t
              · subst q; simp
              · rw [if_neg q, if_neg]
                intro h
                simp only [Bool.and_eq_true, beq_iff_eq] at h
                apply q
                cases s; cases t; simp_all
          have j2 : ∀ s : Geo.Pt, gP s → s = Geo.lo2 ⟨ax, ay⟩ ⟨bx, bY⟩ ⟨cx, cy⟩ ⟨dx, dy⟩ → Told (fun k => impl_HowMeet.j2 k (Geo.lowK ⟨cx, cy⟩ ⟨dx, dy⟩).x (Geo.lowK ⟨cx, cy⟩ ⟨dx, dy⟩).y (Geo.highK ⟨cx, cy⟩ ⟨dx, dy⟩).x (Geo.highK ⟨cx, cy⟩ ⟨dx, dy⟩).y s.x s.y (Geo.highK ⟨ax, ay⟩ ⟨bx, bY⟩).x (Geo.highK ⟨ax, ay⟩ ⟨bx, bY⟩).y) (howV ax ay bx bY cx cy dx dy) := by
            intro s hs es
            refine Told.step (M := fun k => if Geo.key (Geo.highK ⟨cx, cy⟩ ⟨dx, dy⟩) < Geo.key (Geo.highK ⟨ax, ay⟩ ⟨bx, bY⟩) then impl_HowMeet.j3 k s.x s.y (Geo.highK ⟨cx, cy⟩ ⟨dx, dy⟩).x (Geo.highK ⟨cx, cy⟩ ⟨dx, dy⟩).y else impl_HowMeet.j3 k s.x s.y (Geo.highK ⟨ax, ay⟩ ⟨bx, bY⟩).x (Geo.highK ⟨ax, ay⟩ ⟨bx, bY⟩).y) (fun k => ?_) ?_
            · simp only [impl_HowMeet.j2]
              rw [implBefore i2 i1]
              simp only [Option.bind_some, decide_eq_true_eq]
            · by_cases q : Geo.key (Geo.highK ⟨cx, cy⟩ ⟨dx, dy⟩) < Geo.key (Geo.highK ⟨ax, ay⟩ ⟨bx, bY⟩)
              · exact Told.ite_t q (j3 s _ hs i2 es (by unfold Geo.hi2; rw [if_pos q]))
              · exact Told.ite_f q (j3 s _ hs i1 es (by unfold Geo.hi2; rw [if_neg q]))
          refine Told.step (M := fun k => if Geo.key (Geo.lowK ⟨ax, ay⟩ ⟨bx, bY⟩) < Geo.key (Geo.lowK ⟨cx, cy⟩ ⟨dx, dy⟩) then impl_HowMeet.j2 k (Geo.lowK ⟨cx, cy⟩ ⟨dx, dy⟩).x (Geo.lowK ⟨cx, cy⟩ ⟨dx, dy⟩).y (Geo.highK ⟨cx, cy⟩ ⟨dx, dy⟩).x (Geo.highK ⟨cx, cy⟩ ⟨dx, dy⟩).y (Geo.lowK ⟨cx, cy⟩ ⟨dx, dy⟩).x (Geo.lowK ⟨cx, cy⟩ ⟨dx, dy⟩).y (Geo.highK ⟨ax, ay⟩ ⟨bx, bY⟩).x (Geo.highK ⟨ax, ay⟩ ⟨bx, bY⟩).y else impl_HowMeet.j2 k (Geo.lowK ⟨cx, cy⟩ ⟨dx, dy⟩).x (Geo.lowK ⟨cx, cy⟩ ⟨dx, dy⟩).y (Geo.highK ⟨cx, cy⟩ ⟨dx, dy⟩).x (Geo.highK ⟨cx, cy⟩ ⟨dx, dy⟩).y (Geo.lowK ⟨ax, ay⟩ ⟨bx, bY⟩).x (Geo.lowK ⟨ax, ay⟩ ⟨bx, bY⟩).y (Geo.highK ⟨ax, ay⟩ ⟨bx, bY⟩).x (Geo.highK ⟨ax, ay⟩ ⟨bx, bY⟩).y) (fun k => ?_) ?_
          · simp only [impl_HowMeet.j1, beq_self_eq_true, if_true]
            rw [implForward ha hb, implForward hc hd]
            simp only [Option.bind_some]
            rw [implBefore l1 l2]
            simp only [Option.bind_some, decide_eq_true_eq]
          · by_cases q : Geo.key (Geo.lowK ⟨ax, ay⟩ ⟨bx, bY⟩) < Geo.key (Geo.lowK ⟨cx, cy⟩ ⟨dx, dy⟩)
            · exact Told.ite_t q (j2 _ l2 (by unfold Geo.lo2; rw [if_pos q]))
            · exact Told.ite_f q (j2 _ l1 (by unfold Geo.lo2; rw [if_neg q]))
        · exact off _ (by simpa using fun h => z2 (Geo.sgn_eq_zero.1 h)) (fun h => z2 h.2)
      · exact Told.ite_f (fun h => z1 (Geo.sgn_eq_zero.1 h)) (off _ rfl (fun h => z1 h.1))
    · rw [decide_eq_false h2]; exact no (fun h => h2 h.2)
  · exact Told.bind (Told.of (implIsSegment ax ay bx bY)) (Told.ite_f (by simpa using h1) (no (fun h => h1 h.1)))
theorem specIsLine (l : List S49) (hl : l.length ≤ 1048576) {k : Nat} (hk : l.length < k) : spec_IsLine.f k l = some (decide (Ln l)) := by
  unfold spec_IsLine.f
  rw [Gen.scan_all l.length 0 (lnChk l) (decide (2 ≤ l.length ∧ l.length ≤ 10)) (fun k i => spec_IsLine.l0 k l i) (fun k i _ hi => by
    simp only [spec_IsLine.l0]
    rw [if_pos (by omega), if_pos (by omega), specIsPoint, rdP]
    simp only [Option.bind_some, decide_eq_true_eq]
    unfold lnChk
    by_cases h1 : Pt (l.getD i z49).f0 (l.getD i z49).f1
    · rw [if_pos h1]
      by_cases h0 : 0 < i
      · have e1 : wrap64 ((i : Int) - 1) = ((i - 1 : Nat) : Int) := by rw [Gen.w64 (by omega) (by omega)]; omega
        rw [if_pos (by omega), e1, if_pos (by omega), if_pos (by omega), rdP, Gen.w64s (by omega)]
        by_cases h2 : (l.getD (i - 1) z49).f0 = (l.getD i z49).f0 ∧ (l.getD (i - 1) z49).f1 = (l.getD i z49).f1
        · rw [if_pos (by simpa using h2), if_neg (by simp only [decide_eq_true_eq]; exact fun h => h.2 ⟨h0, h2⟩)]
        · rw [if_neg (by simpa using h2), if_pos (by simp only [decide_eq_true_eq]; exact ⟨h1, fun h => h2 h.2⟩)]
      · rw [if_neg (by omega), if_pos (by simp only [decide_eq_true_eq]; exact ⟨h1, fun h => h0 h.1⟩), Gen.w64s (by omega)]
    · rw [if_neg h1, if_neg (by simp only [decide_eq_true_eq]; exact fun h => h1 h.1)]) (fun k _ => by
    simp only [spec_IsLine.l0]
    rw [if_neg (by omega), specIn]
    simp only [Option.bind_some, Option.some.injEq, decide_eq_decide]
    omega) (by omega)]
  congr 1
  rw [Bool.eq_iff_iff, Bool.and_eq_true, decide_eq_true_eq, decide_eq_true_eq, decide_eq_true_eq]
  unfold Ln lnChk
  simp only [decide_eq_true_eq]
  constructor
  · rintro ⟨h1, h2, h3⟩; exact ⟨h2, h3, h1⟩
  · rintro ⟨h1, h2, h3⟩; exact ⟨h3, h1, h2⟩
theorem implIsLine (l : List S49) (hl : l.length ≤ 1048576) {k : Nat} (hk : l.length + 1 < k) : impl_IsLine.f k l = some (decide (Ln l)) := by
  obtain ⟨k, rfl⟩ : ∃ m, k = m + 1 := ⟨k - 1, by omega⟩
  unfold impl_IsLine.f
  simp only [impl_IsLine.j0]
  by_cases h2 : l.length < 2
  · rw [if_pos (by omega), if_pos trivial]
    congr 1
    rw [eq_comm, decide_eq_false_iff_not]
    intro h; have := h.1; omega
  · rw [if_neg (by omega)]
    by_cases h10 : l.length > 10
    · rw [if_pos (by rw [decide_eq_true_eq]; omega)]
      congr 1
      rw [eq_comm, decide_eq_false_iff_not]
      intro h; have := h.2.1; omega
    · rw [if_neg (by rw [decide_eq_true_eq]; omega)]
      rw [Gen.scan_all l.length 0 (lnChk l) true (fun k i => impl_IsLine.l0 k l l l.length i) (fun k i _ hi => by
        simp only [impl_IsLine.l0]
        rw [if_pos (by omega), if_pos (by omega), if_pos (by omega), implIsPoint, rdP]
        simp only [Option.bind_some, decide_eq_true_eq]
        unfold lnChk
        by_cases h1 : Pt (l.getD i z49).f0 (l.getD i z49).f1
        · rw [if_pos h1]
          by_cases h0 : 0 < i
          · have e1 : wrap64 ((i : Int) - 1) = ((i - 1 : Nat) : Int) := by rw [Gen.w64 (by omega) (by omega)]; omega
            rw [if_pos (by omega), e1, if_pos (by omega), if_pos (by omega), rdP, Gen.w64s (by omega)]
            by_cases h2 : (l.getD (i - 1) z49).f0 = (l.getD i z49).f0 ∧ (l.getD (i - 1) z49).f1 = (l.getD i z49).f1
            · rw [if_pos (by rw [h2.1, h2.2]; simp), if_neg (by simp only [decide_eq_true_eq]; exact fun h => h.2 ⟨h0, h2⟩)]
            · rw [if_neg (by simp only [Bool.and_eq_true, beq_iff_eq]; exact fun h => h2 ⟨h.1.symm, h.2.symm⟩), if_pos (by simp only [decide_eq_true_eq]; exact ⟨h1, fun h => h2 h.2⟩)]
          · rw [if_neg (by omega), if_pos (by simp only [decide_eq_true_eq]; exact ⟨h1, fun h => h0 h.1⟩), Gen.w64s (by omega)]
        · rw [if_neg h1, if_neg (by simp only [decide_eq_true_eq]; exact fun h => h1 h.1)]) (fun k _ => by
        simp only [impl_IsLine.l0]
        rw [if_neg (by omega)]) (by omega)]
      congr 1
      rw [Bool.eq_iff_iff, Bool.and_eq_true, decide_eq_true_eq, decide_eq_true_eq]
      unfold Ln lnChk
      simp only [decide_eq_true_eq, and_true]
      constructor
      · intro h; exact ⟨by omega, by omega, h⟩
      · intro h; exact h.2.2
theorem tSpecIsLine (l : List S49) (hl : l.length ≤ 1048576) : Told (fun k => spec_IsLine.f k l) (decide (Ln l)) := ⟨l.length + 1, fun k hk => specIsLine l hl (by omega)⟩
theorem tImplIsLine (l : List S49) (hl : l.length ≤ 1048576) : Told (fun k => impl_IsLine.f k l) (decide (Ln l)) := ⟨l.length + 2, fun k hk => implIsLine l hl (by omega)⟩
def segAt (l : List S49) (i : Nat) : S111 := ⟨l.getD (i - 1) z49, l.getD i z49⟩
def segs (l : List S49) : List S111 := (List.range' 1 (l.length - 1)).map (segAt l)
theorem foldl_push {α β : Type} (g : α → β) (x : List α) : ∀ s : List β, x.foldl (fun s i => s ++ [g i]) s = s ++ x.map g := by
  induction x with
  | nil => intro s; simp
  | cons a x ih => intro s; rw [List.foldl_cons, ih]; simp
theorem tSpecSegmentsOf (l : List S49) (h : Ln l) : Told (fun k => spec_SegmentsOf.f k l) (segs l) := by
  have hn := h.1; have hm := h.2.1
  refine Told.eq (M := fun k => spec_SegmentsOf.l0 k l [] ((1 : Nat) : Int)) (fun k => rfl) ?_
  refine Told.up (n := l.length) (fun s i => s ++ [segAt l i]) (fun k s i => spec_SegmentsOf.l0 k l s i) (fun s i => s.length + 1 = i) (fun s i hi hv => ⟨by simp; omega, fun hh => ?_⟩) (l.length - 1) [] 1 (by omega) rfl ?_
  · refine Told.step (M := fun k => (spec_IsLine.f k l).bind fun t => if t = true then spec_SegmentsOf.l0 k l (s ++ [segAt l i]) ((i + 1 : Nat) : Int) else some s) (fun k => ?_) (Told.bind (tSpecIsLine l (by omega)) (Told.eq (fun _ => if_pos (by simpa using h)) hh))
    simp only [spec_SegmentsOf.l0]
    have e1 : wrap64 ((i : Int) - 1) = ((i - 1 : Nat) : Int) := by rw [Gen.w64 (by omega) (by omega)]; omega
    rw [if_pos (by omega), e1, Gen.w64s (by omega), if_pos (by omega), if_pos (by omega), if_pos (by omega), if_pos (by omega), rdP, rdP]
    rfl
  · refine Told.stepr fun k => ?_
    simp only [spec_SegmentsOf.l0]
    rw [if_neg (by omega), foldl_push]
    rfl
theorem tImplSegmentsOf (l : List S49) (h : Ln l) : Told (fun k => impl_SegmentsOf.f k l) (segs l) := by
  have hn := h.1; have hm := h.2.1
  refine Told.eq (M := fun k => (impl_IsLine.f k l).bind fun t => if t = true then impl_SegmentsOf.l0 k l [] ((1 : Nat) : Int) else some []) (fun k => rfl) (Told.bind (tImplIsLine l (by omega)) (Told.eq (fun _ => if_pos (by simpa using h)) ?_))
  refine Told.up (n := l.length) (fun s i => s ++ [segAt l i]) (fun k s i => impl_SegmentsOf.l0 k l s i) (fun s i => s.length + 1 = i) (fun s i hi hv => ⟨by simp; omega, fun hh => ?_⟩) (l.length - 1) [] 1 (by omega) rfl ?_
  · refine Told.step (M := fun k => impl_SegmentsOf.l0 k l (s ++ [segAt l i]) ((i + 1 : Nat) : Int)) (fun k => ?_) hh
    simp only [impl_SegmentsOf.l0]
    have e1 : wrap64 ((i : Int) - 1) = ((i - 1 : Nat) : Int) := by rw [Gen.w64 (by omega) (by omega)]; omega
    rw [if_pos (by omega), e1, Gen.w64s (by omega), if_pos (by omega), if_pos (by omega), if_pos (by omega), if_pos (by omega), rdP, rdP]
    rfl
  · refine Told.stepr fun k => ?_
    simp only [impl_SegmentsOf.l0]
    rw [if_neg (by omega), foldl_push]
    rfl
theorem rdSg (l : List S111) (i : Nat) : rd_T111 l (i : Int) = l.getD i z111 := rfl
theorem segs_len' (l : List S49) : (segs l).length = l.length - 1 := by simp [segs]
theorem segs_at (l : List S49) {i : Nat} (h : i + 1 < l.length) : (segs l).getD i z111 = segAt l (i + 1) := by
  unfold segs
  rw [List.getD_eq_getElem?_getD, List.getElem?_map, List.getElem?_range' (by omega)]
  simp [Nat.add_comm]
def segsV (l : List S49) : List S111 := if Ln l then segs l else []
theorem tSpecSegs (l : List S49) (hl : l.length ≤ 1048576) : Told (fun k => spec_SegmentsOf.f k l) (segsV l) := by
  by_cases h : Ln l
  · rw [segsV, if_pos h]; exact tSpecSegmentsOf l h
  · rw [segsV, if_neg h]
    by_cases h1 : 1 < l.length
    · refine Told.step (M := fun k => (spec_IsLine.f k l).bind fun t => if t = true then spec_SegmentsOf.l0 k l [segAt l 1] ((1 + 1 : Nat) : Int) else some []) (fun k => ?_) (Told.bind (tSpecIsLine l hl) (Told.ite_f (by simpa using h) (Told.ret _)))
      show spec_SegmentsOf.l0 (k + 1) l [] 1 = _
      simp only [spec_SegmentsOf.l0]
      have e1 : wrap64 ((1 : Int) - 1) = ((0 : Nat) : Int) := by rw [Gen.w64 (by omega) (by omega)]; omega
      have e2 : wrap64 ((1 : Int) + 1) = ((1 + 1 : Nat) : Int) := by rw [Gen.w64 (by omega) (by omega)]; omega
      rw [if_pos (by omega), e1, e2, if_pos (by omega), if_pos (by omega), if_pos (by omega), if_pos (by simp)]
      rfl
    · refine Told.stepr fun k => ?_
      show spec_SegmentsOf.l0 (k + 1) l [] 1 = _
      simp only [spec_SegmentsOf.l0]
      rw [if_neg (by omega)]
def howL (l : List S49) (i k : Nat) : Int := howV (segAt l (i + 1)).f0.f0 (segAt l (i + 1)).f0.f1 (segAt l (i + 1)).f1.f0 (segAt l (i + 1)).f1.f1 (segAt l (k + 1)).f0.f0 (segAt l (k + 1)).f0.f1 (segAt l (k + 1)).f1.f0 (segAt l (k + 1)).f1.f1
def chkSm (l : List S49) (i : Nat) : Bool := decide (∀ k, k < i → howL l i k = if k + 1 = i then 1 else 0)
theorem chkSm_iff (l : List S49) (i : Nat) : chkSm l i = true ↔ ∀ k, k < i → howL l i k = if k + 1 = i then 1 else 0 := by unfold chkSm; rw [decide_eq_true_eq]
def Sm (l : List S49) : Prop := Ln l ∧ ∀ i, i < l.length - 1 → chkSm l i = true
instance (l : List S49) : Decidable (Sm l) := by unfold Sm; infer_instance
theorem tSpecSimple (l : List S49) (hl : l.length ≤ 1048576) : Told (fun k => spec_IsSimple.f k l) (decide (Sm l)) := by
  refine Told.bind (tSpecSegs l hl) ?_
  by_cases h : Ln l
  · have h2 := h.1
    have h10 := h.2.1
    have hn := segs_len' l
    rw [segsV, if_pos h]
    refine Told.scan (n := l.length - 1) false (fun i => chkSm l i = true) (fun k i => spec_IsSimple.l0 k l (segs l) i) (fun i hi h1 h2 => ?_) (fun hh => ?_) (fun hh => decide_eq_false fun hs => hh hs.2)
    · refine Told.step (M := fun k => spec_IsSimple.l1 k l (segs l) (i : Int) 0) (fun k => by simp only [spec_IsSimple.l0]; rw [if_pos (by omega)]) ?_
      refine Told.scan (n := i) false (fun k => howL l i k = if k + 1 = i then 1 else 0) (fun k j => spec_IsSimple.l1 k l (segs l) (i : Int) j) (fun j hj g1 g2 => ?_) (fun hh => ?_) (fun hh => h2 fun hs => hh ((chkSm_iff l i).1 hs))
      · refine Told.step (M := fun k => (spec_HowMeet.f k (segAt l (i + 1)).f0.f0 (segAt l (i + 1)).f0.f1 (segAt l (i + 1)).f1.f0 (segAt l (i + 1)).f1.f1 (segAt l (j + 1)).f0.f0 (segAt l (j + 1)).f0.f1 (segAt l (j + 1)).f1.f0 (segAt l (j + 1)).f1.f1).bind fun t => if t = (if j + 1 = i then 1 else 0) then spec_IsSimple.l1 k l (segs l) (i : Int) ((j + 1 : Nat) : Int) else some false) (fun k => ?_) (Told.bind (tSpecHow _ _ _ _ _ _ _ _) ?_)
        · simp only [spec_IsSimple.l1]
          have q1 : (i : Int) < ((segs l).length : Int) := by omega
          have q2 : (j : Int) < ((segs l).length : Int) := by omega
          have q3 : (0 : Int) ≤ (i : Int) := by omega
          have q4 : (0 : Int) ≤ (j : Int) := by omega
          have q5 : (j : Int) < (i : Int) := by omega
          rw [if_pos q5, Gen.w64s (by omega)]
          by_cases c : j + 1 = i
          · have c' : ((j + 1 : Nat) : Int) = (i : Int) := by omega
            rw [if_pos c', if_pos q3, if_pos q1, if_pos q4, if_pos q2, rdSg, rdSg, segs_at l (by omega), segs_at l (by omega), if_pos c]
          · have c' : ¬ ((j + 1 : Nat) : Int) = (i : Int) := by omega
            rw [if_neg c', if_pos q3, if_pos q1, if_pos q4, if_pos q2, rdSg, rdSg, segs_at l (by omega), segs_at l (by omega), if_neg c]
        · by_cases c : howL l i j = if j + 1 = i then 1 else 0
          · exact Told.ite_t c (g1 c)
          · rw [g2 c]; exact Told.ite_f c (Told.ret _)
      · refine Told.step (fun k => ?_) (h1 ((chkSm_iff l i).2 hh))
        simp only [spec_IsSimple.l1]
        rw [if_neg (by omega), Gen.w64s (by omega)]
    · rw [decide_eq_true (show Sm l from ⟨h, hh⟩)]
      refine Told.step (fun k => by simp only [spec_IsSimple.l0]; rw [if_neg (by omega)]) ?_
      refine Told.bind (tSpecIsLine l hl) ?_
      rw [decide_eq_true h]; exact Told.ret _
  · rw [segsV, if_neg h, decide_eq_false (fun hh : Sm l => h hh.1)]
    refine Told.step (fun k => by simp only [spec_IsSimple.l0]; rw [if_neg (by simp)]) ?_
    refine Told.bind (tSpecIsLine l hl) ?_
    rw [decide_eq_false h]; exact Told.ret _
theorem tImplSimple (l : List S49) (hl : l.length ≤ 1048576) : Told (fun k => impl_IsSimple.f k l) (decide (Sm l)) := by
  refine Told.bind (tImplIsLine l hl) ?_
  by_cases h : Ln l
  · have h2 := h.1
    have h10 := h.2.1
    have hn := segs_len' l
    refine Told.ite_t (by simpa using h) (Told.bind (tImplSegmentsOf l h) ?_)
    rw [hn]
    refine Told.scan (n := l.length - 1) false (fun i => chkSm l i = true) (fun k i => impl_IsSimple.l0 k (segs l) ((l.length - 1 : Nat) : Int) i) (fun i hi h1 h2 => ?_) (fun hh => ?_) (fun hh => decide_eq_false fun hs => hh hs.2)
    · refine Told.step (M := fun k => impl_IsSimple.l1 k (segs l) (i : Int) ((l.length - 1 : Nat) : Int) (i : Int) (i : Int) 0) (fun k => by simp only [impl_IsSimple.l0]; rw [if_pos (by omega)]) ?_
      refine Told.scan (n := i) false (fun k => howL l i k = if k + 1 = i then 1 else 0) (fun k j => impl_IsSimple.l1 k (segs l) (i : Int) ((l.length - 1 : Nat) : Int) (i : Int) (i : Int) j) (fun j hj g1 g2 => ?_) (fun hh => ?_) (fun hh => h2 fun hs => hh ((chkSm_iff l i).1 hs))
      · refine Told.step (M := fun k => (impl_HowMeet.f k (segAt l (i + 1)).f0.f0 (segAt l (i + 1)).f0.f1 (segAt l (i + 1)).f1.f0 (segAt l (i + 1)).f1.f1 (segAt l (j + 1)).f0.f0 (segAt l (j + 1)).f0.f1 (segAt l (j + 1)).f1.f0 (segAt l (j + 1)).f1.f1).bind fun t => if t = (if j + 1 = i then 1 else 0) then impl_IsSimple.l1 k (segs l) (i : Int) ((l.length - 1 : Nat) : Int) (i : Int) (i : Int) ((j + 1 : Nat) : Int) else some false) (fun k => ?_) (Told.bind (tImplHow _ _ _ _ _ _ _ _) ?_)
        · simp only [impl_IsSimple.l1]
          have q1 : (i : Int) < ((segs l).length : Int) := by omega
          have q2 : (j : Int) < ((segs l).length : Int) := by omega
          have q3 : (0 : Int) ≤ (i : Int) := by omega
          have q4 : (0 : Int) ≤ (j : Int) := by omega
          have q5 : (j : Int) < (i : Int) := by omega
          rw [if_pos q5, Gen.w64 (n := (i : Int) - 1) (by omega) (by omega), Gen.w64s (by omega)]
          by_cases c : j + 1 = i
          · have c' : (j : Int) = (i : Int) - 1 := by omega
            rw [if_pos c', if_pos q3, if_pos q1, if_pos q4, if_pos q2, rdSg, rdSg, segs_at l (by omega), segs_at l (by omega), if_pos c]
          · have c' : ¬ (j : Int) = (i : Int) - 1 := by omega
            rw [if_neg c', if_pos q3, if_pos q1, if_pos q4, if_pos q2, rdSg, rdSg, segs_at l (by omega), segs_at l (by omega), if_neg c]
        · by_cases c : howL l i j = if j + 1 = i then 1 else 0
          · exact Told.ite_t c (g1 c)
          · rw [g2 c]; exact Told.ite_f c (Told.ret _)
      · refine Told.step (fun k => ?_) (h1 ((chkSm_iff l i).2 hh))
        simp only [impl_IsSimple.l1]
        rw [if_neg (by omega), Gen.w64s (by omega)]
    · rw [decide_eq_true (show Sm l from ⟨h, hh⟩)]
      exact Told.stepr fun k => by simp only [impl_IsSimple.l0]; rw [if_neg (by omega)]
  · rw [decide_eq_false (fun hh : Sm l => h hh.1)]
    exact Told.ite_f (by simpa using h) (Told.ret _)
theorem tImplSegs (l : List S49) (hl : l.length ≤ 1048576) : Told (fun k => impl_SegmentsOf.f k l) (segsV l) := by
  by_cases h : Ln l
  · rw [segsV, if_pos h]; exact tImplSegmentsOf l h
  · rw [segsV, if_neg h]
    exact Told.eq (M := fun k => (impl_IsLine.f k l).bind fun t => if t = true then impl_SegmentsOf.l0 k l [] 1 else some []) (fun k => rfl) (Told.bind (tImplIsLine l hl) (Told.ite_f (by simpa using h) (Told.ret _)))
def howSg (a b : S111) : Int := howV a.f0.f0 a.f0.f1 a.f1.f0 a.f1.f1 b.f0.f0 b.f0.f1 b.f1.f0 b.f1.f1
def rowV (S T : List S111) (i : Nat) (n : Int) : Int := (List.range' 0 T.length).foldl (fun n j => max n (howSg (S.getD i z111) (T.getD j z111))) n
def greatV (S T : List S111) : Int := (List.range' 0 S.length).foldl (fun n i => rowV S T i n) 0
theorem tImplGreat (S T : List S111) (hS : S.length ≤ 10) (hT : T.length ≤ 10) : Told (fun k => impl_greatest.f k S T) (greatV S T) := by
  refine Told.up (n := S.length) (fun n i => rowV S T i n) (fun k n i => impl_greatest.l0 k T n S (S.length : Int) i) (fun _ _ => True) (fun n i hi _ => ⟨trivial, fun hh => ?_⟩) S.length 0 0 (by omega) trivial (Told.stepr fun k => by simp only [impl_greatest.l0]; rw [if_neg (by omega)]; rfl)
  refine Told.step (M := fun k => impl_greatest.l1 k T n S (S.length : Int) (i : Int) T (T.length : Int) 0 (S.getD i z111).f0.f0 (S.getD i z111).f0.f1 (S.getD i z111).f1.f0 (S.getD i z111).f1.f1) (fun k => by simp only [impl_greatest.l0]; rw [if_pos (by omega), if_pos (by omega), if_pos (by omega), rdSg]) ?_
  refine Told.up (n := T.length) (fun n j => max n (howSg (S.getD i z111) (T.getD j z111))) (fun k n j => impl_greatest.l1 k T n S (S.length : Int) (i : Int) T (T.length : Int) j (S.getD i z111).f0.f0 (S.getD i z111).f0.f1 (S.getD i z111).f1.f0 (S.getD i z111).f1.f1) (fun _ _ => True) (fun n j hj _ => ⟨trivial, fun h2 => ?_⟩) T.length n 0 (by omega) trivial ?_
  · refine Told.step (fun k => by simp only [impl_greatest.l1, Gen.mx_eq]; rw [if_pos (by omega), if_pos (by omega), if_pos (by omega), rdSg, Gen.w64s (by omega)]) ?_
    exact Told.bind (tImplHow _ _ _ _ _ _ _ _) h2
  · refine Told.step (fun k => by simp only [impl_greatest.l1]; rw [if_neg (by omega), Gen.w64s (by omega)]) ?_
    exact hh
theorem segsV_len (l : List S49) : (segsV l).length ≤ 10 := by
  unfold segsV
  split
  · rename_i h; have := h.2.1; rw [segs_len']; omega
  · simp
def lmV (l m : List S49) : Int := greatV (segsV l) (segsV m)
theorem tSpecGreatL (S T : List S111) (hS : S.length ≤ 10) (hT : T.length ≤ 10) : Told (fun k => spec_LinesMeet.l0 k 0 S T 0) (greatV S T) := by
  refine Told.up (n := S.length) (fun n i => rowV S T i n) (fun k n i => spec_LinesMeet.l0 k n S T i) (fun _ _ => True) (fun n i hi _ => ⟨trivial, fun hh => ?_⟩) S.length 0 0 (by omega) trivial (Told.stepr fun k => by simp only [spec_LinesMeet.l0]; rw [if_neg (by omega)]; rfl)
  refine Told.step (M := fun k => spec_LinesMeet.l1 k n S T (i : Int) 0) (fun k => by simp only [spec_LinesMeet.l0]; rw [if_pos (by omega)]) ?_
  refine Told.up (n := T.length) (fun n j => max n (howSg (S.getD i z111) (T.getD j z111))) (fun k n j => spec_LinesMeet.l1 k n S T (i : Int) j) (fun _ _ => True) (fun n j hj _ => ⟨trivial, fun h2 => ?_⟩) T.length n 0 (by omega) trivial ?_
  · refine Told.step (fun k => by simp only [spec_LinesMeet.l1]; rw [if_pos (by omega), if_pos (by omega), if_pos (by omega), if_pos (by omega), rdSg, rdSg, Gen.w64s (by omega)]) ?_
    exact Told.bind (tSpecHow _ _ _ _ _ _ _ _) (Told.bind (Told.of (specMax' _ _)) h2)
  · refine Told.step (fun k => by simp only [spec_LinesMeet.l1]; rw [if_neg (by omega), Gen.w64s (by omega)]) ?_
    exact hh
theorem tSpecLM (l m : List S49) (hl : l.length ≤ 1048576) (hm : m.length ≤ 1048576) : Told (fun k => spec_LinesMeet.f k l m) (lmV l m) :=
  Told.bind (tSpecSegs l hl) (Told.bind (tSpecSegs m hm) (tSpecGreatL _ _ (segsV_len _) (segsV_len _)))
theorem tImplLM (l m : List S49) (hl : l.length ≤ 1048576) (hm : m.length ≤ 1048576) : Told (fun k => impl_LinesMeet.f k l m) (lmV l m) :=
  Told.bind (tImplSegs l hl) (Told.bind (tImplSegs m hm) (Told.bind (tImplGreat _ _ (segsV_len _) (segsV_len _)) (Told.ret _)))
def SmallSS {α : Type} (ls : List (List α)) : Prop := ls.length ≤ 1048576 ∧ ∀ i, i < ls.length → (ls.getD i []).length ≤ 1048576
theorem rdPs (ls : List (List S98)) (i : Nat) : rd_L2 ls (i : Int) = ls.getD i [] := rfl
theorem rdPi (ls : List (List S49)) (i : Nat) : rd_L4 ls (i : Int) = ls.getD i [] := rfl
theorem tSzSS0 (ls : List (List S98)) (hn : ls.length ≤ 1048576) (h : ∀ i, i < ls.length → (ls.getD i []).length ≤ maxLen) : ∀ d (i : Nat) (a : Int), i + d = ls.length → 0 ≤ a → a ≤ 1048576 → (∀ j, j < i → (ls.getD j []).length ≤ 1048576) →
    ∃ r, Told (fun k => laws_szPointSS.l0 k ls a i) r ∧ (0 ≤ r → r ≤ 1048576 ∧ SmallSS ls) := by
  intro d
  induction d with
  | zero =>
    intro i a hi h0 h1 hj
    refine ⟨a, Told.stepr fun k => by simp only [laws_szPointSS.l0]; rw [if_neg (by omega)], fun _ => ⟨h1, hn, fun j hj' => hj j (by omega)⟩⟩
  | succ d ih =>
    intro i a hi h0 h1 hj
    have e := szPointS_some (ls.getD i []) a (h i (by omega)) h0 h1
    by_cases c : a < ((ls.getD i []).length : Int)
    · rw [if_pos c] at e
      refine ⟨-1, Told.step (fun k => by simp only [laws_szPointSS.l0]; rw [if_pos (by omega), if_pos (by omega), rdPs, e]; simp only [Option.bind_some]; rw [if_pos (by decide)]) (Told.ret _), fun h => by omega⟩
    · rw [if_neg c] at e
      obtain ⟨r, h2, h3⟩ := ih (i + 1) (a - (ls.getD i []).length) (by omega) (by omega) (by omega) (fun j hj' => by
        by_cases q : j = i
        · subst q; omega
        · exact hj j (by omega))
      refine ⟨r, Told.step (fun k => ?_) h2, h3⟩
      simp only [laws_szPointSS.l0]
      rw [if_pos (by omega), if_pos (by omega), rdPs, e]
      simp only [Option.bind_some]
      rw [if_neg (by omega), Gen.w64s (by omega)]
theorem tSzSS (ls : List (List S98)) (a : Int) (hn : ls.length ≤ maxLen) (h : ∀ i, i < ls.length → (ls.getD i []).length ≤ maxLen) (h0 : 0 ≤ a) (h1 : a ≤ 1048576) :
    ∃ r, Told (fun k => laws_szPointSS.f k ls a) r ∧ (0 ≤ r → r ≤ 1048576 ∧ SmallSS ls) := by
  unfold maxLen at hn
  have e : wrap64 (a - (ls.length : Int)) = a - (ls.length : Int) := by unfold wrap64; omega
  by_cases c : a - (ls.length : Int) < 0
  · exact ⟨-1, Told.ite_t (by rw [e]; exact c) (Told.ret _), fun h => by omega⟩
  · obtain ⟨r, h2, h3⟩ := tSzSS0 ls (by omega) h ls.length 0 (a - ls.length) (by omega) (by omega) (by omega) (fun j hj => by omega)
    refine ⟨r, Told.ite_f (by rw [e]; exact c) ?_, h3⟩
    rw [e]; exact h2
theorem ss_getD {α : Type} (o : List (List α)) (i j : Nat) (p : List α) (hi : i < o.length) : (o.set i p).getD j [] = if i = j then p else o.getD j [] := by
  simp only [List.getD_eq_getElem?_getD, List.getElem?_set]
  by_cases h : i = j
  · subst h; simp [hi]
  · simp [h]
theorem tToSS0 (ls : List (List S98)) (h : SmallSS ls) : ∀ d (i : Nat) (o : List (List S49)), i + d = ls.length → o.length = ls.length → (∀ j, j < i → o.getD j [] = (ls.getD j []).map cP) →
    Told (fun k => laws_toPointSS.l0 k ls o i) (ls.map (List.map cP)) := by
  intro d
  have hn := h.1
  induction d with
  | zero =>
    intro i o hi ho hj
    have : o = ls.map (List.map cP) := by
      apply List.ext_getElem (by simpa using ho)
      intro j j1 j2
      have := hj j (by omega)
      rw [List.getD_eq_getElem?_getD, List.getD_eq_getElem?_getD, List.getElem?_eq_getElem j1, List.getElem?_eq_getElem (by omega)] at this
      simpa using this
    rw [← this]
    exact Told.stepr fun k => by simp only [laws_toPointSS.l0]; rw [if_neg (by omega)]
  | succ d ih =>
    intro i o hi ho hj
    refine Told.step (M := fun k => (laws_toPointS.f k (ls.getD i [])).bind fun t => if (i : Int) < (o.length : Int) then laws_toPointSS.l0 k ls (o.set i t) ((i + 1 : Nat) : Int) else none) (fun k => ?_) (Told.bind (tToPointS _ (h.2 i (by omega))) (Told.ite_t (by omega) (ih (i + 1) _ (by omega) (by rw [List.length_set]; exact ho) (fun j hj' => ?_))))
    · simp only [laws_toPointSS.l0]
      rw [if_pos (by omega), if_pos (by omega), rdPs, Gen.w64s (by omega), Int.toNat_natCast]
    · rw [ss_getD o i j _ (by omega)]
      by_cases e : i = j
      · subst e; rw [if_pos rfl]
      · rw [if_neg e]; exact hj j (by omega)
theorem tToSS (ls : List (List S98)) (h : SmallSS ls) : Told (fun k => laws_toPointSS.f k ls) (ls.map (List.map cP)) := by
  have hn := h.1
  refine Told.ite_t (by omega) (Told.ite_t (by omega) (tToSS0 ls h ls.length 0 _ (by omega) (by simp) (fun j hj => by omega)))
theorem smallSS_map (ls : List (List S98)) (h : SmallSS ls) : SmallSS (ls.map (List.map cP)) := by
  refine ⟨by simpa using h.1, fun i hi => ?_⟩
  rw [List.length_map] at hi
  have := h.2 i hi
  rw [List.getD_eq_getElem?_getD, List.getElem?_eq_getElem hi] at this
  rw [List.getD_eq_getElem?_getD, List.getElem?_map, List.getElem?_eq_getElem hi]
  simpa using this
theorem tEqSS (ls : List (List S49)) (h : SmallSS ls) : Told (fun k => laws_eqPointSS.f k ls ls) true := by
  have hn := h.1
  refine Told.ite_t rfl ?_
  refine Told.scan (n := ls.length) true (fun _ => True) (fun k i => laws_eqPointSS.l0 k ls ls i) (fun i hi h1 _ => ?_) (fun _ => Told.stepr fun k => by simp only [laws_eqPointSS.l0]; rw [if_neg (by omega)]) (fun _ => rfl)
  refine Told.step (fun k => by simp only [laws_eqPointSS.l0]; rw [if_pos (by omega), if_pos (by omega), if_pos (by omega), rdPi, Gen.w64s (by omega)]) ?_
  exact Told.bind (tEqPointS _ (h.2 i hi)) (Told.ite_t rfl (h1 trivial))
theorem ss_of {ls : List (List S98)} (h : ls.length ≤ maxLen ∧ ∀ y ∈ ls, (y.length ≤ maxLen ∧ ∀ z ∈ y, G98 z)) : ∀ i, i < ls.length → (ls.getD i []).length ≤ maxLen := fun i hi => (h.2 _ (by rw [List.getD_eq_getElem?_getD, List.getElem?_eq_getElem hi]; exact List.getElem_mem hi)).1
theorem tSpecLine (l : List S49) (hl : l.length ≤ 1048576) : Told (fun k => spec_IsLine.f k l) (decide (Ln l)) := ⟨l.length + 1, fun k hk => specIsLine l hl (by omega)⟩
theorem tImplLine (l : List S49) (hl : l.length ≤ 1048576) : Told (fun k => impl_IsLine.f k l) (decide (Ln l)) := ⟨l.length + 2, fun k hk => implIsLine l hl (by omega)⟩
def wo (l : List S49) (i : Int) : List S49 := l.take i.toNat ++ l.drop (i.toNat + 1)
theorem wo_len (l : List S49) (i : Int) : (wo l i).length ≤ l.length := by unfold wo; simp; omega
def dropV (l : List S49) (i : Int) : List S49 × Bool := if Ln l ∧ 1 ≤ i ∧ i ≤ l.length - 2 then (if Ln (wo l i) then (wo l i, true) else (l, false)) else (l, false)
theorem drop_len (l : List S49) (i : Int) : (dropV l i).1.length ≤ l.length := by
  unfold dropV; split
  · split
    · exact wo_len l i
    · exact Nat.le_refl _
  · exact Nat.le_refl _
theorem tSpecDrop (l : List S49) (i : Int) (hl : l.length ≤ 1048576) : Told (fun k => spec_DropPoint.f k l i) (dropV l i) := by
  have no : ¬ (Ln l ∧ 1 ≤ i ∧ i ≤ l.length - 2) → Told (fun k => spec_DropPoint.j0 k l i true) (dropV l i) := fun h => by
    unfold dropV; rw [if_neg h]
    refine Told.step (fun k => by simp only [spec_DropPoint.j0]; rw [if_pos trivial]) ?_
    exact Told.bind (Told.ret _) (Told.ite_t (by simp; omega) (Told.ret _))
  refine Told.bind (tSpecLine l hl) ?_
  by_cases h1 : Ln l
  · refine Told.ite_t (by simpa using h1) (Told.bind (Told.of (specIn _ _ _)) ?_)
    rw [Gen.w64 (by omega) (by omega)]
    by_cases h2 : 1 ≤ i ∧ i ≤ l.length - 2
    · have e1 : (wrap64 (i + 1)).toNat = i.toNat + 1 := by unfold wrap64; omega
      have e2 : wrap64 (i + 1) = i + 1 := by unfold wrap64; omega
      have e3 : (i + 1).toNat = i.toNat + 1 := by omega
      have ev : dropV l i = if Ln (wo l i) then (wo l i, true) else (l, false) := by unfold dropV; exact if_pos ⟨h1, h2⟩
      rw [ev]
      refine Told.step (fun k => by simp only [spec_DropPoint.j0]; rw [if_neg (by simp [h2]), e2, e3]) ?_
      refine Told.bind (Told.ret _) (Told.ite_t (by omega) (Told.ite_t (by omega) (Told.bind (Told.ret _) (Told.ite_t (by simp; omega) (Told.bind (Told.ret _) (Told.ite_t (by omega) (Told.ite_t (by omega) (Told.bind (Told.ret _) (Told.ite_t (by simp; omega) (Told.bind (Told.ret _) ?_))))))))))
      refine Told.bind (tSpecLine (wo l i) (Nat.le_trans (wo_len l i) hl)) ?_
      by_cases h3 : Ln (wo l i)
      · rw [if_pos h3]; exact Told.ite_t (by simpa using h3) (Told.ret _)
      · rw [if_neg h3]; exact Told.ite_f (by simpa using h3) (Told.bind (Told.ret _) (Told.ite_t (by simp; omega) (Told.ret _)))
    · rw [decide_eq_false h2]; exact no (fun h => h2 h.2)
  · exact Told.ite_f (by simpa using h1) (no (fun h => h1 h.1))
theorem implWo (l : List S49) (i : Int) (h0 : 0 ≤ i) (h1 : i < l.length) (hl : l.length ≤ 1048576) : impl_without.f l i = some (wo l i) := by
  unfold impl_without.f wo; rw [if_pos h0, if_pos h1, if_pos (by omega)]
theorem implClone (l : List S49) (hl : l.length ≤ 1048576) : impl_Point_86.f l = some l := by
  unfold impl_Point_86.f
  simp only [Option.bind_some, List.nil_append]
  rw [if_pos (by simp; omega)]
theorem tImplDrop (l : List S49) (i : Int) (hl : l.length ≤ 1048576) : Told (fun k => impl_DropPoint.f k l i) (dropV l i) := by
  have no : ¬ (Ln l ∧ 1 ≤ i ∧ i ≤ l.length - 2) → Told (fun k => impl_DropPoint.j0 k l i true) (dropV l i) := fun h => by
    unfold dropV; rw [if_neg h]
    refine Told.step (fun k => by simp only [impl_DropPoint.j0]; rw [if_pos trivial]) ?_
    exact Told.bind (Told.of (implClone l hl)) (Told.ret _)
  refine Told.bind (tImplLine l hl) ?_
  by_cases h1 : Ln l
  · refine Told.ite_t (by simpa using h1) (Told.bind (Told.of (implInRange _ _ _)) ?_)
    rw [Gen.w64 (by omega) (by omega)]
    by_cases h2 : 1 ≤ i ∧ i ≤ l.length - 2
    · have ev : dropV l i = if Ln (wo l i) then (wo l i, true) else (l, false) := by unfold dropV; exact if_pos ⟨h1, h2⟩
      rw [ev]
      refine Told.step (fun k => by simp only [impl_DropPoint.j0]; rw [if_neg (by simp [h2])]) ?_
      refine Told.bind (Told.of (implWo l i (by omega) (by omega) hl)) (Told.bind (tImplLine (wo l i) (Nat.le_trans (wo_len l i) hl)) ?_)
      by_cases h3 : Ln (wo l i)
      · rw [if_pos h3]; exact Told.ite_t (by simpa using h3) (Told.ret _)
      · rw [if_neg h3]; exact Told.ite_f (by simpa using h3) (Told.bind (Told.of (implClone l hl)) (Told.ret _))
    · rw [decide_eq_false h2]; exact no (fun h => h2 h.2)
  · exact Told.ite_f (by simpa using h1) (no (fun h => h1 h.1))
def canChk (l d : List S49) (os : List (List S49)) (k : Nat) : Prop := ¬ (lmV d (os.getD k []) > lmV l (os.getD k []))
instance (l d : List S49) (os : List (List S49)) (k : Nat) : Decidable (canChk l d os k) := by unfold canChk; infer_instance
def canV (l : List S49) (i : Int) (os : List (List S49)) : Bool := decide ((dropV l i).2 = true ∧ Sm (dropV l i).1 ∧ ∀ k, k < os.length → canChk l (dropV l i).1 os k)
theorem tSpecCan (l : List S49) (i : Int) (os : List (List S49)) (hl : l.length ≤ 1048576) (ho : SmallSS os) : Told (fun k => spec_CanDrop.f k l i os) (canV l i os) := by
  have hd := Nat.le_trans (drop_len l i) hl
  have hn := ho.1
  have no : ¬ ((dropV l i).2 = true ∧ Sm (dropV l i).1) → Told (fun k => spec_CanDrop.j0 k l os (dropV l i).1 true) (canV l i os) := fun h => by
    rw [canV, decide_eq_false (fun q => h ⟨q.1, q.2.1⟩)]
    exact Told.stepr fun k => by simp only [spec_CanDrop.j0]; rw [if_pos trivial]
  refine Told.bind (tSpecDrop l i hl) ?_
  by_cases h1 : (dropV l i).2 = true
  · refine Told.ite_t h1 (Told.bind (tSpecSimple _ hd) ?_)
    by_cases h2 : Sm (dropV l i).1
    · rw [decide_eq_true h2]
      refine Told.step (M := fun k => spec_CanDrop.l0 k l os (dropV l i).1 0) (fun k => by simp only [spec_CanDrop.j0]; rw [if_neg (by simp)]) ?_
      refine Told.scan (n := os.length) false (fun k => canChk l (dropV l i).1 os k) (fun k j => spec_CanDrop.l0 k l os (dropV l i).1 j) (fun j hj c1 c2 => ?_) (fun hh => Told.stepr fun k => ?_) (fun hh => decide_eq_false fun q => hh q.2.2)
      · refine Told.step (fun k => by simp only [spec_CanDrop.l0]; rw [if_pos (by omega), if_pos (by omega), rdPi, Gen.w64s (by omega)]) (Told.bind (tSpecLM _ _ hd (ho.2 j hj)) (Told.bind (tSpecLM _ _ hl (ho.2 j hj)) ?_))
        by_cases c : lmV (dropV l i).1 (os.getD j []) > lmV l (os.getD j [])
        · rw [c2 (fun h => h c)]; exact Told.ite_t c (Told.ret _)
        · exact Told.ite_f c (c1 c)
      · simp only [spec_CanDrop.l0]
        rw [if_neg (by omega), canV, decide_eq_true ⟨h1, h2, hh⟩]
    · rw [decide_eq_false h2]; exact no (fun h => h2 h.2)
  · exact Told.ite_f h1 (no (fun h => h1 h.1))
theorem tImplCan (l : List S49) (i : Int) (os : List (List S49)) (hl : l.length ≤ 1048576) (ho : SmallSS os) : Told (fun k => impl_CanDrop.f k l i os) (canV l i os) := by
  have hd := Nat.le_trans (drop_len l i) hl
  have hn := ho.1
  have no : ¬ ((dropV l i).2 = true ∧ Sm (dropV l i).1) → Told (fun k => impl_CanDrop.j0 k l os (dropV l i).1 true) (canV l i os) := fun h => by
    rw [canV, decide_eq_false (fun q => h ⟨q.1, q.2.1⟩)]
    exact Told.stepr fun k => by simp only [impl_CanDrop.j0]; rw [if_pos trivial]
  refine Told.bind (tImplDrop l i hl) ?_
  by_cases h1 : (dropV l i).2 = true
  · refine Told.ite_t h1 (Told.bind (tImplSimple _ hd) ?_)
    by_cases h2 : Sm (dropV l i).1
    · rw [decide_eq_true h2]
      refine Told.step (M := fun k => impl_CanDrop.l0 k l (dropV l i).1 os (os.length : Int) 0) (fun k => by simp only [impl_CanDrop.j0]; rw [if_neg (by simp)]) ?_
      refine Told.scan (n := os.length) false (fun k => canChk l (dropV l i).1 os k) (fun k j => impl_CanDrop.l0 k l (dropV l i).1 os (os.length : Int) j) (fun j hj c1 c2 => ?_) (fun hh => Told.stepr fun k => ?_) (fun hh => decide_eq_false fun q => hh q.2.2)
      · refine Told.step (fun k => by simp only [impl_CanDrop.l0]; rw [if_pos (by omega), if_pos (by omega), if_pos (by omega), rdPi, Gen.w64s (by omega)]) (Told.bind (tImplLM _ _ hd (ho.2 j hj)) (Told.bind (tImplLM _ _ hl (ho.2 j hj)) ?_))
        by_cases c : lmV (dropV l i).1 (os.getD j []) > lmV l (os.getD j [])
        · rw [c2 (fun h => h c)]; exact Told.ite_t c (Told.ret _)
        · exact Told.ite_f c (c1 c)
      · simp only [impl_CanDrop.l0]
        rw [if_neg (by omega), canV, decide_eq_true ⟨h1, h2, hh⟩]
    · rw [decide_eq_false h2]; exact no (fun h => h2 h.2)
  · exact Told.ite_f h1 (no (fun h => h1 h.1))
theorem specMax (a b : Int) : spec_Max.f a b = some (max a b) := by unfold spec_Max.f; split <;> (congr 1; omega)
def crn (l : List S49) (i : Nat) : Int := crossZ (l.getD (i - 1) z49).f0 (l.getD (i - 1) z49).f1 (l.getD i z49).f0 (l.getD i z49).f1 (l.getD (i + 1) z49).f0 (l.getD (i + 1) z49).f1
def crnA (l : List S49) (i : Int) : Int := if Ln l ∧ 1 ≤ i ∧ i ≤ l.length - 2 then max (crn l i.toNat) (-(crn l i.toNat)) else -1
theorem specCorner (l : List S49) (i : Int) (hl : l.length ≤ 1048576) {k : Nat} (hk : l.length < k) : spec_CornerArea.f k l i = some (crnA l i) := by
  obtain ⟨k, rfl⟩ : ∃ m, k = m + 1 := ⟨k - 1, by omega⟩
  unfold spec_CornerArea.f crnA
  rw [specIsLine l hl hk, specIn]
  simp only [Option.bind_some, spec_CornerArea.j0, decide_eq_true_eq]
  rw [Gen.w64 (by omega) (by omega)]
  by_cases h1 : Ln l
  · rw [if_pos h1]
    by_cases h2 : 1 ≤ i ∧ i ≤ l.length - 2
    · obtain ⟨m, rfl⟩ := Int.eq_ofNat_of_zero_le (show 0 ≤ i by omega)
      have e1 : wrap64 ((m : Int) - 1) = ((m - 1 : Nat) : Int) := by rw [Gen.w64 (by omega) (by omega)]; omega
      rw [if_pos (c := Ln l ∧ 1 ≤ (m : Int) ∧ (m : Int) ≤ l.length - 2) ⟨h1, h2⟩, if_neg (by simp [h2]), e1, Gen.w64s (by omega), if_pos (by omega), if_pos (by omega), if_pos (by omega), if_pos (by omega), if_pos (by omega), if_pos (by omega), rdP, rdP, rdP]
      have p0 := (h1.2.2 (m - 1) (by omega)).1
      have p1 := (h1.2.2 m (by omega)).1
      have p2 := (h1.2.2 (m + 1) (by omega)).1
      rw [specCross p0 p1 p2]
      obtain ⟨_, b1, b2⟩ := crossZ_bd p0 p1 p2
      simp only [Option.bind_some]
      rw [Gen.w64 (by omega) (by omega), specMax]
      rfl
    · rw [if_pos (by simp; omega), if_neg (fun h => h2 h.2)]
  · rw [if_neg h1, if_pos trivial, if_neg (fun h => h1 h.1)]
theorem implCorner (l : List S49) (i : Int) (hl : l.length ≤ 1048576) {k : Nat} (hk : l.length + 1 < k) : impl_CornerArea.f k l i = some (crnA l i) := by
  unfold impl_CornerArea.f crnA
  rw [implIsLine l hl hk, implInRange]
  simp only [Option.bind_some, decide_eq_true_eq]
  rw [Gen.w64 (by omega) (by omega)]
  by_cases h1 : Ln l
  · rw [if_pos h1]
    by_cases h2 : 1 ≤ i ∧ i ≤ l.length - 2
    · obtain ⟨m, rfl⟩ := Int.eq_ofNat_of_zero_le (show 0 ≤ i by omega)
      have e1 : wrap64 ((m : Int) - 1) = ((m - 1 : Nat) : Int) := by rw [Gen.w64 (by omega) (by omega)]; omega
      rw [if_pos (c := Ln l ∧ 1 ≤ (m : Int) ∧ (m : Int) ≤ l.length - 2) ⟨h1, h2⟩, if_pos h2, e1, Gen.w64s (by omega), if_pos (by omega), if_pos (by omega), if_pos (by omega), if_pos (by omega), if_pos (by omega), if_pos (by omega), rdP, rdP, rdP]
      have p0 := (h1.2.2 (m - 1) (by omega)).1
      have p1 := (h1.2.2 m (by omega)).1
      have p2 := (h1.2.2 (m + 1) (by omega)).1
      unfold impl_twice.f
      rw [implCross p0 p1 p2]
      obtain ⟨_, b1, b2⟩ := crossZ_bd p0 p1 p2
      simp only [Option.bind_some]
      rw [Gen.w64 (by omega) (by omega), Gen.mx_eq]
      rfl
    · rw [if_neg h2, if_neg (fun h => h2 h.2)]
  · rw [if_neg h1, if_neg (fun h => h1 h.1)]
theorem mk_get (l : List S49) (i j : Nat) (p : S49) (hi : i < l.length) : (l.set i p).getD j z49 = if i = j then p else l.getD j z49 := by
  simp only [List.getD_eq_getElem?_getD, List.getElem?_set]
  by_cases h : i = j
  · subst h; simp [hi]
  · simp [h]
theorem tMarkP0 : ∀ d (l : List S49) (i : Nat), i + d = l.length → l.length ≤ 1048576 → (∀ j, j < i → l.getD j z49 = ⟨1 + 2 * j, 2 + 2 * j⟩) →
    ∃ l' : List S49, l'.length = l.length ∧ (∀ j, j < l.length → l'.getD j z49 = ⟨1 + 2 * j, 2 + 2 * j⟩) ∧ Told (fun k => laws_markPointS.l0 k l (1 + 2 * (i : Int)) i) (1 + 2 * (l.length : Int), l') := by
  intro d
  induction d with
  | zero =>
    intro l i hi hl h
    have : i = l.length := by omega
    subst this
    exact ⟨l, rfl, h, Told.stepr fun k => by simp only [laws_markPointS.l0]; rw [if_neg (by omega)]⟩
  | succ d ih =>
    intro l i hi hl h
    obtain ⟨l', h1, h2, h3⟩ := ih (l.set i ⟨1 + 2 * i, 2 + 2 * i⟩) (i + 1) (by rw [List.length_set]; omega) (by rw [List.length_set]; exact hl) (fun j hj => by
      rw [mk_get l i j _ (by omega)]
      by_cases e : i = j
      · subst e; rw [if_pos rfl]
      · rw [if_neg e]; exact h j (by omega))
    rw [List.length_set] at h1 h2 h3
    refine ⟨l', h1, h2, Told.step (fun k => ?_) h3⟩
    simp only [laws_markPointS.l0]
    rw [if_pos (by omega), if_pos (by omega)]
    simp only [Option.bind_some, Int.toNat_natCast]
    have e1 : wrap64 (1 + 2 * (i : Int) + 1) = 2 + 2 * (i : Int) := by unfold wrap64; omega
    have e2 : wrap64 (2 + 2 * (i : Int) + 1) = 1 + 2 * ((i + 1 : Nat) : Int) := by unfold wrap64; omega
    rw [e1, e2, Gen.w64s (by omega), List.set_set]
    have e3 : rd_T49 (l.set i ⟨1 + 2 * (i : Int), (rd_T49 l i).f1⟩) (i : Int) = ⟨1 + 2 * (i : Int), (rd_T49 l i).f1⟩ := by
      show List.getD _ _ _ = _
      rw [Int.toNat_natCast, mk_get l i i _ (by omega), if_pos rfl]
    rw [e3]
theorem tMarkP (l : List S49) (hl : l.length ≤ 1048576) :
    ∃ l' : List S49, l'.length = l.length ∧ (∀ j, j < l.length → l'.getD j z49 = ⟨1 + 2 * j, 2 + 2 * j⟩) ∧ Told (fun k => laws_markPointS.f k l 1) (1 + 2 * (l.length : Int), l') :=
  tMarkP0 l.length l 0 (by omega) hl (fun j hj => by omega)
theorem tHeldP0 (l : List S49) (hl : l.length ≤ 1048576) (h : ∀ j, j < l.length → l.getD j z49 = ⟨1 + 2 * j, 2 + 2 * j⟩) : ∀ d (i : Nat), i + d = l.length → Told (fun k => laws_heldPointS.l0 k l (1 + 2 * (i : Int)) i) (1 + 2 * (l.length : Int)) := by
  intro d
  induction d with
  | zero =>
    intro i hi
    have : i = l.length := by omega
    subst this
    exact Told.stepr fun k => by simp only [laws_heldPointS.l0]; rw [if_neg (by omega)]
  | succ d ih =>
    intro i hi
    refine Told.step (fun k => ?_) (ih (i + 1) (by omega))
    have e0 : rd_T49 l i = ⟨1 + 2 * i, 2 + 2 * i⟩ := h i (by omega)
    have e1 : wrap64 (1 + 2 * (i : Int) + 1) = 2 + 2 * (i : Int) := by unfold wrap64; omega
    have e2 : wrap64 (2 + 2 * (i : Int) + 1) = 1 + 2 * ((i + 1 : Nat) : Int) := by unfold wrap64; omega
    simp only [laws_heldPointS.l0]
    rw [if_pos (by omega), if_pos (by omega), e0, e1, if_pos rfl, if_pos rfl, e2, Gen.w64s (by omega)]
theorem tHeldP (l l' : List S49) (hl : l.length ≤ 1048576) (h1 : l'.length = l.length) (h : ∀ j, j < l.length → l'.getD j z49 = ⟨1 + 2 * j, 2 + 2 * j⟩) : Told (fun k => laws_heldPointS.f k l' 1) (1 + 2 * (l.length : Int)) := by
  rw [← h1]
  exact tHeldP0 l' (by omega) (by rw [h1]; exact h) l'.length 0 (by omega)
theorem tMarkA0 (a : Int) (h0 : 0 ≤ a) (h1 : a ≤ 1125899906842624) : ∀ d (l : List S49) (i : Nat), i + d = l.length → l.length ≤ 1048576 →
    ∃ l' : List S49, l'.length = l.length ∧ Told (fun k => laws_markPointS.l0 k l (a + 2 * (i : Int)) i) (a + 2 * (l.length : Int), l') := by
  intro d
  induction d with
  | zero =>
    intro l i hi hl
    have : i = l.length := by omega
    subst this
    exact ⟨l, rfl, Told.stepr fun k => by simp only [laws_markPointS.l0]; rw [if_neg (by omega)]⟩
  | succ d ih =>
    intro l i hi hl
    obtain ⟨l', h2, h3⟩ := ih ((l.set i ⟨a + 2 * i, (rd_T49 l i).f1⟩).set i ⟨(rd_T49 (l.set i ⟨a + 2 * i, (rd_T49 l i).f1⟩) i).f0, a + 2 * i + 1⟩) (i + 1) (by rw [List.length_set, List.length_set]; omega) (by rw [List.length_set, List.length_set]; exact hl)
    rw [List.length_set, List.length_set] at h2 h3
    refine ⟨l', h2, Told.step (fun k => ?_) h3⟩
    simp only [laws_markPointS.l0]
    rw [if_pos (by omega), if_pos (by omega)]
    simp only [Option.bind_some, Int.toNat_natCast]
    have e1 : wrap64 (a + 2 * (i : Int) + 1) = a + 2 * (i : Int) + 1 := by unfold wrap64; omega
    have e2 : wrap64 (a + 2 * (i : Int) + 1 + 1) = a + 2 * ((i + 1 : Nat) : Int) := by unfold wrap64; omega
    rw [e1, e2, Gen.w64s (by omega)]
theorem tMarkSS0 : ∀ d (o : List (List S49)) (i : Nat) (a : Int), i + d = o.length → o.length ≤ 1048576 → (∀ j, j < o.length → (o.getD j []).length ≤ 1048576) → 0 ≤ a → a ≤ 4194304 + 2097152 * (i : Int) →
    ∃ r, 0 ≤ r ∧ Told (fun k => laws_markPointSS.l0 k o a i) r := by
  intro d
  induction d with
  | zero =>
    intro o i a hi ho hs h0 h1
    exact ⟨a, h0, Told.stepr fun k => by simp only [laws_markPointSS.l0]; rw [if_neg (by omega)]⟩
  | succ d ih =>
    intro o i a hi ho hs h0 h1
    have hs' := hs i (by omega)
    obtain ⟨l', h2, h3⟩ := tMarkA0 a h0 (by omega) (o.getD i []).length (o.getD i []) 0 (by omega) hs'
    have h3' : Told (fun k => laws_markPointS.f k (o.getD i []) a) (a + 2 * ((o.getD i []).length : Int), l') := by
      refine Told.eq (fun k => ?_) h3
      show laws_markPointS.l0 k _ a 0 = laws_markPointS.l0 k _ (a + 2 * ((0 : Nat) : Int)) ((0 : Nat) : Int)
      rw [Int.natCast_zero, Int.mul_zero, Int.add_zero]
    obtain ⟨r, h4, h5⟩ := ih (o.set i l') (i + 1) (a + 2 * ((o.getD i []).length : Int)) (by rw [List.length_set]; omega) (by rw [List.length_set]; exact ho) (fun j hj => by
      rw [List.length_set] at hj
      rw [ss_getD o i j _ (by omega)]
      split
      · omega
      · exact hs j hj) (by omega) (by omega)
    refine ⟨r, h4, Told.step (M := fun k => (laws_markPointS.f k (o.getD i []) a).bind fun bt => laws_markPointSS.l0 k (o.set i bt.2) bt.1 ((i + 1 : Nat) : Int)) (fun k => ?_) (Told.bind h3' h5)⟩
    simp only [laws_markPointSS.l0]
    rw [if_pos (by omega), if_pos (by omega), Gen.w64s (by omega), Int.toNat_natCast]
theorem tMarkSS (o : List (List S49)) (h : SmallSS o) (a : Int) (h0 : 0 ≤ a) (h1 : a ≤ 4194304) : ∃ r, 0 ≤ r ∧ Told (fun k => laws_markPointSS.f k o a) r :=
  tMarkSS0 o.length o 0 a (by omega) h.1 h.2 h0 (by omega)
theorem tSpecCA (l : List S49) (i : Int) (hl : l.length ≤ 1048576) : Told (fun k => spec_CornerArea.f k l i) (crnA l i) := ⟨l.length + 1, fun k hk => specCorner l i hl (by omega)⟩
theorem tImplCA (l : List S49) (i : Int) (hl : l.length ≤ 1048576) : Told (fun k => impl_CornerArea.f k l i) (crnA l i) := ⟨l.length + 2, fun k hk => implCorner l i hl (by omega)⟩
def spick (l : List S49) (os : List (List S49)) (a b : Int) (i : Nat) : Int := if crnA l i < a then (if b < 0 then (if canV l i os = true then (i : Int) else b) else if crnA l i < crnA l b then (if canV l i os = true then (i : Int) else b) else b) else b
def SInv (l : List S49) (os : List (List S49)) (b : Int) : Prop := b = -1 ∨ (0 ≤ b ∧ b < l.length ∧ canV l b os = true)
theorem spick_inv {l : List S49} {os : List (List S49)} {a b : Int} {i : Nat} (hi : i < l.length) (h : SInv l os b) : SInv l os (spick l os a b i) := by
  unfold spick
  split
  · split
    · split
      · rename_i h2; exact .inr ⟨by omega, by omega, h2⟩
      · exact h
    · split
      · split
        · rename_i h2; exact .inr ⟨by omega, by omega, h2⟩
        · exact h
      · exact h
  · exact h
theorem drop_lt {l : List S49} {b : Int} (h : (dropV l b).2 = true) : (dropV l b).1 = wo l b ∧ (dropV l b).1.length + 1 = l.length ∧ 0 ≤ b ∧ b < l.length := by
  unfold dropV at h ⊢
  split at h
  · rename_i h1
    split at h
    · rename_i h2
      rw [if_pos h1, if_pos h2]
      refine ⟨rfl, ?_, by omega, by omega⟩
      show (wo l b).length + 1 = _
      unfold wo
      simp
      omega
    · cases h
  · cases h
theorem tSafeS (x : List S49) (hx : x.length ≤ 1048576) (hr : Sm x) (os : List (List S49)) (ho : SmallSS os) (a : Int) : ∀ n (l : List S49), l.length = n → l.length ≤ 1048576 →
    ∃ v, v.length ≤ l.length ∧ Told (fun k => spec_SafeSimplify.l0 k x os a l) v ∧ Told (fun k => impl_SafeSimplify.l0 k os a l) v := by
  intro n
  induction n with
  | zero =>
    intro l hl _
    have : l = [] := List.length_eq_zero_iff.1 hl
    subst this
    have b1 : Told (fun k => spec_SafeSimplify.l1 k x os a [] (-1) 1) [] := Told.stepr fun k => by simp only [spec_SafeSimplify.l1]; rw [if_neg (by simp [wrap64]), if_pos (by omega)]
    have b2 : Told (fun k => impl_SafeSimplify.l1 k os a [] (-1) 1) [] := Told.stepr fun k => by simp only [impl_SafeSimplify.l1]; rw [if_neg (by simp [wrap64]), if_pos (by omega)]
    exact ⟨[], Nat.le_refl _, Told.step (fun k => by simp only [spec_SafeSimplify.l0]; rfl) (Told.bind (tSpecSimple x hx) (Told.ite_t (decide_eq_true hr) b1)), Told.step (fun k => by simp only [impl_SafeSimplify.l0]) b2⟩
  | succ n ih =>
    intro l hl hb
    obtain ⟨m, hm⟩ : ∃ m : Nat, m = if l.length ≤ 1 then 1 else l.length - 1 := ⟨_, rfl⟩
    have hm1 : 1 ≤ m ∧ m + 1 ≤ l.length + 1 ∧ l.length ≤ m + 1 := by split at hm <;> omega
    have hmi : ∀ i : Nat, 1 ≤ i → i < m → i + 1 < l.length := by intro i h1 h2; split at hm <;> omega
    have key : ∃ b, SInv l os b ∧ b = (List.range' 1 (m - 1)).foldl (spick l os a) (-1) := ⟨_, by
      have : ∀ d s (i : Nat), 1 ≤ i → i + d ≤ m → SInv l os s → SInv l os ((List.range' i d).foldl (spick l os a) s) := by
        intro d
        induction d with
        | zero => intro s i _ _ h; exact h
        | succ d ih => intro s i h1 hi h; exact ih _ (i + 1) (by omega) (by omega) (spick_inv (by have := hmi i h1 (by omega); omega) h)
      exact this (m - 1) (-1) 1 (Nat.le_refl _) (by omega) (.inl rfl), rfl⟩
    obtain ⟨b, hv, eb⟩ := key
    have es : ∀ v, Told (fun k => spec_SafeSimplify.l1 k x os a l b (m : Int)) v → Told (fun k => spec_SafeSimplify.l0 k x os a l) v := fun v hh => by
      refine Told.step (M := fun k => (spec_IsSimple.f k x).bind fun t => if t = true then spec_SafeSimplify.l1 k x os a l (-1) 1 else some l) (fun k => by simp only [spec_SafeSimplify.l0]) (Told.bind (tSpecSimple x hx) (Told.ite_t (decide_eq_true hr) ?_))
      refine Told.up (n := m) (spick l os a) (fun k s i => spec_SafeSimplify.l1 k x os a l s i) (fun s i => SInv l os s ∧ 1 ≤ i) (fun s i hi hs => ⟨⟨spick_inv (by have := hmi i hs.2 hi; omega) hs.1, by omega⟩, fun h2 => ?_⟩) (m - 1) (-1) 1 (by omega) ⟨.inl rfl, Nat.le_refl _⟩ (by rw [← eb]; exact hh)
      have hil := hmi i hs.2 hi
      refine Told.step (fun k => by simp only [spec_SafeSimplify.l1]; rw [Gen.w64s (by omega), if_pos (by omega)]) (Told.bind (tSpecCA l i hb) ?_)
      unfold spick at h2
      by_cases c1 : crnA l i < a
      · refine Told.ite_t c1 ?_
        rw [if_pos c1] at h2
        by_cases c3 : s < 0
        · rw [if_pos c3] at h2
          refine Told.ite_t c3 (Told.bind (tSpecCan l i os hb ho) ?_)
          by_cases c2 : canV l i os = true
          · rw [if_pos c2] at h2; exact Told.ite_t c2 h2
          · rw [if_neg c2] at h2; exact Told.ite_f c2 h2
        · rw [if_neg c3] at h2
          refine Told.ite_f c3 (Told.bind (tSpecCA l s hb) ?_)
          by_cases c4 : crnA l i < crnA l s
          · rw [if_pos c4] at h2
            refine Told.ite_t c4 (Told.bind (tSpecCan l i os hb ho) ?_)
            by_cases c2 : canV l i os = true
            · rw [if_pos c2] at h2; exact Told.ite_t c2 h2
            · rw [if_neg c2] at h2; exact Told.ite_f c2 h2
          · rw [if_neg c4] at h2; exact Told.ite_f c4 h2
      · rw [if_neg c1] at h2; exact Told.ite_f c1 h2
    have ei : ∀ v, Told (fun k => impl_SafeSimplify.l1 k os a l b (m : Int)) v → Told (fun k => impl_SafeSimplify.l0 k os a l) v := fun v hh => by
      refine Told.step (M := fun k => impl_SafeSimplify.l1 k os a l (-1) 1) (fun k => by simp only [impl_SafeSimplify.l0]) ?_
      refine Told.up (n := m) (spick l os a) (fun k s i => impl_SafeSimplify.l1 k os a l s i) (fun s i => SInv l os s ∧ 1 ≤ i) (fun s i hi hs => ⟨⟨spick_inv (by have := hmi i hs.2 hi; omega) hs.1, by omega⟩, fun h2 => ?_⟩) (m - 1) (-1) 1 (by omega) ⟨.inl rfl, Nat.le_refl _⟩ (by rw [← eb]; exact hh)
      have hil := hmi i hs.2 hi
      refine Told.step (fun k => by simp only [impl_SafeSimplify.l1]; rw [Gen.w64 (n := (l.length : Int) - 1) (by omega) (by omega), if_pos (by omega), Gen.w64s (by omega)]) (Told.bind (tImplCA l i hb) ?_)
      unfold spick at h2
      by_cases c1 : crnA l i < a
      · refine Told.ite_t c1 ?_
        rw [if_pos c1] at h2
        by_cases c3 : s < 0
        · rw [if_pos c3] at h2
          refine Told.ite_t c3 (Told.bind (tImplCan l i os hb ho) ?_)
          by_cases c2 : canV l i os = true
          · rw [if_pos c2] at h2; exact Told.ite_t c2 h2
          · rw [if_neg c2] at h2; exact Told.ite_f c2 h2
        · rw [if_neg c3] at h2
          refine Told.ite_f c3 (Told.bind (tImplCA l s hb) ?_)
          by_cases c4 : crnA l i < crnA l s
          · rw [if_pos c4] at h2
            refine Told.ite_t c4 (Told.bind (tImplCan l i os hb ho) ?_)
            by_cases c2 : canV l i os = true
            · rw [if_pos c2] at h2; exact Told.ite_t c2 h2
            · rw [if_neg c2] at h2; exact Told.ite_f c2 h2
          · rw [if_neg c4] at h2; exact Told.ite_f c4 h2
      · rw [if_neg c1] at h2; exact Told.ite_f c1 h2
    have en1 : ¬ (wrap64 ((m : Int) + 1) < (l.length : Int)) := by unfold wrap64; omega
    have en2 : ¬ ((m : Int) < wrap64 ((l.length : Int) - 1)) := by unfold wrap64; omega
    rcases hv with rfl | ⟨b0, b1, b2⟩
    · refine ⟨l, Nat.le_refl _, es _ (Told.stepr fun k => ?_), ei _ (Told.stepr fun k => ?_)⟩
      · simp only [spec_SafeSimplify.l1]; rw [if_neg en1, if_pos (by omega)]
      · simp only [impl_SafeSimplify.l1]; rw [if_neg en2, if_pos (by omega)]
    · have b3 : (dropV l b).2 = true := by unfold canV at b2; exact (of_decide_eq_true b2).1
      obtain ⟨q0, q1, q2, q3⟩ := drop_lt b3
      obtain ⟨v, v1, v2, v3⟩ := ih (dropV l b).1 (by omega) (by omega)
      refine ⟨v, by omega, es _ (Told.step (fun k => by simp only [spec_SafeSimplify.l1]; rw [if_neg en1, if_neg (by omega)]) (Told.bind (tSpecDrop l b hb) v2)), ei _ (Told.step (fun k => by simp only [impl_SafeSimplify.l1]; rw [if_neg en2, if_neg (by omega)]) (Told.bind (Told.of (implWo l b q2 q3 hb)) ?_))⟩
      rw [← q0]; exact v3
theorem tSafeS' (l : List S49) (os : List (List S49)) (a : Int) (hl : l.length ≤ 1048576) (ho : SmallSS os) : ∃ v, v.length ≤ l.length ∧ Told (fun k => spec_SafeSimplify.f k l os a) v ∧ Told (fun k => impl_SafeSimplify.f k l os a) v := by
  by_cases h : Sm l
  · obtain ⟨v, v1, v2, v3⟩ := tSafeS l hl h os ho a l.length l rfl hl
    exact ⟨v, v1, Told.bind (Told.ret _) (Told.ite_t (by simp; omega) v2), Told.bind (Told.of (implClone l hl)) (Told.bind (tImplSimple l hl) (Told.ite_t (decide_eq_true h) v3))⟩
  · refine ⟨l, Nat.le_refl _, Told.bind (Told.ret _) (Told.ite_t (by simp; omega) (Told.step (fun k => by simp only [spec_SafeSimplify.l0]; rfl) (Told.bind (tSpecSimple l hl) (Told.ite_f (fun q => h (of_decide_eq_true q)) (Told.ret _))))), Told.bind (Told.of (implClone l hl)) (Told.bind (tImplSimple l hl) (Told.ite_f (fun q => h (of_decide_eq_true q)) (Told.ret _)))⟩
theorem pure_FnExactSafeSimplify : ∀ (l0 : (List S98)) (l1 : (List (List S98))) (a2 : Int), (List.length l0 ≤ maxLen ∧ ∀ y ∈ l0, G98 y) → (List.length l1 ≤ maxLen ∧ ∀ y ∈ l1, (List.length y ≤ maxLen ∧ ∀ z ∈ y, G98 z)) → I64 a2 → ∃ k, laws_FnExactSafeSimplify.f k l0 l1 a2 = some true := by
  intro a os i ⟨ha, _⟩ hos _
  apply Told.ex
  unfold maxLen at ha
  refine Told.bind (Told.of (szPointS_some a 1048576 (by unfold maxLen; omega) (by omega) (by omega))) ?_
  by_cases h1 : (1048576 : Int) < a.length
  · rw [if_pos h1]; exact Told.ite_t (by omega) (Told.ret _)
  rw [if_neg h1]
  obtain ⟨r, hr, hs⟩ := tSzSS os (1048576 - a.length) hos.1 (ss_of hos) (by omega) (by omega)
  refine Told.ite_f (by omega) (Told.bind hr ?_)
  by_cases h2 : r < 0
  · exact Told.ite_t h2 (Told.ret _)
  have so := (hs (by omega)).2
  have sm := smallSS_map os so
  have la : (a.map cP).length ≤ 1048576 := by simp; omega
  obtain ⟨v, lv', tsp, ti⟩ := tSafeS' (a.map cP) (os.map (List.map cP)) i la sm
  have lv := Nat.le_trans lv' la
  have tp := tToPointS a (by omega)
  have ts := tToSS os so
  have eqv := tEqPointS _ lv
  obtain ⟨x, _, _, hx⟩ := tMarkP (a.map cP) la
  obtain ⟨q, q0, hq⟩ := tMarkSS _ sm (1 + 2 * ((a.map cP).length : Int)) (by omega) (by omega)
  obtain ⟨y, y1, y2, hy⟩ := tMarkP v lv
  have held := tHeldP _ y lv y1 y2
  refine Told.ite_f h2 (Told.bind tp (Told.bind ts (Told.bind tsp (Told.bind tp (Told.bind ts (Told.bind ti (Told.bind eqv (Told.ite_t rfl (Told.bind tp (Told.bind (tEqPointS _ la) (Told.ite_t rfl (Told.bind ts (Told.bind (tEqSS _ sm) (Told.ite_t rfl (Told.bind hx (Told.bind hq (Told.ite_f (by omega) (Told.bind eqv ?_))))))))))))))))))
  refine Told.step (fun k => by simp only [laws_FnExactSafeSimplify.j0, Bool.not_true, Bool.false_eq_true, if_false]; rfl) ?_
  exact Told.bind hy (Told.bind held (Told.ite_f (by omega) (Told.ite_t rfl (Told.bind tp (Told.bind ts (Told.bind ti (Told.bind eqv (Told.ite_t rfl (Told.bind held (Told.ite_f (by omega) (Told.ite_t rfl (Told.ret _))))))))))))
end Go.Proofs.Ytchmbcembbbplac.MFnExactSafeSimplify
