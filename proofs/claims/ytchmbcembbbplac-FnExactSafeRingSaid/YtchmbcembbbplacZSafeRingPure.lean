/- The plain law behind FnExactSafeRing: what the printed functions compute answers true; no condition beyond the arguments' ranges. -/
import Derived.Test.YtchmbcembbbplacZSafeRingTold
import Derived.Test.YtchmbcembbbplacZSafeRingArea
import Derived.Test.YtchmbcembbbplacZSafeRingMx12
import Derived.Test.YtchmbcembbbplacZSafeRingOpn
namespace Go.Proofs.Ytchmbcembbbplac.MFnExactSafeRing
open Go Go.RowKit Go.Proofs.YtchmbcembbbplacW.PrintWords Go.Proofs.YtchmbcembbbplacW.PrintLast Go.Proofs.YtchmbcembbbplacW.PrintMore Go.Proofs.Ytchmbcembbbplac.Open
set_option linter.unusedVariables false
set_option linter.unusedSimpArgs false
theorem implInRange (a b c : Int) : impl_InRange.f a b c = some (decide (b ≤ a ∧ a ≤ c)) := by
  unfold impl_InRange.f; by_cases h : b ≤ a <;> simp [h]
theorem specIn (a b c : Int) : spec_l1In.f a b c = some (decide (b ≤ a ∧ a ≤ c)) := by
  unfold spec_l1In.f; by_cases h : b ≤ a <;> simp [h]
def Pt (x y : Int) : Prop := 0 ≤ x ∧ x ≤ 200 ∧ 0 ≤ y ∧ y ≤ 200
instance (x y : Int) : Decidable (Pt x y) := by unfold Pt; infer_instance
theorem implIsPoint (x y : Int) : impl_IsPoint.f x y = some (decide (Pt x y)) := by
  unfold impl_IsPoint.f
  rw [implInRange, implInRange]
  simp only [Option.bind_some]
  by_cases h : 0 ≤ x ∧ x ≤ 200
  · rw [if_pos (by simpa using h)]; simp [Pt, h]
  · rw [if_neg (by simpa using h)]; simp only [Option.some.injEq, Bool.false_eq, decide_eq_false_iff_not]; unfold Pt; omega
theorem specIsPoint (x y : Int) : spec_IsPoint.f x y = some (decide (Pt x y)) := by
  unfold spec_IsPoint.f
  rw [specIn, specIn]
  simp only [Option.bind_some]
  by_cases h : 0 ≤ x ∧ x ≤ 200
  · rw [if_pos (by simpa using h)]; simp [Pt, h]
  · rw [if_neg (by simpa using h)]; simp only [Option.some.injEq, Bool.false_eq, decide_eq_false_iff_not]; unfold Pt; omega
def D (n : Int) : Prop := -200 ≤ n ∧ n ≤ 200
theorem D_of {x y : Int} (hx : 0 ≤ x ∧ x ≤ 200) (hy : 0 ≤ y ∧ y ≤ 200) : wrap64 (x - y) = x - y ∧ D (x - y) := ⟨Gen.w64 (by omega) (by omega), by unfold D; omega⟩
theorem D_mul {x y : Int} (hx : D x) (hy : D y) : wrap64 (x * y) = x * y ∧ -40000 ≤ x * y ∧ x * y ≤ 40000 := by
  have := Gen.mul_bd (m := 200) (n := 200) hx hy
  exact ⟨Gen.w64 (by omega) (by omega), by omega, by omega⟩
def crossZ (ax ay bx bY px py : Int) : Int := (bx - ax) * (py - ay) - (bY - ay) * (px - ax)
theorem crossZ_bd {ax ay bx bY px py : Int} (ha : Pt ax ay) (hb : Pt bx bY) (hp : Pt px py) :
    wrap64 ((wrap64 ((wrap64 (bx - ax)) * (wrap64 (py - ay)))) - (wrap64 ((wrap64 (bY - ay)) * (wrap64 (px - ax))))) = crossZ ax ay bx bY px py ∧ -80000 ≤ crossZ ax ay bx bY px py ∧ crossZ ax ay bx bY px py ≤ 80000 := by
  obtain ⟨a1, a2, a3, a4⟩ := ha; obtain ⟨b1, b2, b3, b4⟩ := hb; obtain ⟨p1, p2, p3, p4⟩ := hp
  obtain ⟨e1, d1⟩ := D_of ⟨b1, b2⟩ ⟨a1, a2⟩
  obtain ⟨e2, d2⟩ := D_of ⟨p3, p4⟩ ⟨a3, a4⟩
  obtain ⟨e3, d3⟩ := D_of ⟨b3, b4⟩ ⟨a3, a4⟩
  obtain ⟨e4, d4⟩ := D_of ⟨p1, p2⟩ ⟨a1, a2⟩
  obtain ⟨m1, n1, o1⟩ := D_mul d1 d2
  obtain ⟨m2, n2, o2⟩ := D_mul d3 d4
  rw [e1, e2, e3, e4, m1, m2]
  unfold crossZ
  exact ⟨Gen.w64 (by omega) (by omega), by omega, by omega⟩
theorem implCross {ax ay bx bY px py : Int} (ha : Pt ax ay) (hb : Pt bx bY) (hp : Pt px py) : impl_cross.f ax ay bx bY px py = some (crossZ ax ay bx bY px py) := by
  unfold impl_cross.f; rw [(crossZ_bd ha hb hp).1]
theorem specCross {ax ay bx bY px py : Int} (ha : Pt ax ay) (hb : Pt bx bY) (hp : Pt px py) : spec_l4Cross.f ax ay bx bY px py = some (crossZ ax ay bx bY px py) := by
  unfold spec_l4Cross.f; rw [(crossZ_bd ha hb hp).1]
def Sg (ax ay bx bY : Int) : Prop := Pt ax ay ∧ Pt bx bY ∧ ¬ (ax = bx ∧ ay = bY)
instance (a b c d : Int) : Decidable (Sg a b c d) := by unfold Sg; infer_instance
theorem implIsSegment (a b c d : Int) : impl_IsSegment.f a b c d = some (decide (Sg a b c d)) := by
  unfold impl_IsSegment.f
  rw [implIsPoint, implIsPoint]
  simp only [Option.bind_some, decide_eq_true_eq]
  by_cases h1 : Pt a b
  · rw [if_pos h1]
    by_cases h2 : Pt c d
    · rw [if_pos h2]
      congr 1
      rw [Bool.eq_iff_iff, decide_eq_true_eq]
      simp only [Bool.or_eq_true, Bool.not_eq_true', beq_eq_false_iff_ne, ne_eq, Sg, h1, h2, true_and]
      omega
    · rw [if_neg h2]; simp [Sg, h2]
  · rw [if_neg h1]; simp [Sg, h1]
theorem specIsSegment (a b c d : Int) : spec_IsSegment.f a b c d = some (decide (Sg a b c d)) := by
  unfold spec_IsSegment.f
  rw [specIsPoint, specIsPoint]
  simp only [Option.bind_some, decide_eq_true_eq]
  by_cases h1 : Pt a b
  · rw [if_pos h1]
    by_cases h2 : Pt c d
    · rw [if_pos h2]
      congr 1
      rw [Bool.eq_iff_iff, decide_eq_true_eq]
      simp only [Bool.or_eq_true, Bool.not_eq_true', beq_eq_false_iff_ne, ne_eq, Sg, h1, h2, true_and]
      omega
    · rw [if_neg h2]; simp [Sg, h2]
  · rw [if_neg h1]; simp [Sg, h1]
theorem specMin' (a b : Int) : spec_Min.f a b = some (min a b) := by unfold spec_Min.f; split <;> (congr 1; omega)
theorem specMax' (a b : Int) : spec_Max.f a b = some (max a b) := by unfold spec_Max.f; split <;> (congr 1; omega)
def SgOn (ax ay bx bY px py : Int) : Prop := Sg ax ay bx bY ∧ Pt px py ∧ Geo.On ⟨ax, ay⟩ ⟨bx, bY⟩ ⟨px, py⟩
instance (a b c d e f : Int) : Decidable (SgOn a b c d e f) := by unfold SgOn; infer_instance
theorem on_iff (ax ay bx bY px py : Int) : Geo.On ⟨ax, ay⟩ ⟨bx, bY⟩ ⟨px, py⟩ ↔ crossZ ax ay bx bY px py = 0 ∧ (min ax bx ≤ px ∧ px ≤ max ax bx) ∧ (min ay bY ≤ py ∧ py ≤ max ay bY) := by
  unfold Geo.On Geo.InB
  have e : Geo.cross ⟨ax, ay⟩ ⟨bx, bY⟩ ⟨px, py⟩ = crossZ ax ay bx bY px py := rfl
  rw [e]
  simp only [and_assoc]
theorem specIsOn (ax ay bx bY px py : Int) : spec_IsOn.f ax ay bx bY px py = some (decide (SgOn ax ay bx bY px py)) := by
  unfold spec_IsOn.f
  rw [specIsSegment, specIsPoint]
  simp only [Option.bind_some, decide_eq_true_eq]
  by_cases h1 : Sg ax ay bx bY
  · by_cases h2 : Pt px py
    · rw [if_pos h1, if_pos h2, specCross h1.1 h1.2.1 h2]
      simp only [Option.bind_some, specMin', specMax', specIn, decide_eq_true_eq]
      have e : SgOn ax ay bx bY px py ↔ crossZ ax ay bx bY px py = 0 ∧ (min ax bx ≤ px ∧ px ≤ max ax bx) ∧ (min ay bY ≤ py ∧ py ≤ max ay bY) := by unfold SgOn; rw [on_iff]; exact ⟨fun h => h.2.2, fun h => ⟨h1, h2, h⟩⟩
      simp only [e]
      by_cases c1 : crossZ ax ay bx bY px py = 0
      · rw [if_pos c1]
        by_cases c2 : min ax bx ≤ px ∧ px ≤ max ax bx
        · rw [if_pos c2]; simp only [c1, c2, true_and, and_self]
        · rw [if_neg c2]; simp only [c2, false_and, and_false, decide_false]
      · rw [if_neg c1]; simp only [c1, false_and, decide_false]
    · rw [if_pos h1, if_neg h2]
      rw [decide_eq_false (fun h : SgOn ax ay bx bY px py => h2 h.2.1)]
  · rw [if_neg h1]
    rw [decide_eq_false (fun h : SgOn ax ay bx bY px py => h1 h.1)]
def sideV (ax ay bx bY px py : Int) : Int := if Pt ax ay ∧ Pt bx bY ∧ Pt px py then Geo.sgn (crossZ ax ay bx bY px py) else 0
theorem cmpZ (n : Int) : cmp_Compare_int.f n 0 = some (Geo.sgn n) := by
  unfold cmp_Compare_int.f cmp_isNaN_int.f
  simp only [Option.bind_some, bne_self_eq_false, Bool.false_eq_true, if_false]
  unfold Geo.sgn
  by_cases h1 : n < 0
  · rw [if_pos h1, if_neg (by omega), if_pos h1]
  · rw [if_neg h1]
    by_cases h2 : n > 0
    · rw [if_pos h2, if_pos (by omega)]
    · rw [if_neg h2, if_neg (by omega), if_neg (by omega)]
theorem tImplSide (ax ay bx bY px py : Int) : Told (fun k => impl_SideOf.f k ax ay bx bY px py) (sideV ax ay bx bY px py) := by
  have no : ¬ (Pt ax ay ∧ Pt bx bY ∧ Pt px py) → Told (fun k => impl_SideOf.j0 k true ax ay bx bY px py) (sideV ax ay bx bY px py) := fun h => Told.stepr fun k => by simp only [impl_SideOf.j0, if_true]; rw [sideV, if_neg h]
  by_cases h1 : Pt ax ay
  · by_cases h2 : Pt bx bY
    · refine Told.bind (Told.of (implIsPoint ax ay)) (Told.ite_t (by simpa using h1) (Told.bind (Told.of (implIsPoint bx bY)) (Told.ite_t (by simpa using h2) (Told.bind (Told.of (implIsPoint px py)) ?_))))
      by_cases h3 : Pt px py
      · refine Told.stepr fun k => ?_
        simp only [impl_SideOf.j0, decide_eq_true h3, Bool.not_true, Bool.false_eq_true, if_false]
        rw [implCross h1 h2 h3]
        simp only [Option.bind_some, cmpZ]
        rw [sideV, if_pos ⟨h1, h2, h3⟩]
      · rw [decide_eq_false h3]; exact no (fun h => h3 h.2.2)
    · exact Told.bind (Told.of (implIsPoint ax ay)) (Told.ite_t (by simpa using h1) (Told.bind (Told.of (implIsPoint bx bY)) (Told.ite_f (by simpa using h2) (no (fun h => h2 h.2.1)))))
  · exact Told.bind (Told.of (implIsPoint ax ay)) (Told.ite_f (by simpa using h1) (no (fun h => h1 h.1)))
theorem tImplIsOn (ax ay bx bY px py : Int) : Told (fun k => impl_IsOn.f k ax ay bx bY px py) (decide (SgOn ax ay bx bY px py)) := by
  by_cases h1 : Sg ax ay bx bY
  · by_cases h2 : Pt px py
    · refine Told.bind (Told.of (implIsSegment ax ay bx bY)) (Told.ite_t (by simpa using h1) (Told.bind (Told.of (implIsPoint px py)) (Told.ite_t (by simpa using h2) (Told.bind (tImplSide ax ay bx bY px py) ?_))))
      have e : SgOn ax ay bx bY px py ↔ crossZ ax ay bx bY px py = 0 ∧ (min ax bx ≤ px ∧ px ≤ max ax bx) ∧ (min ay bY ≤ py ∧ py ≤ max ay bY) := by unfold SgOn; rw [on_iff]; exact ⟨fun h => h.2.2, fun h => ⟨h1, h2, h⟩⟩
      refine Told.of ?_
      have es : sideV ax ay bx bY px py = Geo.sgn (crossZ ax ay bx bY px py) := by unfold sideV; exact if_pos ⟨h1.1, h1.2.1, h2⟩
      simp only [es, e, Geo.sgn_eq_zero, Gen.mn_eq, Gen.mx_eq, implInRange, Option.bind_some, decide_eq_true_eq]
      by_cases c1 : crossZ ax ay bx bY px py = 0
      · rw [if_pos c1]
        by_cases c2 : min ax bx ≤ px ∧ px ≤ max ax bx
        · rw [if_pos c2]; simp only [c1, c2, true_and, and_self]
        · rw [if_neg c2]; simp only [c2, false_and, and_false, decide_false]
      · rw [if_neg c1]; simp only [c1, false_and, decide_false]
    · rw [decide_eq_false (fun h : SgOn ax ay bx bY px py => h2 h.2.1)]
      exact Told.bind (Told.of (implIsSegment ax ay bx bY)) (Told.ite_t (by simpa using h1) (Told.bind (Told.of (implIsPoint px py)) (Told.ite_f (by simpa using h2) (Told.ret _))))
  · rw [decide_eq_false (fun h : SgOn ax ay bx bY px py => h1 h.1)]
    exact Told.bind (Told.of (implIsSegment ax ay bx bY)) (Told.ite_f (by simpa using h1) (Told.ret _))
def cP (p : S98) : S49 := ⟨p.f0, p.f1⟩
theorem toPointS_some (l : List S98) (hl : l.length ≤ 1048576) {k : Nat} (hk : l.length < k) : laws_toPointS.f k l = some (l.map cP) := by
  unfold laws_toPointS.f
  rw [if_pos (by omega), if_pos (by omega)]
  have := Gen.fill_all l z98 cP 0 (fun k out i => laws_toPointS.l0 k l out i) (fun k out i _ hi ho => by
      simp only [laws_toPointS.l0]
      rw [if_pos (by omega), if_pos (by omega)]
      simp only [laws_toPoint.f, Option.bind_some]
      rw [if_pos (by omega), Gen.w64s (by omega)]
      rfl) (fun k out ho => by
      simp only [laws_toPointS.l0]
      rw [if_neg (by omega)]) (k := k) (out := List.replicate l.length z49) (by simp) (by omega)
  simpa using this
theorem szPointS_some (l : List S98) (a : Int) (hl : l.length ≤ maxLen) (ha : 0 ≤ a) (ha' : a ≤ 1048576) : laws_szPointS.f l a = some (if a < l.length then -1 else a - l.length) := by
  unfold laws_szPointS.f
  unfold maxLen at hl
  rw [Gen.w64 (by omega) (by omega)]
  split <;> split <;> first | rfl | omega
theorem eqPointS_self (a : List S49) (hl : a.length ≤ 1048576) {k : Nat} (hk : a.length < k) : laws_eqPointS.f k a a = some true := by
  unfold laws_eqPointS.f
  rw [if_pos rfl]
  refine Gen.up_all a.length 0 true (fun k i => laws_eqPointS.l0 k a a i) (fun k i _ hi => ?_) (fun k _ => ?_) (k := k) (by omega)
  · simp only [laws_eqPointS.l0, laws_eqPoint.f]
    rw [if_pos (by omega), if_pos (by omega), if_pos (by omega)]
    simp only [if_true, Option.bind_some]
    rw [Gen.w64s (by omega)]
  · simp only [laws_eqPointS.l0]
    rw [if_neg (by omega)]
theorem tToPointS (l : List S98) (hl : l.length ≤ 1048576) : Told (fun k => laws_toPointS.f k l) (l.map cP) := ⟨l.length + 1, fun k hk => toPointS_some l hl (by omega)⟩
theorem tEqPointS (l : List S49) (hl : l.length ≤ 1048576) : Told (fun k => laws_eqPointS.f k l l) true := ⟨l.length + 1, fun k hk => eqPointS_self l hl (by omega)⟩
def Ln (l : List S49) : Prop := 2 ≤ l.length ∧ l.length ≤ 10 ∧ ∀ i, i < l.length → Pt (l.getD i z49).f0 (l.getD i z49).f1 ∧ ¬ (0 < i ∧ (l.getD (i - 1) z49).f0 = (l.getD i z49).f0 ∧ (l.getD (i - 1) z49).f1 = (l.getD i z49).f1)
def lnChk (l : List S49) (i : Nat) : Bool := decide (Pt (l.getD i z49).f0 (l.getD i z49).f1 ∧ ¬ (0 < i ∧ (l.getD (i - 1) z49).f0 = (l.getD i z49).f0 ∧ (l.getD (i - 1) z49).f1 = (l.getD i z49).f1))
instance (l : List S49) : Decidable (Ln l) := decidable_of_iff ((2 ≤ l.length ∧ l.length ≤ 10) ∧ ∀ i, i < l.length → lnChk l i = true) (by unfold Ln lnChk; simp only [decide_eq_true_eq, and_assoc])
theorem rdP (l : List S49) (i : Nat) : rd_T49 l (i : Int) = l.getD i z49 := rfl
theorem tSpecSide (ax ay bx bY px py : Int) (h1 : Pt ax ay) (h2 : Pt bx bY) (h3 : Pt px py) : Told (fun k => spec_SideOf.f k ax ay bx bY px py) (Geo.sgn (crossZ ax ay bx bY px py)) := by
  refine Told.bind (Told.of (specIsPoint ax ay)) (Told.ite_t (by simpa using h1) (Told.bind (Told.of (specIsPoint bx bY)) (Told.ite_t (by simpa using h2) (Told.bind (Told.of (specIsPoint px py)) (Told.stepr fun k => ?_)))))
  simp only [spec_SideOf.j0, decide_eq_true h3, Bool.not_true, Bool.false_eq_true, if_false]
  rw [specCross h1 h2 h3]
  simp only [Option.bind_some]
  unfold Geo.sgn
  split
  · rfl
  · split <;> rfl
def shAt (ax ay bx bY cx cy dx dy : Int) (i : Nat) (q : S49) : Bool := if i < 2 then decide (SgOn cx cy dx dy q.f0 q.f1) else decide (SgOn ax ay bx bY q.f0 q.f1)
def pNe (p q : S49) : Bool := !(p.f0 == q.f0) || (!(p.f1 == q.f1))
theorem fold_all {α : Type} (f : α → Bool) (z : α) (out : List α) (b : Bool) : (List.range' 0 out.length).foldl (fun b j => if b = true then f (out.getD j z) else false) b = (b && out.all f) := by
  have key : ∀ (d i : Nat) (b : Bool), i + d = out.length → (List.range' i d).foldl (fun b j => if b = true then f (out.getD j z) else false) b = (b && (out.drop i).all f) := by
    intro d
    induction d with
    | zero => intro i b h; rw [List.drop_of_length_le (by omega)]; simp
    | succ d ih =>
      intro i b h
      rw [List.range'_succ, List.foldl_cons, ih (i + 1) _ (by omega), List.drop_eq_getElem_cons (by omega : i < out.length), List.all_cons]
      have e : out.getD i z = out[i] := by rw [List.getD_eq_getElem?_getD, List.getElem?_eq_getElem (by omega)]; rfl
      rw [e]
      cases b <;> simp
  have := key out.length 0 b (by omega)
  rwa [List.drop_zero] at this
def shNext (ax ay bx bY cx cy dx dy : Int) (out P : List S49) (i : Nat) : List S49 :=
  if (shAt ax ay bx bY cx cy dx dy i (P.getD i z49) && out.all (fun q => pNe q (P.getD i z49))) = true then out ++ [P.getD i z49] else out
theorem tShStep (ax ay bx bY cx cy dx dy : Int) (out P : List S49) (i : Nat) (hP : P.length = 4) (ho : out.length ≤ 4) (hi : i < 4) (r : Int)
    (h : Told (fun k => spec_l5Shared.l0 k (shNext ax ay bx bY cx cy dx dy out P i) P ((i + 1 : Nat) : Int) ax ay bx bY cx cy dx dy) r) : Told (fun k => spec_l5Shared.l0 k out P (i : Int) ax ay bx bY cx cy dx dy) r := by
  have inner : ∀ b, b = shAt ax ay bx bY cx cy dx dy i (P.getD i z49) → Told (fun k => spec_l5Shared.l1 k out P (i : Int) b 0 ax ay bx bY cx cy dx dy) r := by
    intro b hb
    refine Told.up (n := out.length) (fun b j => if b = true then pNe (out.getD j z49) (P.getD i z49) else false) (fun k b j => spec_l5Shared.l1 k out P (i : Int) b j ax ay bx bY cx cy dx dy) (fun _ _ => True) (fun b j hj _ => ⟨trivial, fun hh => ?_⟩) out.length b 0 (by omega) trivial ?_
    · refine Told.step (fun k => ?_) hh
      simp only [spec_l5Shared.l1]
      rw [if_pos (by omega), Gen.w64s (by omega)]
      by_cases c : b = true
      · rw [if_pos c, if_pos (by omega), if_pos (by omega), if_pos (by omega), if_pos c]; rfl
      · rw [if_neg c, if_neg c]
    · refine Told.step (fun k => ?_) h
      simp only [spec_l5Shared.l1]
      rw [if_neg (by omega), Gen.w64s (by omega)]
      unfold shNext
      rw [fold_all (fun q => pNe q (P.getD i z49)), ← hb]
      split
      · rw [if_pos (by omega), if_pos (by omega), if_pos (by omega)]; rfl
      · rfl
  have j1 : ∀ b, b = shAt ax ay bx bY cx cy dx dy i (P.getD i z49) → Told (fun k => spec_l5Shared.j1 k out P (i : Int) b ax ay bx bY cx cy dx dy) r := fun b hb => Told.step (fun k => rfl) (inner b hb)
  by_cases c2 : i < 2
  · have e : shAt ax ay bx bY cx cy dx dy i (P.getD i z49) = decide (SgOn cx cy dx dy (P.getD i z49).f0 (P.getD i z49).f1) := by unfold shAt; rw [if_pos c2]
    refine Told.step (fun k => ?_) (j1 _ e.symm)
    simp only [spec_l5Shared.l0]
    rw [if_pos (by omega), if_pos (by omega), if_pos (by omega), if_pos (by omega), rdP, specIsOn]
    simp only [Option.bind_some]
    by_cases c : SgOn cx cy dx dy (P.getD i z49).f0 (P.getD i z49).f1
    · rw [if_pos (by simpa using c), decide_eq_true c]
    · rw [if_neg (by simpa using c), if_neg (by omega), decide_eq_false c]
  · have e : shAt ax ay bx bY cx cy dx dy i (P.getD i z49) = decide (SgOn ax ay bx bY (P.getD i z49).f0 (P.getD i z49).f1) := by unfold shAt; rw [if_neg c2]
    refine Told.step (fun k => ?_) (j1 _ e.symm)
    simp only [spec_l5Shared.l0]
    rw [if_pos (by omega), if_neg (by omega), if_pos (by omega), if_pos (by omega), if_pos (by omega), rdP, specIsOn]
    simp only [Option.bind_some]
theorem pt_ok {x y : Int} (h : Pt x y) : Geo.Ok ⟨x, y⟩ := h
theorem sg_ne {ax ay bx bY : Int} (h : Sg ax ay bx bY) : (⟨ax, ay⟩ : Geo.Pt) ≠ ⟨bx, bY⟩ := by intro e; injection e with e1 e2; exact h.2.2 ⟨e1, e2⟩
theorem sgOn_iff {ax ay bx bY px py : Int} (h1 : Sg ax ay bx bY) (h2 : Pt px py) : SgOn ax ay bx bY px py ↔ Geo.On ⟨ax, ay⟩ ⟨bx, bY⟩ ⟨px, py⟩ := ⟨fun h => h.2.2, fun h => ⟨h1, h2, h⟩⟩
theorem pNe_eq (a b c d : Int) : pNe ⟨a, b⟩ ⟨c, d⟩ = !decide ((⟨a, b⟩ : Geo.Pt) = ⟨c, d⟩) := by
  unfold pNe
  rw [Bool.eq_iff_iff]
  simp only [Bool.or_eq_true, Bool.not_eq_true', beq_eq_false_iff_ne, ne_eq, decide_eq_false_iff_not, Geo.Pt.mk.injEq]
  omega
theorem tShared (ax ay bx bY cx cy dx dy : Int) (h1 : Sg ax ay bx bY) (h2 : Sg cx cy dx dy) : Told (fun k => spec_l5Shared.f k ax ay bx bY cx cy dx dy) (Geo.nShared ⟨ax, ay⟩ ⟨bx, bY⟩ ⟨cx, cy⟩ ⟨dx, dy⟩ : Int) := by
  let P : List S49 := [⟨ax, ay⟩, ⟨bx, bY⟩, ⟨cx, cy⟩, ⟨dx, dy⟩]
  have hP : P.length = 4 := rfl
  refine Told.eq (M := fun k => spec_l5Shared.l0 k [] P ((0 : Nat) : Int) ax ay bx bY cx cy dx dy) (fun k => rfl) ?_
  have l1 : ∀ out i, out.length ≤ i → (shNext ax ay bx bY cx cy dx dy out P i).length ≤ i + 1 := by intro out i h; unfold shNext; split <;> (try simp) <;> omega
  have a0 := l1 [] 0 (by simp)
  have a1 := l1 _ 1 a0
  have a2 := l1 _ 2 a1
  refine tShStep _ _ _ _ _ _ _ _ _ _ _ hP (by simp) (by omega) _ (tShStep _ _ _ _ _ _ _ _ _ _ 1 hP (by omega) (by omega) _ (tShStep _ _ _ _ _ _ _ _ _ _ 2 hP (by omega) (by omega) _ (tShStep _ _ _ _ _ _ _ _ _ _ 3 hP (by omega) (by omega) _ (Told.stepr fun k => ?_))))
  simp only [spec_l5Shared.l0]
  rw [if_neg (by omega)]
  congr 1
  have o0 := sgOn_iff (px := ax) (py := ay) h2 h1.1
  have o1 := sgOn_iff (px := bx) (py := bY) h2 h1.2.1
  have o2 := sgOn_iff (px := cx) (py := cy) h1 h2.1
  have o3 := sgOn_iff (px := dx) (py := dy) h1 h2.2.1
  have n1 := sg_ne h1
  have n2 := sg_ne h2
  unfold Geo.nShared shNext shAt
  simp only [P, List.getD_cons_zero, List.getD_cons_succ, o0, o1, o2, o3, show (0 : Nat) < 2 from by omega, show (1 : Nat) < 2 from by omega, show ¬ (2 : Nat) < 2 from by omega, show ¬ (3 : Nat) < 2 from by omega, if_true, if_false]
  by_cases c0 : Geo.On ⟨cx, cy⟩ ⟨dx, dy⟩ ⟨ax, ay⟩ <;> by_cases c1 : Geo.On ⟨cx, cy⟩ ⟨dx, dy⟩ ⟨bx, bY⟩ <;> by_cases c2 : Geo.On ⟨ax, ay⟩ ⟨bx, bY⟩ ⟨cx, cy⟩ <;> by_cases c3 : Geo.On ⟨ax, ay⟩ ⟨bx, bY⟩ ⟨dx, dy⟩ <;>
    simp only [c0, c1, c2, c3, decide_true, decide_false, Bool.true_and, Bool.false_and, Bool.false_eq_true, List.all_nil, List.all_cons, List.nil_append, List.cons_append, pNe_eq, n1, n2, if_true, if_false, Bool.not_false, Bool.and_true, true_and, false_and, not_false_eq_true, List.length_nil, List.length_cons] <;>
    (repeat' split) <;> simp_all [pNe_eq] <;> grind
def howV (ax ay bx bY cx cy dx dy : Int) : Int := if Sg ax ay bx bY ∧ Sg cx cy dx dy then Geo.howI ⟨ax, ay⟩ ⟨bx, bY⟩ ⟨cx, cy⟩ ⟨dx, dy⟩ else 0
theorem howV_eq {ax ay bx bY cx cy dx dy : Int} (h1 : Sg ax ay bx bY) (h2 : Sg cx cy dx dy) : howV ax ay bx bY cx cy dx dy = Geo.howS ⟨ax, ay⟩ ⟨bx, bY⟩ ⟨cx, cy⟩ ⟨dx, dy⟩ := by
  rw [howV, if_pos ⟨h1, h2⟩]
  exact Geo.how_eq (pt_ok h1.1) (pt_ok h1.2.1) (pt_ok h2.1) (pt_ok h2.2.1) (sg_ne h1) (sg_ne h2)
theorem sgn_mul_bd (m n : Int) : wrap64 (Geo.sgn m * Geo.sgn n) = Geo.sgn m * Geo.sgn n := by
  have h1 : -1 ≤ Geo.sgn m ∧ Geo.sgn m ≤ 1 := by unfold Geo.sgn; split <;> (try split) <;> omega
  have h2 : -1 ≤ Geo.sgn n ∧ Geo.sgn n ≤ 1 := by unfold Geo.sgn; split <;> (try split) <;> omega
  have := Gen.mul_bd h1 h2
  exact Gen.w64 (by omega) (by omega)
theorem tSpecHow (ax ay bx bY cx cy dx dy : Int) : Told (fun k => spec_HowMeet.f k ax ay bx bY cx cy dx dy) (howV ax ay bx bY cx cy dx dy) := by
  have no : ¬ (Sg ax ay bx bY ∧ Sg cx cy dx dy) → Told (fun k => spec_HowMeet.j0 k true ax ay bx bY cx cy dx dy) (howV ax ay bx bY cx cy dx dy) := fun h => Told.stepr fun k => by simp only [spec_HowMeet.j0, if_true]; rw [howV, if_neg h]
  by_cases h1 : Sg ax ay bx bY
  · refine Told.bind (Told.of (specIsSegment ax ay bx bY)) (Told.ite_t (by simpa using h1) (Told.bind (Told.of (specIsSegment cx cy dx dy)) ?_))
    by_cases h2 : Sg cx cy dx dy
    · have e := howV_eq h1 h2
      unfold Geo.howS at e
      rw [decide_eq_true h2]
      have ap : ∀ b : Bool, (b = true ↔ Geo.Apart ⟨ax, ay⟩ ⟨bx, bY⟩ ⟨cx, cy⟩ ⟨dx, dy⟩) → Told (fun k => spec_HowMeet.j1 k b ax ay bx bY cx cy dx dy) (howV ax ay bx bY cx cy dx dy) := by
        intro b hb
        by_cases c : b = true
        · refine Told.stepr fun k => ?_
          simp only [spec_HowMeet.j1]
          rw [if_pos c, e, if_pos (hb.1 c)]
        · rw [if_neg (fun h => c (hb.2 h))] at e
          refine Told.step (fun k => by simp only [spec_HowMeet.j1]; rw [if_neg c]) (Told.bind (tShared ax ay bx bY cx cy dx dy h1 h2) ?_)
          by_cases n0 : Geo.nShared ⟨ax, ay⟩ ⟨bx, bY⟩ ⟨cx, cy⟩ ⟨dx, dy⟩ = 0
          · rw [if_pos n0] at e
            refine Told.ite_t (by omega) (Told.bind (tSpecSide ax ay bx bY cx cy h1.1 h1.2.1 h2.1) (Told.bind (tSpecSide ax ay bx bY dx dy h1.1 h1.2.1 h2.2.1) ?_))
            rw [sgn_mul_bd]
            by_cases p1 : Geo.sgn (crossZ ax ay bx bY cx cy) * Geo.sgn (crossZ ax ay bx bY dx dy) < 0
            · refine Told.ite_t p1 (Told.bind (tSpecSide cx cy dx dy ax ay h2.1 h2.2.1 h1.1) (Told.bind (tSpecSide cx cy dx dy bx bY h2.1 h2.2.1 h1.2.1) ?_))
              rw [sgn_mul_bd]
              by_cases p2 : Geo.sgn (crossZ cx cy dx dy ax ay) * Geo.sgn (crossZ cx cy dx dy bx bY) < 0
              · rw [if_pos ⟨p1, p2⟩] at e; rw [e]; exact Told.ite_t p2 (Told.ret _)
              · rw [if_neg (fun h => p2 h.2)] at e; rw [e]; exact Told.ite_f p2 (Told.ret _)
            · rw [if_neg (fun h => p1 h.1)] at e; rw [e]; exact Told.ite_f p1 (Told.ret _)
          · rw [if_neg n0] at e
            refine Told.ite_f (by omega) ?_
            by_cases n1 : Geo.nShared ⟨ax, ay⟩ ⟨bx, bY⟩ ⟨cx, cy⟩ ⟨dx, dy⟩ = 1
            · rw [if_pos n1] at e; rw [e]; exact Told.ite_t (by omega) (Told.ret _)
            · rw [if_neg n1] at e; rw [e]; exact Told.ite_f (by omega) (Told.ret _)
      have ad : Geo.Apart ⟨ax, ay⟩ ⟨bx, bY⟩ ⟨cx, cy⟩ ⟨dx, dy⟩ ↔ (max ax bx < min cx dx ∨ max cx dx < min ax bx ∨ max ay bY < min cy dy ∨ max cy dy < min ay bY) := Iff.rfl
      rw [ad] at ap
      refine Told.step (M := fun k => if max ax bx < min cx dx then spec_HowMeet.j1 k true ax ay bx bY cx cy dx dy else if max cx dx < min ax bx then spec_HowMeet.j1 k true ax ay bx bY cx cy dx dy else if max ay bY < min cy dy then spec_HowMeet.j1 k true ax ay bx bY cx cy dx dy else spec_HowMeet.j1 k (decide (max cy dy < min ay bY)) ax ay bx bY cx cy dx dy) (fun k => ?_) ?_
      · simp only [spec_HowMeet.j0, Bool.not_true, Bool.false_eq_true, if_false, specMin', specMax', Option.bind_some]
      by_cases c1 : max ax bx < min cx dx
      · exact Told.ite_t c1 (ap true (by simp [c1]))
      refine Told.ite_f c1 ?_
      by_cases c2 : max cx dx < min ax bx
      · exact Told.ite_t c2 (ap true (by simp [c2]))
      refine Told.ite_f c2 ?_
      by_cases c3 : max ay bY < min cy dy
      · exact Told.ite_t c3 (ap true (by simp [c3]))
      exact Told.ite_f c3 (ap _ (by rw [decide_eq_true_eq]; omega))
    · rw [decide_eq_false h2]; exact no (fun h => h2 h.2)
  · exact Told.bind (Told.of (specIsSegment ax ay bx bY)) (Told.ite_f (by simpa using h1) (no (fun h => h1 h.1)))
theorem implBefore {px py qx qy : Int} (hp : Pt px py) (hq : Pt qx qy) : impl_BeforePoint.f px py qx qy = some (decide (Geo.key ⟨px, py⟩ < Geo.key ⟨qx, qy⟩)) := by
  obtain ⟨a1, a2, a3, a4⟩ := hp; obtain ⟨b1, b2, b3, b4⟩ := hq
  unfold impl_BeforePoint.f Geo.key
  show _ = some (decide (1000 * py + px < 1000 * qy + qx))
  split
  · rw [decide_eq_true (by omega)]
  · split
    · congr 1; rw [decide_eq_decide]; omega
    · rw [decide_eq_false (by omega)]
def gP (p : Geo.Pt) : Prop := Pt p.x p.y
theorem gP_lo {a b : Geo.Pt} (ha : gP a) (hb : gP b) : gP (Geo.lowK a b) := by unfold Geo.lowK; split <;> assumption
theorem gP_hi {a b : Geo.Pt} (ha : gP a) (hb : gP b) : gP (Geo.highK a b) := by unfold Geo.highK; split <;> assumption
theorem implForward {ax ay bx bY : Int} (ha : Pt ax ay) (hb : Pt bx bY) : impl_forward.f ax ay bx bY = some ((Geo.lowK ⟨ax, ay⟩ ⟨bx, bY⟩).x, (Geo.lowK ⟨ax, ay⟩ ⟨bx, bY⟩).y, (Geo.highK ⟨ax, ay⟩ ⟨bx, bY⟩).x, (Geo.highK ⟨ax, ay⟩ ⟨bx, bY⟩).y) := by
  unfold impl_forward.f
  rw [implBefore hb ha]
  simp only [Option.bind_some, decide_eq_true_eq, impl_TurnSegment.f]
  unfold Geo.lowK Geo.highK
  split <;> rfl
theorem tImplHow (ax ay bx bY cx cy dx dy : Int) : Told (fun k => impl_HowMeet.f k ax ay bx bY cx cy dx dy) (howV ax ay bx bY cx cy dx dy) := by
  have no : ¬ (Sg ax ay bx bY ∧ Sg cx cy dx dy) → Told (fun k => impl_HowMeet.j0 k true ax ay bx bY cx cy dx dy) (howV ax ay bx bY cx cy dx dy) := fun h => Told.stepr fun k => by simp only [impl_HowMeet.j0, if_true]; rw [howV, if_neg h]
  by_cases h1 : Sg ax ay bx bY
  · refine Told.bind (Told.of (implIsSegment ax ay bx bY)) (Told.ite_t (by simpa using h1) (Told.bind (Told.of (implIsSegment cx cy dx dy)) ?_))
    by_cases h2 : Sg cx cy dx dy
    · have e : howV ax ay bx bY cx cy dx dy = Geo.howI ⟨ax, ay⟩ ⟨bx, bY⟩ ⟨cx, cy⟩ ⟨dx, dy⟩ := by rw [howV, if_pos ⟨h1, h2⟩]
      have ha := h1.1; have hb := h1.2.1; have hc := h2.1; have hd := h2.2.1
      have sd : ∀ {ax ay bx bY px py : Int}, Pt ax ay → Pt bx bY → Pt px py → sideV ax ay bx bY px py = Geo.sgn (crossZ ax ay bx bY px py) := fun p q r => by unfold sideV; exact if_pos ⟨p, q, r⟩
      unfold Geo.howI at e
      rw [decide_eq_true h2]
      refine Told.step (M := fun k => (impl_SideOf.f k ax ay bx bY cx cy).bind fun t1 => (impl_SideOf.f k ax ay bx bY dx dy).bind fun t2 => if t1 = 0 then impl_HowMeet.j1 k t1 t2 (t2 == 0) ax ay bx bY cx cy dx dy else impl_HowMeet.j1 k t1 t2 false ax ay bx bY cx cy dx dy) (fun k => by simp only [impl_HowMeet.j0, Bool.not_true, Bool.false_eq_true, if_false]) (Told.bind (tImplSide ax ay bx bY cx cy) (Told.bind (tImplSide ax ay bx bY dx dy) ?_))
      rw [sd ha hb hc, sd ha hb hd]
      have on4 : ∀ b : Bool, ¬ (crossZ ax ay bx bY cx cy = 0 ∧ crossZ ax ay bx bY dx dy = 0) → (b = true ↔ Geo.Proper ⟨ax, ay⟩ ⟨bx, bY⟩ ⟨cx, cy⟩ ⟨dx, dy⟩) → Told (fun k => impl_HowMeet.j4 k b ax ay bx bY cx cy dx dy) (howV ax ay bx bY cx cy dx dy) := by
        intro b hn hb4
        rw [if_neg (show ¬ (Geo.cross ⟨ax, ay⟩ ⟨bx, bY⟩ ⟨cx, cy⟩ = 0 ∧ Geo.cross ⟨ax, ay⟩ ⟨bx, bY⟩ ⟨dx, dy⟩ = 0) from hn)] at e
        by_cases c : b = true
        · rw [if_pos (hb4.1 c)] at e
          refine Told.stepr fun k => ?_
          simp only [impl_HowMeet.j4]
          rw [if_pos c, e]
        · rw [if_neg (fun h => c (hb4.2 h))] at e
          have o0 := sgOn_iff (px := cx) (py := cy) h1 h2.1
          have o1 := sgOn_iff (px := dx) (py := dy) h1 h2.2.1
          have o2 := sgOn_iff (px := ax) (py := ay) h2 h1.1
          have o3 := sgOn_iff (px := bx) (py := bY) h2 h1.2.1
          simp only [← o0, ← o1, ← o2, ← o3] at e
          refine Told.step (fun k => by simp only [impl_HowMeet.j4]; rw [if_neg c]) (Told.bind (tImplIsOn ax ay bx bY cx cy) ?_)
          by_cases d0 : SgOn ax ay bx bY cx cy
          · rw [if_pos (.inl d0)] at e; rw [e]; exact Told.ite_t (by simpa using d0) (Told.ret _)
          refine Told.ite_f (by simpa using d0) (Told.bind (tImplIsOn ax ay bx bY dx dy) ?_)
          by_cases d1 : SgOn ax ay bx bY dx dy
          · rw [if_pos (.inr (.inl d1))] at e; rw [e]; exact Told.ite_t (by simpa using d1) (Told.ret _)
          refine Told.ite_f (by simpa using d1) (Told.bind (tImplIsOn cx cy dx dy ax ay) ?_)
          by_cases d2 : SgOn cx cy dx dy ax ay
          · rw [if_pos (.inr (.inr (.inl d2)))] at e; rw [e]; exact Told.ite_t (by simpa using d2) (Told.ret _)
          refine Told.ite_f (by simpa using d2) (Told.bind (tImplIsOn cx cy dx dy bx bY) ?_)
          by_cases d3 : SgOn cx cy dx dy bx bY
          · rw [if_pos (.inr (.inr (.inr d3)))] at e; rw [e]; exact Told.ite_t (by simpa using d3) (Told.ret _)
          rw [if_neg (fun h => by rcases h with h | h | h | h <;> contradiction)] at e
          rw [e]
          exact Told.ite_f (by simpa using d3) (Told.ret _)
      have off : ∀ b : Bool, b = false → ¬ (crossZ ax ay bx bY cx cy = 0 ∧ crossZ ax ay bx bY dx dy = 0) → Told (fun k => impl_HowMeet.j1 k (Geo.sgn (crossZ ax ay bx bY cx cy)) (Geo.sgn (crossZ ax ay bx bY dx dy)) b ax ay bx bY cx cy dx dy) (howV ax ay bx bY cx cy dx dy) := by
        intro b hbf hn
        subst hbf
        refine Told.step (fun k => by simp only [impl_HowMeet.j1, Bool.false_eq_true, if_false]; rw [sgn_mul_bd]) ?_
        by_cases p1 : Geo.sgn (crossZ ax ay bx bY cx cy) * Geo.sgn (crossZ ax ay bx bY dx dy) < 0
        · refine Told.ite_t p1 (Told.bind (tImplSide cx cy dx dy ax ay) (Told.bind (tImplSide cx cy dx dy bx bY) ?_))
          rw [sd hc hd ha, sd hc hd hb, sgn_mul_bd]
          refine on4 _ hn ?_
          rw [decide_eq_true_eq]
          exact ⟨fun h => ⟨p1, h⟩, fun h => h.2⟩
        · exact Told.ite_f p1 (on4 _ hn ⟨fun h => (by cases h), fun h => absurd h.1 p1⟩)
      by_cases z1 : crossZ ax ay bx bY cx cy = 0
      · have s1 : Geo.sgn (crossZ ax ay bx bY cx cy) = 0 := Geo.sgn_eq_zero.2 z1
        refine Told.ite_t s1 ?_
        by_cases z2 : crossZ ax ay bx bY dx dy = 0
        · have s2 : Geo.sgn (crossZ ax ay bx bY dx dy) = 0 := Geo.sgn_eq_zero.2 z2
          rw [s1, s2]
          rw [if_pos (show Geo.cross ⟨ax, ay⟩ ⟨bx, bY⟩ ⟨cx, cy⟩ = 0 ∧ Geo.cross ⟨ax, ay⟩ ⟨bx, bY⟩ ⟨dx, dy⟩ = 0 from ⟨z1, z2⟩)] at e
          have ga : gP ⟨ax, ay⟩ := ha
          have gb : gP ⟨bx, bY⟩ := hb
          have gc : gP ⟨cx, cy⟩ := hc
          have gd : gP ⟨dx, dy⟩ := hd
          have l1 := gP_lo ga gb; have l2 := gP_lo gc gd; have i1 := gP_hi ga gb; have i2 := gP_hi gc gd
          have j3 : ∀ s t : Geo.Pt, gP s → gP t → s = Geo.lo2 ⟨ax, ay⟩ ⟨bx, bY⟩ ⟨cx, cy⟩ ⟨dx, dy⟩ → t = Geo.hi2 ⟨ax, ay⟩ ⟨bx, bY⟩ ⟨cx, cy⟩ ⟨dx, dy⟩ → Told (fun k => impl_HowMeet.j3 k s.x s.y t.x t.y) (howV ax ay bx bY cx cy dx dy) := by
            intro s t hs ht es et
            rw [← es, ← et] at e
            refine Told.stepr fun k => ?_
            simp only [impl_HowMeet.j3]
            rw [implBefore ht hs]
            simp only [Option.bind_some, decide_eq_true_eq]
            have e1 : (⟨t.x, t.y⟩ : Geo.Pt) = t := rfl
            have e2 : (⟨s.x, s.y⟩ : Geo.Pt) = s := rfl
            rw [e1, e2, e]
            split
            · rfl
            · by_cases q : s = t
              · subst q; simp
              · rw [if_neg q, if_neg]
                intro h
                simp only [Bool.and_eq_true, beq_iff_eq] at h
                apply q
                cases s; cases t; simp_all
          have j2 : ∀ s : Geo.Pt, gP s → s = Geo.lo2 ⟨ax, ay⟩ ⟨bx, bY⟩ ⟨cx, cy⟩ ⟨dx, dy⟩ → Told (fun k => impl_HowMeet.j2 k (Geo.lowK ⟨cx, cy⟩ ⟨dx, dy⟩).x (Geo.lowK ⟨cx, cy⟩ ⟨dx, dy⟩).y (Geo.highK ⟨cx, cy⟩ ⟨dx, dy⟩).x (Geo.highK ⟨cx, cy⟩ ⟨dx, dy⟩).y s.x s.y (Geo.highK ⟨ax, ay⟩ ⟨bx, bY⟩).x (Geo.highK ⟨ax, ay⟩ ⟨bx, bY⟩).y) (howV ax ay bx bY cx cy dx dy) := by
            intro s hs es
            refine Told.step (M := fun k => if Geo.key (Geo.highK ⟨cx, cy⟩ ⟨dx, dy⟩) < Geo.key (Geo.highK ⟨ax, ay⟩ ⟨bx, bY⟩) then impl_HowMeet.j3 k s.x s.y (Geo.highK ⟨cx, cy⟩ ⟨dx, dy⟩).x (Geo.highK ⟨cx, cy⟩ ⟨dx, dy⟩).y else impl_HowMeet.j3 k s.x s.y (Geo.highK ⟨ax, ay⟩ ⟨bx, bY⟩).x (Geo.highK ⟨ax, ay⟩ ⟨bx, bY⟩).y) (fun k => ?_) ?_
            · simp only [impl_HowMeet.j2]
              rw [implBefore i2 i1]
              simp only [Option.bind_some, decide_eq_true_eq]
            · by_cases q : Geo.key (Geo.highK ⟨cx, cy⟩ ⟨dx, dy⟩) < Geo.key (Geo.highK ⟨ax, ay⟩ ⟨bx, bY⟩)
              · exact Told.ite_t q (j3 s _ hs i2 es (by unfold Geo.hi2; rw [if_pos q]))
              · exact Told.ite_f q (j3 s _ hs i1 es (by unfold Geo.hi2; rw [if_neg q]))
          refine Told.step (M := fun k => if Geo.key (Geo.lowK ⟨ax, ay⟩ ⟨bx, bY⟩) < Geo.key (Geo.lowK ⟨cx, cy⟩ ⟨dx, dy⟩) then impl_HowMeet.j2 k (Geo.lowK ⟨cx, cy⟩ ⟨dx, dy⟩).x (Geo.lowK ⟨cx, cy⟩ ⟨dx, dy⟩).y (Geo.highK ⟨cx, cy⟩ ⟨dx, dy⟩).x (Geo.highK ⟨cx, cy⟩ ⟨dx, dy⟩).y (Geo.lowK ⟨cx, cy⟩ ⟨dx, dy⟩).x (Geo.lowK ⟨cx, cy⟩ ⟨dx, dy⟩).y (Geo.highK ⟨ax, ay⟩ ⟨bx, bY⟩).x (Geo.highK ⟨ax, ay⟩ ⟨bx, bY⟩).y else impl_HowMeet.j2 k (Geo.lowK ⟨cx, cy⟩ ⟨dx, dy⟩).x (Geo.lowK ⟨cx, cy⟩ ⟨dx, dy⟩).y (Geo.highK ⟨cx, cy⟩ ⟨dx, dy⟩).x (Geo.highK ⟨cx, cy⟩ ⟨dx, dy⟩).y (Geo.lowK ⟨ax, ay⟩ ⟨bx, bY⟩).x (Geo.lowK ⟨ax, ay⟩ ⟨bx, bY⟩).y (Geo.highK ⟨ax, ay⟩ ⟨bx, bY⟩).x (Geo.highK ⟨ax, ay⟩ ⟨bx, bY⟩).y) (fun k => ?_) ?_
          · simp only [impl_HowMeet.j1, beq_self_eq_true, if_true]
            rw [implForward ha hb, implForward hc hd]
            simp only [Option.bind_some]
            rw [implBefore l1 l2]
            simp only [Option.bind_some, decide_eq_true_eq]
          · by_cases q : Geo.key (Geo.lowK ⟨ax, ay⟩ ⟨bx, bY⟩) < Geo.key (Geo.lowK ⟨cx, cy⟩ ⟨dx, dy⟩)
            · exact Told.ite_t q (j2 _ l2 (by unfold Geo.lo2; rw [if_pos q]))
            · exact Told.ite_f q (j2 _ l1 (by unfold Geo.lo2; rw [if_neg q]))
        · exact off _ (by simpa using fun h => z2 (Geo.sgn_eq_zero.1 h)) (fun h => z2 h.2)
      · exact Told.ite_f (fun h => z1 (Geo.sgn_eq_zero.1 h)) (off _ rfl (fun h => z1 h.1))
    · rw [decide_eq_false h2]; exact no (fun h => h2 h.2)
  · exact Told.bind (Told.of (implIsSegment ax ay bx bY)) (Told.ite_f (by simpa using h1) (no (fun h => h1 h.1)))
theorem rdS (l : List S111) (i : Nat) : rd_T111 l (i : Int) = l.getD i z111 := rfl
def ringAt (l : List S49) (i : Nat) : S111 := ⟨l.getD i z49, l.getD ((i + 1) % l.length) z49⟩
def ringSegs (l : List S49) : List S111 := (List.range' 0 l.length).map (ringAt l)
theorem ringSegs_len (l : List S49) : (ringSegs l).length = l.length := by simp [ringSegs]
theorem ringSegs_at (l : List S49) {i : Nat} (h : i < l.length) : (ringSegs l).getD i z111 = ringAt l i := by
  unfold ringSegs
  rw [List.getD_eq_getElem?_getD, List.getElem?_map, List.getElem?_range' h]
  simp
theorem foldl_push' {α β : Type} (g : α → β) (x : List α) : ∀ s : List β, x.foldl (fun s i => s ++ [g i]) s = s ++ x.map g := by
  induction x with
  | nil => intro s; simp
  | cons a x ih => intro s; rw [List.foldl_cons, ih]; simp
theorem tmod_n {i n : Nat} (h : n ≤ 1048576) (hi : i < n) : Int.tmod (wrap64 ((i : Int) + 1)) (n : Int) = (((i + 1) % n : Nat) : Int) := by
  rw [Gen.w64s (by omega)]; rfl
theorem tSpecL7 (l : List S49) (hl : l.length ≤ 1048576) : Told (fun k => spec_l7Segments.f k l) (ringSegs l) := by
  refine Told.up (n := l.length) (fun s i => s ++ [ringAt l i]) (fun k s i => spec_l7Segments.l0 k l s i) (fun s i => s.length = i) (fun s i hi hv => ⟨by simp; omega, fun hh => ?_⟩) l.length [] 0 (by omega) rfl ?_
  · refine Told.step (M := fun k => spec_l7Segments.l0 k l (s ++ [ringAt l i]) ((i + 1 : Nat) : Int)) (fun k => ?_) hh
    simp only [spec_l7Segments.l0]
    have hm : (i + 1) % l.length < l.length := Nat.mod_lt _ (by omega)
    rw [if_pos (by omega), if_pos (by omega), if_neg (by omega), tmod_n hl hi, if_pos (by omega), if_pos (by omega), if_pos (by omega), Gen.w64s (by omega), rdP, rdP]
    rfl
  · refine Told.stepr fun k => ?_
    simp only [spec_l7Segments.l0]
    rw [if_neg (by omega), foldl_push']
    rfl
def wantAt (n i k : Nat) : Int := if k + 1 = i ∨ (k = 0 ∧ i + 1 = n) then 1 else 0
def howAt (l : List S49) (i k : Nat) : Int := howV (ringAt l i).f0.f0 (ringAt l i).f0.f1 (ringAt l i).f1.f0 (ringAt l i).f1.f1 (ringAt l k).f0.f0 (ringAt l k).f0.f1 (ringAt l k).f1.f0 (ringAt l k).f1.f1
def SgAt (l : List S49) (i : Nat) : Prop := Sg (ringAt l i).f0.f0 (ringAt l i).f0.f1 (ringAt l i).f1.f0 (ringAt l i).f1.f1
instance (l : List S49) (i : Nat) : Decidable (SgAt l i) := by unfold SgAt; infer_instance
def chkRing (l : List S49) (i : Nat) : Bool := decide (SgAt l i ∧ ∀ k, k < i → howAt l i k = wantAt l.length i k)
def Rg (l : List S49) : Prop := (3 ≤ l.length ∧ l.length ≤ 10) ∧ ∀ i, i < l.length → chkRing l i = true
instance (l : List S49) : Decidable (Rg l) := by unfold Rg; infer_instance
theorem chk_iff (l : List S49) (i : Nat) : chkRing l i = true ↔ SgAt l i ∧ ∀ k, k < i → howAt l i k = wantAt l.length i k := by unfold chkRing; rw [decide_eq_true_eq]
theorem tSpecIsRing (l : List S49) (hl : l.length ≤ 1048576) : Told (fun k => spec_IsRing.f k l) (decide (Rg l)) := by
  refine Told.bind (Told.of (specIn _ _ _)) ?_
  by_cases h3 : 3 ≤ l.length ∧ l.length ≤ 10
  · refine Told.ite_t (by rw [decide_eq_true_eq]; omega) (Told.bind (tSpecL7 l hl) ?_)
    refine Told.scan (n := l.length) false (fun i => chkRing l i = true) (fun k i => spec_IsRing.l0 k (ringSegs l) i) (fun i hi h1 h2 => ?_) (fun h => Told.stepr fun k => ?_) (fun h => decide_eq_false fun hh => h hh.2)
    · refine Told.step (M := fun k => if SgAt l i then spec_IsRing.l1 k (ringSegs l) (i : Int) 0 else some false) (fun k => ?_) ?_
      · simp only [spec_IsRing.l0]
        rw [if_pos (by rw [ringSegs_len]; omega), if_pos (by omega), specIsSegment, rdS, ringSegs_at l hi]
        simp only [Option.bind_some, decide_eq_true_eq]
        rfl
      by_cases c : SgAt l i
      · refine Told.ite_t c ?_
        refine Told.scan (n := i) false (fun k => howAt l i k = wantAt l.length i k) (fun k j => spec_IsRing.l1 k (ringSegs l) (i : Int) j) (fun j hj g1 g2 => ?_) (fun h => ?_) (fun h => h2 fun hh => h ((chk_iff l i).1 hh).2)
        · have st : ∀ b : Bool, (b = true ↔ (j + 1 = i ∨ (j = 0 ∧ i + 1 = l.length))) → Told (fun k => spec_IsRing.j2 k (ringSegs l) (i : Int) (j : Int) 0 b) (decide (Rg l)) := by
            intro b hb
            refine Told.step (M := fun k => (spec_HowMeet.f k (ringAt l i).f0.f0 (ringAt l i).f0.f1 (ringAt l i).f1.f0 (ringAt l i).f1.f1 (ringAt l j).f0.f0 (ringAt l j).f0.f1 (ringAt l j).f1.f0 (ringAt l j).f1.f1).bind fun t => if t = wantAt l.length i j then spec_IsRing.l1 k (ringSegs l) (i : Int) ((j + 1 : Nat) : Int) else some false) (fun k => ?_) (Told.bind (tSpecHow _ _ _ _ _ _ _ _) ?_)
            · simp only [spec_IsRing.j2]
              have q1 : (i : Int) < ((ringSegs l).length : Int) := by rw [ringSegs_len]; omega
              have q2 : (j : Int) < ((ringSegs l).length : Int) := by rw [ringSegs_len]; omega
              have q3 : (0 : Int) ≤ (i : Int) := by omega
              have q4 : (0 : Int) ≤ (j : Int) := by omega
              unfold wantAt
              by_cases c : b = true
              · rw [if_pos c, if_pos q3, if_pos q1, if_pos q4, if_pos q2, Gen.w64s (by omega), rdS, rdS, ringSegs_at l hi, ringSegs_at l (by omega), if_pos (hb.1 c)]
              · rw [if_neg c, if_pos q3, if_pos q1, if_pos q4, if_pos q2, Gen.w64s (by omega), rdS, rdS, ringSegs_at l hi, ringSegs_at l (by omega), if_neg (fun h => c (hb.2 h))]
            · by_cases c : howAt l i j = wantAt l.length i j
              · exact Told.ite_t c (g1 c)
              · rw [g2 c]; exact Told.ite_f c (Told.ret _)
          by_cases e1 : j + 1 = i
          · refine Told.step (fun k => ?_) (st true (by simp [e1]))
            simp only [spec_IsRing.l1]
            rw [if_pos (by omega), Gen.w64s (by omega), if_pos (by omega)]
          · by_cases e2 : j = 0
            · refine Told.step (fun k => ?_) (st ((wrap64 ((i : Int) + 1)) == ((ringSegs l).length : Int)) ?_)
              · simp only [spec_IsRing.l1]
                rw [if_pos (by omega), Gen.w64s (by omega), if_neg (by omega), if_pos (by omega)]
              · rw [beq_iff_eq, Gen.w64s (by omega), ringSegs_len]; omega
            · refine Told.step (fun k => ?_) (st false ?_)
              · simp only [spec_IsRing.l1]
                rw [if_pos (by omega), Gen.w64s (by omega), if_neg (by omega), if_neg (by omega)]
              · constructor
                · intro h; cases h
                · intro h; omega
        · refine Told.step (fun k => ?_) (h1 ((chk_iff l i).2 ⟨c, h⟩))
          simp only [spec_IsRing.l1]
          rw [if_neg (by omega), Gen.w64s (by omega)]
      · rw [h2 (fun hh => c ((chk_iff l i).1 hh).1)]
        exact Told.ite_f c (Told.ret _)
    · simp only [spec_IsRing.l0]
      rw [if_neg (by rw [ringSegs_len]; omega), decide_eq_true (show Rg l from ⟨h3, h⟩)]
  · rw [decide_eq_false (fun hh : Rg l => h3 hh.1)]
    exact Told.ite_f (by rw [decide_eq_true_eq]; omega) (Told.ret _)
theorem rg_pt {l : List S49} (h : Rg l) {i : Nat} (hi : i < l.length) : SgAt l i := ((chk_iff l i).1 (h.2 i hi)).1
theorem tImplAround (l : List S49) (hl : l.length ≤ 1048576) : Told (fun k => impl_around.f k l) (ringSegs l) := by
  refine Told.up (n := l.length) (fun s i => s ++ [ringAt l i]) (fun k s i => impl_around.l0 k l s l (l.length : Int) i) (fun s i => s.length = i) (fun s i hi hv => ⟨by simp; omega, fun hh => ?_⟩) l.length [] 0 (by omega) rfl ?_
  · refine Told.step (M := fun k => impl_around.l0 k l (s ++ [ringAt l i]) l (l.length : Int) ((i + 1 : Nat) : Int)) (fun k => ?_) hh
    simp only [impl_around.l0]
    have hm : (i + 1) % l.length < l.length := Nat.mod_lt _ (by omega)
    rw [if_pos (by omega), if_pos (by omega), if_pos (by omega), if_neg (by omega), tmod_n hl hi, if_pos (by omega), if_pos (by omega), if_pos (by omega), Gen.w64s (by omega), rdP, rdP]
    rfl
  · refine Told.stepr fun k => ?_
    simp only [impl_around.l0]
    rw [if_neg (by omega), foldl_push']
    rfl
theorem tImplIsRing (l : List S49) (hl : l.length ≤ 1048576) : Told (fun k => impl_IsRing.f k l) (decide (Rg l)) := by
  by_cases h3 : 3 ≤ l.length ∧ l.length ≤ 10
  · refine Told.ite_f (by omega) ?_
    refine Told.step (fun k => by simp only [impl_IsRing.j0]; rw [if_neg (by rw [decide_eq_true_eq]; omega)]) (Told.bind (tImplAround l hl) ?_)
    rw [ringSegs_len]
    refine Told.scan (n := l.length) false (fun i => chkRing l i = true) (fun k i => impl_IsRing.l0 k (ringSegs l) (l.length : Int) i) (fun i hi h1 h2 => ?_) (fun h => Told.stepr fun k => ?_) (fun h => decide_eq_false fun hh => h hh.2)
    · refine Told.step (M := fun k => if SgAt l i then impl_IsRing.l1 k (ringSegs l) (i : Int) (l.length : Int) (i : Int) (i : Int) 0 else some false) (fun k => ?_) ?_
      · simp only [impl_IsRing.l0]
        rw [if_pos (by omega), if_pos (by omega), if_pos (by rw [ringSegs_len]; omega), implIsSegment, rdS, ringSegs_at l hi]
        simp only [Option.bind_some, decide_eq_true_eq]
        rfl
      by_cases c : SgAt l i
      · refine Told.ite_t c ?_
        refine Told.scan (n := i) false (fun k => howAt l i k = wantAt l.length i k) (fun k j => impl_IsRing.l1 k (ringSegs l) (i : Int) (l.length : Int) (i : Int) (i : Int) j) (fun j hj g1 g2 => ?_) (fun h => ?_) (fun h => h2 fun hh => h ((chk_iff l i).1 hh).2)
        · have st : ∀ b : Bool, (b = true ↔ (j + 1 = i ∨ (j = 0 ∧ i + 1 = l.length))) → Told (fun k => impl_IsRing.j3 k (ringSegs l) (i : Int) (j : Int) 0 (l.length : Int) (i : Int) (i : Int) (j : Int) b) (decide (Rg l)) := by
            intro b hb
            refine Told.step (M := fun k => (impl_HowMeet.f k (ringAt l i).f0.f0 (ringAt l i).f0.f1 (ringAt l i).f1.f0 (ringAt l i).f1.f1 (ringAt l j).f0.f0 (ringAt l j).f0.f1 (ringAt l j).f1.f0 (ringAt l j).f1.f1).bind fun t => if t = wantAt l.length i j then impl_IsRing.l1 k (ringSegs l) (i : Int) (l.length : Int) (i : Int) (i : Int) ((j + 1 : Nat) : Int) else some false) (fun k => ?_) (Told.bind (tImplHow _ _ _ _ _ _ _ _) ?_)
            · simp only [impl_IsRing.j3]
              have q1 : (i : Int) < ((ringSegs l).length : Int) := by rw [ringSegs_len]; omega
              have q2 : (j : Int) < ((ringSegs l).length : Int) := by rw [ringSegs_len]; omega
              have q3 : (0 : Int) ≤ (i : Int) := by omega
              have q4 : (0 : Int) ≤ (j : Int) := by omega
              unfold wantAt
              by_cases c : b = true
              · rw [if_pos c, if_pos q3, if_pos q1, if_pos q4, if_pos q2, Gen.w64s (by omega), rdS, rdS, ringSegs_at l hi, ringSegs_at l (by omega), if_pos (hb.1 c)]
              · rw [if_neg c, if_pos q3, if_pos q1, if_pos q4, if_pos q2, Gen.w64s (by omega), rdS, rdS, ringSegs_at l hi, ringSegs_at l (by omega), if_neg (fun h => c (hb.2 h))]
            · by_cases c : howAt l i j = wantAt l.length i j
              · exact Told.ite_t c (g1 c)
              · rw [g2 c]; exact Told.ite_f c (Told.ret _)
          have e0 : wrap64 ((i : Int) - 1) = (i : Int) - 1 := Gen.w64 (by omega) (by omega)
          by_cases e1 : j + 1 = i
          · refine Told.step (fun k => ?_) (st true (by simp [e1]))
            simp only [impl_IsRing.l1]
            rw [if_pos (by omega), e0, if_pos (by omega)]
          · by_cases e2 : j = 0
            · refine Told.step (fun k => ?_) (st ((i : Int) == (wrap64 (((ringSegs l).length : Int) - 1))) ?_)
              · simp only [impl_IsRing.l1]
                rw [if_pos (by omega), e0, if_neg (by omega), if_pos (by omega)]
              · rw [beq_iff_eq, ringSegs_len, Gen.w64 (by omega) (by omega)]; omega
            · refine Told.step (fun k => ?_) (st false ?_)
              · simp only [impl_IsRing.l1]
                rw [if_pos (by omega), e0, if_neg (by omega), if_neg (by omega)]
              · constructor
                · intro h; cases h
                · intro h; omega
        · refine Told.step (fun k => ?_) (h1 ((chk_iff l i).2 ⟨c, h⟩))
          simp only [impl_IsRing.l1]
          rw [if_neg (by omega), Gen.w64s (by omega)]
      · rw [h2 (fun hh => c ((chk_iff l i).1 hh).1)]
        exact Told.ite_f c (Told.ret _)
    · simp only [impl_IsRing.l0]
      rw [if_neg (by omega), decide_eq_true (show Rg l from ⟨h3, h⟩)]
  · rw [decide_eq_false (fun hh : Rg l => h3 hh.1)]
    by_cases h : l.length < 3
    · exact Told.ite_t (by omega) (Told.stepr fun k => by simp only [impl_IsRing.j0, if_true])
    · exact Told.ite_f (by omega) (Told.stepr fun k => by simp only [impl_IsRing.j0]; rw [if_pos (by rw [decide_eq_true_eq]; omega)])
theorem tImplRingSegments (l : List S49) (hl : l.length ≤ 1048576) : Told (fun k => impl_RingSegments.f k l) (if Rg l then ringSegs l else []) := by
  refine Told.bind (tImplIsRing l hl) ?_
  by_cases h : Rg l
  · rw [if_pos h]; exact Told.ite_t (by simpa using h) (Told.bind (tImplAround l hl) (Told.ret _))
  · rw [if_neg h]; exact Told.ite_f (by simpa using h) (Told.ret _)
def termZ (l : List S49) (i : Nat) : Int := (ringAt l i).f0.f0 * (ringAt l i).f1.f1 - (ringAt l i).f0.f1 * (ringAt l i).f1.f0
def areaV (l : List S49) : Int := if Rg l then (List.range' 0 l.length).foldl (fun s i => s + termZ l i) 0 else 0
theorem term_bd {l : List S49} (h : Rg l) {i : Nat} (hi : i < l.length) {s : Int} (hs : -(40000 * (i : Int)) ≤ s ∧ s ≤ 40000 * (i : Int)) :
    (-(40000 * ((i + 1 : Nat) : Int)) ≤ s + termZ l i ∧ s + termZ l i ≤ 40000 * ((i + 1 : Nat) : Int)) ∧
    wrap64 ((wrap64 (s + (wrap64 ((ringAt l i).f0.f0 * (ringAt l i).f1.f1)))) - (wrap64 ((ringAt l i).f0.f1 * (ringAt l i).f1.f0))) = s + termZ l i ∧
    wrap64 (s + (wrap64 ((wrap64 ((ringAt l i).f0.f0 * (ringAt l i).f1.f1)) - (wrap64 ((ringAt l i).f0.f1 * (ringAt l i).f1.f0))))) = s + termZ l i := by
  have h10 := h.1.2
  obtain ⟨⟨a1, a2, a3, a4⟩, ⟨b1, b2, b3, b4⟩, _⟩ := rg_pt h hi
  have p1 := Int.mul_nonneg a1 b3
  have p2 := Int.mul_nonneg a3 b1
  have m1 := Gen.mul_bd (m := 200) (n := 200) (x := (ringAt l i).f0.f0) (y := (ringAt l i).f1.f1) (by omega) (by omega)
  have m2 := Gen.mul_bd (m := 200) (n := 200) (x := (ringAt l i).f0.f1) (y := (ringAt l i).f1.f0) (by omega) (by omega)
  unfold termZ
  rw [Gen.w64 (n := (ringAt l i).f0.f0 * (ringAt l i).f1.f1) (by omega) (by omega), Gen.w64 (n := (ringAt l i).f0.f1 * (ringAt l i).f1.f0) (by omega) (by omega)]
  refine ⟨by omega, ?_, ?_⟩
  · rw [Gen.w64 (n := s + (ringAt l i).f0.f0 * (ringAt l i).f1.f1) (by omega) (by omega), Gen.w64 (by omega) (by omega)]; omega
  · rw [Gen.w64 (n := (ringAt l i).f0.f0 * (ringAt l i).f1.f1 - (ringAt l i).f0.f1 * (ringAt l i).f1.f0) (by omega) (by omega), Gen.w64 (by omega) (by omega)]
theorem tSpecArea (l : List S49) (hl : l.length ≤ 1048576) : Told (fun k => spec_TwiceArea.f k l) (areaV l) := by
  refine Told.bind (tSpecL7 l hl) ?_
  by_cases h : Rg l
  · rw [areaV, if_pos h]
    refine Told.up (n := l.length) (fun s i => s + termZ l i) (fun k s i => spec_TwiceArea.l0 k l s (ringSegs l) i) (fun s i => -(40000 * (i : Int)) ≤ s ∧ s ≤ 40000 * (i : Int)) (fun s i hi hv => ?_) l.length 0 0 (by omega) (by omega) ?_
    · obtain ⟨b1, b2, _⟩ := term_bd h hi hv
      refine ⟨b1, fun hh => ?_⟩
      refine Told.step (M := fun k => (spec_IsRing.f k l).bind fun t => if t = true then spec_TwiceArea.l0 k l (s + termZ l i) (ringSegs l) ((i + 1 : Nat) : Int) else some s) (fun k => ?_) (Told.bind (tSpecIsRing l hl) (Told.ite_t (by simpa using h) hh))
      simp only [spec_TwiceArea.l0]
      rw [if_pos (by rw [ringSegs_len]; omega), if_pos (by omega), rdS, ringSegs_at l hi, b2, Gen.w64s (by omega)]
    · refine Told.stepr fun k => ?_
      simp only [spec_TwiceArea.l0]
      rw [if_neg (by rw [ringSegs_len]; omega)]
  · rw [areaV, if_neg h]
    by_cases hz : l.length = 0
    · refine Told.stepr fun k => ?_
      simp only [spec_TwiceArea.l0]
      rw [if_neg (by rw [ringSegs_len]; omega)]
    · refine Told.step (fun k => by simp only [spec_TwiceArea.l0]; rw [if_pos (by rw [ringSegs_len]; omega)]) ?_
      exact Told.bind (tSpecIsRing l hl) (Told.ite_f (by simpa using h) (Told.ret _))
theorem tImplArea (l : List S49) (hl : l.length ≤ 1048576) : Told (fun k => impl_TwiceArea.f k l) (areaV l) := by
  refine Told.bind (tImplRingSegments l hl) ?_
  by_cases h : Rg l
  · rw [areaV, if_pos h, if_pos h, ringSegs_len]
    refine Told.up (n := l.length) (fun s i => s + termZ l i) (fun k s i => impl_TwiceArea.l0 k s (ringSegs l) (l.length : Int) i) (fun s i => -(40000 * (i : Int)) ≤ s ∧ s ≤ 40000 * (i : Int)) (fun s i hi hv => ?_) l.length 0 0 (by omega) (by omega) ?_
    · obtain ⟨b1, _, b2⟩ := term_bd h hi hv
      refine ⟨b1, fun hh => ?_⟩
      refine Told.step (fun k => ?_) hh
      simp only [impl_TwiceArea.l0]
      rw [if_pos (by omega), if_pos (by omega), if_pos (by rw [ringSegs_len]; omega), rdS, ringSegs_at l hi, b2, Gen.w64s (by omega)]
    · refine Told.stepr fun k => ?_
      simp only [impl_TwiceArea.l0]
      rw [if_neg (by omega)]
  · rw [areaV, if_neg h, if_neg h]
    refine Told.stepr fun k => ?_
    simp only [impl_TwiceArea.l0]
    rw [if_neg (by simp)]
def sameV (a b : List S49) : Bool := decide ((areaV a > 0 ∧ areaV b > 0) ∨ (areaV a < 0 ∧ areaV b < 0))
theorem same_ite (x y : Int) : (if x > 0 then (if y > 0 then (some true) else (if x < 0 then (some (decide (y < 0))) else (some false))) else (if x < 0 then (some (decide (y < 0))) else (some false))) = some (decide ((x > 0 ∧ y > 0) ∨ (x < 0 ∧ y < 0))) := by
  by_cases h1 : x > 0
  · rw [if_pos h1]
    by_cases h2 : y > 0
    · rw [if_pos h2, decide_eq_true (.inl ⟨h1, h2⟩)]
    · rw [if_neg h2, if_neg (by omega), decide_eq_false (by omega)]
  · rw [if_neg h1]
    by_cases h2 : x < 0
    · rw [if_pos h2]; congr 1; rw [decide_eq_decide]; omega
    · rw [if_neg h2, decide_eq_false (by omega)]
theorem tSpecSame (a b : List S49) (ha : a.length ≤ 1048576) (hb : b.length ≤ 1048576) : Told (fun k => spec_SameTurn.f k a b) (sameV a b) :=
  Told.bind (tSpecArea a ha) (Told.bind (tSpecArea b hb) (Told.of (same_ite _ _)))
def gpt (l : List S49) (i : Nat) : Geo.Pt := ⟨(l.getD i z49).f0, (l.getD i z49).f1⟩
theorem nx_mod {n i : Nat} (h : i < n) : (i + 1) % n = Area.nx n i := by
  unfold Area.nx
  split
  · rename_i e; rw [e]; exact Nat.mod_self n
  · exact Nat.mod_eq_of_lt (by omega)
theorem fold_sumZ (f g : Nat → Int) (n : Nat) (h : ∀ i, i < n → f i = g i) : ∀ m, m ≤ n → (List.range' 0 m).foldl (fun s i => s + f i) 0 = Geo.sumZ g m
  | 0, _ => rfl
  | m + 1, hm => by
    rw [List.range'_1_concat, List.foldl_append, fold_sumZ f g n h m (by omega)]
    show Geo.sumZ g m + f (0 + m) = Geo.sumZ g m + g m
    rw [Nat.zero_add, h m (by omega)]
theorem rg_area {l : List S49} (h : Rg l) : areaV l ≠ 0 := by
  have seg := fun i (hi : i < l.length) => rg_pt h hi
  have e2 : ∀ i, i < l.length → (ringAt l i).f1 = l.getD (Area.nx l.length i) z49 := fun i hi => by
    show l.getD ((i + 1) % l.length) _ = _
    rw [nx_mod hi]
  have hR : Geo.RingOk l.length (gpt l) := by
    refine ⟨h.1.1, fun i hi => pt_ok (seg i hi).1, fun i hi => ?_, fun i hi j hj => ?_⟩
    · have := sg_ne (seg i hi)
      rw [e2 i hi] at this
      exact this
    · have h1 := ((chk_iff l i).1 (h.2 i hi)).2 j hj
      unfold howAt howV at h1
      rw [if_pos ⟨seg i hi, seg j (by omega)⟩, e2 i hi, e2 j (by omega)] at h1
      exact h1
  have := Geo.ring_area hR
  rw [areaV, if_pos h, fold_sumZ (termZ l) (fun i => (gpt l i).x * (gpt l (Area.nx l.length i)).y - (gpt l i).y * (gpt l (Area.nx l.length i)).x) l.length (fun i hi => by
    unfold termZ
    rw [e2 i hi]; rfl) l.length (Nat.le_refl _)]
  exact this
def wo (l : List S49) (i : Int) : List S49 := l.take i.toNat ++ l.drop (i.toNat + 1)
theorem wo_len (l : List S49) (i : Int) : (wo l i).length ≤ l.length := by unfold wo; simp; omega
theorem implWo (l : List S49) (i : Int) (h0 : 0 ≤ i) (h1 : i < l.length) (hl : l.length ≤ 1048576) : impl_without.f l i = some (wo l i) := by
  unfold impl_without.f wo; rw [if_pos h0, if_pos h1, if_pos (by omega)]
theorem implClone (l : List S49) (hl : l.length ≤ 1048576) : impl_Point_86.f l = some l := by
  unfold impl_Point_86.f
  simp only [Option.bind_some, List.nil_append]
  rw [if_pos (by simp; omega)]
theorem mk_get (l : List S49) (i j : Nat) (p : S49) (hi : i < l.length) : (l.set i p).getD j z49 = if i = j then p else l.getD j z49 := by
  simp only [List.getD_eq_getElem?_getD, List.getElem?_set]
  by_cases h : i = j
  · subst h; simp [hi]
  · simp [h]
theorem tMarkP0 : ∀ d (l : List S49) (i : Nat), i + d = l.length → l.length ≤ 1048576 → (∀ j, j < i → l.getD j z49 = ⟨1 + 2 * j, 2 + 2 * j⟩) →
    ∃ l' : List S49, l'.length = l.length ∧ (∀ j, j < l.length → l'.getD j z49 = ⟨1 + 2 * j, 2 + 2 * j⟩) ∧ Told (fun k => laws_markPointS.l0 k l (1 + 2 * (i : Int)) i) (1 + 2 * (l.length : Int), l') := by
  intro d
  induction d with
  | zero =>
    intro l i hi hl h
    have : i = l.length := by omega
    subst this
    exact ⟨l, rfl, h, Told.stepr fun k => by simp only [laws_markPointS.l0]; rw [if_neg (by omega)]⟩
  | succ d ih =>
    intro l i hi hl h
    obtain ⟨l', h1, h2, h3⟩ := ih (l.set i ⟨1 + 2 * i, 2 + 2 * i⟩) (i + 1) (by rw [List.length_set]; omega) (by rw [List.length_set]; exact hl) (fun j hj => by
      rw [mk_get l i j _ (by omega)]
      by_cases e : i = j
      · subst e; rw [if_pos rfl]
      · rw [if_neg e]; exact h j (by omega))
    rw [List.length_set] at h1 h2 h3
    refine ⟨l', h1, h2, Told.step (fun k => ?_) h3⟩
    simp only [laws_markPointS.l0]
    rw [if_pos (by omega), if_pos (by omega)]
    simp only [Option.bind_some, Int.toNat_natCast]
    have e1 : wrap64 (1 + 2 * (i : Int) + 1) = 2 + 2 * (i : Int) := by unfold wrap64; omega
    have e2 : wrap64 (2 + 2 * (i : Int) + 1) = 1 + 2 * ((i + 1 : Nat) : Int) := by unfold wrap64; omega
    rw [e1, e2, Gen.w64s (by omega), List.set_set]
    have e3 : rd_T49 (l.set i ⟨1 + 2 * (i : Int), (rd_T49 l i).f1⟩) (i : Int) = ⟨1 + 2 * (i : Int), (rd_T49 l i).f1⟩ := by
      show List.getD _ _ _ = _
      rw [Int.toNat_natCast, mk_get l i i _ (by omega), if_pos rfl]
    rw [e3]
theorem tMarkP (l : List S49) (hl : l.length ≤ 1048576) :
    ∃ l' : List S49, l'.length = l.length ∧ (∀ j, j < l.length → l'.getD j z49 = ⟨1 + 2 * j, 2 + 2 * j⟩) ∧ Told (fun k => laws_markPointS.f k l 1) (1 + 2 * (l.length : Int), l') :=
  tMarkP0 l.length l 0 (by omega) hl (fun j hj => by omega)
theorem tHeldP0 (l : List S49) (hl : l.length ≤ 1048576) (h : ∀ j, j < l.length → l.getD j z49 = ⟨1 + 2 * j, 2 + 2 * j⟩) : ∀ d (i : Nat), i + d = l.length → Told (fun k => laws_heldPointS.l0 k l (1 + 2 * (i : Int)) i) (1 + 2 * (l.length : Int)) := by
  intro d
  induction d with
  | zero =>
    intro i hi
    have : i = l.length := by omega
    subst this
    exact Told.stepr fun k => by simp only [laws_heldPointS.l0]; rw [if_neg (by omega)]
  | succ d ih =>
    intro i hi
    refine Told.step (fun k => ?_) (ih (i + 1) (by omega))
    have e0 : rd_T49 l i = ⟨1 + 2 * i, 2 + 2 * i⟩ := h i (by omega)
    have e1 : wrap64 (1 + 2 * (i : Int) + 1) = 2 + 2 * (i : Int) := by unfold wrap64; omega
    have e2 : wrap64 (2 + 2 * (i : Int) + 1) = 1 + 2 * ((i + 1 : Nat) : Int) := by unfold wrap64; omega
    simp only [laws_heldPointS.l0]
    rw [if_pos (by omega), if_pos (by omega), e0, e1, if_pos rfl, if_pos rfl, e2, Gen.w64s (by omega)]
theorem tHeldP (l l' : List S49) (hl : l.length ≤ 1048576) (h1 : l'.length = l.length) (h : ∀ j, j < l.length → l'.getD j z49 = ⟨1 + 2 * j, 2 + 2 * j⟩) : Told (fun k => laws_heldPointS.f k l' 1) (1 + 2 * (l.length : Int)) := by
  rw [← h1]
  exact tHeldP0 l' (by omega) (by rw [h1]; exact h) l'.length 0 (by omega)
def dcV (l : List S49) (i : Int) : List S49 × Bool := if Rg l ∧ 0 ≤ i ∧ i ≤ l.length - 1 then (if Rg (wo l i) ∧ sameV l (wo l i) = true then (wo l i, true) else (l, false)) else (l, false)
theorem tSpecDc (l : List S49) (i : Int) (hl : l.length ≤ 1048576) : Told (fun k => spec_DropCorner.f k l i) (dcV l i) := by
  have no : ¬ (Rg l ∧ 0 ≤ i ∧ i ≤ l.length - 1) → Told (fun k => spec_DropCorner.j0 k l i true) (dcV l i) := fun h => by
    unfold dcV; rw [if_neg h]
    refine Told.step (fun k => by simp only [spec_DropCorner.j0]; rw [if_pos trivial]) ?_
    exact Told.bind (Told.ret _) (Told.ite_t (by simp; omega) (Told.ret _))
  refine Told.bind (tSpecIsRing l hl) ?_
  by_cases h1 : Rg l
  · refine Told.ite_t (by simpa using h1) (Told.bind (Told.of (specIn _ _ _)) ?_)
    rw [Gen.w64 (by omega) (by omega)]
    by_cases h2 : 0 ≤ i ∧ i ≤ l.length - 1
    · have e2 : wrap64 (i + 1) = i + 1 := by unfold wrap64; omega
      have e3 : (i + 1).toNat = i.toNat + 1 := by omega
      have ev : dcV l i = if Rg (wo l i) ∧ sameV l (wo l i) = true then (wo l i, true) else (l, false) := by unfold dcV; exact if_pos ⟨h1, h2⟩
      have lw := Nat.le_trans (wo_len l i) hl
      rw [ev]
      refine Told.step (fun k => by simp only [spec_DropCorner.j0]; rw [if_neg (by simp [h2]), e2, e3]) ?_
      refine Told.bind (Told.ret _) (Told.ite_t (by omega) (Told.ite_t (by omega) (Told.bind (Told.ret _) (Told.ite_t (by simp; omega) (Told.bind (Told.ret _) (Told.ite_t (by omega) (Told.ite_t (by omega) (Told.bind (Told.ret _) (Told.ite_t (by simp; omega) (Told.bind (Told.ret _) ?_))))))))))
      refine Told.bind (tSpecIsRing (wo l i) lw) ?_
      by_cases h3 : Rg (wo l i)
      · refine Told.ite_t (by simpa using h3) (Told.bind (tSpecSame l (wo l i) hl lw) ?_)
        by_cases h4 : sameV l (wo l i) = true
        · rw [if_pos (c := Rg (wo l i) ∧ sameV l (wo l i) = true) ⟨h3, h4⟩]; exact Told.ite_t h4 (Told.ret _)
        · rw [if_neg (c := Rg (wo l i) ∧ sameV l (wo l i) = true) (fun h => h4 h.2)]; exact Told.ite_f h4 (Told.bind (Told.ret _) (Told.ite_t (by simp; omega) (Told.ret _)))
      · rw [if_neg (c := Rg (wo l i) ∧ sameV l (wo l i) = true) (fun h => h3 h.1)]; exact Told.ite_f (by simpa using h3) (Told.bind (Told.ret _) (Told.ite_t (by simp; omega) (Told.ret _)))
    · rw [decide_eq_false h2]; exact no (fun h => h2 h.2)
  · exact Told.ite_f (by simpa using h1) (no (fun h => h1 h.1))
theorem implCmp (x : Int) : cmp_Compare_int.f x 0 = some (if x < 0 then -1 else if x > 0 then 1 else 0) := by
  unfold cmp_Compare_int.f cmp_isNaN_int.f
  simp only [bne_self_eq_false, Option.bind_some, Bool.false_eq_true, if_false]
  split
  · rfl
  · split <;> rfl
theorem cmp_same {l m : List S49} (hl : Rg l) (hm : Rg m) : ((if areaV m < 0 then (-1 : Int) else if areaV m > 0 then 1 else 0) = (if areaV l < 0 then -1 else if areaV l > 0 then 1 else 0)) ↔ sameV l m = true := by
  have a := rg_area hl; have b := rg_area hm
  unfold sameV
  rw [decide_eq_true_eq]
  by_cases h1 : areaV m < 0 <;> by_cases h2 : areaV l < 0 <;> simp [h1, h2] <;> omega
theorem tImplDc (l : List S49) (i : Int) (hl : l.length ≤ 1048576) : Told (fun k => impl_DropCorner.f k l i) (dcV l i) := by
  have no : ¬ (Rg l ∧ 0 ≤ i ∧ i ≤ l.length - 1) → Told (fun k => impl_DropCorner.j0 k l i true) (dcV l i) := fun h => by
    unfold dcV; rw [if_neg h]
    refine Told.step (fun k => by simp only [impl_DropCorner.j0]; rw [if_pos trivial]) ?_
    exact Told.bind (Told.of (implClone l hl)) (Told.ret _)
  refine Told.bind (tImplIsRing l hl) ?_
  by_cases h1 : Rg l
  · refine Told.ite_t (by simpa using h1) (Told.bind (Told.of (implInRange _ _ _)) ?_)
    rw [Gen.w64 (by omega) (by omega)]
    by_cases h2 : 0 ≤ i ∧ i ≤ l.length - 1
    · have ev : dcV l i = if Rg (wo l i) ∧ sameV l (wo l i) = true then (wo l i, true) else (l, false) := by unfold dcV; exact if_pos ⟨h1, h2⟩
      have lw := Nat.le_trans (wo_len l i) hl
      rw [ev]
      refine Told.step (fun k => by simp only [impl_DropCorner.j0]; rw [if_neg (by simp [h2])]) ?_
      refine Told.bind (Told.of (implWo l i (by omega) (by omega) hl)) (Told.bind (tImplIsRing (wo l i) lw) ?_)
      by_cases h3 : Rg (wo l i)
      · refine Told.ite_t (by simpa using h3) (Told.bind (tImplArea (wo l i) lw) (Told.bind (Told.of (implCmp _)) (Told.bind (tImplArea l hl) (Told.bind (Told.of (implCmp _)) ?_))))
        by_cases h4 : sameV l (wo l i) = true
        · rw [if_pos (c := Rg (wo l i) ∧ sameV l (wo l i) = true) ⟨h3, h4⟩]; exact Told.ite_t ((cmp_same h1 h3).2 h4) (Told.ret _)
        · rw [if_neg (c := Rg (wo l i) ∧ sameV l (wo l i) = true) (fun h => h4 h.2)]; exact Told.ite_f (fun e => h4 ((cmp_same h1 h3).1 e)) (Told.bind (Told.of (implClone l hl)) (Told.ret _))
      · rw [if_neg (c := Rg (wo l i) ∧ sameV l (wo l i) = true) (fun h => h3 h.1)]; exact Told.ite_f (by simpa using h3) (Told.bind (Told.of (implClone l hl)) (Told.ret _))
    · rw [decide_eq_false h2]; exact no (fun h => h2 h.2)
  · exact Told.ite_f (by simpa using h1) (no (fun h => h1 h.1))
def crnR (l : List S49) (i : Nat) : Int := crossZ (l.getD ((i + l.length - 1) % l.length) z49).f0 (l.getD ((i + l.length - 1) % l.length) z49).f1 (l.getD i z49).f0 (l.getD i z49).f1 (l.getD ((i + 1) % l.length) z49).f0 (l.getD ((i + 1) % l.length) z49).f1
def crnS (l : List S49) (i : Int) : Int := if Rg l ∧ 0 ≤ i ∧ i ≤ l.length - 1 then max (crnR l i.toNat) (-(crnR l i.toNat)) else -1
theorem rg_in {l : List S49} (h : Rg l) {i : Nat} (hi : i < l.length) : Pt (l.getD i z49).f0 (l.getD i z49).f1 := (rg_pt h hi).1
theorem tmod_p {m n : Nat} (h : n ≤ 1048576) (hm : m < n) : Int.tmod (wrap64 ((wrap64 ((m : Int) + (n : Int))) - 1)) (n : Int) = (((m + n - 1) % n : Nat) : Int) := by
  rw [Gen.w64 (n := (m : Int) + n) (by omega) (by omega), Gen.w64 (by omega) (by omega), show (m : Int) + n - 1 = ((m + n - 1 : Nat) : Int) by omega]; rfl
theorem tSpecCSize (l : List S49) (i : Int) (hl : l.length ≤ 1048576) : Told (fun k => spec_CornerSize.f k l i) (crnS l i) := by
  have no : ¬ (Rg l ∧ 0 ≤ i ∧ i ≤ l.length - 1) → Told (fun k => spec_CornerSize.j0 k l i true) (crnS l i) := fun h => Told.stepr fun k => by simp only [spec_CornerSize.j0, if_true]; rw [crnS, if_neg h]
  refine Told.bind (tSpecIsRing l hl) ?_
  by_cases h : Rg l
  · have h3 := h.1.1
    refine Told.ite_t (by simpa using h) (Told.bind (Told.of (specIn _ _ _)) ?_)
    rw [Gen.w64 (by omega) (by omega)]
    by_cases h2 : 0 ≤ i ∧ i ≤ l.length - 1
    · rw [decide_eq_true h2]
      obtain ⟨m, rfl⟩ := Int.eq_ofNat_of_zero_le (show 0 ≤ i by omega)
      have hm : m < l.length := by omega
      have q1 : (m + l.length - 1) % l.length < l.length := Nat.mod_lt _ (by omega)
      have q2 : (m + 1) % l.length < l.length := Nat.mod_lt _ (by omega)
      refine Told.stepr fun k => ?_
      simp only [spec_CornerSize.j0, Bool.not_true, Bool.false_eq_true, if_false]
      rw [if_neg (by omega), tmod_p hl hm, tmod_n hl hm, if_pos (by omega), if_pos (by omega), if_pos (by omega), if_pos (by omega), if_pos (by omega), if_pos (by omega), rdP, rdP, rdP, specCross (rg_in h q1) (rg_in h hm) (rg_in h q2)]
      obtain ⟨_, b1, b2⟩ := crossZ_bd (rg_in h q1) (rg_in h hm) (rg_in h q2)
      simp only [Option.bind_some]
      rw [Gen.w64 (by omega) (by omega), specMax', crnS, if_pos ⟨h, h2⟩]
      rfl
    · rw [decide_eq_false h2]; exact no (fun h => h2 h.2)
  · exact Told.ite_f (by simpa using h) (no (fun hh => h hh.1))
theorem tImplCSize (l : List S49) (i : Int) (hl : l.length ≤ 1048576) : Told (fun k => impl_CornerSize.f k l i) (crnS l i) := by
  refine Told.bind (tImplIsRing l hl) ?_
  by_cases h : Rg l
  · have h3 := h.1.1
    refine Told.ite_t (by simpa using h) (Told.bind (Told.of (implInRange _ _ _)) ?_)
    rw [Gen.w64 (by omega) (by omega)]
    by_cases h2 : 0 ≤ i ∧ i ≤ l.length - 1
    · rw [decide_eq_true h2]
      obtain ⟨m, rfl⟩ := Int.eq_ofNat_of_zero_le (show 0 ≤ i by omega)
      have hm : m < l.length := by omega
      have q1 : (m + l.length - 1) % l.length < l.length := Nat.mod_lt _ (by omega)
      have q2 : (m + 1) % l.length < l.length := Nat.mod_lt _ (by omega)
      refine Told.ite_t rfl (Told.of ?_)
      rw [if_neg (by omega), tmod_p hl hm, tmod_n hl hm, if_pos (by omega), if_pos (by omega), if_pos (by omega), if_pos (by omega), if_pos (by omega), if_pos (by omega), rdP, rdP, rdP]
      unfold impl_twice.f
      rw [implCross (rg_in h q1) (rg_in h hm) (rg_in h q2)]
      obtain ⟨_, b1, b2⟩ := crossZ_bd (rg_in h q1) (rg_in h hm) (rg_in h q2)
      simp only [Option.bind_some]
      rw [Gen.w64 (by omega) (by omega), Gen.mx_eq, crnS, if_pos ⟨h, h2⟩]
      rfl
    · have e : crnS l i = -1 := by unfold crnS; exact if_neg (fun h => h2 h.2)
      rw [decide_eq_false h2, e]
      exact Told.ite_f (by simp) (Told.ret _)
  · have e : crnS l i = -1 := by unfold crnS; exact if_neg (fun hh => h hh.1)
    rw [e]
    exact Told.ite_f (by simpa using h) (Told.ret _)
def rpick (l : List S49) (a b : Int) (i : Nat) : Int := if crnS l i < a then (if (dcV l i).2 = true then (if b < 0 then (i : Int) else if crnS l i < crnS l b then (i : Int) else b) else b) else b
def rnext (l : List S49) (b : Int) : List S49 := if b < 0 then [] else (dcV l b).1
def RInv (l : List S49) (b : Int) : Prop := b = -1 ∨ (0 ≤ b ∧ b < l.length ∧ (dcV l b).2 = true)
theorem rpick_inv {l : List S49} {a b : Int} {i : Nat} (hi : i < l.length) (h : RInv l b) : RInv l (rpick l a b i) := by
  unfold rpick
  split
  · split
    · rename_i h2
      have : RInv l (i : Int) := .inr ⟨by omega, by omega, h2⟩
      split
      · exact this
      · split
        · exact this
        · exact h
    · exact h
  · exact h
theorem dc_lt {l : List S49} {b : Int} (h : (dcV l b).2 = true) : (dcV l b).1.length + 1 = l.length ∧ Rg l ∧ Rg (dcV l b).1 ∧ 0 ≤ b ∧ b < l.length ∧ (dcV l b).1 = wo l b ∧ sameV l (wo l b) = true := by
  unfold dcV at h ⊢
  split at h
  · rename_i h1
    split at h
    · rename_i h2
      rw [if_pos h1, if_pos h2]
      refine ⟨?_, h1.1, h2.1, h1.2.1, by omega, rfl, h2.2⟩
      unfold wo
      simp
      omega
    · cases h
  · cases h
theorem tSafeRing (x : List S49) (hx : x.length ≤ 1048576) (hr : Rg x) (a : Int) : ∀ n (l : List S49), l.length = n → l.length ≤ 1048576 →
    ∃ v, v.length ≤ l.length ∧ Told (fun k => spec_SafeRing.l0 k x a l) v ∧ Told (fun k => impl_SafeRing.l0 k a l) v := by
  intro n
  induction n with
  | zero =>
    intro l hl _
    have : l = [] := List.length_eq_zero_iff.1 hl
    subst this
    have b1 : Told (fun k => spec_SafeRing.l1 k x a [] (-1) 0) [] := Told.stepr fun k => by simp only [spec_SafeRing.l1]; rw [if_neg (by simp), if_pos (by omega)]
    have b2 : Told (fun k => impl_SafeRing.l1 k a [] (-1) [] 0 0) [] := Told.stepr fun k => by simp only [impl_SafeRing.l1]; rw [if_neg (by omega), if_pos (by omega)]
    exact ⟨[], Nat.le_refl _, Told.step (fun k => by simp only [spec_SafeRing.l0]; rfl) (Told.bind (tSpecIsRing x hx) (Told.ite_t (decide_eq_true hr) b1)), Told.step (fun k => by simp only [impl_SafeRing.l0]; rfl) b2⟩
  | succ n ih =>
    intro l hl hb
    have key : ∃ b, RInv l b ∧ b = (List.range' 0 l.length).foldl (rpick l a) (-1) := ⟨_, by
      have : ∀ d s (i : Nat), i + d ≤ l.length → RInv l s → RInv l ((List.range' i d).foldl (rpick l a) s) := by
        intro d
        induction d with
        | zero => intro s i _ h; exact h
        | succ d ih => intro s i hi h; exact ih _ (i + 1) (by omega) (rpick_inv (by omega) h)
      exact this l.length (-1) 0 (by omega) (.inl rfl), rfl⟩
    obtain ⟨b, hv, eb⟩ := key
    have es : ∀ v, Told (fun k => spec_SafeRing.l1 k x a l b (l.length : Int)) v → Told (fun k => spec_SafeRing.l0 k x a l) v := fun v hh => by
      refine Told.step (M := fun k => (spec_IsRing.f k x).bind fun t => if t = true then spec_SafeRing.l1 k x a l (-1) 0 else some l) (fun k => by simp only [spec_SafeRing.l0]) (Told.bind (tSpecIsRing x hx) (Told.ite_t (by simpa using hr) ?_))
      refine Told.up (n := l.length) (rpick l a) (fun k s i => spec_SafeRing.l1 k x a l s i) (fun s _ => RInv l s) (fun s i hi hs => ⟨rpick_inv hi hs, fun h2 => ?_⟩) l.length (-1) 0 (by omega) (.inl rfl) (by rw [← eb]; exact hh)
      refine Told.step (fun k => by simp only [spec_SafeRing.l1]; rw [if_pos (by omega), Gen.w64s (by omega)]) (Told.bind (tSpecCSize l i hb) (Told.bind (tSpecDc l i hb) ?_))
      unfold rpick at h2
      by_cases c1 : crnS l i < a
      · refine Told.ite_t c1 ?_
        rw [if_pos c1] at h2
        by_cases c2 : (dcV l i).2 = true
        · refine Told.ite_t c2 ?_
          rw [if_pos c2] at h2
          by_cases c3 : s < 0
          · rw [if_pos c3] at h2; exact Told.ite_t c3 h2
          · rw [if_neg c3] at h2
            refine Told.ite_f c3 (Told.bind (tSpecCSize l s hb) ?_)
            by_cases c4 : crnS l i < crnS l s
            · rw [if_pos c4] at h2; exact Told.ite_t c4 h2
            · rw [if_neg c4] at h2; exact Told.ite_f c4 h2
        · rw [if_neg c2] at h2; exact Told.ite_f c2 h2
      · rw [if_neg c1] at h2; exact Told.ite_f c1 h2
    have ei : ∀ v, Told (fun k => impl_SafeRing.l1 k a l b (rnext l b) (l.length : Int) (l.length : Int)) v → Told (fun k => impl_SafeRing.l0 k a l) v := fun v hh => by
      refine Told.step (M := fun k => impl_SafeRing.l1 k a l (-1) [] (l.length : Int) 0) (fun k => by simp only [impl_SafeRing.l0]) ?_
      refine Told.up (n := l.length) (rpick l a) (fun k s i => impl_SafeRing.l1 k a l s (rnext l s) (l.length : Int) i) (fun s _ => RInv l s) (fun s i hi hs => ⟨rpick_inv hi hs, fun h2 => ?_⟩) l.length (-1) 0 (by omega) (.inl rfl) (by rw [← eb]; exact hh)
      have j2f : (rpick l a s i = s) → Told (fun k => impl_SafeRing.j2 k a l s (rnext l s) i (l.length : Int) i false) v := fun e => by
        rw [e] at h2
        exact Told.step (fun k => by simp only [impl_SafeRing.j2]; rw [if_neg (by simp), Gen.w64s (by omega)]) h2
      have j2t : (rpick l a s i = if (dcV l i).2 = true then (i : Int) else s) → Told (fun k => impl_SafeRing.j2 k a l s (rnext l s) i (l.length : Int) i true) v := fun e => by
        rw [e] at h2
        refine Told.step (fun k => by simp only [impl_SafeRing.j2]; rw [if_pos trivial, Gen.w64s (by omega)]) (Told.bind (tImplDc l i hb) ?_)
        by_cases c2 : (dcV l i).2 = true
        · rw [if_pos c2, rnext, if_neg (by omega)] at h2; exact Told.ite_t c2 h2
        · rw [if_neg c2] at h2; exact Told.ite_f c2 h2
      refine Told.step (fun k => by simp only [impl_SafeRing.l1]; rw [if_pos (by omega)]) (Told.bind (tImplCSize l i hb) ?_)
      by_cases c1 : crnS l i < a
      · refine Told.ite_t c1 ?_
        by_cases c3 : s < 0
        · exact Told.ite_t c3 (j2t (by unfold rpick; rw [if_pos c1, if_pos c3]))
        · refine Told.ite_f c3 (Told.bind (tImplCSize l s hb) ?_)
          by_cases c4 : crnS l i < crnS l s
          · rw [decide_eq_true c4]; exact j2t (by unfold rpick; rw [if_pos c1, if_neg c3, if_pos c4])
          · rw [decide_eq_false c4]; exact j2f (by unfold rpick; rw [if_pos c1, if_neg c3, if_neg c4, ite_self])
      · exact Told.ite_f c1 (j2f (by unfold rpick; rw [if_neg c1]))
    rcases hv with rfl | ⟨b0, b1, b2⟩
    · refine ⟨l, Nat.le_refl _, es _ (Told.stepr fun k => ?_), ei _ (Told.stepr fun k => ?_)⟩
      · simp only [spec_SafeRing.l1]; rw [if_neg (by omega), if_pos (by omega)]
      · simp only [impl_SafeRing.l1]; rw [if_neg (by omega), if_pos (by omega)]
    · obtain ⟨q1, _⟩ := dc_lt b2
      obtain ⟨v, v1, v2, v3⟩ := ih (dcV l b).1 (by omega) (by omega)
      refine ⟨v, by omega, es _ (Told.step (fun k => by simp only [spec_SafeRing.l1]; rw [if_neg (by omega), if_neg (by omega)]) (Told.bind (tSpecDc l b hb) v2)), ei _ (Told.step (fun k => by simp only [impl_SafeRing.l1]; rw [if_neg (by omega), if_neg (by omega), rnext, if_neg (by omega)]) v3)⟩
theorem tSafeRing' (l : List S49) (a : Int) (hl : l.length ≤ 1048576) : ∃ v, v.length ≤ l.length ∧ Told (fun k => spec_SafeRing.f k l a) v ∧ Told (fun k => impl_SafeRing.f k l a) v := by
  by_cases h : Rg l
  · obtain ⟨v, v1, v2, v3⟩ := tSafeRing l hl h a l.length l rfl hl
    exact ⟨v, v1, Told.bind (Told.ret _) (Told.ite_t (by simp; omega) v2), Told.bind (Told.of (implClone l hl)) (Told.bind (tImplIsRing l hl) (Told.ite_t (by simpa using h) v3))⟩
  · refine ⟨l, Nat.le_refl _, Told.bind (Told.ret _) (Told.ite_t (by simp; omega) (Told.step (fun k => by simp only [spec_SafeRing.l0]; rfl) (Told.bind (tSpecIsRing l hl) (Told.ite_f (fun q => h (of_decide_eq_true q)) (Told.ret _))))), Told.bind (Told.of (implClone l hl)) (Told.bind (tImplIsRing l hl) (Told.ite_f (by simpa using h) (Told.ret _)))⟩
theorem pure_FnExactSafeRing : ∀ (l0 : (List S98)) (a1 : Int), (List.length l0 ≤ maxLen ∧ ∀ y ∈ l0, G98 y) → I64 a1 → ∃ k, laws_FnExactSafeRing.f k l0 a1 = some true := by
  intro a i ⟨ha, _⟩ _
  apply Told.ex
  unfold maxLen at ha
  refine Told.bind (Told.of (szPointS_some a 1048576 (by unfold maxLen; omega) (by omega) (by omega))) ?_
  by_cases h1 : (1048576 : Int) < a.length
  · rw [if_pos h1]; exact Told.ite_t (by omega) (Told.ret _)
  rw [if_neg h1]
  have la : (a.map cP).length ≤ 1048576 := by simp; omega
  obtain ⟨v, lv', ts, ti⟩ := tSafeRing' (a.map cP) i la
  have lv := Nat.le_trans lv' la
  have tp := tToPointS a (by omega)
  have eqv := tEqPointS _ lv
  obtain ⟨x, _, _, hx⟩ := tMarkP (a.map cP) la
  obtain ⟨y, y1, y2, hy⟩ := tMarkP v lv
  have held := tHeldP _ y lv y1 y2
  refine Told.ite_f (by omega) (Told.bind tp (Told.bind ts (Told.bind tp (Told.bind ti (Told.bind eqv (Told.ite_t rfl (Told.bind tp (Told.bind (tEqPointS _ la) (Told.ite_t rfl (Told.bind hx (Told.ite_f (by simp only; omega) (Told.bind eqv ?_))))))))))))
  refine Told.step (fun k => by simp only [laws_FnExactSafeRing.j0, Bool.not_true, Bool.false_eq_true, if_false]; rfl) ?_
  exact Told.bind hy (Told.bind held (Told.ite_f (by omega) (Told.ite_t rfl (Told.bind tp (Told.bind ti (Told.bind eqv (Told.ite_t rfl (Told.bind held (Told.ite_f (by omega) (Told.ite_t rfl (Told.ret _)))))))))))
end Go.Proofs.Ytchmbcembbbplac.MFnExactSafeRing
