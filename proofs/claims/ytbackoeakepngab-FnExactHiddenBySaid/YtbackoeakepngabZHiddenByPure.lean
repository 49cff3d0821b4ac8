/- The plain law behind FnExactHiddenBy: what the printed functions compute answers true; no condition beyond the arguments' ranges. -/
import Derived.Test.YtbackoeakepngabZHiddenByTold
import Derived.Test.YtbackoeakepngabZHiddenByGeo
import Derived.Test.YtbackoeakepngabZHiddenByMx9
import Derived.Test.YtbackoeakepngabZHiddenByOpn
namespace Go.Proofs.Ytbackoeakepngab.MFnExactHiddenBy
open Go Go.RowKit Go.Proofs.YtbackoeakepngabW.PrintWords Go.Proofs.YtbackoeakepngabW.PrintLast Go.Proofs.YtbackoeakepngabW.PrintMore Go.Proofs.Ytbackoeakepngab.Open
set_option linter.unusedVariables false
set_option linter.unusedSimpArgs false
theorem implInRange (a b c : Int) : impl_InRange.f a b c = some (decide (b ≤ a ∧ a ≤ c)) := by
  unfold impl_InRange.f; by_cases h : b ≤ a <;> simp [h]
theorem specIn (a b c : Int) : spec_l1In.f a b c = some (decide (b ≤ a ∧ a ≤ c)) := by
  unfold spec_l1In.f; by_cases h : b ≤ a <;> simp [h]
def Pt (x y : Int) : Prop := 0 ≤ x ∧ x ≤ 200 ∧ 0 ≤ y ∧ y ≤ 200
instance (x y : Int) : Decidable (Pt x y) := by unfold Pt; infer_instance
theorem implIsPoint (x y : Int) : impl_IsPoint.f x y = some (decide (Pt x y)) := by
  unfold impl_IsPoint.f
  rw [implInRange, implInRange]
  simp only [Option.bind_some]
  by_cases h : 0 ≤ x ∧ x ≤ 200
  · rw [if_pos (by simpa using h)]; simp [Pt, h]
  · rw [if_neg (by simpa using h)]; simp only [Option.some.injEq, Bool.false_eq, decide_eq_false_iff_not]; unfold Pt; omega
theorem specIsPoint (x y : Int) : spec_IsPoint.f x y = some (decide (Pt x y)) := by
  unfold spec_IsPoint.f
  rw [specIn, specIn]
  simp only [Option.bind_some]
  by_cases h : 0 ≤ x ∧ x ≤ 200
  · rw [if_pos (by simpa using h)]; simp [Pt, h]
  · rw [if_neg (by simpa using h)]; simp only [Option.some.injEq, Bool.false_eq, decide_eq_false_iff_not]; unfold Pt; omega
def cPl (p : S112) : S77 := ⟨p.f0, ⟨p.f1.f0, p.f1.f1⟩, p.f2⟩
theorem toPlaceS_some (l : List S112) (hl : l.length ≤ 1048576) {k : Nat} (hk : l.length < k) : laws_toPlaceS.f k l = some (l.map cPl) := by
  unfold laws_toPlaceS.f
  rw [if_pos (by omega), if_pos (by omega)]
  have := Gen.fill_all l z112 cPl 0 (fun k out i => laws_toPlaceS.l0 k l out i) (fun k out i _ hi ho => by
      simp only [laws_toPlaceS.l0]
      rw [if_pos (by omega), if_pos (by omega)]
      simp only [laws_toPlace.f, laws_toPoint.f, Option.bind_some]
      rw [if_pos (by omega), Gen.w64s (by omega)]
      rfl) (fun k out ho => by
      simp only [laws_toPlaceS.l0]
      rw [if_neg (by omega)]) (k := k) (out := List.replicate l.length z77) (by simp) (by omega)
  simpa using this
theorem szPlaceS_some (l : List S112) (a : Int) (hl : l.length ≤ maxLen) (ha : 0 ≤ a) (ha' : a ≤ 1048576) : laws_szPlaceS.f l a = some (if a < l.length then -1 else a - l.length) := by
  unfold laws_szPlaceS.f
  unfold maxLen at hl
  rw [Gen.w64 (by omega) (by omega)]
  split <;> split <;> first | rfl | omega
theorem eqPlaceS_self (a : List S77) (hl : a.length ≤ 1048576) {k : Nat} (hk : a.length < k) : laws_eqPlaceS.f k a a = some true := by
  unfold laws_eqPlaceS.f
  rw [if_pos rfl]
  refine Gen.up_all a.length 0 true (fun k i => laws_eqPlaceS.l0 k a a i) (fun k i _ hi => ?_) (fun k _ => ?_) (k := k) (by omega)
  · simp only [laws_eqPlaceS.l0, laws_eqPlace.f, laws_eqPoint.f]
    rw [if_pos (by omega), if_pos (by omega), if_pos (by omega)]
    simp only [if_true, Option.bind_some]
    rw [Gen.w64s (by omega)]
  · simp only [laws_eqPlaceS.l0]
    rw [if_neg (by omega)]
def plChk (l : List S77) (i : Nat) : Bool := decide ((1 ≤ (l.getD i z77).f0 ∧ (l.getD i z77).f0 ≤ 99) ∧ Pt (l.getD i z77).f1.f0 (l.getD i z77).f1.f1 ∧ (0 ≤ (l.getD i z77).f2 ∧ (l.getD i z77).f2 ≤ 9) ∧ (0 < i → (l.getD (i - 1) z77).f0 < (l.getD i z77).f0))
def Pls (l : List S77) : Prop := l.length ≤ 16 ∧ ∀ i, i < l.length → plChk l i = true
instance (l : List S77) : Decidable (Pls l) := by unfold Pls; infer_instance
theorem rdPl (l : List S77) (i : Nat) : rd_T77 l (i : Int) = l.getD i z77 := rfl
theorem specArePlaces (l : List S77) (hl : l.length ≤ 1048576) {k : Nat} (hk : l.length < k) : spec_ArePlaces.f k l = some (decide (Pls l)) := by
  unfold spec_ArePlaces.f
  rw [Gen.scan_all l.length 0 (plChk l) (decide (l.length ≤ 16)) (fun k i => spec_ArePlaces.l0 k l i) (fun k i _ hi => by
    simp only [spec_ArePlaces.l0]
    rw [if_pos (by omega), if_pos (by omega), specIn, specIsPoint, specIn, rdPl]
    simp only [Option.bind_some, decide_eq_true_eq]
    by_cases h1 : 1 ≤ (l.getD i z77).f0 ∧ (l.getD i z77).f0 ≤ 99
    · rw [if_pos h1]
      by_cases h2 : Pt (l.getD i z77).f1.f0 (l.getD i z77).f1.f1
      · rw [if_pos h2]
        by_cases h3 : 0 ≤ (l.getD i z77).f2 ∧ (l.getD i z77).f2 ≤ 9
        · rw [if_pos h3]
          by_cases h0 : 0 < i
          · have e1 : wrap64 ((i : Int) - 1) = ((i - 1 : Nat) : Int) := by rw [Gen.w64 (by omega) (by omega)]; omega
            rw [if_pos (by omega), e1, if_pos (by omega), if_pos (by omega), rdPl, Gen.w64s (by omega)]
            by_cases h4 : (l.getD (i - 1) z77).f0 ≥ (l.getD i z77).f0
            · rw [if_pos h4, if_neg (by unfold plChk; rw [decide_eq_true_eq]; exact fun h => by have := h.2.2.2 h0; omega)]
            · rw [if_neg h4, if_pos (by unfold plChk; rw [decide_eq_true_eq]; exact ⟨h1, h2, h3, fun _ => by omega⟩)]
          · rw [if_neg (by omega), if_pos (by unfold plChk; rw [decide_eq_true_eq]; exact ⟨h1, h2, h3, fun h => absurd h h0⟩), Gen.w64s (by omega)]
        · rw [if_neg h3, if_neg (by unfold plChk; rw [decide_eq_true_eq]; exact fun h => h3 h.2.2.1)]
      · rw [if_neg h2, if_neg (by unfold plChk; rw [decide_eq_true_eq]; exact fun h => h2 h.2.1)]
    · rw [if_neg h1, if_neg (by unfold plChk; rw [decide_eq_true_eq]; exact fun h => h1 h.1)]) (fun k _ => by
    simp only [spec_ArePlaces.l0]
    rw [if_neg (by omega)]
    simp only [Option.some.injEq, decide_eq_decide]
    omega) (by omega)]
  congr 1
  rw [Bool.eq_iff_iff, Bool.and_eq_true, decide_eq_true_eq, decide_eq_true_eq, decide_eq_true_eq]
  exact ⟨fun h => ⟨h.2, h.1⟩, fun h => ⟨h.2, h.1⟩⟩
theorem implArePlaces (l : List S77) (hl : l.length ≤ 1048576) {k : Nat} (hk : l.length < k) : impl_ArePlaces.f k l = some (decide (Pls l)) := by
  unfold impl_ArePlaces.f
  by_cases h16 : l.length ≤ 16
  · rw [if_neg (by omega)]
    rw [Gen.scan_all l.length 0 (plChk l) true (fun k i => impl_ArePlaces.l0 k l l l.length i) (fun k i _ hi => by
      simp only [impl_ArePlaces.l0]
      rw [if_pos (by omega), if_pos (by omega), if_pos (by omega), implInRange, implIsPoint, implInRange, rdPl]
      simp only [Option.bind_some, decide_eq_true_eq]
      by_cases h1 : 1 ≤ (l.getD i z77).f0 ∧ (l.getD i z77).f0 ≤ 99
      · rw [if_pos h1]
        by_cases h2 : Pt (l.getD i z77).f1.f0 (l.getD i z77).f1.f1
        · rw [if_pos h2]
          by_cases h3 : 0 ≤ (l.getD i z77).f2 ∧ (l.getD i z77).f2 ≤ 9
          · rw [if_pos h3]
            by_cases h0 : 0 < i
            · have e1 : wrap64 ((i : Int) - 1) = ((i - 1 : Nat) : Int) := by rw [Gen.w64 (by omega) (by omega)]; omega
              rw [if_pos (by omega), e1, if_pos (by omega), if_pos (by omega), rdPl, Gen.w64s (by omega)]
              by_cases h4 : (l.getD i z77).f0 ≤ (l.getD (i - 1) z77).f0
              · rw [if_pos h4, if_neg (by unfold plChk; rw [decide_eq_true_eq]; exact fun h => by have := h.2.2.2 h0; omega)]
              · rw [if_neg h4, if_pos (by unfold plChk; rw [decide_eq_true_eq]; exact ⟨h1, h2, h3, fun _ => by omega⟩)]
            · rw [if_neg (by omega), if_pos (by unfold plChk; rw [decide_eq_true_eq]; exact ⟨h1, h2, h3, fun h => absurd h h0⟩), Gen.w64s (by omega)]
          · rw [if_neg h3, if_neg (by unfold plChk; rw [decide_eq_true_eq]; exact fun h => h3 h.2.2.1)]
        · rw [if_neg h2, if_neg (by unfold plChk; rw [decide_eq_true_eq]; exact fun h => h2 h.2.1)]
      · rw [if_neg h1, if_neg (by unfold plChk; rw [decide_eq_true_eq]; exact fun h => h1 h.1)]) (fun k _ => by
      simp only [impl_ArePlaces.l0]
      rw [if_neg (by omega)]) (by omega)]
    congr 1
    rw [Bool.eq_iff_iff, Bool.and_eq_true, decide_eq_true_eq, decide_eq_true_eq]
    exact ⟨fun h => ⟨h16, h.1⟩, fun h => ⟨h.2, rfl⟩⟩
  · rw [if_pos (by omega)]
    congr 1
    rw [eq_comm, decide_eq_false_iff_not]
    exact fun h => h16 h.1
def D (n : Int) : Prop := -200 ≤ n ∧ n ≤ 200
theorem D_of {x y : Int} (hx : 0 ≤ x ∧ x ≤ 200) (hy : 0 ≤ y ∧ y ≤ 200) : wrap64 (x - y) = x - y ∧ D (x - y) := ⟨Gen.w64 (by omega) (by omega), by unfold D; omega⟩
theorem D_mul {x y : Int} (hx : D x) (hy : D y) : wrap64 (x * y) = x * y ∧ -40000 ≤ x * y ∧ x * y ≤ 40000 := by
  have := Gen.mul_bd (m := 200) (n := 200) hx hy
  exact ⟨Gen.w64 (by omega) (by omega), by omega, by omega⟩
def farZ (ax ay bx bY : Int) : Int := (ax - bx) * (ax - bx) + (ay - bY) * (ay - bY)
theorem farZ_bd {ax ay bx bY : Int} (ha : Pt ax ay) (hb : Pt bx bY) :
    wrap64 ((wrap64 ((wrap64 (ax - bx)) * (wrap64 (ax - bx)))) + (wrap64 ((wrap64 (ay - bY)) * (wrap64 (ay - bY))))) = farZ ax ay bx bY ∧ 0 ≤ farZ ax ay bx bY ∧ farZ ax ay bx bY ≤ 80000 := by
  obtain ⟨a1, a2, a3, a4⟩ := ha; obtain ⟨b1, b2, b3, b4⟩ := hb
  obtain ⟨e1, d1⟩ := D_of ⟨a1, a2⟩ ⟨b1, b2⟩
  obtain ⟨e2, d2⟩ := D_of ⟨a3, a4⟩ ⟨b3, b4⟩
  obtain ⟨m1, n1, o1⟩ := D_mul d1 d1
  obtain ⟨m2, n2, o2⟩ := D_mul d2 d2
  have s1 : 0 ≤ (ax - bx) * (ax - bx) := by
    rcases Int.le_total 0 (ax - bx) with h | h
    · exact Int.mul_nonneg h h
    · exact Int.mul_nonneg_of_nonpos_of_nonpos h h
  have s2 : 0 ≤ (ay - bY) * (ay - bY) := by
    rcases Int.le_total 0 (ay - bY) with h | h
    · exact Int.mul_nonneg h h
    · exact Int.mul_nonneg_of_nonpos_of_nonpos h h
  rw [e1, e2, m1, m2]
  unfold farZ
  exact ⟨Gen.w64 (by omega) (by omega), by omega, by omega⟩
theorem implFar (ax ay bx bY : Int) : impl_FarSquared.f ax ay bx bY = some (if Pt ax ay ∧ Pt bx bY then farZ ax ay bx bY else -1) := by
  unfold impl_FarSquared.f
  rw [implIsPoint, implIsPoint]
  simp only [Option.bind_some, decide_eq_true_eq]
  by_cases ha : Pt ax ay <;> by_cases hb : Pt bx bY
  · rw [if_pos ha, if_pos hb, if_pos ⟨ha, hb⟩, (farZ_bd ha hb).1]
  · rw [if_pos ha, if_neg hb, if_neg (fun h => hb h.2)]
  · rw [if_neg ha, if_neg (fun h => ha h.1)]
  · rw [if_neg ha, if_neg (fun h => ha h.1)]
theorem specFar (ax ay bx bY : Int) : spec_FarSquared.f ax ay bx bY = some (if Pt ax ay ∧ Pt bx bY then farZ ax ay bx bY else -1) := by
  unfold spec_FarSquared.f
  rw [specIsPoint, specIsPoint]
  simp only [Option.bind_some, decide_eq_true_eq]
  by_cases ha : Pt ax ay <;> by_cases hb : Pt bx bY
  · rw [if_pos ha, if_pos hb, if_pos ⟨ha, hb⟩, (farZ_bd ha hb).1]
  · rw [if_pos ha, if_neg hb, if_neg (fun h => hb h.2)]
  · rw [if_neg ha, if_neg (fun h => ha h.1)]
  · rw [if_neg ha, if_neg (fun h => ha h.1)]
def upP (x y : S77) : Bool := if x.f2 > y.f2 then true else if x.f2 = y.f2 then decide (x.f0 < y.f0) else false
theorem implAbove (x y : S77) : impl_IsAbove.f x.f0 x.f1.f0 x.f1.f1 x.f2 y.f0 y.f1.f0 y.f1.f1 y.f2 = some (upP x y) := by
  unfold impl_IsAbove.f upP
  split
  · rfl
  · split <;> rfl
theorem specAbove (x y : S77) : spec_IsAbove.f x.f0 x.f1.f0 x.f1.f1 x.f2 y.f0 y.f1.f0 y.f1.f1 y.f2 = some (upP x y) := by
  unfold spec_IsAbove.f upP
  split
  · rfl
  · split <;> rfl
def posP (x : S77) (S : List S77) : Nat → Nat
  | 0 => 0
  | j + 1 => if upP x (S.getD j z77) = true then posP x S j else j + 1
theorem posP_le (x : S77) (S : List S77) : ∀ j, posP x S j ≤ j
  | 0 => Nat.le_refl 0
  | j + 1 => by
    unfold posP
    split
    · exact Nat.le_succ_of_le (posP_le x S j)
    · exact Nat.le_refl _
def insP (x : S77) (S : List S77) : List S77 := S.take (posP x S S.length) ++ x :: S.drop (posP x S S.length)
def sortP (l : List S77) : List S77 := l.foldl (fun S x => insP x S) []
theorem len_insP (x : S77) (S : List S77) : (insP x S).length = S.length + 1 := by
  have := posP_le x S S.length
  unfold insP; simp; omega
theorem len_foldP : ∀ (l S : List S77), (l.foldl (fun S x => insP x S) S).length = S.length + l.length
  | [], S => rfl
  | x :: l, S => by rw [List.foldl_cons, len_foldP l, len_insP, List.length_cons]; omega
theorem len_sortP (l : List S77) : (sortP l).length = l.length := by unfold sortP; rw [len_foldP]; simp
theorem perm_insP (x : S77) (S : List S77) : (insP x S).Perm (x :: S) := by
  unfold insP
  refine List.perm_middle.trans ?_
  rw [List.take_append_drop]
theorem perm_foldP : ∀ (l S : List S77), (l.foldl (fun S x => insP x S) S).Perm (l ++ S)
  | [], S => List.Perm.refl _
  | x :: l, S => by
    rw [List.foldl_cons]
    refine (perm_foldP l _).trans ?_
    refine (List.Perm.append_left l (perm_insP x S)).trans ?_
    exact List.perm_middle
theorem perm_sortP (l : List S77) : (sortP l).Perm l := by
  have := perm_foldP l []
  rwa [List.append_nil] at this
def fQ (x y : S77) : Int := if Pt x.f1.f0 x.f1.f1 ∧ Pt y.f1.f0 y.f1.f1 then farZ x.f1.f0 x.f1.f1 y.f1.f0 y.f1.f1 else -1
theorem fQ_comm (x y : S77) : fQ x y = fQ y x := by
  unfold fQ
  have e : farZ x.f1.f0 x.f1.f1 y.f1.f0 y.f1.f1 = farZ y.f1.f0 y.f1.f1 x.f1.f0 x.f1.f1 := by
    have s : ∀ a b : Int, (a - b) * (a - b) = (b - a) * (b - a) := fun a b => by rw [← Int.neg_mul_neg, Int.neg_sub]
    unfold farZ; rw [s x.f1.f0, s x.f1.f1]
  by_cases hx : Pt x.f1.f0 x.f1.f1 <;> by_cases hy : Pt y.f1.f0 y.f1.f1
  · rw [if_pos ⟨hx, hy⟩, if_pos ⟨hy, hx⟩, e]
  · rw [if_neg (fun h => hy h.2), if_neg (fun h => hy h.1)]
  · rw [if_neg (fun h => hx h.1), if_neg (fun h => hx h.2)]
  · rw [if_neg (fun h => hx h.1), if_neg (fun h => hx h.2)]
def farOk (f : Int) (x : S77) (out : List S77) : Bool := out.all fun y => decide (fQ y x ≥ f * f)
def keepStep (f : Int) (out : List S77) (x : S77) : List S77 := if farOk f x out = true then out ++ [x] else out
def keepP (f : Int) (S : List S77) : List S77 := S.foldl (keepStep f) []
theorem sub_keep (f : Int) : ∀ (S out : List S77), (S.foldl (keepStep f) out).Sublist (out ++ S)
  | [], out => by rw [List.append_nil]; exact List.Sublist.refl _
  | x :: S, out => by
    rw [List.foldl_cons]
    refine (sub_keep f S _).trans ?_
    unfold keepStep
    split
    · rw [List.append_assoc]; exact List.Sublist.refl _
    · exact List.Sublist.append_left (List.sublist_cons_self x S) out
theorem sub_keepP (f : Int) (S : List S77) : (keepP f S).Sublist S := by
  have := sub_keep f S []
  rwa [List.nil_append] at this
theorem w64_sq {f : Int} (h : 0 ≤ f ∧ f ≤ 200) : wrap64 (f * f) = f * f := by
  have h1 : 0 ≤ f * f := Int.mul_nonneg h.1 h.1
  have h2 : f * f ≤ 200 * 200 := Int.mul_le_mul h.2 h.2 h.1 (by omega)
  exact Gen.w64 (by omega) (by omega)
theorem rd_dropP (S : List S77) (j : Nat) (h : j < S.length) : S.drop j = S.getD j z77 :: S.drop (j + 1) := by
  rw [List.drop_eq_getElem_cons h, List.getD_eq_getElem?_getD, List.getElem?_eq_getElem h]; rfl
theorem kFin (l S : List S77) (f : Int) (i : Nat) (hi : i < l.length) (hl : l.length ≤ 1048576) (hS : S.length ≤ 2000000) (j : Nat) (hj : j ≤ S.length) {r : List S77}
    (h : Told (fun k => spec_l14Kept.l0 k l f (S.take j ++ rd_T77 l (i : Int) :: S.drop j) ((i + 1 : Nat) : Int)) r) :
    Told (fun k => (some (([] : List S77))).bind fun y201 => (if 0 ≤ (j : Int) then (if (j : Int) ≤ (S.length : Int) then ((some (S.take ((j : Int)).toNat)).bind fun y204 => (if y201.length + y204.length < 4398046511104 then ((some (y201 ++ y204)).bind fun y208 => (if 0 ≤ (i : Int) then (if (i : Int) < (l.length : Int) then ((some [rd_T77 l (i : Int)]).bind fun y212 => (if y208.length + y212.length < 4398046511104 then ((some (y208 ++ y212)).bind fun y215 => ((some (S.drop ((j : Int)).toNat)).bind fun y218 => (if y215.length + y218.length < 4398046511104 then (spec_l14Kept.l0 k l f (y215 ++ y218) (wrap64 ((i : Int) + 1))) else (none)))) else (none))) else (none)) else (none))) else (none))) else (none)) else (none))) r := by
  simp only [Option.bind_some]
  have e1 : ((j : Int)).toNat = j := by omega
  rw [e1]
  refine Told.ite_t (by omega) (Told.ite_t (by omega) (Told.ite_t (by simp; omega) (Told.ite_t (by omega) (Told.ite_t (by omega) (Told.ite_t (by simp; omega) (Told.ite_t (by simp; omega) ?_))))))
  rw [Gen.w64s (by omega), List.nil_append, List.append_assoc]
  exact h
theorem kL1 (l S : List S77) (f : Int) (i : Nat) (hi : i < l.length) (hl : l.length ≤ 1048576) (hS : S.length ≤ 2000000) {r : List S77} : ∀ j, j ≤ S.length →
    Told (fun k => spec_l14Kept.l0 k l f (S.take (posP (rd_T77 l (i : Int)) S j) ++ rd_T77 l (i : Int) :: S.drop (posP (rd_T77 l (i : Int)) S j)) ((i + 1 : Nat) : Int)) r →
    Told (fun k => spec_l14Kept.l1 k l f S (i : Int) (j : Int)) r
  | 0, hj, h => Told.step (fun k => by simp only [spec_l14Kept.l1]; rw [if_neg (by omega)]) (kFin l S f i hi hl hS 0 hj h)
  | j + 1, hj, h => by
    have e1 : wrap64 (((j + 1 : Nat) : Int) - 1) = (j : Int) := by rw [Gen.w64 (by omega) (by omega)]; omega
    have e2 : (rd_T77 S (j : Int)) = S.getD j z77 := rfl
    unfold posP at h
    by_cases c : upP (rd_T77 l (i : Int)) (S.getD j z77) = true
    · rw [if_pos c] at h
      refine Told.step (fun k => ?_) (kL1 l S f i hi hl hS j (by omega) h)
      simp only [spec_l14Kept.l1]
      rw [if_pos (by omega), if_pos (by omega), if_pos (by omega), e1, if_pos (by omega), if_pos (by omega), specAbove, Option.bind_some, e2, if_pos c]
    · rw [if_neg c] at h
      refine Told.step (fun k => ?_) (kFin l S f i hi hl hS (j + 1) hj h)
      simp only [spec_l14Kept.l1]
      rw [if_pos (by omega), if_pos (by omega), if_pos (by omega), e1, if_pos (by omega), if_pos (by omega), specAbove, Option.bind_some, e2, if_neg c]
      simp only [Option.bind_some]
      have c1 : (0 : Int) ≤ ((i : Nat) : Int) := by omega
      have c2 : ((i : Nat) : Int) < (l.length : Int) := by omega
      rw [if_pos c1, if_pos c2]
theorem kL3 (S out : List S77) (f : Int) (hf : 0 ≤ f ∧ f ≤ 200) (i : Nat) (hi : i < S.length) (hS : S.length ≤ 2000000) (ho : out.length ≤ 2000000) {r : List S77} : ∀ d j b, j + d = out.length →
    Told (fun k => spec_l14Kept.l2 k f S (if (b && (out.drop j).all fun y => decide (fQ y (rd_T77 S (i : Int)) ≥ f * f)) = true then out ++ [rd_T77 S (i : Int)] else out) ((i + 1 : Nat) : Int)) r →
    Told (fun k => spec_l14Kept.l3 k f S out (i : Int) b (j : Int)) r := by
  intro d
  induction d with
  | zero =>
    intro j b hd h
    have e0 : out.drop j = [] := List.drop_eq_nil_of_le (by omega)
    rw [e0, List.all_nil, Bool.and_true] at h
    by_cases c : b = true
    · rw [if_pos c] at h
      refine Told.step (fun k => ?_) h
      simp only [spec_l14Kept.l3]
      rw [if_neg (by omega), if_pos c, if_pos (by omega), if_pos (by omega), Option.bind_some, if_pos (by simp; omega), Gen.w64s (by omega)]
    · rw [if_neg c] at h
      refine Told.step (fun k => ?_) h
      simp only [spec_l14Kept.l3]
      rw [if_neg (by omega), if_neg c, Gen.w64s (by omega)]
  | succ d ih =>
    intro j b hd h
    rw [rd_dropP out j (by omega), List.all_cons, ← Bool.and_assoc] at h
    have e2 : (rd_T77 out (j : Int)) = out.getD j z77 := rfl
    refine Told.step (fun k => ?_) (ih (j + 1) (b && decide (fQ (out.getD j z77) (rd_T77 S (i : Int)) ≥ f * f)) (by omega) h)
    simp only [spec_l14Kept.l3]
    rw [if_pos (by omega)]
    cases b
    · rw [if_neg (by simp), Gen.w64s (by omega)]; rfl
    · rw [if_pos rfl, if_pos (by omega), if_pos (by omega), if_pos (by omega), specFar, Option.bind_some, Gen.w64s (by omega), w64_sq hf, e2]; rfl
theorem kL2 (S : List S77) (f : Int) (hf : 0 ≤ f ∧ f ≤ 200) (hS : S.length ≤ 1000000) : ∀ d i out, i + d = S.length → out.length ≤ i → Told (fun k => spec_l14Kept.l2 k f S out (i : Int)) ((S.drop i).foldl (keepStep f) out) := by
  intro d
  induction d with
  | zero =>
    intro i out hd ho
    rw [List.drop_eq_nil_of_le (by omega), List.foldl_nil]
    exact Told.stepr fun k => by simp only [spec_l14Kept.l2]; rw [if_neg (by omega)]
  | succ d ih =>
    intro i out hd ho
    rw [rd_dropP S i (by omega), List.foldl_cons]
    refine Told.step (fun k => by simp only [spec_l14Kept.l2]; rw [if_pos (by omega)]; rfl) (kL3 S out f hf i (by omega) (by omega) (by omega) out.length 0 true (by omega) ?_)
    have hlk : (keepStep f out (S.getD i z77)).length ≤ i + 1 := by
      unfold keepStep
      split
      · rw [List.length_append, List.length_singleton]; omega
      · omega
    have := ih (i + 1) (keepStep f out (S.getD i z77)) (by omega) hlk
    rw [Bool.true_and, List.drop_zero]
    exact this
theorem kL0 (l : List S77) (f : Int) (hf : 0 ≤ f ∧ f ≤ 200) (hl : l.length ≤ 1000000) : ∀ d i S, i + d = l.length → S.length = i → Told (fun k => spec_l14Kept.l0 k l f S (i : Int)) (keepP f ((l.drop i).foldl (fun S x => insP x S) S)) := by
  intro d
  induction d with
  | zero =>
    intro i S hd hs
    rw [List.drop_eq_nil_of_le (by omega), List.foldl_nil]
    refine Told.step (fun k => by simp only [spec_l14Kept.l0]; rw [if_neg (by omega)]) ?_
    exact kL2 S f hf (by omega) S.length 0 [] (by omega) (by simp)
  | succ d ih =>
    intro i S hd hs
    rw [rd_dropP l i (by omega), List.foldl_cons]
    refine Told.step (fun k => by simp only [spec_l14Kept.l0]; rw [if_pos (by omega)]) (kL1 l S f i (by omega) (by omega) (by omega) S.length (Nat.le_refl _) ?_)
    exact ih (i + 1) (insP (l.getD i z77) S) (by omega) (by rw [len_insP]; omega)
theorem tSpecKept (l : List S77) (f : Int) (hf : 0 ≤ f ∧ f ≤ 200) (hl : l.length ≤ 1000000) : Told (fun k => spec_l14Kept.f k l f) (keepP f (sortP l)) := kL0 l f hf hl l.length 0 [] (by omega) rfl
theorem ltOf_up : Go.Proofs.ltOf impl_fromAbove.cf = fun x y => upP x y := by
  funext x y
  have e : ∀ x y, impl_fromAbove.up x y = upP x y := fun _ _ => rfl
  unfold Go.Proofs.ltOf impl_fromAbove.cf
  rw [e, e]
  cases upP x y
  · cases upP y x <;> rfl
  · rfl
theorem get_of_toList {d : Array S77} {l : List S77} (h : d.toList = l) (i : Nat) (hi : i < l.length) : d[i]! = l.getD i z77 := by
  subst h
  rw [getElem!_pos d i (by simpa using hi), List.getD_eq_getElem?_getD, List.getElem?_eq_getElem hi]
  rfl
theorem insInner_to (x : S77) (R : List S77) (S : List S77) : ∀ j (d : Array S77), j ≤ S.length → d.toList = S.take j ++ x :: (S.drop j ++ R) →
    (Go.Sort.insInner (fun x y => upP x y) 0 j d).toList = S.take (posP x S j) ++ x :: (S.drop (posP x S j) ++ R)
  | 0, d, _, h => h
  | j + 1, d, hj, h => by
    have hlen : (S.take (j + 1)).length = j + 1 := by rw [List.length_take]; omega
    have hs : d.size = S.length + 1 + R.length := by rw [← Array.length_toList, h]; simp; omega
    have g1 : d[j + 1]! = x := by
      rw [get_of_toList h (j + 1) (by simp; omega), List.getD_eq_getElem?_getD, List.getElem?_append_right (by omega), hlen, Nat.sub_self]; rfl
    have g0 : d[j]! = S.getD j z77 := by
      rw [get_of_toList h j (by simp; omega), List.getD_eq_getElem?_getD, List.getElem?_append_left (by omega), List.getElem?_take_of_lt (by omega), ← List.getD_eq_getElem?_getD]
    unfold Go.Sort.insInner posP
    rw [g1, g0]
    by_cases c : upP x (S.getD j z77) = true
    · rw [if_pos (by rw [c, Bool.and_true]; exact decide_eq_true (Nat.succ_pos j)), if_pos c]
      refine insInner_to x R S j _ (by omega) ?_
      have e1 : S.take (j + 1) = S.take j ++ [S.getD j z77] := by
        rw [List.take_add_one, List.getElem?_eq_getElem (by omega), List.getD_eq_getElem?_getD, List.getElem?_eq_getElem (by omega)]; rfl
      have hlj : (S.take j).length = j := by rw [List.length_take]; omega
      unfold Go.Sort.swp
      rw [g1, g0, Array.toList_setIfInBounds, Array.toList_setIfInBounds, h, e1, rd_dropP S j (by omega), List.append_assoc]
      rw [List.set_append_right _ _ (by omega), hlj, List.set_append_right _ _ (by omega), hlj]
      simp
    · rw [if_neg (by rw [Bool.eq_false_iff.2 c, Bool.and_false]; exact Bool.false_ne_true), if_neg c]
      exact h
theorem insOuter_to (b : Nat) : ∀ (R : List S77) (i : Nat) (S : List S77) (d : Array S77), S.length = i → i + R.length = b → d.toList = S ++ R →
    (Go.Sort.insOuter (fun x y => upP x y) 0 b i d).toList = R.foldl (fun S x => insP x S) S
  | [], i, S, d, hs, hb, h => by
    rw [Go.Sort.insOuter, if_neg (by simp at hb; omega), h]; simp
  | x :: R, i, S, d, hs, hb, h => by
    rw [Go.Sort.insOuter, if_pos (by simp at hb; omega), List.foldl_cons]
    refine insOuter_to b R (i + 1) (insP x S) _ (by rw [len_insP]; omega) (by simp at hb; omega) ?_
    have := insInner_to x R S i d (by omega) (by rw [h, List.take_of_length_le (by omega), List.drop_eq_nil_of_le (by omega)]; rfl)
    rw [this]; unfold insP; rw [hs, List.append_assoc]; rfl
theorem insertion_to (l : List S77) : (Go.Sort.insertionSort (Go.Proofs.ltOf impl_fromAbove.cf) l.toArray 0 l.length).toList = sortP l := by
  rw [ltOf_up]
  unfold Go.Sort.insertionSort sortP
  cases l with
  | nil => rw [Go.Sort.insOuter, if_neg (by simp)]; rfl
  | cons x l =>
    exact insOuter_to (x :: l).length l (0 + 1) [x] (x :: l).toArray rfl (by simp; omega) rfl
theorem implFromAbove (l : List S77) (h : l.length ≤ 16) : impl_fromAbove.f l = some (sortP l) := by
  unfold impl_fromAbove.f impl_Place_135.f
  simp only [Option.bind_some, List.nil_append, List.length_nil]
  rw [if_pos (by omega), Option.bind_some, if_pos h, insertion_to]
theorem iL1 (S out : List S77) (f : Int) (hf : 0 ≤ f ∧ f ≤ 200) (i : Nat) (hi : i < S.length) (hS : S.length ≤ 2000000) (ho : out.length ≤ 2000000) (x : S77) {r : List S77} : ∀ d j b, j + d = out.length →
    Told (fun k => impl_keptPlaces.l0 k f (if (b && (out.drop j).all fun y => decide (fQ y x ≥ f * f)) = true then out ++ [x] else out) S (S.length : Int) ((i + 1 : Nat) : Int)) r →
    Told (fun k => impl_keptPlaces.l1 k f out b S (S.length : Int) (i : Int) (out.length : Int) (j : Int) x.f0 x.f1.f0 x.f1.f1 x.f2) r := by
  intro d
  induction d with
  | zero =>
    intro j b hd h
    have e0 : out.drop j = [] := List.drop_eq_nil_of_le (by omega)
    rw [e0, List.all_nil, Bool.and_true] at h
    by_cases c : b = true
    · rw [if_pos c] at h
      refine Told.step (fun k => ?_) h
      simp only [impl_keptPlaces.l1]
      rw [if_neg (by omega), if_pos c, if_pos (by omega), Gen.w64s (by omega)]
    · rw [if_neg c] at h
      refine Told.step (fun k => ?_) h
      simp only [impl_keptPlaces.l1]
      rw [if_neg (by omega), if_neg c, Gen.w64s (by omega)]
  | succ d ih =>
    intro j b hd h
    rw [rd_dropP out j (by omega), List.all_cons, ← Bool.and_assoc] at h
    have e2 : (rd_T77 out (j : Int)) = out.getD j z77 := rfl
    refine Told.step (fun k => ?_) (ih (j + 1) (b && decide (fQ (out.getD j z77) x ≥ f * f)) (by omega) h)
    simp only [impl_keptPlaces.l1]
    rw [if_pos (by omega), if_pos (by omega), if_pos (by omega)]
    cases b
    · rw [if_neg (by simp), Gen.w64s (by omega)]; rfl
    · rw [if_pos rfl, implFar, Option.bind_some, Gen.w64s (by omega), w64_sq hf, e2, fQ_comm (out.getD j z77) x]; rfl
theorem iL0 (S : List S77) (f : Int) (hf : 0 ≤ f ∧ f ≤ 200) (hS : S.length ≤ 1000000) : ∀ d i out, i + d = S.length → out.length ≤ i → Told (fun k => impl_keptPlaces.l0 k f out S (S.length : Int) (i : Int)) ((S.drop i).foldl (keepStep f) out) := by
  intro d
  induction d with
  | zero =>
    intro i out hd ho
    rw [List.drop_eq_nil_of_le (by omega), List.foldl_nil]
    exact Told.stepr fun k => by simp only [impl_keptPlaces.l0]; rw [if_neg (by omega)]
  | succ d ih =>
    intro i out hd ho
    rw [rd_dropP S i (by omega), List.foldl_cons]
    refine Told.step (fun k => by simp only [impl_keptPlaces.l0]; rw [if_pos (by omega), if_pos (by omega), if_pos (by omega)]; rfl) (iL1 S out f hf i (by omega) (by omega) (by omega) (S.getD i z77) out.length 0 true (by omega) ?_)
    have hlk : (keepStep f out (S.getD i z77)).length ≤ i + 1 := by
      unfold keepStep
      split
      · rw [List.length_append, List.length_singleton]; omega
      · omega
    have := ih (i + 1) (keepStep f out (S.getD i z77)) (by omega) hlk
    rw [Bool.true_and, List.drop_zero]
    exact this
def Gd (l : List S77) (f : Int) : Prop := Pls l ∧ 0 ≤ f ∧ f ≤ 200
instance (l : List S77) (f : Int) : Decidable (Gd l f) := by unfold Gd; infer_instance
def keptV (l : List S77) (f : Int) : List S77 := if Gd l f then keepP f (sortP l) else []
theorem tImplKept (l : List S77) (f : Int) (hl : l.length ≤ 1048576) : Told (fun k => impl_keptPlaces.f k l f) (keptV l f) := by
  have ha : Told (fun k => impl_ArePlaces.f k l) (decide (Pls l)) := ⟨l.length + 1, fun k hk => implArePlaces l hl (by omega)⟩
  unfold keptV
  refine Told.bind (Told.ret _) (Told.bind ha ?_)
  by_cases hp : Pls l
  · refine Told.ite_t (decide_eq_true hp) (Told.bind (Told.of (implInRange f 0 200)) ?_)
    by_cases hf : 0 ≤ f ∧ f ≤ 200
    · rw [if_pos ⟨hp, hf⟩, decide_eq_true hf]
      refine Told.step (fun k => by simp only [impl_keptPlaces.j0, Bool.not_true, Bool.false_eq_true, if_false]; rfl) ?_
      refine Told.bind (Told.of (implFromAbove l hp.1)) ?_
      exact iL0 (sortP l) f hf (by rw [len_sortP]; have := hp.1; omega) (sortP l).length 0 [] (by omega) (by simp)
    · rw [if_neg (fun h => hf h.2), decide_eq_false hf]
      exact Told.stepr fun k => by simp only [impl_keptPlaces.j0, Bool.not_false, if_true]
  · rw [if_neg (fun h => hp h.1)]
    refine Told.ite_f (by rw [decide_eq_true_eq]; exact hp) ?_
    exact Told.stepr fun k => by simp only [impl_keptPlaces.j0, if_true]
def putP (n : Int) : List Int → List Int
  | [] => [n]
  | x :: xs => if x < n then x :: putP n xs else if x = n then x :: xs else n :: x :: xs
theorem len_putP (n : Int) : ∀ xs, (putP n xs).length ≤ xs.length + 1
  | [] => Nat.le_refl _
  | x :: xs => by
    have := len_putP n xs
    unfold putP
    split
    · rw [List.length_cons, List.length_cons]; omega
    · split <;> simp
theorem mem_putP (n : Int) : ∀ xs y, y ∈ putP n xs ↔ y = n ∨ y ∈ xs
  | [], y => by simp [putP]
  | x :: xs, y => by
    have := mem_putP n xs y
    unfold putP
    split
    · rw [List.mem_cons, this, List.mem_cons]; exact ⟨fun h => by rcases h with h | h | h <;> simp [h], fun h => by rcases h with h | h | h <;> simp [h]⟩
    · split
      · rename_i e; rw [List.mem_cons, e]; exact ⟨fun h => by rcases h with h | h <;> simp [h], fun h => by rcases h with h | h | h <;> simp [h]⟩
      · rw [List.mem_cons]
theorem rd_dropI (S : List Int) (j : Nat) (h : j < S.length) : S.drop j = rd S (j : Int) :: S.drop (j + 1) := by
  rw [List.drop_eq_getElem_cons h]
  congr 1
  show _ = S.getD j 0
  rw [List.getD_eq_getElem?_getD, List.getElem?_eq_getElem h]; rfl
theorem tPutL (xs : List Int) (n : Int) (hl : xs.length ≤ 2000000) : ∀ d j, j + d = xs.length → Told (fun k => spec_l14Put.l0 k xs n (j : Int)) (xs.take j ++ putP n (xs.drop j)) := by
  intro d
  induction d with
  | zero =>
    intro j hd
    rw [List.drop_eq_nil_of_le (by omega)]
    refine Told.stepr fun k => ?_
    have e1 : ((j : Int)).toNat = j := by omega
    simp only [spec_l14Put.l0]
    rw [if_neg (by omega)]
    simp only [Option.bind_some]
    rw [if_pos (by omega), if_pos (by omega), e1, if_pos (by simp; omega), if_pos (by simp; omega), if_pos (by simp; omega), List.drop_eq_nil_of_le (by omega)]
    simp [putP]
  | succ d ih =>
    intro j hd
    have hx := rd_dropI xs j (by omega)
    have e1 : ((j : Int)).toNat = j := by omega
    by_cases c : rd xs (j : Int) < n
    · have h := ih (j + 1) (by omega)
      have e : xs.take j ++ putP n (xs.drop j) = xs.take (j + 1) ++ putP n (xs.drop (j + 1)) := by
        rw [hx]
        conv => lhs; unfold putP
        rw [if_pos c]
        have : xs.take (j + 1) = xs.take j ++ [rd xs (j : Int)] := by
          have h1 : (xs.take (j + 1)) ++ xs.drop (j + 1) = (xs.take j ++ [rd xs (j : Int)]) ++ xs.drop (j + 1) := by
            rw [List.take_append_drop, List.append_assoc, List.singleton_append, ← hx, List.take_append_drop]
          exact List.append_cancel_right h1
        rw [this]; simp
      rw [e]
      exact Told.step (fun k => by simp only [spec_l14Put.l0]; rw [if_pos (by omega), if_pos (by omega), if_pos c, Gen.w64s (by omega)]) h
    · refine Told.stepr fun k => ?_
      simp only [spec_l14Put.l0]
      rw [if_pos (by omega), if_pos (by omega), if_neg c]
      by_cases c2 : rd xs (j : Int) = n
      · rw [if_pos c2]
        simp only [Option.bind_some]
        rw [if_pos (by simp; omega)]
        have : xs.take j ++ putP n (xs.drop j) = xs := by
          rw [hx]
          conv => lhs; unfold putP
          rw [if_neg c, if_pos c2, ← hx, List.take_append_drop]
        rw [this]; simp
      · rw [if_neg c2]
        simp only [Option.bind_some]
        rw [if_pos (by omega), e1, if_pos (by simp; omega), if_pos (by simp; omega), if_pos (by simp; omega)]
        have : xs.take j ++ putP n (xs.drop j) = xs.take j ++ ([n] ++ xs.drop j) := by
          congr 1
          rw [hx]
          conv => lhs; unfold putP
          rw [if_neg c, if_neg c2]; rfl
        rw [this]; simp
theorem tPut (xs : List Int) (n : Int) (hl : xs.length ≤ 2000000) : Told (fun k => spec_l14Put.f k xs n) (putP n xs) := tPutL xs n hl xs.length 0 (by omega)
def idsP (K : List S77) (o : List Int) : List Int := K.foldl (fun o y => putP y.f0 o) o
theorem mem_idsP : ∀ (K : List S77) (o : List Int) (n : Int), n ∈ idsP K o ↔ (∃ y ∈ K, y.f0 = n) ∨ n ∈ o
  | [], o, n => by simp [idsP]
  | y :: K, o, n => by
    have := mem_idsP K (putP y.f0 o) n
    unfold idsP at this ⊢
    rw [List.foldl_cons, this, mem_putP]
    constructor
    · rintro (⟨z, h, e⟩ | h | h)
      · exact .inl ⟨z, List.mem_cons_of_mem _ h, e⟩
      · exact .inl ⟨y, List.mem_cons_self, h.symm⟩
      · exact .inr h
    · rintro (⟨z, h, e⟩ | h)
      · rcases List.mem_cons.1 h with rfl | h
        · exact .inr (.inl e.symm)
        · exact .inl ⟨z, h, e⟩
      · exact .inr (.inr h)
theorem len_idsP : ∀ (K : List S77) (o : List Int), (idsP K o).length ≤ o.length + K.length
  | [], o => Nat.le_refl _
  | y :: K, o => by
    have := len_idsP K (putP y.f0 o)
    have := len_putP y.f0 o
    show (idsP K (putP y.f0 o)).length ≤ _
    rw [List.length_cons]; omega
theorem tThinL (K : List S77) (hK : K.length ≤ 1048576) : ∀ d i o, i + d = K.length → o.length ≤ i → Told (fun k => spec_ThinPlaces.l0 k o K (i : Int)) (idsP (K.drop i) o) := by
  intro d
  induction d with
  | zero =>
    intro i o hd ho
    rw [List.drop_eq_nil_of_le (by omega)]
    exact Told.stepr fun k => by simp only [spec_ThinPlaces.l0]; rw [if_neg (by omega)]; rfl
  | succ d ih =>
    intro i o hd ho
    rw [rd_dropP K i (by omega)]
    have h := ih (i + 1) (putP (K.getD i z77).f0 o) (by omega) (by have := len_putP (K.getD i z77).f0 o; omega)
    have h2 : Told (fun k => (spec_l14Put.f k o (K.getD i z77).f0).bind fun t => spec_ThinPlaces.l0 k t K ((i + 1 : Nat) : Int)) (idsP (K.drop (i + 1)) (putP (K.getD i z77).f0 o)) := Told.bind (tPut o (K.getD i z77).f0 (by omega)) h
    exact Told.step (fun k => by simp only [spec_ThinPlaces.l0]; rw [if_pos (by omega), if_pos (by omega), Gen.w64s (by omega)]; rfl) h2
def thinV (l : List S77) (f : Int) : List Int := idsP (keptV l f) []
theorem len_keptV (l : List S77) (f : Int) : (keptV l f).length ≤ 16 := by
  unfold keptV
  split
  · rename_i h
    have := (sub_keepP f (sortP l)).length_le
    rw [len_sortP] at this
    have := h.1.1; omega
  · simp
theorem tSpecThin (l : List S77) (f : Int) (hl : l.length ≤ 1048576) : Told (fun k => spec_ThinPlaces.f k l f) (thinV l f) := by
  have ha : Told (fun k => spec_ArePlaces.f k l) (decide (Pls l)) := ⟨l.length + 1, fun k hk => specArePlaces l hl (by omega)⟩
  have h16 := len_keptV l f
  unfold thinV
  refine Told.bind (Told.ret _) (Told.bind ha ?_)
  by_cases hp : Pls l
  · refine Told.ite_t (decide_eq_true hp) (Told.bind (Told.of (specIn f 0 200)) ?_)
    by_cases hf : 0 ≤ f ∧ f ≤ 200
    · rw [decide_eq_true hf]
      refine Told.step (fun k => by simp only [spec_ThinPlaces.j0, Bool.not_true, Bool.false_eq_true, if_false]; rfl) ?_
      have e : keptV l f = keepP f (sortP l) := by unfold keptV; rw [if_pos ⟨hp, hf⟩]
      rw [e] at h16 ⊢
      exact Told.bind (tSpecKept l f hf (by have := hp.1; omega)) (tThinL (keepP f (sortP l)) (by omega) (keepP f (sortP l)).length 0 [] (by omega) (by simp))
    · have e : keptV l f = [] := by unfold keptV; rw [if_neg (fun h => hf h.2)]
      rw [e, decide_eq_false hf]
      exact Told.stepr fun k => by simp only [spec_ThinPlaces.j0, Bool.not_false, if_true]; rfl
  · have e : keptV l f = [] := by unfold keptV; rw [if_neg (fun h => hp h.1)]
    rw [e]
    refine Told.ite_f (by rw [decide_eq_true_eq]; exact hp) ?_
    exact Told.stepr fun k => by simp only [spec_ThinPlaces.j0, if_true]; rfl
def eqB (x y : S77) : Bool := (x.f0 == y.f0 && ((x.f1.f0 == y.f1.f0 && (x.f1.f1 == y.f1.f1)) && (x.f2 == y.f2)))
theorem eqB_iff (x y : S77) : eqB x y = true ↔ x = y := by
  obtain ⟨a, ⟨b, c⟩, d⟩ := x; obtain ⟨a', ⟨b', c'⟩, d'⟩ := y
  unfold eqB
  simp
theorem tIndexL (K : List S77) (x : S77) (hK : K.length ≤ 1048576) : ∀ d j, j + d = K.length → ∃ q : Int, decide (q ≥ 0) = (K.drop j).any (eqB x) ∧ Told (fun k => impl_Place_117.l0 k K (K.length : Int) (j : Int) x.f0 x.f1.f0 x.f1.f1 x.f2) q := by
  intro d
  induction d with
  | zero =>
    intro j hd
    refine ⟨-1, by rw [List.drop_eq_nil_of_le (by omega)]; rfl, Told.stepr fun k => ?_⟩
    simp only [impl_Place_117.l0]; rw [if_neg (by omega)]
  | succ d ih =>
    intro j hd
    rw [rd_dropP K j (by omega), List.any_cons]
    have e2 : (rd_T77 K (j : Int)) = K.getD j z77 := rfl
    by_cases c : eqB x (K.getD j z77) = true
    · refine ⟨j, by rw [c, Bool.true_or]; exact decide_eq_true (by omega), Told.stepr fun k => ?_⟩
      unfold eqB at c
      simp only [impl_Place_117.l0]; rw [if_pos (by omega), if_pos (by omega), if_pos (by omega), e2, if_pos c]
    · obtain ⟨q, h1, h2⟩ := ih (j + 1) (by omega)
      refine ⟨q, by rw [Bool.eq_false_iff.2 c, Bool.false_or]; exact h1, Told.step (fun k => ?_) h2⟩
      unfold eqB at c
      simp only [impl_Place_117.l0]; rw [if_pos (by omega), if_pos (by omega), if_pos (by omega), e2, if_neg c, Gen.w64s (by omega)]
theorem tContains (K : List S77) (x : S77) (hK : K.length ≤ 1048576) : Told (fun k => impl_Place_91.f k K x.f0 x.f1.f0 x.f1.f1 x.f2) (K.any (eqB x)) := by
  obtain ⟨q, h1, h2⟩ := tIndexL K x hK K.length 0 (by omega)
  rw [List.drop_zero] at h1
  rw [← h1]
  exact Told.bind h2 (Told.ret _)
theorem tIdxL (l : List S77) (id : Int) (hl : l.length ≤ 1048576) : ∀ d j, j + d = l.length → (∃ i, j ≤ i ∧ i < l.length ∧ (l.getD i z77).f0 = id ∧ Told (fun k => impl_Place_89.l0 k l id (j : Int)) (i : Int)) ∨ ((∀ x ∈ l.drop j, x.f0 ≠ id) ∧ Told (fun k => impl_Place_89.l0 k l id (j : Int)) (-1)) := by
  intro d
  induction d with
  | zero =>
    intro j hd
    refine .inr ⟨by rw [List.drop_eq_nil_of_le (by omega)]; exact (fun x h => nomatch h), Told.stepr fun k => ?_⟩
    simp only [impl_Place_89.l0]; rw [if_neg (by omega)]
  | succ d ih =>
    intro j hd
    have e2 : (rd_T77 l (j : Int)) = l.getD j z77 := rfl
    by_cases c : (l.getD j z77).f0 = id
    · refine .inl ⟨j, Nat.le_refl j, by omega, c, Told.stepr fun k => ?_⟩
      simp only [impl_Place_89.l0]; rw [if_pos (by omega), if_pos (by omega), e2, if_pos c]
    · have st : ∀ k, impl_Place_89.l0 (k + 1) l id (j : Int) = impl_Place_89.l0 k l id ((j + 1 : Nat) : Int) := fun k => by
        simp only [impl_Place_89.l0]; rw [if_pos (by omega), if_pos (by omega), e2, if_neg c, Gen.w64s (by omega)]
      rcases ih (j + 1) (by omega) with ⟨i, h1, h2, h3, h4⟩ | ⟨h1, h2⟩
      · exact .inl ⟨i, by omega, h2, h3, Told.step st h4⟩
      · refine .inr ⟨?_, Told.step st h2⟩
        rw [rd_dropP l j (by omega)]
        intro x hx
        rcases List.mem_cons.1 hx with rfl | hx
        · exact c
        · exact h1 x hx
theorem implFarQ (x y : S77) : impl_FarSquared.f x.f1.f0 x.f1.f1 y.f1.f0 y.f1.f1 = some (fQ x y) := implFar _ _ _ _
theorem specFarQ (x y : S77) : spec_FarSquared.f x.f1.f0 x.f1.f1 y.f1.f0 y.f1.f1 = some (fQ x y) := specFar _ _ _ _
def hidB (f : Int) (x y : S77) : Bool := upP y x && decide (fQ y x < f * f)
def hidV (f : Int) (K : List S77) (x : S77) : Int := ((K.find? (hidB f x)).map fun y => y.f0).getD 0
theorem iHidL (l K : List S77) (f : Int) (hf : 0 ≤ f ∧ f ≤ 200) (hl : l.length ≤ 1048576) (hK : K.length ≤ 1048576) (i : Nat) (hi : i < l.length) : ∀ d j, j + d = K.length → Told (fun k => impl_HiddenBy.l0 k l f (i : Int) K (K.length : Int) (j : Int)) (hidV f (K.drop j) (l.getD i z77)) := by
  intro d
  induction d with
  | zero =>
    intro j hd
    rw [List.drop_eq_nil_of_le (by omega)]
    exact Told.stepr fun k => by simp only [impl_HiddenBy.l0]; rw [if_neg (by omega)]; rfl
  | succ d ih =>
    intro j hd
    have h := ih (j + 1) (by omega)
    rw [rd_dropP K j (by omega)]
    have e2 : (rd_T77 K (j : Int)) = K.getD j z77 := rfl
    have e3 : (rd_T77 l (i : Int)) = l.getD i z77 := rfl
    unfold hidV at h ⊢
    rw [List.find?_cons]
    by_cases c1 : upP (K.getD j z77) (l.getD i z77) = true
    · by_cases c2 : fQ (K.getD j z77) (l.getD i z77) < f * f
      · rw [show hidB f (l.getD i z77) (K.getD j z77) = true by unfold hidB; rw [c1, decide_eq_true c2]; rfl]
        refine Told.stepr fun k => ?_
        simp only [impl_HiddenBy.l0]
        rw [if_pos (by omega), if_pos (by omega), if_pos (by omega), if_pos (by omega), if_pos (by omega), implAbove, Option.bind_some, e2, e3, if_pos c1, implFarQ, Option.bind_some, w64_sq hf, if_pos c2]
        rfl
      · rw [show hidB f (l.getD i z77) (K.getD j z77) = false by unfold hidB; rw [c1, decide_eq_false c2]; rfl]
        refine Told.step (fun k => ?_) h
        simp only [impl_HiddenBy.l0]
        rw [if_pos (by omega), if_pos (by omega), if_pos (by omega), if_pos (by omega), if_pos (by omega), implAbove, Option.bind_some, e2, e3, if_pos c1, implFarQ, Option.bind_some, w64_sq hf, if_neg c2, Gen.w64s (by omega)]
    · rw [show hidB f (l.getD i z77) (K.getD j z77) = false by unfold hidB; rw [Bool.eq_false_iff.2 c1]; rfl]
      refine Told.step (fun k => ?_) h
      simp only [impl_HiddenBy.l0]
      rw [if_pos (by omega), if_pos (by omega), if_pos (by omega), if_pos (by omega), if_pos (by omega), implAbove, Option.bind_some, e2, e3, if_neg c1, Gen.w64s (by omega)]
theorem tImplHid (l : List S77) (f id : Int) (hl : l.length ≤ 1048576) : (∃ i, i < l.length ∧ (l.getD i z77).f0 = id ∧ Told (fun k => impl_HiddenBy.f k l f id) (if (keptV l f).any (eqB (l.getD i z77)) = true then 0 else hidV f (keptV l f) (l.getD i z77))) ∨ ((∀ x ∈ l, x.f0 ≠ id) ∧ Told (fun k => impl_HiddenBy.f k l f id) 0) := by
  have h16 := len_keptV l f
  rcases tIdxL l id hl l.length 0 (by omega) with ⟨i, _, h2, h3, h4⟩ | ⟨h1, h2⟩
  · refine .inl ⟨i, h2, h3, Told.bind (tImplKept l f hl) (Told.bind h4 ?_)⟩
    refine Told.ite_f (by omega) (Told.ite_t (by omega) (Told.ite_t (by omega) (Told.bind (tContains (keptV l f) (l.getD i z77) (by omega)) ?_)))
    by_cases c : (keptV l f).any (eqB (l.getD i z77)) = true
    · rw [if_pos c, c]
      exact Told.stepr fun k => by simp only [impl_HiddenBy.j0, if_true]
    · rw [if_neg c, Bool.eq_false_iff.2 c]
      refine Told.step (fun k => by simp only [impl_HiddenBy.j0, Bool.false_eq_true, if_false]; rfl) ?_
      by_cases g : Gd l f
      · exact iHidL l (keptV l f) f g.2 hl (by omega) i h2 (keptV l f).length 0 (by omega)
      · have e : keptV l f = [] := by unfold keptV; rw [if_neg g]
        rw [e]
        exact Told.stepr fun k => by simp only [impl_HiddenBy.l0]; rw [if_neg (by simp)]; rfl
  · rw [List.drop_zero] at h1
    refine .inr ⟨h1, Told.bind (tImplKept l f hl) (Told.bind h2 (Told.ite_t (by omega) ?_))⟩
    exact Told.stepr fun k => by simp only [impl_HiddenBy.j0, if_true]
def sHidV (f id : Int) (K : List S77) : List S77 → Int
  | [] => 0
  | x :: l => if x.f0 = id then (match K.find? (hidB f x) with | some y => y.f0 | none => sHidV f id K l) else sHidV f id K l
theorem sHidL1 (l K : List S77) (f id : Int) (hf : 0 ≤ f ∧ f ≤ 200) (hl : l.length ≤ 1048576) (hK : K.length ≤ 1048576) (i : Nat) (hi : i < l.length) (he : (l.getD i z77).f0 = id) {r : Int} (hr : Told (fun k => spec_HiddenBy.l0 k l f id K ((i + 1 : Nat) : Int)) r) : ∀ d j, j + d = K.length →
    Told (fun k => spec_HiddenBy.l1 k l f id K (i : Int) (j : Int)) (match (K.drop j).find? (hidB f (l.getD i z77)) with | some y => y.f0 | none => r) := by
  intro d
  induction d with
  | zero =>
    intro j hd
    rw [List.drop_eq_nil_of_le (by omega)]
    refine Told.step (fun k => by simp only [spec_HiddenBy.l1]; rw [if_neg (by omega)]) ?_
    refine Told.step (fun k => by simp only [spec_HiddenBy.j3, Bool.false_eq_true, if_false]; rw [Gen.w64s (by omega)]) ?_
    exact hr
  | succ d ih =>
    intro j hd
    have h := ih (j + 1) (by omega)
    rw [rd_dropP K j (by omega), List.find?_cons]
    have e2 : (rd_T77 K (j : Int)) = K.getD j z77 := rfl
    have e3 : (rd_T77 l (i : Int)) = l.getD i z77 := rfl
    refine Told.step (fun k => by simp only [spec_HiddenBy.l1]; rw [if_pos (by omega), if_pos (by omega), if_pos (by omega), e3, he, BEq.rfl]) ?_
    by_cases c1 : upP (K.getD j z77) (l.getD i z77) = true
    · by_cases c2 : fQ (K.getD j z77) (l.getD i z77) < f * f
      · rw [show hidB f (l.getD i z77) (K.getD j z77) = true by unfold hidB; rw [c1, decide_eq_true c2]; rfl]
        refine Told.stepr fun k => ?_
        simp only [spec_HiddenBy.j3, if_true]
        rw [if_pos (by omega), if_pos (by omega), if_pos (by omega), if_pos (by omega), specAbove, Option.bind_some, e2, e3, if_pos c1, specFarQ, Option.bind_some, w64_sq hf, if_pos c2]
      · rw [show hidB f (l.getD i z77) (K.getD j z77) = false by unfold hidB; rw [c1, decide_eq_false c2]; rfl]
        refine Told.step (fun k => ?_) h
        simp only [spec_HiddenBy.j3, if_true]
        rw [if_pos (by omega), if_pos (by omega), if_pos (by omega), if_pos (by omega), specAbove, Option.bind_some, e2, e3, if_pos c1, specFarQ, Option.bind_some, w64_sq hf, if_neg c2, Gen.w64s (by omega)]
    · rw [show hidB f (l.getD i z77) (K.getD j z77) = false by unfold hidB; rw [Bool.eq_false_iff.2 c1]; rfl]
      refine Told.step (fun k => ?_) h
      simp only [spec_HiddenBy.j3, if_true]
      rw [if_pos (by omega), if_pos (by omega), if_pos (by omega), if_pos (by omega), specAbove, Option.bind_some, e2, e3, if_neg c1, Gen.w64s (by omega)]
theorem sHidL0 (l K : List S77) (f id : Int) (hf : 0 ≤ f ∧ f ≤ 200) (hl : l.length ≤ 1048576) (hK : K.length ≤ 1048576) : ∀ d i, i + d = l.length → Told (fun k => spec_HiddenBy.l0 k l f id K (i : Int)) (sHidV f id K (l.drop i)) := by
  intro d
  induction d with
  | zero =>
    intro i hd
    rw [List.drop_eq_nil_of_le (by omega)]
    exact Told.stepr fun k => by simp only [spec_HiddenBy.l0]; rw [if_neg (by omega)]; rfl
  | succ d ih =>
    intro i hd
    have h := ih (i + 1) (by omega)
    have e3 : (rd_T77 l (i : Int)) = l.getD i z77 := rfl
    rw [rd_dropP l i (by omega)]
    unfold sHidV
    refine Told.step (fun k => by simp only [spec_HiddenBy.l0]; rw [if_pos (by omega)]; rfl) (?_ : Told (fun k => spec_HiddenBy.l1 k l f id K (i : Int) ((0 : Nat) : Int)) _)
    by_cases c : (l.getD i z77).f0 = id
    · rw [if_pos c]
      exact sHidL1 l K f id hf hl hK i (by omega) c h K.length 0 (by omega)
    · rw [if_neg c]
      have h2 : Told (fun k => spec_HiddenBy.j3 k l f id K (i : Int) ((0 : Nat) : Int) false) (sHidV f id K (l.drop (i + 1))) := Told.step (fun k => by simp only [spec_HiddenBy.j3, Bool.false_eq_true, if_false]; rw [Gen.w64s (by omega)]) h
      refine Told.step (fun k => ?_) h2
      simp only [spec_HiddenBy.l1]
      by_cases c0 : ((0 : Nat) : Int) < (K.length : Int)
      · rw [if_pos c0, if_pos (by omega), if_pos (by omega), e3, show ((l.getD i z77).f0 == id) = false from beq_eq_false_iff_ne.2 c]
      · rw [if_neg c0]
theorem tHas (xs : List Int) (n : Int) (hl : xs.length ≤ 1048576) : Told (fun k => spec_l14Has.f k xs n) (decide (n ∈ xs)) := by
  have key : ∀ d j, j + d = xs.length → Told (fun k => spec_l14Has.l0 k xs n (j : Int)) (decide (n ∈ xs.drop j)) := by
    intro d
    induction d with
    | zero =>
      intro j hd
      rw [List.drop_eq_nil_of_le (by omega)]
      exact Told.stepr fun k => by simp only [spec_l14Has.l0]; rw [if_neg (by omega)]; simp
    | succ d ih =>
      intro j hd
      rw [rd_dropI xs j (by omega)]
      by_cases c : rd xs (j : Int) = n
      · refine Told.stepr fun k => ?_
        simp only [spec_l14Has.l0]; rw [if_pos (by omega), if_pos (by omega), if_pos c, c]; simp
      · have h := ih (j + 1) (by omega)
        have e : decide (n ∈ rd xs (j : Int) :: xs.drop (j + 1)) = decide (n ∈ xs.drop (j + 1)) := by
          rw [decide_eq_decide, List.mem_cons]; exact ⟨fun h => h.resolve_left fun e => c e.symm, .inr⟩
        rw [e]
        exact Told.step (fun k => by simp only [spec_l14Has.l0]; rw [if_pos (by omega), if_pos (by omega), if_neg c, Gen.w64s (by omega)]) h
  exact key xs.length 0 (by omega)
theorem tSpecHid (l : List S77) (f id : Int) (hl : l.length ≤ 1048576) : Told (fun k => spec_HiddenBy.f k l f id) (if Gd l f ∧ id ∉ thinV l f then sHidV f id (keptV l f) l else 0) := by
  have ha : Told (fun k => spec_ArePlaces.f k l) (decide (Pls l)) := ⟨l.length + 1, fun k hk => specArePlaces l hl (by omega)⟩
  have h16 := len_keptV l f
  have ht : (thinV l f).length ≤ 1048576 := by have := len_idsP (keptV l f) []; unfold thinV; simp at this; omega
  have z : Told (fun k => spec_HiddenBy.j0 k l f id true) 0 := Told.stepr fun k => by simp only [spec_HiddenBy.j0, if_true]
  refine Told.bind ha ?_
  by_cases hp : Pls l
  · refine Told.ite_t (decide_eq_true hp) (Told.bind (Told.of (specIn f 0 200)) ?_)
    by_cases hf : 0 ≤ f ∧ f ≤ 200
    · refine Told.ite_t (decide_eq_true hf) (Told.bind (tSpecThin l f hl) (Told.bind (tHas _ id ht) ?_))
      by_cases c : id ∈ thinV l f
      · rw [if_neg (fun h => h.2 c), decide_eq_true c]; exact z
      · rw [if_pos ⟨⟨hp, hf⟩, c⟩, decide_eq_false c]
        have e : keptV l f = keepP f (sortP l) := by unfold keptV; rw [if_pos ⟨hp, hf⟩]
        rw [e] at h16 ⊢
        refine Told.step (fun k => by simp only [spec_HiddenBy.j0, Bool.false_eq_true, if_false]; rfl) (Told.bind (tSpecKept l f hf (by have := hp.1; omega)) ?_)
        exact sHidL0 l (keepP f (sortP l)) f id hf hl (by omega) l.length 0 (by omega)
    · rw [if_neg (fun h => hf h.1.2)]
      exact Told.ite_f (by rw [decide_eq_true_eq]; exact hf) z
  · rw [if_neg (fun h => hp h.1.1)]
    exact Told.ite_f (by rw [decide_eq_true_eq]; exact hp) z
theorem ids_lt {l : List S77} (h : Pls l) : ∀ d i, i + d + 1 < l.length → (l.getD i z77).f0 < (l.getD (i + d + 1) z77).f0 := by
  intro d
  induction d with
  | zero =>
    intro i hi
    have := h.2 (i + 0 + 1) hi
    unfold plChk at this
    exact (of_decide_eq_true this).2.2.2 (by omega)
  | succ d ih =>
    intro i hi
    have h1 := ih i (by omega)
    have := h.2 (i + (d + 1) + 1) hi
    unfold plChk at this
    have h2 := (of_decide_eq_true this).2.2.2 (by omega)
    have e : i + (d + 1) + 1 - 1 = i + d + 1 := by omega
    rw [e] at h2
    omega
theorem mem_getD {l : List S77} {x : S77} (h : x ∈ l) : ∃ i, i < l.length ∧ l.getD i z77 = x := by
  obtain ⟨i, hi, e⟩ := List.mem_iff_getElem.1 h
  exact ⟨i, hi, by rw [List.getD_eq_getElem?_getD, List.getElem?_eq_getElem hi]; exact e⟩
theorem getD_mem {l : List S77} {i : Nat} (h : i < l.length) : l.getD i z77 ∈ l := by
  rw [List.getD_eq_getElem?_getD, List.getElem?_eq_getElem h]; exact List.getElem_mem h
theorem ids_inj {l : List S77} (h : Pls l) {x y : S77} (hx : x ∈ l) (hy : y ∈ l) (e : x.f0 = y.f0) : x = y := by
  obtain ⟨i, hi, rfl⟩ := mem_getD hx
  obtain ⟨j, hj, rfl⟩ := mem_getD hy
  rcases Nat.lt_trichotomy i j with c | c | c
  · obtain ⟨d, rfl⟩ : ∃ d, j = i + d + 1 := ⟨j - i - 1, by omega⟩
    have := ids_lt h d i hj; omega
  · rw [c]
  · obtain ⟨d, rfl⟩ : ∃ d, i = j + d + 1 := ⟨i - j - 1, by omega⟩
    have := ids_lt h d j hi; omega
theorem kept_sub {l : List S77} {f : Int} {y : S77} (h : y ∈ keptV l f) : y ∈ l := by
  unfold keptV at h
  split at h
  · exact (perm_sortP l).mem_iff.1 ((sub_keepP f (sortP l)).mem h)
  · cases h
theorem mem_thinV (l : List S77) (f n : Int) : n ∈ thinV l f ↔ ∃ y ∈ keptV l f, y.f0 = n := by
  unfold thinV
  rw [mem_idsP]
  exact ⟨fun h => h.resolve_right (fun h => nomatch h), .inl⟩
theorem sHid_none (f id : Int) (K : List S77) : ∀ l : List S77, (∀ y ∈ l, y.f0 ≠ id) → sHidV f id K l = 0
  | [], _ => rfl
  | x :: l, h => by
    unfold sHidV
    rw [if_neg (h x List.mem_cons_self)]
    exact sHid_none f id K l fun y hy => h y (List.mem_cons_of_mem _ hy)
theorem sHid_zero (f id : Int) (K : List S77) (x : S77) (hn : K.find? (hidB f x) = none) : ∀ l : List S77, (∀ y ∈ l, y.f0 = id → y = x) → sHidV f id K l = 0
  | [], _ => rfl
  | a :: l, h => by
    have ih := sHid_zero f id K x hn l fun y hy => h y (List.mem_cons_of_mem _ hy)
    unfold sHidV
    by_cases c : a.f0 = id
    · rw [if_pos c, h a List.mem_cons_self c, hn]; exact ih
    · rw [if_neg c]; exact ih
theorem sHid_some (f id : Int) (K : List S77) (x y0 : S77) (hs : K.find? (hidB f x) = some y0) (hx : x.f0 = id) : ∀ l : List S77, x ∈ l → (∀ y ∈ l, y.f0 = id → y = x) → sHidV f id K l = y0.f0
  | [], hm, _ => nomatch hm
  | a :: l, hm, h => by
    unfold sHidV
    by_cases c : a.f0 = id
    · rw [if_pos c, h a List.mem_cons_self c, hs]
    · rw [if_neg c]
      refine sHid_some f id K x y0 hs hx l ?_ fun y hy => h y (List.mem_cons_of_mem _ hy)
      rcases List.mem_cons.1 hm with e | e
      · rw [← e] at c; exact absurd hx c
      · exact e
theorem sHid_eq {l : List S77} (hp : Pls l) (f : Int) (K : List S77) {x : S77} (hx : x ∈ l) : sHidV f x.f0 K l = hidV f K x := by
  have hu : ∀ y ∈ l, y.f0 = x.f0 → y = x := fun y hy e => ids_inj hp hy hx e
  unfold hidV
  cases hf : K.find? (hidB f x) with
  | none => rw [sHid_zero f x.f0 K x hf l hu]; rfl
  | some y0 => rw [sHid_some f x.f0 K x y0 hf rfl l hx hu]; rfl
theorem any_eqB (K : List S77) (x : S77) : K.any (eqB x) = true ↔ x ∈ K := by
  rw [List.any_eq_true]
  exact ⟨fun ⟨y, h, e⟩ => by rw [(eqB_iff x y).1 e]; exact h, fun h => ⟨x, h, (eqB_iff x x).2 rfl⟩⟩
theorem hid_same (l : List S77) (f id : Int) (hl : l.length ≤ 1048576) : ∃ r, Told (fun k => spec_HiddenBy.f k l f id) r ∧ Told (fun k => impl_HiddenBy.f k l f id) r := by
  refine ⟨_, tSpecHid l f id hl, ?_⟩
  rcases tImplHid l f id hl with ⟨i, hi, he, ht⟩ | ⟨hn, ht⟩
  · have hx := getD_mem hi
    generalize l.getD i z77 = x at he ht hx
    subst he
    have e : (if Gd l f ∧ x.f0 ∉ thinV l f then sHidV f x.f0 (keptV l f) l else 0) = (if (keptV l f).any (eqB x) = true then 0 else hidV f (keptV l f) x) := by
      by_cases g : Gd l f
      · by_cases c : x ∈ keptV l f
        · rw [if_neg (fun h => h.2 ((mem_thinV l f x.f0).2 ⟨x, c, rfl⟩)), if_pos ((any_eqB _ _).2 c)]
        · have nt : x.f0 ∉ thinV l f := fun h => by
            obtain ⟨y, h1, h2⟩ := (mem_thinV l f x.f0).1 h
            rw [ids_inj g.1 (kept_sub h1) hx h2] at h1
            exact c h1
          rw [if_pos ⟨g, nt⟩, if_neg (fun h => c ((any_eqB _ _).1 h)), sHid_eq g.1 f _ hx]
      · have ek : keptV l f = [] := by unfold keptV; rw [if_neg g]
        rw [if_neg (fun h => g h.1), ek, if_neg (by simp)]; rfl
    rw [e]; exact ht
  · have e : (if Gd l f ∧ id ∉ thinV l f then sHidV f id (keptV l f) l else 0) = 0 := by
      split
      · exact sHid_none f id _ l hn
      · rfl
    rw [e]; exact ht
theorem tToPlaceS (l : List S112) (hl : l.length ≤ 1048576) : Told (fun k => laws_toPlaceS.f k l) (l.map cPl) := ⟨l.length + 1, fun k hk => toPlaceS_some l hl (by omega)⟩
theorem tEqPlaceS (l : List S77) (hl : l.length ≤ 1048576) : Told (fun k => laws_eqPlaceS.f k l l) true := ⟨l.length + 1, fun k hk => eqPlaceS_self l hl (by omega)⟩
theorem pure_FnExactHiddenBy : ∀ (l0 : (List S112)) (a1 : Int) (a2 : Int), (List.length l0 ≤ maxLen ∧ ∀ y ∈ l0, G112 y) → I64 a1 → I64 a2 → ∃ k, laws_FnExactHiddenBy.f k l0 a1 a2 = some true := by
  intro a f id ⟨ha, _⟩ _ _
  apply Told.ex
  refine Told.bind (Told.of (szPlaceS_some a 1048576 ha (by omega) (by omega))) ?_
  by_cases hl : a.length ≤ 1048576
  · rw [if_neg (by omega)]
    have hm : (a.map cPl).length ≤ 1048576 := by rw [List.length_map]; exact hl
    obtain ⟨r, h1, h2⟩ := hid_same (a.map cPl) f id hm
    have tp := tToPlaceS a hl
    exact Told.ite_f (by omega) (Told.bind tp (Told.bind h1 (Told.bind tp (Told.bind h2 (Told.ite_t rfl (Told.bind tp (Told.bind (tEqPlaceS _ hm) (Told.ite_t rfl (Told.ret _)))))))))
  · rw [if_pos (by omega)]
    exact Told.ite_t (by omega) (Told.ret _)
end Go.Proofs.Ytbackoeakepngab.MFnExactHiddenBy
