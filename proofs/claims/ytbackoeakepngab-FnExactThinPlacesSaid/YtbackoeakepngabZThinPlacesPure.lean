/- The plain law behind FnExactThinPlaces: what the printed functions compute answers true; no condition beyond the arguments' ranges. -/
import Derived.Test.YtbackoeakepngabZThinPlacesTold
import Derived.Test.YtbackoeakepngabZThinPlacesGeo
import Derived.Test.YtbackoeakepngabZThinPlacesMx7
import Derived.Test.YtbackoeakepngabZThinPlacesOpn
namespace Go.Proofs.Ytbackoeakepngab.MFnExactThinPlaces
open Go Go.RowKit Go.Proofs.YtbackoeakepngabW.PrintWords Go.Proofs.YtbackoeakepngabW.PrintLast Go.Proofs.YtbackoeakepngabW.PrintMore Go.Proofs.Ytbackoeakepngab.Open
set_option linter.unusedVariables false
set_option linter.unusedSimpArgs false
theorem implInRange (a b c : Int) : impl_InRange.f a b c = some (decide (b ≤ a ∧ a ≤ c)) := by
  unfold impl_InRange.f; by_cases h : b ≤ a <;> simp [h]
theorem specIn (a b c : Int) : spec_l1In.f a b c = some (decide (b ≤ a ∧ a ≤ c)) := by
  unfold spec_l1In.f; by_cases h : b ≤ a <;> simp [h]
def Pt (x y : Int) : Prop := 0 ≤ x ∧ x ≤ 200 ∧ 0 ≤ y ∧ y ≤ 200
instance (x y : Int) : Decidable (Pt x y) := by unfold Pt; infer_instance
theorem implIsPoint (x y : Int) : impl_IsPoint.f x y = some (decide (Pt x y)) := by
  unfold impl_IsPoint.f
  rw [implInRange, implInRange]
  simp only [Option.bind_some]
  by_cases h : 0 ≤ x ∧ x ≤ 200
  · rw [if_pos (by simpa using h)]; simp [Pt, h]
  · rw [if_neg (by simpa using h)]; simp only [Option.some.injEq, Bool.false_eq, decide_eq_false_iff_not]; unfold Pt; omega
theorem specIsPoint (x y : Int) : spec_IsPoint.f x y = some (decide (Pt x y)) := by
  unfold spec_IsPoint.f
  rw [specIn, specIn]
  simp only [Option.bind_some]
  by_cases h : 0 ≤ x ∧ x ≤ 200
  · rw [if_pos (by simpa using h)]; simp [Pt, h]
  · rw [if_neg (by simpa using h)]; simp only [Option.some.injEq, Bool.false_eq, decide_eq_false_iff_not]; unfold Pt; omega
def cPl (p : S112) : S77 := ⟨p.f0, ⟨p.f1.f0, p.f1.f1⟩, p.f2⟩
theorem toPlaceS_some (l : List S112) (hl : l.length ≤ 1048576) {k : Nat} (hk : l.length < k) : laws_toPlaceS.f k l = some (l.map cPl) := by
  unfold laws_toPlaceS.f
  rw [if_pos (by omega), if_pos (by omega)]
  have := Gen.fill_all l z112 cPl 0 (fun k out i => laws_toPlaceS.l0 k l out i) (fun k out i _ hi ho => by
      simp only [laws_toPlaceS.l0]
      rw [if_pos (by omega), if_pos (by omega)]
      simp only [laws_toPlace.f, laws_toPoint.f, Option.bind_some]
      rw [if_pos (by omega), Gen.w64s (by omega)]
      rfl) (fun k out ho => by
      simp only [laws_toPlaceS.l0]
      rw [if_neg (by omega)]) (k := k) (out := List.replicate l.length z77) (by simp) (by omega)
  simpa using this
theorem szPlaceS_some (l : List S112) (a : Int) (hl : l.length ≤ maxLen) (ha : 0 ≤ a) (ha' : a ≤ 1048576) : laws_szPlaceS.f l a = some (if a < l.length then -1 else a - l.length) := by
  unfold laws_szPlaceS.f
  unfold maxLen at hl
  rw [Gen.w64 (by omega) (by omega)]
  split <;> split <;> first | rfl | omega
def plChk (l : List S77) (i : Nat) : Bool := decide ((1 ≤ (l.getD i z77).f0 ∧ (l.getD i z77).f0 ≤ 99) ∧ Pt (l.getD i z77).f1.f0 (l.getD i z77).f1.f1 ∧ (0 ≤ (l.getD i z77).f2 ∧ (l.getD i z77).f2 ≤ 9) ∧ (0 < i → (l.getD (i - 1) z77).f0 < (l.getD i z77).f0))
def Pls (l : List S77) : Prop := l.length ≤ 16 ∧ ∀ i, i < l.length → plChk l i = true
instance (l : List S77) : Decidable (Pls l) := by unfold Pls; infer_instance
theorem rdPl (l : List S77) (i : Nat) : rd_T77 l (i : Int) = l.getD i z77 := rfl
theorem specArePlaces (l : List S77) (hl : l.length ≤ 1048576) {k : Nat} (hk : l.length < k) : spec_ArePlaces.f k l = some (decide (Pls l)) := by
  unfold spec_ArePlaces.f
  rw [Gen.scan_all l.length 0 (plChk l) (decide (l.length ≤ 16)) (fun k i => spec_ArePlaces.l0 k l i) (fun k i _ hi => by
    simp only [spec_ArePlaces.l0]
    rw [if_pos (by omega), if_pos (by omega), specIn, specIsPoint, specIn, rdPl]
    simp only [Option.bind_some, decide_eq_true_eq]
    by_cases h1 : 1 ≤ (l.getD i z77).f0 ∧ (l.getD i z77).f0 ≤ 99
    · rw [if_pos h1]
      by_cases h2 : Pt (l.getD i z77).f1.f0 (l.getD i z77).f1.f1
      · rw [if_pos h2]
        by_cases h3 : 0 ≤ (l.getD i z77).f2 ∧ (l.getD i z77).f2 ≤ 9
        · rw [if_pos h3]
          by_cases h0 : 0 < i
          · have e1 : wrap64 ((i : Int) - 1) = ((i - 1 : Nat) : Int) := by rw [Gen.w64 (by omega) (by omega)]; omega
            rw [if_pos (by omega), e1, if_pos (by omega), if_pos (by omega), rdPl, Gen.w64s (by omega)]
            by_cases h4 : (l.getD (i - 1) z77).f0 ≥ (l.getD i z77).f0
            · rw [if_pos h4, if_neg (by unfold plChk; rw [decide_eq_true_eq]; exact fun h => by have := h.2.2.2 h0; omega)]
            · rw [if_neg h4, if_pos (by unfold plChk; rw [decide_eq_true_eq]; exact ⟨h1, h2, h3, fun _ => by omega⟩)]
          · rw [if_neg (by omega), if_pos (by unfold plChk; rw [decide_eq_true_eq]; exact ⟨h1, h2, h3, fun h => absurd h h0⟩), Gen.w64s (by omega)]
        · rw [if_neg h3, if_neg (by unfold plChk; rw [decide_eq_true_eq]; exact fun h => h3 h.2.2.1)]
      · rw [if_neg h2, if_neg (by unfold plChk; rw [decide_eq_true_eq]; exact fun h => h2 h.2.1)]
    · rw [if_neg h1, if_neg (by unfold plChk; rw [decide_eq_true_eq]; exact fun h => h1 h.1)]) (fun k _ => by
    simp only [spec_ArePlaces.l0]
    rw [if_neg (by omega)]
    simp only [Option.some.injEq, decide_eq_decide]
    omega) (by omega)]
  congr 1
  rw [Bool.eq_iff_iff, Bool.and_eq_true, decide_eq_true_eq, decide_eq_true_eq, decide_eq_true_eq]
  exact ⟨fun h => ⟨h.2, h.1⟩, fun h => ⟨h.2, h.1⟩⟩
theorem implArePlaces (l : List S77) (hl : l.length ≤ 1048576) {k : Nat} (hk : l.length < k) : impl_ArePlaces.f k l = some (decide (Pls l)) := by
  unfold impl_ArePlaces.f
  by_cases h16 : l.length ≤ 16
  · rw [if_neg (by omega)]
    rw [Gen.scan_all l.length 0 (plChk l) true (fun k i => impl_ArePlaces.l0 k l l l.length i) (fun k i _ hi => by
      simp only [impl_ArePlaces.l0]
      rw [if_pos (by omega), if_pos (by omega), if_pos (by omega), implInRange, implIsPoint, implInRange, rdPl]
      simp only [Option.bind_some, decide_eq_true_eq]
      by_cases h1 : 1 ≤ (l.getD i z77).f0 ∧ (l.getD i z77).f0 ≤ 99
      · rw [if_pos h1]
        by_cases h2 : Pt (l.getD i z77).f1.f0 (l.getD i z77).f1.f1
        · rw [if_pos h2]
          by_cases h3 : 0 ≤ (l.getD i z77).f2 ∧ (l.getD i z77).f2 ≤ 9
          · rw [if_pos h3]
            by_cases h0 : 0 < i
            · have e1 : wrap64 ((i : Int) - 1) = ((i - 1 : Nat) : Int) := by rw [Gen.w64 (by omega) (by omega)]; omega
              rw [if_pos (by omega), e1, if_pos (by omega), if_pos (by omega), rdPl, Gen.w64s (by omega)]
              by_cases h4 : (l.getD i z77).f0 ≤ (l.getD (i - 1) z77).f0
              · rw [if_pos h4, if_neg (by unfold plChk; rw [decide_eq_true_eq]; exact fun h => by have := h.2.2.2 h0; omega)]
              · rw [if_neg h4, if_pos (by unfold plChk; rw [decide_eq_true_eq]; exact ⟨h1, h2, h3, fun _ => by omega⟩)]
            · rw [if_neg (by omega), if_pos (by unfold plChk; rw [decide_eq_true_eq]; exact ⟨h1, h2, h3, fun h => absurd h h0⟩), Gen.w64s (by omega)]
          · rw [if_neg h3, if_neg (by unfold plChk; rw [decide_eq_true_eq]; exact fun h => h3 h.2.2.1)]
        · rw [if_neg h2, if_neg (by unfold plChk; rw [decide_eq_true_eq]; exact fun h => h2 h.2.1)]
      · rw [if_neg h1, if_neg (by unfold plChk; rw [decide_eq_true_eq]; exact fun h => h1 h.1)]) (fun k _ => by
      simp only [impl_ArePlaces.l0]
      rw [if_neg (by omega)]) (by omega)]
    congr 1
    rw [Bool.eq_iff_iff, Bool.and_eq_true, decide_eq_true_eq, decide_eq_true_eq]
    exact ⟨fun h => ⟨h16, h.1⟩, fun h => ⟨h.2, rfl⟩⟩
  · rw [if_pos (by omega)]
    congr 1
    rw [eq_comm, decide_eq_false_iff_not]
    exact fun h => h16 h.1
def D (n : Int) : Prop := -200 ≤ n ∧ n ≤ 200
theorem D_of {x y : Int} (hx : 0 ≤ x ∧ x ≤ 200) (hy : 0 ≤ y ∧ y ≤ 200) : wrap64 (x - y) = x - y ∧ D (x - y) := ⟨Gen.w64 (by omega) (by omega), by unfold D; omega⟩
theorem D_mul {x y : Int} (hx : D x) (hy : D y) : wrap64 (x * y) = x * y ∧ -40000 ≤ x * y ∧ x * y ≤ 40000 := by
  have := Gen.mul_bd (m := 200) (n := 200) hx hy
  exact ⟨Gen.w64 (by omega) (by omega), by omega, by omega⟩
def farZ (ax ay bx bY : Int) : Int := (ax - bx) * (ax - bx) + (ay - bY) * (ay - bY)
theorem farZ_bd {ax ay bx bY : Int} (ha : Pt ax ay) (hb : Pt bx bY) :
    wrap64 ((wrap64 ((wrap64 (ax - bx)) * (wrap64 (ax - bx)))) + (wrap64 ((wrap64 (ay - bY)) * (wrap64 (ay - bY))))) = farZ ax ay bx bY ∧ 0 ≤ farZ ax ay bx bY ∧ farZ ax ay bx bY ≤ 80000 := by
  obtain ⟨a1, a2, a3, a4⟩ := ha; obtain ⟨b1, b2, b3, b4⟩ := hb
  obtain ⟨e1, d1⟩ := D_of ⟨a1, a2⟩ ⟨b1, b2⟩
  obtain ⟨e2, d2⟩ := D_of ⟨a3, a4⟩ ⟨b3, b4⟩
  obtain ⟨m1, n1, o1⟩ := D_mul d1 d1
  obtain ⟨m2, n2, o2⟩ := D_mul d2 d2
  have s1 : 0 ≤ (ax - bx) * (ax - bx) := by
    rcases Int.le_total 0 (ax - bx) with h | h
    · exact Int.mul_nonneg h h
    · exact Int.mul_nonneg_of_nonpos_of_nonpos h h
  have s2 : 0 ≤ (ay - bY) * (ay - bY) := by
    rcases Int.le_total 0 (ay - bY) with h | h
    · exact Int.mul_nonneg h h
    · exact Int.mul_nonneg_of_nonpos_of_nonpos h h
  rw [e1, e2, m1, m2]
  unfold farZ
  exact ⟨Gen.w64 (by omega) (by omega), by omega, by omega⟩
theorem implFar (ax ay bx bY : Int) : impl_FarSquared.f ax ay bx bY = some (if Pt ax ay ∧ Pt bx bY then farZ ax ay bx bY else -1) := by
  unfold impl_FarSquared.f
  rw [implIsPoint, implIsPoint]
  simp only [Option.bind_some, decide_eq_true_eq]
  by_cases ha : Pt ax ay <;> by_cases hb : Pt bx bY
  · rw [if_pos ha, if_pos hb, if_pos ⟨ha, hb⟩, (farZ_bd ha hb).1]
  · rw [if_pos ha, if_neg hb, if_neg (fun h => hb h.2)]
  · rw [if_neg ha, if_neg (fun h => ha h.1)]
  · rw [if_neg ha, if_neg (fun h => ha h.1)]
theorem specFar (ax ay bx bY : Int) : spec_FarSquared.f ax ay bx bY = some (if Pt ax ay ∧ Pt bx bY then farZ ax ay bx bY else -1) := by
  unfold spec_FarSquared.f
  rw [specIsPoint, specIsPoint]
  simp only [Option.bind_some, decide_eq_true_eq]
  by_cases ha : Pt ax ay <;> by_cases hb : Pt bx bY
  · rw [if_pos ha, if_pos hb, if_pos ⟨ha, hb⟩, (farZ_bd ha hb).1]
  · rw [if_pos ha, if_neg hb, if_neg (fun h => hb h.2)]
  · rw [if_neg ha, if_neg (fun h => ha h.1)]
  · rw [if_neg ha, if_neg (fun h => ha h.1)]
def upP (x y : S77) : Bool := if x.f2 > y.f2 then true else if x.f2 = y.f2 then decide (x.f0 < y.f0) else false
theorem specAbove (x y : S77) : spec_IsAbove.f x.f0 x.f1.f0 x.f1.f1 x.f2 y.f0 y.f1.f0 y.f1.f1 y.f2 = some (upP x y) := by
  unfold spec_IsAbove.f upP
  split
  · rfl
  · split <;> rfl
def posP (x : S77) (S : List S77) : Nat → Nat
  | 0 => 0
  | j + 1 => if upP x (S.getD j z77) = true then posP x S j else j + 1
theorem posP_le (x : S77) (S : List S77) : ∀ j, posP x S j ≤ j
  | 0 => Nat.le_refl 0
  | j + 1 => by
    unfold posP
    split
    · exact Nat.le_succ_of_le (posP_le x S j)
    · exact Nat.le_refl _
def insP (x : S77) (S : List S77) : List S77 := S.take (posP x S S.length) ++ x :: S.drop (posP x S S.length)
def sortP (l : List S77) : List S77 := l.foldl (fun S x => insP x S) []
theorem len_insP (x : S77) (S : List S77) : (insP x S).length = S.length + 1 := by
  have := posP_le x S S.length
  unfold insP; simp; omega
theorem len_foldP : ∀ (l S : List S77), (l.foldl (fun S x => insP x S) S).length = S.length + l.length
  | [], S => rfl
  | x :: l, S => by rw [List.foldl_cons, len_foldP l, len_insP, List.length_cons]; omega
theorem len_sortP (l : List S77) : (sortP l).length = l.length := by unfold sortP; rw [len_foldP]; simp
theorem perm_insP (x : S77) (S : List S77) : (insP x S).Perm (x :: S) := by
  unfold insP
  refine List.perm_middle.trans ?_
  rw [List.take_append_drop]
theorem perm_foldP : ∀ (l S : List S77), (l.foldl (fun S x => insP x S) S).Perm (l ++ S)
  | [], S => List.Perm.refl _
  | x :: l, S => by
    rw [List.foldl_cons]
    refine (perm_foldP l _).trans ?_
    refine (List.Perm.append_left l (perm_insP x S)).trans ?_
    exact List.perm_middle
theorem perm_sortP (l : List S77) : (sortP l).Perm l := by
  have := perm_foldP l []
  rwa [List.append_nil] at this
def fQ (x y : S77) : Int := if Pt x.f1.f0 x.f1.f1 ∧ Pt y.f1.f0 y.f1.f1 then farZ x.f1.f0 x.f1.f1 y.f1.f0 y.f1.f1 else -1
theorem fQ_comm (x y : S77) : fQ x y = fQ y x := by
  unfold fQ
  have e : farZ x.f1.f0 x.f1.f1 y.f1.f0 y.f1.f1 = farZ y.f1.f0 y.f1.f1 x.f1.f0 x.f1.f1 := by
    have s : ∀ a b : Int, (a - b) * (a - b) = (b - a) * (b - a) := fun a b => by rw [← Int.neg_mul_neg, Int.neg_sub]
    unfold farZ; rw [s x.f1.f0, s x.f1.f1]
  by_cases hx : Pt x.f1.f0 x.f1.f1 <;> by_cases hy : Pt y.f1.f0 y.f1.f1
  · rw [if_pos ⟨hx, hy⟩, if_pos ⟨hy, hx⟩, e]
  · rw [if_neg (fun h => hy h.2), if_neg (fun h => hy h.1)]
  · rw [if_neg (fun h => hx h.1), if_neg (fun h => hx h.2)]
  · rw [if_neg (fun h => hx h.1), if_neg (fun h => hx h.2)]
def farOk (f : Int) (x : S77) (out : List S77) : Bool := out.all fun y => decide (fQ y x ≥ f * f)
def keepStep (f : Int) (out : List S77) (x : S77) : List S77 := if farOk f x out = true then out ++ [x] else out
def keepP (f : Int) (S : List S77) : List S77 := S.foldl (keepStep f) []
theorem sub_keep (f : Int) : ∀ (S out : List S77), (S.foldl (keepStep f) out).Sublist (out ++ S)
  | [], out => by rw [List.append_nil]; exact List.Sublist.refl _
  | x :: S, out => by
    rw [List.foldl_cons]
    refine (sub_keep f S _).trans ?_
    unfold keepStep
    split
    · rw [List.append_assoc]; exact List.Sublist.refl _
    · exact List.Sublist.append_left (List.sublist_cons_self x S) out
theorem sub_keepP (f : Int) (S : List S77) : (keepP f S).Sublist S := by
  have := sub_keep f S []
  rwa [List.nil_append] at this
theorem w64_sq {f : Int} (h : 0 ≤ f ∧ f ≤ 200) : wrap64 (f * f) = f * f := by
  have h1 : 0 ≤ f * f := Int.mul_nonneg h.1 h.1
  have h2 : f * f ≤ 200 * 200 := Int.mul_le_mul h.2 h.2 h.1 (by omega)
  exact Gen.w64 (by omega) (by omega)
theorem rd_dropP (S : List S77) (j : Nat) (h : j < S.length) : S.drop j = S.getD j z77 :: S.drop (j + 1) := by
  rw [List.drop_eq_getElem_cons h, List.getD_eq_getElem?_getD, List.getElem?_eq_getElem h]; rfl
theorem kFin (l S : List S77) (f : Int) (i : Nat) (hi : i < l.length) (hl : l.length ≤ 1048576) (hS : S.length ≤ 2000000) (j : Nat) (hj : j ≤ S.length) {r : List S77}
    (h : Told (fun k => spec_l14Kept.l0 k l f (S.take j ++ rd_T77 l (i : Int) :: S.drop j) ((i + 1 : Nat) : Int)) r) :
    Told (fun k => (some (([] : List S77))).bind fun y201 => (if 0 ≤ (j : Int) then (if (j : Int) ≤ (S.length : Int) then ((some (S.take ((j : Int)).toNat)).bind fun y204 => (if y201.length + y204.length < 4398046511104 then ((some (y201 ++ y204)).bind fun y208 => (if 0 ≤ (i : Int) then (if (i : Int) < (l.length : Int) then ((some [rd_T77 l (i : Int)]).bind fun y212 => (if y208.length + y212.length < 4398046511104 then ((some (y208 ++ y212)).bind fun y215 => ((some (S.drop ((j : Int)).toNat)).bind fun y218 => (if y215.length + y218.length < 4398046511104 then (spec_l14Kept.l0 k l f (y215 ++ y218) (wrap64 ((i : Int) + 1))) else (none)))) else (none))) else (none)) else (none))) else (none))) else (none)) else (none))) r := by
  simp only [Option.bind_some]
  have e1 : ((j : Int)).toNat = j := by omega
  rw [e1]
  refine Told.ite_t (by omega) (Told.ite_t (by omega) (Told.ite_t (by simp; omega) (Told.ite_t (by omega) (Told.ite_t (by omega) (Told.ite_t (by simp; omega) (Told.ite_t (by simp; omega) ?_))))))
  rw [Gen.w64s (by omega), List.nil_append, List.append_assoc]
  exact h
theorem kL1 (l S : List S77) (f : Int) (i : Nat) (hi : i < l.length) (hl : l.length ≤ 1048576) (hS : S.length ≤ 2000000) {r : List S77} : ∀ j, j ≤ S.length →
    Told (fun k => spec_l14Kept.l0 k l f (S.take (posP (rd_T77 l (i : Int)) S j) ++ rd_T77 l (i : Int) :: S.drop (posP (rd_T77 l (i : Int)) S j)) ((i + 1 : Nat) : Int)) r →
    Told (fun k => spec_l14Kept.l1 k l f S (i : Int) (j : Int)) r
  | 0, hj, h => Told.step (fun k => by simp only [spec_l14Kept.l1]; rw [if_neg (by omega)]) (kFin l S f i hi hl hS 0 hj h)
  | j + 1, hj, h => by
    have e1 : wrap64 (((j + 1 : Nat) : Int) - 1) = (j : Int) := by rw [Gen.w64 (by omega) (by omega)]; omega
    have e2 : (rd_T77 S (j : Int)) = S.getD j z77 := rfl
    unfold posP at h
    by_cases c : upP (rd_T77 l (i : Int)) (S.getD j z77) = true
    · rw [if_pos c] at h
      refine Told.step (fun k => ?_) (kL1 l S f i hi hl hS j (by omega) h)
      simp only [spec_l14Kept.l1]
      rw [if_pos (by omega), if_pos (by omega), if_pos (by omega), e1, if_pos (by omega), if_pos (by omega), specAbove, Option.bind_some, e2, if_pos c]
    · rw [if_neg c] at h
      refine Told.step (fun k => ?_) (kFin l S f i hi hl hS (j + 1) hj h)
      simp only [spec_l14Kept.l1]
      rw [if_pos (by omega), if_pos (by omega), if_pos (by omega), e1, if_pos (by omega), if_pos (by omega), specAbove, Option.bind_some, e2, if_neg c]
      simp only [Option.bind_some]
      have c1 : (0 : Int) ≤ ((i : Nat) : Int) := by omega
      have c2 : ((i : Nat) : Int) < (l.length : Int) := by omega
      rw [if_pos c1, if_pos c2]
theorem kL3 (S out : List S77) (f : Int) (hf : 0 ≤ f ∧ f ≤ 200) (i : Nat) (hi : i < S.length) (hS : S.length ≤ 2000000) (ho : out.length ≤ 2000000) {r : List S77} : ∀ d j b, j + d = out.length →
    Told (fun k => spec_l14Kept.l2 k f S (if (b && (out.drop j).all fun y => decide (fQ y (rd_T77 S (i : Int)) ≥ f * f)) = true then out ++ [rd_T77 S (i : Int)] else out) ((i + 1 : Nat) : Int)) r →
    Told (fun k => spec_l14Kept.l3 k f S out (i : Int) b (j : Int)) r := by
  intro d
  induction d with
  | zero =>
    intro j b hd h
    have e0 : out.drop j = [] := List.drop_eq_nil_of_le (by omega)
    rw [e0, List.all_nil, Bool.and_true] at h
    by_cases c : b = true
    · rw [if_pos c] at h
      refine Told.step (fun k => ?_) h
      simp only [spec_l14Kept.l3]
      rw [if_neg (by omega), if_pos c, if_pos (by omega), if_pos (by omega), Option.bind_some, if_pos (by simp; omega), Gen.w64s (by omega)]
    · rw [if_neg c] at h
      refine Told.step (fun k => ?_) h
      simp only [spec_l14Kept.l3]
      rw [if_neg (by omega), if_neg c, Gen.w64s (by omega)]
  | succ d ih =>
    intro j b hd h
    rw [rd_dropP out j (by omega), List.all_cons, ← Bool.and_assoc] at h
    have e2 : (rd_T77 out (j : Int)) = out.getD j z77 := rfl
    refine Told.step (fun k => ?_) (ih (j + 1) (b && decide (fQ (out.getD j z77) (rd_T77 S (i : Int)) ≥ f * f)) (by omega) h)
    simp only [spec_l14Kept.l3]
    rw [if_pos (by omega)]
    cases b
    · rw [if_neg (by simp), Gen.w64s (by omega)]; rfl
    · rw [if_pos rfl, if_pos (by omega), if_pos (by omega), if_pos (by omega), specFar, Option.bind_some, Gen.w64s (by omega), w64_sq hf, e2]; rfl
theorem kL2 (S : List S77) (f : Int) (hf : 0 ≤ f ∧ f ≤ 200) (hS : S.length ≤ 1000000) : ∀ d i out, i + d = S.length → out.length ≤ i → Told (fun k => spec_l14Kept.l2 k f S out (i : Int)) ((S.drop i).foldl (keepStep f) out) := by
  intro d
  induction d with
  | zero =>
    intro i out hd ho
    rw [List.drop_eq_nil_of_le (by omega), List.foldl_nil]
    exact Told.stepr fun k => by simp only [spec_l14Kept.l2]; rw [if_neg (by omega)]
  | succ d ih =>
    intro i out hd ho
    rw [rd_dropP S i (by omega), List.foldl_cons]
    refine Told.step (fun k => by simp only [spec_l14Kept.l2]; rw [if_pos (by omega)]; rfl) (kL3 S out f hf i (by omega) (by omega) (by omega) out.length 0 true (by omega) ?_)
    have hlk : (keepStep f out (S.getD i z77)).length ≤ i + 1 := by
      unfold keepStep
      split
      · rw [List.length_append, List.length_singleton]; omega
      · omega
    have := ih (i + 1) (keepStep f out (S.getD i z77)) (by omega) hlk
    rw [Bool.true_and, List.drop_zero]
    exact this
theorem kL0 (l : List S77) (f : Int) (hf : 0 ≤ f ∧ f ≤ 200) (hl : l.length ≤ 1000000) : ∀ d i S, i + d = l.length → S.length = i → Told (fun k => spec_l14Kept.l0 k l f S (i : Int)) (keepP f ((l.drop i).foldl (fun S x => insP x S) S)) := by
  intro d
  induction d with
  | zero =>
    intro i S hd hs
    rw [List.drop_eq_nil_of_le (by omega), List.foldl_nil]
    refine Told.step (fun k => by simp only [spec_l14Kept.l0]; rw [if_neg (by omega)]) ?_
    exact kL2 S f hf (by omega) S.length 0 [] (by omega) (by simp)
  | succ d ih =>
    intro i S hd hs
    rw [rd_dropP l i (by omega), List.foldl_cons]
    refine Told.step (fun k => by simp only [spec_l14Kept.l0]; rw [if_pos (by omega)]) (kL1 l S f i (by omega) (by omega) (by omega) S.length (Nat.le_refl _) ?_)
    exact ih (i + 1) (insP (l.getD i z77) S) (by omega) (by rw [len_insP]; omega)
theorem tSpecKept (l : List S77) (f : Int) (hf : 0 ≤ f ∧ f ≤ 200) (hl : l.length ≤ 1000000) : Told (fun k => spec_l14Kept.f k l f) (keepP f (sortP l)) := kL0 l f hf hl l.length 0 [] (by omega) rfl
theorem ltOf_up : Go.Proofs.ltOf impl_fromAbove.cf = fun x y => upP x y := by
  funext x y
  have e : ∀ x y, impl_fromAbove.up x y = upP x y := fun _ _ => rfl
  unfold Go.Proofs.ltOf impl_fromAbove.cf
  rw [e, e]
  cases upP x y
  · cases upP y x <;> rfl
  · rfl
theorem get_of_toList {d : Array S77} {l : List S77} (h : d.toList = l) (i : Nat) (hi : i < l.length) : d[i]! = l.getD i z77 := by
  subst h
  rw [getElem!_pos d i (by simpa using hi), List.getD_eq_getElem?_getD, List.getElem?_eq_getElem hi]
  rfl
theorem insInner_to (x : S77) (R : List S77) (S : List S77) : ∀ j (d : Array S77), j ≤ S.length → d.toList = S.take j ++ x :: (S.drop j ++ R) →
    (Go.Sort.insInner (fun x y => upP x y) 0 j d).toList = S.take (posP x S j) ++ x :: (S.drop (posP x S j) ++ R)
  | 0, d, _, h => h
  | j + 1, d, hj, h => by
    have hlen : (S.take (j + 1)).length = j + 1 := by rw [List.length_take]; omega
    have hs : d.size = S.length + 1 + R.length := by rw [← Array.length_toList, h]; simp; omega
    have g1 : d[j + 1]! = x := by
      rw [get_of_toList h (j + 1) (by simp; omega), List.getD_eq_getElem?_getD, List.getElem?_append_right (by omega), hlen, Nat.sub_self]; rfl
    have g0 : d[j]! = S.getD j z77 := by
      rw [get_of_toList h j (by simp; omega), List.getD_eq_getElem?_getD, List.getElem?_append_left (by omega), List.getElem?_take_of_lt (by omega), ← List.getD_eq_getElem?_getD]
    unfold Go.Sort.insInner posP
    rw [g1, g0]
    by_cases c : upP x (S.getD j z77) = true
    · rw [if_pos (by rw [c, Bool.and_true]; exact decide_eq_true (Nat.succ_pos j)), if_pos c]
      refine insInner_to x R S j _ (by omega) ?_
      have e1 : S.take (j + 1) = S.take j ++ [S.getD j z77] := by
        rw [List.take_add_one, List.getElem?_eq_getElem (by omega), List.getD_eq_getElem?_getD, List.getElem?_eq_getElem (by omega)]; rfl
      have hlj : (S.take j).length = j := by rw [List.length_take]; omega
      unfold Go.Sort.swp
      rw [g1, g0, Array.toList_setIfInBounds, Array.toList_setIfInBounds, h, e1, rd_dropP S j (by omega), List.append_assoc]
      rw [List.set_append_right _ _ (by omega), hlj, List.set_append_right _ _ (by omega), hlj]
      simp
    · rw [if_neg (by rw [Bool.eq_false_iff.2 c, Bool.and_false]; exact Bool.false_ne_true), if_neg c]
      exact h
theorem insOuter_to (b : Nat) : ∀ (R : List S77) (i : Nat) (S : List S77) (d : Array S77), S.length = i → i + R.length = b → d.toList = S ++ R →
    (Go.Sort.insOuter (fun x y => upP x y) 0 b i d).toList = R.foldl (fun S x => insP x S) S
  | [], i, S, d, hs, hb, h => by
    rw [Go.Sort.insOuter, if_neg (by simp at hb; omega), h]; simp
  | x :: R, i, S, d, hs, hb, h => by
    rw [Go.Sort.insOuter, if_pos (by simp at hb; omega), List.foldl_cons]
    refine insOuter_to b R (i + 1) (insP x S) _ (by rw [len_insP]; omega) (by simp at hb; omega) ?_
    have := insInner_to x R S i d (by omega) (by rw [h, List.take_of_length_le (by omega), List.drop_eq_nil_of_le (by omega)]; rfl)
    rw [this]; unfold insP; rw [hs, List.append_assoc]; rfl
theorem insertion_to (l : List S77) : (Go.Sort.insertionSort (Go.Proofs.ltOf impl_fromAbove.cf) l.toArray 0 l.length).toList = sortP l := by
  rw [ltOf_up]
  unfold Go.Sort.insertionSort sortP
  cases l with
  | nil => rw [Go.Sort.insOuter, if_neg (by simp)]; rfl
  | cons x l =>
    exact insOuter_to (x :: l).length l (0 + 1) [x] (x :: l).toArray rfl (by simp; omega) rfl
theorem implFromAbove (l : List S77) (h : l.length ≤ 16) : impl_fromAbove.f l = some (sortP l) := by
  unfold impl_fromAbove.f impl_Place_135.f
  simp only [Option.bind_some, List.nil_append, List.length_nil]
  rw [if_pos (by omega), Option.bind_some, if_pos h, insertion_to]
theorem iL1 (S out : List S77) (f : Int) (hf : 0 ≤ f ∧ f ≤ 200) (i : Nat) (hi : i < S.length) (hS : S.length ≤ 2000000) (ho : out.length ≤ 2000000) (x : S77) {r : List S77} : ∀ d j b, j + d = out.length →
    Told (fun k => impl_keptPlaces.l0 k f (if (b && (out.drop j).all fun y => decide (fQ y x ≥ f * f)) = true then out ++ [x] else out) S (S.length : Int) ((i + 1 : Nat) : Int)) r →
    Told (fun k => impl_keptPlaces.l1 k f out b S (S.length : Int) (i : Int) (out.length : Int) (j : Int) x.f0 x.f1.f0 x.f1.f1 x.f2) r := by
  intro d
  induction d with
  | zero =>
    intro j b hd h
    have e0 : out.drop j = [] := List.drop_eq_nil_of_le (by omega)
    rw [e0, List.all_nil, Bool.and_true] at h
    by_cases c : b = true
    · rw [if_pos c] at h
      refine Told.step (fun k => ?_) h
      simp only [impl_keptPlaces.l1]
      rw [if_neg (by omega), if_pos c, if_pos (by omega), Gen.w64s (by omega)]
    · rw [if_neg c] at h
      refine Told.step (fun k => ?_) h
      simp only [impl_keptPlaces.l1]
      rw [if_neg (by omega), if_neg c, Gen.w64s (by omega)]
  | succ d ih =>
    intro j b hd h
    rw [rd_dropP out j (by omega), List.all_cons, ← Bool.and_assoc] at h
    have e2 : (rd_T77 out (j : Int)) = out.getD j z77 := rfl
    refine Told.step (fun k => ?_) (ih (j + 1) (b && decide (fQ (out.getD j z77) x ≥ f * f)) (by omega) h)
    simp only [impl_keptPlaces.l1]
    rw [if_pos (by omega), if_pos (by omega), if_pos (by omega)]
    cases b
    · rw [if_neg (by simp), Gen.w64s (by omega)]; rfl
    · rw [if_pos rfl, implFar, Option.bind_some, Gen.w64s (by omega), w64_sq hf, e2, fQ_comm (out.getD j z77) x]; rfl
theorem iL0 (S : List S77) (f : Int) (hf : 0 ≤ f ∧ f ≤ 200) (hS : S.length ≤ 1000000) : ∀ d i out, i + d = S.length → out.length ≤ i → Told (fun k => impl_keptPlaces.l0 k f out S (S.length : Int) (i : Int)) ((S.drop i).foldl (keepStep f) out) := by
  intro d
  induction d with
  | zero =>
    intro i out hd ho
    rw [List.drop_eq_nil_of_le (by omega), List.foldl_nil]
    exact Told.stepr fun k => by simp only [impl_keptPlaces.l0]; rw [if_neg (by omega)]
  | succ d ih =>
    intro i out hd ho
    rw [rd_dropP S i (by omega), List.foldl_cons]
    refine Told.step (fun k => by simp only [impl_keptPlaces.l0]; rw [if_pos (by omega), if_pos (by omega), if_pos (by omega)]; rfl) (iL1 S out f hf i (by omega) (by omega) (by omega) (S.getD i z77) out.length 0 true (by omega) ?_)
    have hlk : (keepStep f out (S.getD i z77)).length ≤ i + 1 := by
      unfold keepStep
      split
      · rw [List.length_append, List.length_singleton]; omega
      · omega
    have := ih (i + 1) (keepStep f out (S.getD i z77)) (by omega) hlk
    rw [Bool.true_and, List.drop_zero]
    exact this
def Gd (l : List S77) (f : Int) : Prop := Pls l ∧ 0 ≤ f ∧ f ≤ 200
instance (l : List S77) (f : Int) : Decidable (Gd l f) := by unfold Gd; infer_instance
def keptV (l : List S77) (f : Int) : List S77 := if Gd l f then keepP f (sortP l) else []
theorem tImplKept (l : List S77) (f : Int) (hl : l.length ≤ 1048576) : Told (fun k => impl_keptPlaces.f k l f) (keptV l f) := by
  have ha : Told (fun k => impl_ArePlaces.f k l) (decide (Pls l)) := ⟨l.length + 1, fun k hk => implArePlaces l hl (by omega)⟩
  unfold keptV
  refine Told.bind (Told.ret _) (Told.bind ha ?_)
  by_cases hp : Pls l
  · refine Told.ite_t (decide_eq_true hp) (Told.bind (Told.of (implInRange f 0 200)) ?_)
    by_cases hf : 0 ≤ f ∧ f ≤ 200
    · rw [if_pos ⟨hp, hf⟩, decide_eq_true hf]
      refine Told.step (fun k => by simp only [impl_keptPlaces.j0, Bool.not_true, Bool.false_eq_true, if_false]; rfl) ?_
      refine Told.bind (Told.of (implFromAbove l hp.1)) ?_
      exact iL0 (sortP l) f hf (by rw [len_sortP]; have := hp.1; omega) (sortP l).length 0 [] (by omega) (by simp)
    · rw [if_neg (fun h => hf h.2), decide_eq_false hf]
      exact Told.stepr fun k => by simp only [impl_keptPlaces.j0, Bool.not_false, if_true]
  · rw [if_neg (fun h => hp h.1)]
    refine Told.ite_f (by rw [decide_eq_true_eq]; exact hp) ?_
    exact Told.stepr fun k => by simp only [impl_keptPlaces.j0, if_true]
def putP (n : Int) : List Int → List Int
  | [] => [n]
  | x :: xs => if x < n then x :: putP n xs else if x = n then x :: xs else n :: x :: xs
theorem len_putP (n : Int) : ∀ xs, (putP n xs).length ≤ xs.length + 1
  | [] => Nat.le_refl _
  | x :: xs => by
    have := len_putP n xs
    unfold putP
    split
    · rw [List.length_cons, List.length_cons]; omega
    · split <;> simp
theorem mem_putP (n : Int) : ∀ xs y, y ∈ putP n xs ↔ y = n ∨ y ∈ xs
  | [], y => by simp [putP]
  | x :: xs, y => by
    have := mem_putP n xs y
    unfold putP
    split
    · rw [List.mem_cons, this, List.mem_cons]; exact ⟨fun h => by rcases h with h | h | h <;> simp [h], fun h => by rcases h with h | h | h <;> simp [h]⟩
    · split
      · rename_i e; rw [List.mem_cons, e]; exact ⟨fun h => by rcases h with h | h <;> simp [h], fun h => by rcases h with h | h | h <;> simp [h]⟩
      · rw [List.mem_cons]
theorem asc_putP (n : Int) : ∀ xs, xs.Pairwise (· < ·) → (putP n xs).Pairwise (· < ·)
  | [], _ => by simp [putP]
  | x :: xs, h => by
    have h2 := List.pairwise_cons.1 h
    have := asc_putP n xs h2.2
    unfold putP
    split
    · rename_i c
      refine List.pairwise_cons.2 ⟨fun y hy => ?_, this⟩
      rcases (mem_putP n xs y).1 hy with e | e
      · omega
      · exact h2.1 y e
    · split
      · exact h
      · refine List.pairwise_cons.2 ⟨fun y hy => ?_, h⟩
        rcases List.mem_cons.1 hy with e | e
        · omega
        · have := h2.1 y e; omega
theorem rd_dropI (S : List Int) (j : Nat) (h : j < S.length) : S.drop j = rd S (j : Int) :: S.drop (j + 1) := by
  rw [List.drop_eq_getElem_cons h]
  congr 1
  show _ = S.getD j 0
  rw [List.getD_eq_getElem?_getD, List.getElem?_eq_getElem h]; rfl
theorem tPutL (xs : List Int) (n : Int) (hl : xs.length ≤ 2000000) : ∀ d j, j + d = xs.length → Told (fun k => spec_l14Put.l0 k xs n (j : Int)) (xs.take j ++ putP n (xs.drop j)) := by
  intro d
  induction d with
  | zero =>
    intro j hd
    rw [List.drop_eq_nil_of_le (by omega)]
    refine Told.stepr fun k => ?_
    have e1 : ((j : Int)).toNat = j := by omega
    simp only [spec_l14Put.l0]
    rw [if_neg (by omega)]
    simp only [Option.bind_some]
    rw [if_pos (by omega), if_pos (by omega), e1, if_pos (by simp; omega), if_pos (by simp; omega), if_pos (by simp; omega), List.drop_eq_nil_of_le (by omega)]
    simp [putP]
  | succ d ih =>
    intro j hd
    have hx := rd_dropI xs j (by omega)
    have e1 : ((j : Int)).toNat = j := by omega
    by_cases c : rd xs (j : Int) < n
    · have h := ih (j + 1) (by omega)
      have e : xs.take j ++ putP n (xs.drop j) = xs.take (j + 1) ++ putP n (xs.drop (j + 1)) := by
        rw [hx]
        conv => lhs; unfold putP
        rw [if_pos c]
        have : xs.take (j + 1) = xs.take j ++ [rd xs (j : Int)] := by
          have h1 : (xs.take (j + 1)) ++ xs.drop (j + 1) = (xs.take j ++ [rd xs (j : Int)]) ++ xs.drop (j + 1) := by
            rw [List.take_append_drop, List.append_assoc, List.singleton_append, ← hx, List.take_append_drop]
          exact List.append_cancel_right h1
        rw [this]; simp
      rw [e]
      exact Told.step (fun k => by simp only [spec_l14Put.l0]; rw [if_pos (by omega), if_pos (by omega), if_pos c, Gen.w64s (by omega)]) h
    · refine Told.stepr fun k => ?_
      simp only [spec_l14Put.l0]
      rw [if_pos (by omega), if_pos (by omega), if_neg c]
      by_cases c2 : rd xs (j : Int) = n
      · rw [if_pos c2]
        simp only [Option.bind_some]
        rw [if_pos (by simp; omega)]
        have : xs.take j ++ putP n (xs.drop j) = xs := by
          rw [hx]
          conv => lhs; unfold putP
          rw [if_neg c, if_pos c2, ← hx, List.take_append_drop]
        rw [this]; simp
      · rw [if_neg c2]
        simp only [Option.bind_some]
        rw [if_pos (by omega), e1, if_pos (by simp; omega), if_pos (by simp; omega), if_pos (by simp; omega)]
        have : xs.take j ++ putP n (xs.drop j) = xs.take j ++ ([n] ++ xs.drop j) := by
          congr 1
          rw [hx]
          conv => lhs; unfold putP
          rw [if_neg c, if_neg c2]; rfl
        rw [this]; simp
theorem tPut (xs : List Int) (n : Int) (hl : xs.length ≤ 2000000) : Told (fun k => spec_l14Put.f k xs n) (putP n xs) := tPutL xs n hl xs.length 0 (by omega)
def idsP (K : List S77) (o : List Int) : List Int := K.foldl (fun o y => putP y.f0 o) o
theorem mem_idsP : ∀ (K : List S77) (o : List Int) (n : Int), n ∈ idsP K o ↔ (∃ y ∈ K, y.f0 = n) ∨ n ∈ o
  | [], o, n => by simp [idsP]
  | y :: K, o, n => by
    have := mem_idsP K (putP y.f0 o) n
    unfold idsP at this ⊢
    rw [List.foldl_cons, this, mem_putP]
    constructor
    · rintro (⟨z, h, e⟩ | h | h)
      · exact .inl ⟨z, List.mem_cons_of_mem _ h, e⟩
      · exact .inl ⟨y, List.mem_cons_self, h.symm⟩
      · exact .inr h
    · rintro (⟨z, h, e⟩ | h)
      · rcases List.mem_cons.1 h with rfl | h
        · exact .inr (.inl e.symm)
        · exact .inl ⟨z, h, e⟩
      · exact .inr (.inr h)
theorem asc_idsP : ∀ (K : List S77) (o : List Int), o.Pairwise (· < ·) → (idsP K o).Pairwise (· < ·)
  | [], o, h => h
  | y :: K, o, h => asc_idsP K (putP y.f0 o) (asc_putP _ _ h)
theorem len_idsP : ∀ (K : List S77) (o : List Int), (idsP K o).length ≤ o.length + K.length
  | [], o => Nat.le_refl _
  | y :: K, o => by
    have := len_idsP K (putP y.f0 o)
    have := len_putP y.f0 o
    show (idsP K (putP y.f0 o)).length ≤ _
    rw [List.length_cons]; omega
theorem tThinL (K : List S77) (hK : K.length ≤ 1048576) : ∀ d i o, i + d = K.length → o.length ≤ i → Told (fun k => spec_ThinPlaces.l0 k o K (i : Int)) (idsP (K.drop i) o) := by
  intro d
  induction d with
  | zero =>
    intro i o hd ho
    rw [List.drop_eq_nil_of_le (by omega)]
    exact Told.stepr fun k => by simp only [spec_ThinPlaces.l0]; rw [if_neg (by omega)]; rfl
  | succ d ih =>
    intro i o hd ho
    rw [rd_dropP K i (by omega)]
    have h := ih (i + 1) (putP (K.getD i z77).f0 o) (by omega) (by have := len_putP (K.getD i z77).f0 o; omega)
    have h2 : Told (fun k => (spec_l14Put.f k o (K.getD i z77).f0).bind fun t => spec_ThinPlaces.l0 k t K ((i + 1 : Nat) : Int)) (idsP (K.drop (i + 1)) (putP (K.getD i z77).f0 o)) := Told.bind (tPut o (K.getD i z77).f0 (by omega)) h
    exact Told.step (fun k => by simp only [spec_ThinPlaces.l0]; rw [if_pos (by omega), if_pos (by omega), Gen.w64s (by omega)]; rfl) h2
def thinV (l : List S77) (f : Int) : List Int := idsP (keptV l f) []
theorem len_keptV (l : List S77) (f : Int) : (keptV l f).length ≤ 16 := by
  unfold keptV
  split
  · rename_i h
    have := (sub_keepP f (sortP l)).length_le
    rw [len_sortP] at this
    have := h.1.1; omega
  · simp
theorem tSpecThin (l : List S77) (f : Int) (hl : l.length ≤ 1048576) : Told (fun k => spec_ThinPlaces.f k l f) (thinV l f) := by
  have ha : Told (fun k => spec_ArePlaces.f k l) (decide (Pls l)) := ⟨l.length + 1, fun k hk => specArePlaces l hl (by omega)⟩
  have h16 := len_keptV l f
  unfold thinV
  refine Told.bind (Told.ret _) (Told.bind ha ?_)
  by_cases hp : Pls l
  · refine Told.ite_t (decide_eq_true hp) (Told.bind (Told.of (specIn f 0 200)) ?_)
    by_cases hf : 0 ≤ f ∧ f ≤ 200
    · rw [decide_eq_true hf]
      refine Told.step (fun k => by simp only [spec_ThinPlaces.j0, Bool.not_true, Bool.false_eq_true, if_false]; rfl) ?_
      have e : keptV l f = keepP f (sortP l) := by unfold keptV; rw [if_pos ⟨hp, hf⟩]
      rw [e] at h16 ⊢
      exact Told.bind (tSpecKept l f hf (by have := hp.1; omega)) (tThinL (keepP f (sortP l)) (by omega) (keepP f (sortP l)).length 0 [] (by omega) (by simp))
    · have e : keptV l f = [] := by unfold keptV; rw [if_neg (fun h => hf h.2)]
      rw [e, decide_eq_false hf]
      exact Told.stepr fun k => by simp only [spec_ThinPlaces.j0, Bool.not_false, if_true]; rfl
  · have e : keptV l f = [] := by unfold keptV; rw [if_neg (fun h => hp h.1)]
    rw [e]
    refine Told.ite_f (by rw [decide_eq_true_eq]; exact hp) ?_
    exact Told.stepr fun k => by simp only [spec_ThinPlaces.j0, if_true]; rfl
theorem ids_lt {l : List S77} (h : Pls l) : ∀ d i, i + d + 1 < l.length → (l.getD i z77).f0 < (l.getD (i + d + 1) z77).f0 := by
  intro d
  induction d with
  | zero =>
    intro i hi
    have := h.2 (i + 0 + 1) hi
    unfold plChk at this
    exact (of_decide_eq_true this).2.2.2 (by omega)
  | succ d ih =>
    intro i hi
    have h1 := ih i (by omega)
    have := h.2 (i + (d + 1) + 1) hi
    unfold plChk at this
    have h2 := (of_decide_eq_true this).2.2.2 (by omega)
    have e : i + (d + 1) + 1 - 1 = i + d + 1 := by omega
    rw [e] at h2
    omega
theorem mem_thinV (l : List S77) (f n : Int) : n ∈ thinV l f ↔ ∃ y ∈ keptV l f, y.f0 = n := by
  unfold thinV
  rw [mem_idsP]
  exact ⟨fun h => h.resolve_right (fun h => nomatch h), .inl⟩
theorem asc_unique : ∀ a b : List Int, a.Pairwise (· < ·) → b.Pairwise (· < ·) → (∀ n, n ∈ a ↔ n ∈ b) → a = b
  | [], [], _, _, _ => rfl
  | [], y :: b, _, _, h => nomatch (h y).2 List.mem_cons_self
  | x :: a, [], _, _, h => nomatch (h x).1 List.mem_cons_self
  | x :: a, y :: b, ha, hb, h => by
    have ha' := List.pairwise_cons.1 ha
    have hb' := List.pairwise_cons.1 hb
    have exy : x = y := by
      rcases List.mem_cons.1 ((h x).1 List.mem_cons_self) with e | e
      · exact e
      · rcases List.mem_cons.1 ((h y).2 List.mem_cons_self) with e2 | e2
        · exact e2.symm
        · have := hb'.1 x e; have := ha'.1 y e2; omega
    subst exy
    congr 1
    refine asc_unique a b ha'.2 hb'.2 fun n => ⟨fun hn => ?_, fun hn => ?_⟩
    · rcases List.mem_cons.1 ((h n).1 (List.mem_cons_of_mem _ hn)) with e | e
      · have := ha'.1 n hn; omega
      · exact e
    · rcases List.mem_cons.1 ((h n).2 (List.mem_cons_of_mem _ hn)) with e | e
      · have := hb'.1 n hn; omega
      · exact e
theorem ids_nodup {l : List S77} (h : Pls l) : (l.map fun x => x.f0).Nodup := by
  refine List.Pairwise.imp (R := fun a b => a < b) (fun {a b} (hab : a < b) => (by omega : a ≠ b)) ?_
  rw [List.pairwise_iff_getElem]
  intro i j hi hj hij
  rw [List.length_map] at hi hj
  obtain ⟨d, rfl⟩ : ∃ d, j = i + d + 1 := ⟨j - i - 1, by omega⟩
  have := ids_lt h d i hj
  rw [List.getD_eq_getElem?_getD, List.getElem?_eq_getElem hi, List.getD_eq_getElem?_getD, List.getElem?_eq_getElem hj] at this
  simpa using this
theorem kept_nodup (l : List S77) (f : Int) : ((keptV l f).map fun x => x.f0).Nodup := by
  unfold keptV
  split
  · rename_i g
    exact ((((perm_sortP l).map fun x => x.f0).nodup_iff).2 (ids_nodup g.1)).sublist ((sub_keepP f (sortP l)).map _)
  · exact List.Pairwise.nil
theorem sort_kept (l : List S77) (f : Int) : (((keptV l f).map fun x => x.f0).mergeSort fun x y => decide (x ≤ y)) = thinV l f := by
  have hs : (((keptV l f).map fun x => x.f0).mergeSort fun x y => decide (x ≤ y)).Pairwise fun x y => decide (x ≤ y) = true :=
    List.pairwise_mergeSort (fun a b c h1 h2 => by simp only [decide_eq_true_eq] at h1 h2 ⊢; omega) (fun a b => by simp only [Bool.or_eq_true, decide_eq_true_eq]; omega) _
  have hn : (((keptV l f).map fun x => x.f0).mergeSort fun x y => decide (x ≤ y)).Nodup := ((List.mergeSort_perm _ _).nodup_iff).2 (kept_nodup l f)
  refine asc_unique _ _ ((List.Pairwise.and hs hn).imp fun {a b} h => ?_) (asc_idsP _ _ List.Pairwise.nil) fun n => ?_
  · have h1 := h.1; have h2 : a ≠ b := h.2
    simp only [decide_eq_true_eq] at h1; omega
  · rw [(List.mergeSort_perm _ _).mem_iff, List.mem_map]
    exact (mem_thinV l f n).symm
theorem iThinL (K : List S77) (hK : K.length ≤ 1048576) {r : List Int} (hr : Told (fun _ => (slices_Sort_int_int.f (K.map fun x => x.f0)).bind fun t => some t) r) : ∀ d i, i + d = K.length → Told (fun k => impl_ThinPlaces.l0 k ((K.take i).map fun x => x.f0) K (K.length : Int) (i : Int)) r := by
  intro d
  induction d with
  | zero =>
    intro i hd
    rw [List.take_of_length_le (by omega)]
    exact Told.step (fun k => by simp only [impl_ThinPlaces.l0]; rw [if_neg (by omega)]) hr
  | succ d ih =>
    intro i hd
    have h := ih (i + 1) (by omega)
    have e : (K.take (i + 1)).map (fun x => x.f0) = (K.take i).map (fun x => x.f0) ++ [(K.getD i z77).f0] := by
      rw [List.take_add_one, List.map_append, List.getElem?_eq_getElem (by omega), List.getD_eq_getElem?_getD, List.getElem?_eq_getElem (by omega)]; rfl
    rw [e] at h
    have e2 : (rd_T77 K (i : Int)) = K.getD i z77 := rfl
    refine Told.step (fun k => ?_) h
    simp only [impl_ThinPlaces.l0]
    rw [if_pos (by omega), if_pos (by omega), if_pos (by omega), if_pos (by simp; omega), e2, Gen.w64s (by omega)]
theorem tImplThin (l : List S77) (f : Int) (hl : l.length ≤ 1048576) : Told (fun k => impl_ThinPlaces.f k l f) (thinV l f) := by
  have h16 := len_keptV l f
  refine Told.bind (tImplKept l f hl) ?_
  refine iThinL (keptV l f) (by omega) ?_ (keptV l f).length 0 (by omega)
  unfold slices_Sort_int_int.f
  rw [if_pos (by rw [List.length_map]; omega), sort_kept]
  exact Told.ret _
theorem mi_get (l : List Int) (i j : Nat) (p : Int) (hi : i < l.length) : (l.set i p).getD j 0 = if i = j then p else l.getD j 0 := by
  simp only [List.getD_eq_getElem?_getD, List.getElem?_set]
  by_cases h : i = j
  · subst h; simp [hi]
  · simp [h]
theorem tMarkI0 : ∀ d (l : List Int) (i : Nat), i + d = l.length → l.length ≤ 1048576 → (∀ j, j < i → l.getD j 0 = 1 + j) →
    ∃ l' : List Int, l'.length = l.length ∧ (∀ j, j < l.length → l'.getD j 0 = 1 + j) ∧ Told (fun k => laws_markIntS.l0 k l (1 + (i : Int)) i) (1 + (l.length : Int), l') := by
  intro d
  induction d with
  | zero =>
    intro l i hi hl h
    have : i = l.length := by omega
    subst this
    exact ⟨l, rfl, h, Told.stepr fun k => by simp only [laws_markIntS.l0]; rw [if_neg (by omega)]⟩
  | succ d ih =>
    intro l i hi hl h
    obtain ⟨l', h1, h2, h3⟩ := ih (l.set i (1 + i)) (i + 1) (by rw [List.length_set]; omega) (by rw [List.length_set]; exact hl) (fun j hj => by
      rw [mi_get l i j _ (by omega)]
      by_cases e : i = j
      · subst e; rw [if_pos rfl]
      · rw [if_neg e]; exact h j (by omega))
    rw [List.length_set] at h1 h2 h3
    refine ⟨l', h1, h2, Told.step (fun k => ?_) h3⟩
    simp only [laws_markIntS.l0]
    rw [if_pos (by omega), if_pos (by omega), Gen.w64s (by omega), Int.toNat_natCast, show wrap64 (1 + (i : Int) + 1) = 1 + ((i + 1 : Nat) : Int) by unfold wrap64; omega]
theorem tMarkI (l : List Int) (hl : l.length ≤ 1048576) : ∃ l' : List Int, l'.length = l.length ∧ (∀ j, j < l.length → l'.getD j 0 = 1 + j) ∧ Told (fun k => laws_markIntS.f k l 1) (1 + (l.length : Int), l') :=
  tMarkI0 l.length l 0 (by omega) hl (fun j hj => by omega)
theorem tHeldI0 (l : List Int) (hl : l.length ≤ 1048576) (h : ∀ j, j < l.length → l.getD j 0 = 1 + j) : ∀ d (i : Nat), i + d = l.length → Told (fun k => laws_heldIntS.l0 k l (1 + (i : Int)) i) (1 + (l.length : Int)) := by
  intro d
  induction d with
  | zero =>
    intro i hi
    have : i = l.length := by omega
    subst this
    exact Told.stepr fun k => by simp only [laws_heldIntS.l0]; rw [if_neg (by omega)]
  | succ d ih =>
    intro i hi
    refine Told.step (fun k => ?_) (ih (i + 1) (by omega))
    have e0 : rd l (i : Int) = 1 + i := h i (by omega)
    simp only [laws_heldIntS.l0]
    rw [if_pos (by omega), if_pos (by omega), e0, if_pos rfl, Gen.w64s (by omega), show wrap64 (1 + (i : Int) + 1) = 1 + ((i + 1 : Nat) : Int) by unfold wrap64; omega]
theorem tHeldI (l l' : List Int) (hl : l.length ≤ 1048576) (h1 : l'.length = l.length) (h : ∀ j, j < l.length → l'.getD j 0 = 1 + j) : Told (fun k => laws_heldIntS.f k l' 1) (1 + (l.length : Int)) := by
  rw [← h1]
  exact tHeldI0 l' (by omega) (by rw [h1]; exact h) l'.length 0 (by omega)
theorem tEqI (l : List Int) (hl : l.length ≤ 1048576) : Told (fun k => laws_eqIntS.f k l l) true := by
  refine Told.ite_t rfl ?_
  refine Told.scan (n := l.length) true (fun _ => True) (fun k i => laws_eqIntS.l0 k l l i) (fun i hi h1 _ => ?_) (fun _ => Told.stepr fun k => by simp only [laws_eqIntS.l0]; rw [if_neg (by omega)]) (fun _ => rfl)
  exact Told.step (fun k => by simp only [laws_eqIntS.l0]; rw [if_pos (by omega), if_pos (by omega), if_pos (by omega), if_pos trivial, Gen.w64s (by omega)]) (h1 trivial)
def mkPlace (j : Nat) : S77 := ⟨1 + 4 * j, ⟨2 + 4 * j, 3 + 4 * j⟩, 4 + 4 * j⟩
theorem getPlace (l : List S77) (i j : Nat) (p : S77) (hi : i < l.length) : (l.set i p).getD j z77 = if i = j then p else l.getD j z77 := by
  simp only [List.getD_eq_getElem?_getD, List.getElem?_set]
  by_cases h : i = j
  · subst h; simp [hi]
  · simp [h]
theorem rdmPlace (l : List S77) (i : Nat) (p : S77) (hi : i < l.length) : rd_T77 (l.set i p) (i : Int) = p := by
  show List.getD _ _ _ = _
  rw [Int.toNat_natCast, getPlace l i i _ hi, if_pos rfl]
theorem tMarkPlace0 : ∀ d (l : List S77) (i : Nat), i + d = l.length → l.length ≤ 1048576 → (∀ j, j < i → l.getD j z77 = mkPlace j) →
    ∃ l' : List S77, l'.length = l.length ∧ (∀ j, j < l.length → l'.getD j z77 = mkPlace j) ∧ Told (fun k => laws_markPlaceS.l0 k l (1 + 4 * (i : Int)) i) (1 + 4 * (l.length : Int), l') := by
  intro d
  induction d with
  | zero =>
    intro l i hi hl h
    have : i = l.length := by omega
    subst this
    exact ⟨l, rfl, h, Told.stepr fun k => by simp only [laws_markPlaceS.l0]; rw [if_neg (by omega)]⟩
  | succ d ih =>
    intro l i hi hl h
    obtain ⟨l', h1, h2, h3⟩ := ih (l.set i (mkPlace i)) (i + 1) (by rw [List.length_set]; omega) (by rw [List.length_set]; exact hl) (fun j hj => by
      rw [getPlace l i j _ (by omega)]
      by_cases e : i = j
      · subst e; rw [if_pos rfl]
      · rw [if_neg e]; exact h j (by omega))
    rw [List.length_set] at h1 h2 h3
    refine ⟨l', h1, h2, Told.step (fun k => ?_) h3⟩
    simp only [laws_markPlaceS.l0]
    rw [if_pos (by omega), if_pos (by omega)]
    have e1 : wrap64 (1 + 4 * (i : Int) + 1) = 2 + 4 * (i : Int) := by unfold wrap64; omega
    have e2 : wrap64 (2 + 4 * (i : Int) + 1) = 3 + 4 * (i : Int) := by unfold wrap64; omega
    have e3 : wrap64 (3 + 4 * (i : Int) + 1) = 4 + 4 * (i : Int) := by unfold wrap64; omega
    have e4 : wrap64 (4 + 4 * (i : Int) + 1) = 1 + 4 * ((i + 1 : Nat) : Int) := by unfold wrap64; omega
    simp only [Option.bind_some, Int.toNat_natCast, e1, e2, e3, e4, Gen.w64s (show i < 9223372036854775807 by omega), List.set_set, rdmPlace l i _ (show i < l.length by omega)]
    rfl
theorem tMarkPlace (l : List S77) (hl : l.length ≤ 1048576) :
    ∃ l' : List S77, l'.length = l.length ∧ (∀ j, j < l.length → l'.getD j z77 = mkPlace j) ∧ Told (fun k => laws_markPlaceS.f k l 1) (1 + 4 * (l.length : Int), l') :=
  tMarkPlace0 l.length l 0 (by omega) hl (fun j hj => by omega)
theorem tEqPlace (l : List S77) (hl : l.length ≤ 1048576) : Told (fun k => laws_eqPlaceS.f k l l) true := by
  refine ⟨l.length + 1, fun k hk => ?_⟩
  show laws_eqPlaceS.f k l l = some true
  unfold laws_eqPlaceS.f
  rw [if_pos rfl]
  refine Gen.up_all l.length 0 true (fun k i => laws_eqPlaceS.l0 k l l i) (fun k i _ hi => ?_) (fun k _ => ?_) (k := k) (by omega)
  · simp only [laws_eqPlaceS.l0, laws_eqPlace.f, laws_eqPoint.f]
    rw [if_pos (by omega), if_pos (by omega), if_pos (by omega)]
    simp only [if_true, Option.bind_some]
    rw [Gen.w64s (by omega)]
  · simp only [laws_eqPlaceS.l0]
    rw [if_neg (by omega)]
theorem tToPlaceS (l : List S112) (hl : l.length ≤ 1048576) : Told (fun k => laws_toPlaceS.f k l) (l.map cPl) := ⟨l.length + 1, fun k hk => toPlaceS_some l hl (by omega)⟩
theorem pure_FnExactThinPlaces : ∀ (l0 : (List S112)) (a1 : Int), (List.length l0 ≤ maxLen ∧ ∀ y ∈ l0, G112 y) → I64 a1 → ∃ k, laws_FnExactThinPlaces.f k l0 a1 = some true := by
  intro a f ⟨ha, _⟩ _
  apply Told.ex
  refine Told.bind (Told.of (szPlaceS_some a 1048576 ha (by omega) (by omega))) ?_
  by_cases hl : a.length ≤ 1048576
  · rw [if_neg (by omega)]
    have hm : (a.map cPl).length ≤ 1048576 := by rw [List.length_map]; exact hl
    have tp := tToPlaceS a hl
    have ts := tSpecThin (a.map cPl) f hm
    have ti := tImplThin (a.map cPl) f hm
    have lv : (thinV (a.map cPl) f).length ≤ 1048576 := by
      have := len_idsP (keptV (a.map cPl) f) []; have := len_keptV (a.map cPl) f
      unfold thinV; simp at *; omega
    have eqs := tEqI _ lv
    obtain ⟨x, _, _, hx⟩ := tMarkPlace (a.map cPl) hm
    obtain ⟨y, y1, y2, hy⟩ := tMarkI _ lv
    have held := tHeldI _ y lv y1 y2
    refine Told.ite_f (by omega) (Told.bind tp (Told.bind ts (Told.bind tp (Told.bind ti (Told.bind eqs (Told.ite_t rfl (Told.bind tp (Told.bind (tEqPlace _ hm) (Told.ite_t rfl (Told.bind hx (Told.ite_f (by simp only; omega) (Told.bind eqs ?_))))))))))))
    refine Told.step (fun k => by simp only [laws_FnExactThinPlaces.j0, Bool.not_true, Bool.false_eq_true, if_false]; rfl) ?_
    exact Told.bind hy (Told.bind held (Told.ite_f (by omega) (Told.ite_t rfl (Told.bind tp (Told.bind ti (Told.bind eqs (Told.ite_t rfl (Told.bind held (Told.ite_f (by omega) (Told.ite_t rfl (Told.ret _)))))))))))
  · rw [if_pos (by omega)]
    exact Told.ite_t (by omega) (Told.ret _)
end Go.Proofs.Ytbackoeakepngab.MFnExactThinPlaces
