/- The plain law behind FnThinned: what the printed functions compute answers true; no condition beyond the arguments' ranges. -/
import Derived.Test.YtbackoeakepngabZFnThinnedTold
import Derived.Test.YtbackoeakepngabZFnThinnedGeo
import Derived.Laws.BitsLemmas
import Derived.Test.YtbackoeakepngabZFnThinnedMx10
import Derived.Test.YtbackoeakepngabZFnThinnedOpn
namespace Go.Proofs.Ytbackoeakepngab.MFnThinned
open Go Go.RowKit Go.Proofs.YtbackoeakepngabW.PrintWords Go.Proofs.YtbackoeakepngabW.PrintLast Go.Proofs.YtbackoeakepngabW.PrintMore Go.Proofs.Ytbackoeakepngab.Open
set_option linter.unusedVariables false
set_option linter.unusedSimpArgs false
theorem implInRange (a b c : Int) : impl_InRange.f a b c = some (decide (b ≤ a ∧ a ≤ c)) := by
  unfold impl_InRange.f; by_cases h : b ≤ a <;> simp [h]
theorem specIn (a b c : Int) : spec_l1In.f a b c = some (decide (b ≤ a ∧ a ≤ c)) := by
  unfold spec_l1In.f; by_cases h : b ≤ a <;> simp [h]
def Pt (x y : Int) : Prop := 0 ≤ x ∧ x ≤ 200 ∧ 0 ≤ y ∧ y ≤ 200
instance (x y : Int) : Decidable (Pt x y) := by unfold Pt; infer_instance
theorem implIsPoint (x y : Int) : impl_IsPoint.f x y = some (decide (Pt x y)) := by
  unfold impl_IsPoint.f
  rw [implInRange, implInRange]
  simp only [Option.bind_some]
  by_cases h : 0 ≤ x ∧ x ≤ 200
  · rw [if_pos (by simpa using h)]; simp [Pt, h]
  · rw [if_neg (by simpa using h)]; simp only [Option.some.injEq, Bool.false_eq, decide_eq_false_iff_not]; unfold Pt; omega
theorem specIsPoint (x y : Int) : spec_IsPoint.f x y = some (decide (Pt x y)) := by
  unfold spec_IsPoint.f
  rw [specIn, specIn]
  simp only [Option.bind_some]
  by_cases h : 0 ≤ x ∧ x ≤ 200
  · rw [if_pos (by simpa using h)]; simp [Pt, h]
  · rw [if_neg (by simpa using h)]; simp only [Option.some.injEq, Bool.false_eq, decide_eq_false_iff_not]; unfold Pt; omega
def plChk (l : List S77) (i : Nat) : Bool := decide ((1 ≤ (l.getD i z77).f0 ∧ (l.getD i z77).f0 ≤ 99) ∧ Pt (l.getD i z77).f1.f0 (l.getD i z77).f1.f1 ∧ (0 ≤ (l.getD i z77).f2 ∧ (l.getD i z77).f2 ≤ 9) ∧ (0 < i → (l.getD (i - 1) z77).f0 < (l.getD i z77).f0))
def Pls (l : List S77) : Prop := l.length ≤ 16 ∧ ∀ i, i < l.length → plChk l i = true
instance (l : List S77) : Decidable (Pls l) := by unfold Pls; infer_instance
theorem rdPl (l : List S77) (i : Nat) : rd_T77 l (i : Int) = l.getD i z77 := rfl
theorem specArePlaces (l : List S77) (hl : l.length ≤ 1048576) {k : Nat} (hk : l.length < k) : spec_ArePlaces.f k l = some (decide (Pls l)) := by
  unfold spec_ArePlaces.f
  rw [Gen.scan_all l.length 0 (plChk l) (decide (l.length ≤ 16)) (fun k i => spec_ArePlaces.l0 k l i) (fun k i _ hi => by
    simp only [spec_ArePlaces.l0]
    rw [if_pos (by omega), if_pos (by omega), specIn, specIsPoint, specIn, rdPl]
    simp only [Option.bind_some, decide_eq_true_eq]
    by_cases h1 : 1 ≤ (l.getD i z77).f0 ∧ (l.getD i z77).f0 ≤ 99
    · rw [if_pos h1]
      by_cases h2 : Pt (l.getD i z77).f1.f0 (l.getD i z77).f1.f1
      · rw [if_pos h2]
        by_cases h3 : 0 ≤ (l.getD i z77).f2 ∧ (l.getD i z77).f2 ≤ 9
        · rw [if_pos h3]
          by_cases h0 : 0 < i
          · have e1 : wrap64 ((i : Int) - 1) = ((i - 1 : Nat) : Int) := by rw [Gen.w64 (by omega) (by omega)]; omega
            rw [if_pos (by omega), e1, if_pos (by omega), if_pos (by omega), rdPl, Gen.w64s (by omega)]
            by_cases h4 : (l.getD (i - 1) z77).f0 ≥ (l.getD i z77).f0
            · rw [if_pos h4, if_neg (by unfold plChk; rw [decide_eq_true_eq]; exact fun h => by have := h.2.2.2 h0; omega)]
            · rw [if_neg h4, if_pos (by unfold plChk; rw [decide_eq_true_eq]; exact ⟨h1, h2, h3, fun _ => by omega⟩)]
          · rw [if_neg (by omega), if_pos (by unfold plChk; rw [decide_eq_true_eq]; exact ⟨h1, h2, h3, fun h => absurd h h0⟩), Gen.w64s (by omega)]
        · rw [if_neg h3, if_neg (by unfold plChk; rw [decide_eq_true_eq]; exact fun h => h3 h.2.2.1)]
      · rw [if_neg h2, if_neg (by unfold plChk; rw [decide_eq_true_eq]; exact fun h => h2 h.2.1)]
    · rw [if_neg h1, if_neg (by unfold plChk; rw [decide_eq_true_eq]; exact fun h => h1 h.1)]) (fun k _ => by
    simp only [spec_ArePlaces.l0]
    rw [if_neg (by omega)]
    simp only [Option.some.injEq, decide_eq_decide]
    omega) (by omega)]
  congr 1
  rw [Bool.eq_iff_iff, Bool.and_eq_true, decide_eq_true_eq, decide_eq_true_eq, decide_eq_true_eq]
  exact ⟨fun h => ⟨h.2, h.1⟩, fun h => ⟨h.2, h.1⟩⟩
theorem implArePlaces (l : List S77) (hl : l.length ≤ 1048576) {k : Nat} (hk : l.length < k) : impl_ArePlaces.f k l = some (decide (Pls l)) := by
  unfold impl_ArePlaces.f
  by_cases h16 : l.length ≤ 16
  · rw [if_neg (by omega)]
    rw [Gen.scan_all l.length 0 (plChk l) true (fun k i => impl_ArePlaces.l0 k l l l.length i) (fun k i _ hi => by
      simp only [impl_ArePlaces.l0]
      rw [if_pos (by omega), if_pos (by omega), if_pos (by omega), implInRange, implIsPoint, implInRange, rdPl]
      simp only [Option.bind_some, decide_eq_true_eq]
      by_cases h1 : 1 ≤ (l.getD i z77).f0 ∧ (l.getD i z77).f0 ≤ 99
      · rw [if_pos h1]
        by_cases h2 : Pt (l.getD i z77).f1.f0 (l.getD i z77).f1.f1
        · rw [if_pos h2]
          by_cases h3 : 0 ≤ (l.getD i z77).f2 ∧ (l.getD i z77).f2 ≤ 9
          · rw [if_pos h3]
            by_cases h0 : 0 < i
            · have e1 : wrap64 ((i : Int) - 1) = ((i - 1 : Nat) : Int) := by rw [Gen.w64 (by omega) (by omega)]; omega
              rw [if_pos (by omega), e1, if_pos (by omega), if_pos (by omega), rdPl, Gen.w64s (by omega)]
              by_cases h4 : (l.getD i z77).f0 ≤ (l.getD (i - 1) z77).f0
              · rw [if_pos h4, if_neg (by unfold plChk; rw [decide_eq_true_eq]; exact fun h => by have := h.2.2.2 h0; omega)]
              · rw [if_neg h4, if_pos (by unfold plChk; rw [decide_eq_true_eq]; exact ⟨h1, h2, h3, fun _ => by omega⟩)]
            · rw [if_neg (by omega), if_pos (by unfold plChk; rw [decide_eq_true_eq]; exact ⟨h1, h2, h3, fun h => absurd h h0⟩), Gen.w64s (by omega)]
          · rw [if_neg h3, if_neg (by unfold plChk; rw [decide_eq_true_eq]; exact fun h => h3 h.2.2.1)]
        · rw [if_neg h2, if_neg (by unfold plChk; rw [decide_eq_true_eq]; exact fun h => h2 h.2.1)]
      · rw [if_neg h1, if_neg (by unfold plChk; rw [decide_eq_true_eq]; exact fun h => h1 h.1)]) (fun k _ => by
      simp only [impl_ArePlaces.l0]
      rw [if_neg (by omega)]) (by omega)]
    congr 1
    rw [Bool.eq_iff_iff, Bool.and_eq_true, decide_eq_true_eq, decide_eq_true_eq]
    exact ⟨fun h => ⟨h16, h.1⟩, fun h => ⟨h.2, rfl⟩⟩
  · rw [if_pos (by omega)]
    congr 1
    rw [eq_comm, decide_eq_false_iff_not]
    exact fun h => h16 h.1
def D (n : Int) : Prop := -200 ≤ n ∧ n ≤ 200
theorem D_of {x y : Int} (hx : 0 ≤ x ∧ x ≤ 200) (hy : 0 ≤ y ∧ y ≤ 200) : wrap64 (x - y) = x - y ∧ D (x - y) := ⟨Gen.w64 (by omega) (by omega), by unfold D; omega⟩
theorem D_mul {x y : Int} (hx : D x) (hy : D y) : wrap64 (x * y) = x * y ∧ -40000 ≤ x * y ∧ x * y ≤ 40000 := by
  have := Gen.mul_bd (m := 200) (n := 200) hx hy
  exact ⟨Gen.w64 (by omega) (by omega), by omega, by omega⟩
def farZ (ax ay bx bY : Int) : Int := (ax - bx) * (ax - bx) + (ay - bY) * (ay - bY)
theorem farZ_bd {ax ay bx bY : Int} (ha : Pt ax ay) (hb : Pt bx bY) :
    wrap64 ((wrap64 ((wrap64 (ax - bx)) * (wrap64 (ax - bx)))) + (wrap64 ((wrap64 (ay - bY)) * (wrap64 (ay - bY))))) = farZ ax ay bx bY ∧ 0 ≤ farZ ax ay bx bY ∧ farZ ax ay bx bY ≤ 80000 := by
  obtain ⟨a1, a2, a3, a4⟩ := ha; obtain ⟨b1, b2, b3, b4⟩ := hb
  obtain ⟨e1, d1⟩ := D_of ⟨a1, a2⟩ ⟨b1, b2⟩
  obtain ⟨e2, d2⟩ := D_of ⟨a3, a4⟩ ⟨b3, b4⟩
  obtain ⟨m1, n1, o1⟩ := D_mul d1 d1
  obtain ⟨m2, n2, o2⟩ := D_mul d2 d2
  have s1 : 0 ≤ (ax - bx) * (ax - bx) := by
    rcases Int.le_total 0 (ax - bx) with h | h
    · exact Int.mul_nonneg h h
    · exact Int.mul_nonneg_of_nonpos_of_nonpos h h
  have s2 : 0 ≤ (ay - bY) * (ay - bY) := by
    rcases Int.le_total 0 (ay - bY) with h | h
    · exact Int.mul_nonneg h h
    · exact Int.mul_nonneg_of_nonpos_of_nonpos h h
  rw [e1, e2, m1, m2]
  unfold farZ
  exact ⟨Gen.w64 (by omega) (by omega), by omega, by omega⟩
theorem implFar (ax ay bx bY : Int) : impl_FarSquared.f ax ay bx bY = some (if Pt ax ay ∧ Pt bx bY then farZ ax ay bx bY else -1) := by
  unfold impl_FarSquared.f
  rw [implIsPoint, implIsPoint]
  simp only [Option.bind_some, decide_eq_true_eq]
  by_cases ha : Pt ax ay <;> by_cases hb : Pt bx bY
  · rw [if_pos ha, if_pos hb, if_pos ⟨ha, hb⟩, (farZ_bd ha hb).1]
  · rw [if_pos ha, if_neg hb, if_neg (fun h => hb h.2)]
  · rw [if_neg ha, if_neg (fun h => ha h.1)]
  · rw [if_neg ha, if_neg (fun h => ha h.1)]
theorem specFar (ax ay bx bY : Int) : spec_FarSquared.f ax ay bx bY = some (if Pt ax ay ∧ Pt bx bY then farZ ax ay bx bY else -1) := by
  unfold spec_FarSquared.f
  rw [specIsPoint, specIsPoint]
  simp only [Option.bind_some, decide_eq_true_eq]
  by_cases ha : Pt ax ay <;> by_cases hb : Pt bx bY
  · rw [if_pos ha, if_pos hb, if_pos ⟨ha, hb⟩, (farZ_bd ha hb).1]
  · rw [if_pos ha, if_neg hb, if_neg (fun h => hb h.2)]
  · rw [if_neg ha, if_neg (fun h => ha h.1)]
  · rw [if_neg ha, if_neg (fun h => ha h.1)]
def upP (x y : S77) : Bool := if x.f2 > y.f2 then true else if x.f2 = y.f2 then decide (x.f0 < y.f0) else false
theorem implAbove (x y : S77) : impl_IsAbove.f x.f0 x.f1.f0 x.f1.f1 x.f2 y.f0 y.f1.f0 y.f1.f1 y.f2 = some (upP x y) := by
  unfold impl_IsAbove.f upP
  split
  · rfl
  · split <;> rfl
theorem specAbove (x y : S77) : spec_IsAbove.f x.f0 x.f1.f0 x.f1.f1 x.f2 y.f0 y.f1.f0 y.f1.f1 y.f2 = some (upP x y) := by
  unfold spec_IsAbove.f upP
  split
  · rfl
  · split <;> rfl
def posP (x : S77) (S : List S77) : Nat → Nat
  | 0 => 0
  | j + 1 => if upP x (S.getD j z77) = true then posP x S j else j + 1
theorem posP_le (x : S77) (S : List S77) : ∀ j, posP x S j ≤ j
  | 0 => Nat.le_refl 0
  | j + 1 => by
    unfold posP
    split
    · exact Nat.le_succ_of_le (posP_le x S j)
    · exact Nat.le_refl _
def insP (x : S77) (S : List S77) : List S77 := S.take (posP x S S.length) ++ x :: S.drop (posP x S S.length)
def sortP (l : List S77) : List S77 := l.foldl (fun S x => insP x S) []
theorem len_insP (x : S77) (S : List S77) : (insP x S).length = S.length + 1 := by
  have := posP_le x S S.length
  unfold insP; simp; omega
theorem len_foldP : ∀ (l S : List S77), (l.foldl (fun S x => insP x S) S).length = S.length + l.length
  | [], S => rfl
  | x :: l, S => by rw [List.foldl_cons, len_foldP l, len_insP, List.length_cons]; omega
theorem len_sortP (l : List S77) : (sortP l).length = l.length := by unfold sortP; rw [len_foldP]; simp
theorem perm_insP (x : S77) (S : List S77) : (insP x S).Perm (x :: S) := by
  unfold insP
  refine List.perm_middle.trans ?_
  rw [List.take_append_drop]
theorem perm_foldP : ∀ (l S : List S77), (l.foldl (fun S x => insP x S) S).Perm (l ++ S)
  | [], S => List.Perm.refl _
  | x :: l, S => by
    rw [List.foldl_cons]
    refine (perm_foldP l _).trans ?_
    refine (List.Perm.append_left l (perm_insP x S)).trans ?_
    exact List.perm_middle
theorem perm_sortP (l : List S77) : (sortP l).Perm l := by
  have := perm_foldP l []
  rwa [List.append_nil] at this
def fQ (x y : S77) : Int := if Pt x.f1.f0 x.f1.f1 ∧ Pt y.f1.f0 y.f1.f1 then farZ x.f1.f0 x.f1.f1 y.f1.f0 y.f1.f1 else -1
theorem fQ_comm (x y : S77) : fQ x y = fQ y x := by
  unfold fQ
  have e : farZ x.f1.f0 x.f1.f1 y.f1.f0 y.f1.f1 = farZ y.f1.f0 y.f1.f1 x.f1.f0 x.f1.f1 := by
    have s : ∀ a b : Int, (a - b) * (a - b) = (b - a) * (b - a) := fun a b => by rw [← Int.neg_mul_neg, Int.neg_sub]
    unfold farZ; rw [s x.f1.f0, s x.f1.f1]
  by_cases hx : Pt x.f1.f0 x.f1.f1 <;> by_cases hy : Pt y.f1.f0 y.f1.f1
  · rw [if_pos ⟨hx, hy⟩, if_pos ⟨hy, hx⟩, e]
  · rw [if_neg (fun h => hy h.2), if_neg (fun h => hy h.1)]
  · rw [if_neg (fun h => hx h.1), if_neg (fun h => hx h.2)]
  · rw [if_neg (fun h => hx h.1), if_neg (fun h => hx h.2)]
def farOk (f : Int) (x : S77) (out : List S77) : Bool := out.all fun y => decide (fQ y x ≥ f * f)
def keepStep (f : Int) (out : List S77) (x : S77) : List S77 := if farOk f x out = true then out ++ [x] else out
def keepP (f : Int) (S : List S77) : List S77 := S.foldl (keepStep f) []
theorem sub_keep (f : Int) : ∀ (S out : List S77), (S.foldl (keepStep f) out).Sublist (out ++ S)
  | [], out => by rw [List.append_nil]; exact List.Sublist.refl _
  | x :: S, out => by
    rw [List.foldl_cons]
    refine (sub_keep f S _).trans ?_
    unfold keepStep
    split
    · rw [List.append_assoc]; exact List.Sublist.refl _
    · exact List.Sublist.append_left (List.sublist_cons_self x S) out
theorem sub_keepP (f : Int) (S : List S77) : (keepP f S).Sublist S := by
  have := sub_keep f S []
  rwa [List.nil_append] at this
theorem w64_sq {f : Int} (h : 0 ≤ f ∧ f ≤ 200) : wrap64 (f * f) = f * f := by
  have h1 : 0 ≤ f * f := Int.mul_nonneg h.1 h.1
  have h2 : f * f ≤ 200 * 200 := Int.mul_le_mul h.2 h.2 h.1 (by omega)
  exact Gen.w64 (by omega) (by omega)
theorem rd_dropP (S : List S77) (j : Nat) (h : j < S.length) : S.drop j = S.getD j z77 :: S.drop (j + 1) := by
  rw [List.drop_eq_getElem_cons h, List.getD_eq_getElem?_getD, List.getElem?_eq_getElem h]; rfl
theorem kFin (l S : List S77) (f : Int) (i : Nat) (hi : i < l.length) (hl : l.length ≤ 1048576) (hS : S.length ≤ 2000000) (j : Nat) (hj : j ≤ S.length) {r : List S77}
    (h : Told (fun k => spec_l14Kept.l0 k l f (S.take j ++ rd_T77 l (i : Int) :: S.drop j) ((i + 1 : Nat) : Int)) r) :
    Told (fun k => (some (([] : List S77))).bind fun y201 => (if 0 ≤ (j : Int) then (if (j : Int) ≤ (S.length : Int) then ((some (S.take ((j : Int)).toNat)).bind fun y204 => (if y201.length + y204.length < 4398046511104 then ((some (y201 ++ y204)).bind fun y208 => (if 0 ≤ (i : Int) then (if (i : Int) < (l.length : Int) then ((some [rd_T77 l (i : Int)]).bind fun y212 => (if y208.length + y212.length < 4398046511104 then ((some (y208 ++ y212)).bind fun y215 => ((some (S.drop ((j : Int)).toNat)).bind fun y218 => (if y215.length + y218.length < 4398046511104 then (spec_l14Kept.l0 k l f (y215 ++ y218) (wrap64 ((i : Int) + 1))) else (none)))) else (none))) else (none)) else (none))) else (none))) else (none)) else (none))) r := by
  simp only [Option.bind_some]
  have e1 : ((j : Int)).toNat = j := by omega
  rw [e1]
  refine Told.ite_t (by omega) (Told.ite_t (by omega) (Told.ite_t (by simp; omega) (Told.ite_t (by omega) (Told.ite_t (by omega) (Told.ite_t (by simp; omega) (Told.ite_t (by simp; omega) ?_))))))
  rw [Gen.w64s (by omega), List.nil_append, List.append_assoc]
  exact h
theorem kL1 (l S : List S77) (f : Int) (i : Nat) (hi : i < l.length) (hl : l.length ≤ 1048576) (hS : S.length ≤ 2000000) {r : List S77} : ∀ j, j ≤ S.length →
    Told (fun k => spec_l14Kept.l0 k l f (S.take (posP (rd_T77 l (i : Int)) S j) ++ rd_T77 l (i : Int) :: S.drop (posP (rd_T77 l (i : Int)) S j)) ((i + 1 : Nat) : Int)) r →
    Told (fun k => spec_l14Kept.l1 k l f S (i : Int) (j : Int)) r
  | 0, hj, h => Told.step (fun k => by simp only [spec_l14Kept.l1]; rw [if_neg (by omega)]) (kFin l S f i hi hl hS 0 hj h)
  | j + 1, hj, h => by
    have e1 : wrap64 (((j + 1 : Nat) : Int) - 1) = (j : Int) := by rw [Gen.w64 (by omega) (by omega)]; omega
    have e2 : (rd_T77 S (j : Int)) = S.getD j z77 := rfl
    unfold posP at h
    by_cases c : upP (rd_T77 l (i : Int)) (S.getD j z77) = true
    · rw [if_pos c] at h
      refine Told.step (fun k => ?_) (kL1 l S f i hi hl hS j (by omega) h)
      simp only [spec_l14Kept.l1]
      rw [if_pos (by omega), if_pos (by omega), if_pos (by omega), e1, if_pos (by omega), if_pos (by omega), specAbove, Option.bind_some, e2, if_pos c]
    · rw [if_neg c] at h
      refine Told.step (fun k => ?_) (kFin l S f i hi hl hS (j + 1) hj h)
      simp only [spec_l14Kept.l1]
      rw [if_pos (by omega), if_pos (by omega), if_pos (by omega), e1, if_pos (by omega), if_pos (by omega), specAbove, Option.bind_some, e2, if_neg c]
      simp only [Option.bind_some]
      have c1 : (0 : Int) ≤ ((i : Nat) : Int) := by omega
      have c2 : ((i : Nat) : Int) < (l.length : Int) := by omega
      rw [if_pos c1, if_pos c2]
theorem kL3 (S out : List S77) (f : Int) (hf : 0 ≤ f ∧ f ≤ 200) (i : Nat) (hi : i < S.length) (hS : S.length ≤ 2000000) (ho : out.length ≤ 2000000) {r : List S77} : ∀ d j b, j + d = out.length →
    Told (fun k => spec_l14Kept.l2 k f S (if (b && (out.drop j).all fun y => decide (fQ y (rd_T77 S (i : Int)) ≥ f * f)) = true then out ++ [rd_T77 S (i : Int)] else out) ((i + 1 : Nat) : Int)) r →
    Told (fun k => spec_l14Kept.l3 k f S out (i : Int) b (j : Int)) r := by
  intro d
  induction d with
  | zero =>
    intro j b hd h
    have e0 : out.drop j = [] := List.drop_eq_nil_of_le (by omega)
    rw [e0, List.all_nil, Bool.and_true] at h
    by_cases c : b = true
    · rw [if_pos c] at h
      refine Told.step (fun k => ?_) h
      simp only [spec_l14Kept.l3]
      rw [if_neg (by omega), if_pos c, if_pos (by omega), if_pos (by omega), Option.bind_some, if_pos (by simp; omega), Gen.w64s (by omega)]
    · rw [if_neg c] at h
      refine Told.step (fun k => ?_) h
      simp only [spec_l14Kept.l3]
      rw [if_neg (by omega), if_neg c, Gen.w64s (by omega)]
  | succ d ih =>
    intro j b hd h
    rw [rd_dropP out j (by omega), List.all_cons, ← Bool.and_assoc] at h
    have e2 : (rd_T77 out (j : Int)) = out.getD j z77 := rfl
    refine Told.step (fun k => ?_) (ih (j + 1) (b && decide (fQ (out.getD j z77) (rd_T77 S (i : Int)) ≥ f * f)) (by omega) h)
    simp only [spec_l14Kept.l3]
    rw [if_pos (by omega)]
    cases b
    · rw [if_neg (by simp), Gen.w64s (by omega)]; rfl
    · rw [if_pos rfl, if_pos (by omega), if_pos (by omega), if_pos (by omega), specFar, Option.bind_some, Gen.w64s (by omega), w64_sq hf, e2]; rfl
theorem kL2 (S : List S77) (f : Int) (hf : 0 ≤ f ∧ f ≤ 200) (hS : S.length ≤ 1000000) : ∀ d i out, i + d = S.length → out.length ≤ i → Told (fun k => spec_l14Kept.l2 k f S out (i : Int)) ((S.drop i).foldl (keepStep f) out) := by
  intro d
  induction d with
  | zero =>
    intro i out hd ho
    rw [List.drop_eq_nil_of_le (by omega), List.foldl_nil]
    exact Told.stepr fun k => by simp only [spec_l14Kept.l2]; rw [if_neg (by omega)]
  | succ d ih =>
    intro i out hd ho
    rw [rd_dropP S i (by omega), List.foldl_cons]
    refine Told.step (fun k => by simp only [spec_l14Kept.l2]; rw [if_pos (by omega)]; rfl) (kL3 S out f hf i (by omega) (by omega) (by omega) out.length 0 true (by omega) ?_)
    have hlk : (keepStep f out (S.getD i z77)).length ≤ i + 1 := by
      unfold keepStep
      split
      · rw [List.length_append, List.length_singleton]; omega
      · omega
    have := ih (i + 1) (keepStep f out (S.getD i z77)) (by omega) hlk
    rw [Bool.true_and, List.drop_zero]
    exact this
theorem kL0 (l : List S77) (f : Int) (hf : 0 ≤ f ∧ f ≤ 200) (hl : l.length ≤ 1000000) : ∀ d i S, i + d = l.length → S.length = i → Told (fun k => spec_l14Kept.l0 k l f S (i : Int)) (keepP f ((l.drop i).foldl (fun S x => insP x S) S)) := by
  intro d
  induction d with
  | zero =>
    intro i S hd hs
    rw [List.drop_eq_nil_of_le (by omega), List.foldl_nil]
    refine Told.step (fun k => by simp only [spec_l14Kept.l0]; rw [if_neg (by omega)]) ?_
    exact kL2 S f hf (by omega) S.length 0 [] (by omega) (by simp)
  | succ d ih =>
    intro i S hd hs
    rw [rd_dropP l i (by omega), List.foldl_cons]
    refine Told.step (fun k => by simp only [spec_l14Kept.l0]; rw [if_pos (by omega)]) (kL1 l S f i (by omega) (by omega) (by omega) S.length (Nat.le_refl _) ?_)
    exact ih (i + 1) (insP (l.getD i z77) S) (by omega) (by rw [len_insP]; omega)
theorem tSpecKept (l : List S77) (f : Int) (hf : 0 ≤ f ∧ f ≤ 200) (hl : l.length ≤ 1000000) : Told (fun k => spec_l14Kept.f k l f) (keepP f (sortP l)) := kL0 l f hf hl l.length 0 [] (by omega) rfl
theorem ltOf_up : Go.Proofs.ltOf impl_fromAbove.cf = fun x y => upP x y := by
  funext x y
  have e : ∀ x y, impl_fromAbove.up x y = upP x y := fun _ _ => rfl
  unfold Go.Proofs.ltOf impl_fromAbove.cf
  rw [e, e]
  cases upP x y
  · cases upP y x <;> rfl
  · rfl
theorem get_of_toList {d : Array S77} {l : List S77} (h : d.toList = l) (i : Nat) (hi : i < l.length) : d[i]! = l.getD i z77 := by
  subst h
  rw [getElem!_pos d i (by simpa using hi), List.getD_eq_getElem?_getD, List.getElem?_eq_getElem hi]
  rfl
theorem insInner_to (x : S77) (R : List S77) (S : List S77) : ∀ j (d : Array S77), j ≤ S.length → d.toList = S.take j ++ x :: (S.drop j ++ R) →
    (Go.Sort.insInner (fun x y => upP x y) 0 j d).toList = S.take (posP x S j) ++ x :: (S.drop (posP x S j) ++ R)
  | 0, d, _, h => h
  | j + 1, d, hj, h => by
    have hlen : (S.take (j + 1)).length = j + 1 := by rw [List.length_take]; omega
    have hs : d.size = S.length + 1 + R.length := by rw [← Array.length_toList, h]; simp; omega
    have g1 : d[j + 1]! = x := by
      rw [get_of_toList h (j + 1) (by simp; omega), List.getD_eq_getElem?_getD, List.getElem?_append_right (by omega), hlen, Nat.sub_self]; rfl
    have g0 : d[j]! = S.getD j z77 := by
      rw [get_of_toList h j (by simp; omega), List.getD_eq_getElem?_getD, List.getElem?_append_left (by omega), List.getElem?_take_of_lt (by omega), ← List.getD_eq_getElem?_getD]
    unfold Go.Sort.insInner posP
    rw [g1, g0]
    by_cases c : upP x (S.getD j z77) = true
    · rw [if_pos (by rw [c, Bool.and_true]; exact decide_eq_true (Nat.succ_pos j)), if_pos c]
      refine insInner_to x R S j _ (by omega) ?_
      have e1 : S.take (j + 1) = S.take j ++ [S.getD j z77] := by
        rw [List.take_add_one, List.getElem?_eq_getElem (by omega), List.getD_eq_getElem?_getD, List.getElem?_eq_getElem (by omega)]; rfl
      have hlj : (S.take j).length = j := by rw [List.length_take]; omega
      unfold Go.Sort.swp
      rw [g1, g0, Array.toList_setIfInBounds, Array.toList_setIfInBounds, h, e1, rd_dropP S j (by omega), List.append_assoc]
      rw [List.set_append_right _ _ (by omega), hlj, List.set_append_right _ _ (by omega), hlj]
      simp
    · rw [if_neg (by rw [Bool.eq_false_iff.2 c, Bool.and_false]; exact Bool.false_ne_true), if_neg c]
      exact h
theorem insOuter_to (b : Nat) : ∀ (R : List S77) (i : Nat) (S : List S77) (d : Array S77), S.length = i → i + R.length = b → d.toList = S ++ R →
    (Go.Sort.insOuter (fun x y => upP x y) 0 b i d).toList = R.foldl (fun S x => insP x S) S
  | [], i, S, d, hs, hb, h => by
    rw [Go.Sort.insOuter, if_neg (by simp at hb; omega), h]; simp
  | x :: R, i, S, d, hs, hb, h => by
    rw [Go.Sort.insOuter, if_pos (by simp at hb; omega), List.foldl_cons]
    refine insOuter_to b R (i + 1) (insP x S) _ (by rw [len_insP]; omega) (by simp at hb; omega) ?_
    have := insInner_to x R S i d (by omega) (by rw [h, List.take_of_length_le (by omega), List.drop_eq_nil_of_le (by omega)]; rfl)
    rw [this]; unfold insP; rw [hs, List.append_assoc]; rfl
theorem insertion_to (l : List S77) : (Go.Sort.insertionSort (Go.Proofs.ltOf impl_fromAbove.cf) l.toArray 0 l.length).toList = sortP l := by
  rw [ltOf_up]
  unfold Go.Sort.insertionSort sortP
  cases l with
  | nil => rw [Go.Sort.insOuter, if_neg (by simp)]; rfl
  | cons x l =>
    exact insOuter_to (x :: l).length l (0 + 1) [x] (x :: l).toArray rfl (by simp; omega) rfl
theorem implFromAbove (l : List S77) (h : l.length ≤ 16) : impl_fromAbove.f l = some (sortP l) := by
  unfold impl_fromAbove.f impl_Place_135.f
  simp only [Option.bind_some, List.nil_append, List.length_nil]
  rw [if_pos (by omega), Option.bind_some, if_pos h, insertion_to]
theorem iL1 (S out : List S77) (f : Int) (hf : 0 ≤ f ∧ f ≤ 200) (i : Nat) (hi : i < S.length) (hS : S.length ≤ 2000000) (ho : out.length ≤ 2000000) (x : S77) {r : List S77} : ∀ d j b, j + d = out.length →
    Told (fun k => impl_keptPlaces.l0 k f (if (b && (out.drop j).all fun y => decide (fQ y x ≥ f * f)) = true then out ++ [x] else out) S (S.length : Int) ((i + 1 : Nat) : Int)) r →
    Told (fun k => impl_keptPlaces.l1 k f out b S (S.length : Int) (i : Int) (out.length : Int) (j : Int) x.f0 x.f1.f0 x.f1.f1 x.f2) r := by
  intro d
  induction d with
  | zero =>
    intro j b hd h
    have e0 : out.drop j = [] := List.drop_eq_nil_of_le (by omega)
    rw [e0, List.all_nil, Bool.and_true] at h
    by_cases c : b = true
    · rw [if_pos c] at h
      refine Told.step (fun k => ?_) h
      simp only [impl_keptPlaces.l1]
      rw [if_neg (by omega), if_pos c, if_pos (by omega), Gen.w64s (by omega)]
    · rw [if_neg c] at h
      refine Told.step (fun k => ?_) h
      simp only [impl_keptPlaces.l1]
      rw [if_neg (by omega), if_neg c, Gen.w64s (by omega)]
  | succ d ih =>
    intro j b hd h
    rw [rd_dropP out j (by omega), List.all_cons, ← Bool.and_assoc] at h
    have e2 : (rd_T77 out (j : Int)) = out.getD j z77 := rfl
    refine Told.step (fun k => ?_) (ih (j + 1) (b && decide (fQ (out.getD j z77) x ≥ f * f)) (by omega) h)
    simp only [impl_keptPlaces.l1]
    rw [if_pos (by omega), if_pos (by omega), if_pos (by omega)]
    cases b
    · rw [if_neg (by simp), Gen.w64s (by omega)]; rfl
    · rw [if_pos rfl, implFar, Option.bind_some, Gen.w64s (by omega), w64_sq hf, e2, fQ_comm (out.getD j z77) x]; rfl
theorem iL0 (S : List S77) (f : Int) (hf : 0 ≤ f ∧ f ≤ 200) (hS : S.length ≤ 1000000) : ∀ d i out, i + d = S.length → out.length ≤ i → Told (fun k => impl_keptPlaces.l0 k f out S (S.length : Int) (i : Int)) ((S.drop i).foldl (keepStep f) out) := by
  intro d
  induction d with
  | zero =>
    intro i out hd ho
    rw [List.drop_eq_nil_of_le (by omega), List.foldl_nil]
    exact Told.stepr fun k => by simp only [impl_keptPlaces.l0]; rw [if_neg (by omega)]
  | succ d ih =>
    intro i out hd ho
    rw [rd_dropP S i (by omega), List.foldl_cons]
    refine Told.step (fun k => by simp only [impl_keptPlaces.l0]; rw [if_pos (by omega), if_pos (by omega), if_pos (by omega)]; rfl) (iL1 S out f hf i (by omega) (by omega) (by omega) (S.getD i z77) out.length 0 true (by omega) ?_)
    have hlk : (keepStep f out (S.getD i z77)).length ≤ i + 1 := by
      unfold keepStep
      split
      · rw [List.length_append, List.length_singleton]; omega
      · omega
    have := ih (i + 1) (keepStep f out (S.getD i z77)) (by omega) hlk
    rw [Bool.true_and, List.drop_zero]
    exact this
def Gd (l : List S77) (f : Int) : Prop := Pls l ∧ 0 ≤ f ∧ f ≤ 200
instance (l : List S77) (f : Int) : Decidable (Gd l f) := by unfold Gd; infer_instance
def keptV (l : List S77) (f : Int) : List S77 := if Gd l f then keepP f (sortP l) else []
theorem tImplKept (l : List S77) (f : Int) (hl : l.length ≤ 1048576) : Told (fun k => impl_keptPlaces.f k l f) (keptV l f) := by
  have ha : Told (fun k => impl_ArePlaces.f k l) (decide (Pls l)) := ⟨l.length + 1, fun k hk => implArePlaces l hl (by omega)⟩
  unfold keptV
  refine Told.bind (Told.ret _) (Told.bind ha ?_)
  by_cases hp : Pls l
  · refine Told.ite_t (decide_eq_true hp) (Told.bind (Told.of (implInRange f 0 200)) ?_)
    by_cases hf : 0 ≤ f ∧ f ≤ 200
    · rw [if_pos ⟨hp, hf⟩, decide_eq_true hf]
      refine Told.step (fun k => by simp only [impl_keptPlaces.j0, Bool.not_true, Bool.false_eq_true, if_false]; rfl) ?_
      refine Told.bind (Told.of (implFromAbove l hp.1)) ?_
      exact iL0 (sortP l) f hf (by rw [len_sortP]; have := hp.1; omega) (sortP l).length 0 [] (by omega) (by simp)
    · rw [if_neg (fun h => hf h.2), decide_eq_false hf]
      exact Told.stepr fun k => by simp only [impl_keptPlaces.j0, Bool.not_false, if_true]
  · rw [if_neg (fun h => hp h.1)]
    refine Told.ite_f (by rw [decide_eq_true_eq]; exact hp) ?_
    exact Told.stepr fun k => by simp only [impl_keptPlaces.j0, if_true]
def putP (n : Int) : List Int → List Int
  | [] => [n]
  | x :: xs => if x < n then x :: putP n xs else if x = n then x :: xs else n :: x :: xs
theorem len_putP (n : Int) : ∀ xs, (putP n xs).length ≤ xs.length + 1
  | [] => Nat.le_refl _
  | x :: xs => by
    have := len_putP n xs
    unfold putP
    split
    · rw [List.length_cons, List.length_cons]; omega
    · split <;> simp
theorem mem_putP (n : Int) : ∀ xs y, y ∈ putP n xs ↔ y = n ∨ y ∈ xs
  | [], y => by simp [putP]
  | x :: xs, y => by
    have := mem_putP n xs y
    unfold putP
    split
    · rw [List.mem_cons, this, List.mem_cons]; exact ⟨fun h => by rcases h with h | h | h <;> simp [h], fun h => by rcases h with h | h | h <;> simp [h]⟩
    · split
      · rename_i e; rw [List.mem_cons, e]; exact ⟨fun h => by rcases h with h | h <;> simp [h], fun h => by rcases h with h | h | h <;> simp [h]⟩
      · rw [List.mem_cons]
theorem asc_putP (n : Int) : ∀ xs, xs.Pairwise (· < ·) → (putP n xs).Pairwise (· < ·)
  | [], _ => by simp [putP]
  | x :: xs, h => by
    have h2 := List.pairwise_cons.1 h
    have := asc_putP n xs h2.2
    unfold putP
    split
    · rename_i c
      refine List.pairwise_cons.2 ⟨fun y hy => ?_, this⟩
      rcases (mem_putP n xs y).1 hy with e | e
      · omega
      · exact h2.1 y e
    · split
      · exact h
      · refine List.pairwise_cons.2 ⟨fun y hy => ?_, h⟩
        rcases List.mem_cons.1 hy with e | e
        · omega
        · have := h2.1 y e; omega
theorem rd_dropI (S : List Int) (j : Nat) (h : j < S.length) : S.drop j = rd S (j : Int) :: S.drop (j + 1) := by
  rw [List.drop_eq_getElem_cons h]
  congr 1
  show _ = S.getD j 0
  rw [List.getD_eq_getElem?_getD, List.getElem?_eq_getElem h]; rfl
theorem tPutL (xs : List Int) (n : Int) (hl : xs.length ≤ 2000000) : ∀ d j, j + d = xs.length → Told (fun k => spec_l14Put.l0 k xs n (j : Int)) (xs.take j ++ putP n (xs.drop j)) := by
  intro d
  induction d with
  | zero =>
    intro j hd
    rw [List.drop_eq_nil_of_le (by omega)]
    refine Told.stepr fun k => ?_
    have e1 : ((j : Int)).toNat = j := by omega
    simp only [spec_l14Put.l0]
    rw [if_neg (by omega)]
    simp only [Option.bind_some]
    rw [if_pos (by omega), if_pos (by omega), e1, if_pos (by simp; omega), if_pos (by simp; omega), if_pos (by simp; omega), List.drop_eq_nil_of_le (by omega)]
    simp [putP]
  | succ d ih =>
    intro j hd
    have hx := rd_dropI xs j (by omega)
    have e1 : ((j : Int)).toNat = j := by omega
    by_cases c : rd xs (j : Int) < n
    · have h := ih (j + 1) (by omega)
      have e : xs.take j ++ putP n (xs.drop j) = xs.take (j + 1) ++ putP n (xs.drop (j + 1)) := by
        rw [hx]
        conv => lhs; unfold putP
        rw [if_pos c]
        have : xs.take (j + 1) = xs.take j ++ [rd xs (j : Int)] := by
          have h1 : (xs.take (j + 1)) ++ xs.drop (j + 1) = (xs.take j ++ [rd xs (j : Int)]) ++ xs.drop (j + 1) := by
            rw [List.take_append_drop, List.append_assoc, List.singleton_append, ← hx, List.take_append_drop]
          exact List.append_cancel_right h1
        rw [this]; simp
      rw [e]
      exact Told.step (fun k => by simp only [spec_l14Put.l0]; rw [if_pos (by omega), if_pos (by omega), if_pos c, Gen.w64s (by omega)]) h
    · refine Told.stepr fun k => ?_
      simp only [spec_l14Put.l0]
      rw [if_pos (by omega), if_pos (by omega), if_neg c]
      by_cases c2 : rd xs (j : Int) = n
      · rw [if_pos c2]
        simp only [Option.bind_some]
        rw [if_pos (by simp; omega)]
        have : xs.take j ++ putP n (xs.drop j) = xs := by
          rw [hx]
          conv => lhs; unfold putP
          rw [if_neg c, if_pos c2, ← hx, List.take_append_drop]
        rw [this]; simp
      · rw [if_neg c2]
        simp only [Option.bind_some]
        rw [if_pos (by omega), e1, if_pos (by simp; omega), if_pos (by simp; omega), if_pos (by simp; omega)]
        have : xs.take j ++ putP n (xs.drop j) = xs.take j ++ ([n] ++ xs.drop j) := by
          congr 1
          rw [hx]
          conv => lhs; unfold putP
          rw [if_neg c, if_neg c2]; rfl
        rw [this]; simp
theorem tPut (xs : List Int) (n : Int) (hl : xs.length ≤ 2000000) : Told (fun k => spec_l14Put.f k xs n) (putP n xs) := tPutL xs n hl xs.length 0 (by omega)
def idsP (K : List S77) (o : List Int) : List Int := K.foldl (fun o y => putP y.f0 o) o
theorem mem_idsP : ∀ (K : List S77) (o : List Int) (n : Int), n ∈ idsP K o ↔ (∃ y ∈ K, y.f0 = n) ∨ n ∈ o
  | [], o, n => by simp [idsP]
  | y :: K, o, n => by
    have := mem_idsP K (putP y.f0 o) n
    unfold idsP at this ⊢
    rw [List.foldl_cons, this, mem_putP]
    constructor
    · rintro (⟨z, h, e⟩ | h | h)
      · exact .inl ⟨z, List.mem_cons_of_mem _ h, e⟩
      · exact .inl ⟨y, List.mem_cons_self, h.symm⟩
      · exact .inr h
    · rintro (⟨z, h, e⟩ | h)
      · rcases List.mem_cons.1 h with rfl | h
        · exact .inr (.inl e.symm)
        · exact .inl ⟨z, h, e⟩
      · exact .inr (.inr h)
theorem asc_idsP : ∀ (K : List S77) (o : List Int), o.Pairwise (· < ·) → (idsP K o).Pairwise (· < ·)
  | [], o, h => h
  | y :: K, o, h => asc_idsP K (putP y.f0 o) (asc_putP _ _ h)
theorem len_idsP : ∀ (K : List S77) (o : List Int), (idsP K o).length ≤ o.length + K.length
  | [], o => Nat.le_refl _
  | y :: K, o => by
    have := len_idsP K (putP y.f0 o)
    have := len_putP y.f0 o
    show (idsP K (putP y.f0 o)).length ≤ _
    rw [List.length_cons]; omega
theorem tThinL (K : List S77) (hK : K.length ≤ 1048576) : ∀ d i o, i + d = K.length → o.length ≤ i → Told (fun k => spec_ThinPlaces.l0 k o K (i : Int)) (idsP (K.drop i) o) := by
  intro d
  induction d with
  | zero =>
    intro i o hd ho
    rw [List.drop_eq_nil_of_le (by omega)]
    exact Told.stepr fun k => by simp only [spec_ThinPlaces.l0]; rw [if_neg (by omega)]; rfl
  | succ d ih =>
    intro i o hd ho
    rw [rd_dropP K i (by omega)]
    have h := ih (i + 1) (putP (K.getD i z77).f0 o) (by omega) (by have := len_putP (K.getD i z77).f0 o; omega)
    have h2 : Told (fun k => (spec_l14Put.f k o (K.getD i z77).f0).bind fun t => spec_ThinPlaces.l0 k t K ((i + 1 : Nat) : Int)) (idsP (K.drop (i + 1)) (putP (K.getD i z77).f0 o)) := Told.bind (tPut o (K.getD i z77).f0 (by omega)) h
    exact Told.step (fun k => by simp only [spec_ThinPlaces.l0]; rw [if_pos (by omega), if_pos (by omega), Gen.w64s (by omega)]; rfl) h2
def thinV (l : List S77) (f : Int) : List Int := idsP (keptV l f) []
theorem len_keptV (l : List S77) (f : Int) : (keptV l f).length ≤ 16 := by
  unfold keptV
  split
  · rename_i h
    have := (sub_keepP f (sortP l)).length_le
    rw [len_sortP] at this
    have := h.1.1; omega
  · simp
theorem tSpecThin (l : List S77) (f : Int) (hl : l.length ≤ 1048576) : Told (fun k => spec_ThinPlaces.f k l f) (thinV l f) := by
  have ha : Told (fun k => spec_ArePlaces.f k l) (decide (Pls l)) := ⟨l.length + 1, fun k hk => specArePlaces l hl (by omega)⟩
  have h16 := len_keptV l f
  unfold thinV
  refine Told.bind (Told.ret _) (Told.bind ha ?_)
  by_cases hp : Pls l
  · refine Told.ite_t (decide_eq_true hp) (Told.bind (Told.of (specIn f 0 200)) ?_)
    by_cases hf : 0 ≤ f ∧ f ≤ 200
    · rw [decide_eq_true hf]
      refine Told.step (fun k => by simp only [spec_ThinPlaces.j0, Bool.not_true, Bool.false_eq_true, if_false]; rfl) ?_
      have e : keptV l f = keepP f (sortP l) := by unfold keptV; rw [if_pos ⟨hp, hf⟩]
      rw [e] at h16 ⊢
      exact Told.bind (tSpecKept l f hf (by have := hp.1; omega)) (tThinL (keepP f (sortP l)) (by omega) (keepP f (sortP l)).length 0 [] (by omega) (by simp))
    · have e : keptV l f = [] := by unfold keptV; rw [if_neg (fun h => hf h.2)]
      rw [e, decide_eq_false hf]
      exact Told.stepr fun k => by simp only [spec_ThinPlaces.j0, Bool.not_false, if_true]; rfl
  · have e : keptV l f = [] := by unfold keptV; rw [if_neg (fun h => hp h.1)]
    rw [e]
    refine Told.ite_f (by rw [decide_eq_true_eq]; exact hp) ?_
    exact Told.stepr fun k => by simp only [spec_ThinPlaces.j0, if_true]; rfl
def eqB (x y : S77) : Bool := (x.f0 == y.f0 && ((x.f1.f0 == y.f1.f0 && (x.f1.f1 == y.f1.f1)) && (x.f2 == y.f2)))
theorem eqB_iff (x y : S77) : eqB x y = true ↔ x = y := by
  obtain ⟨a, ⟨b, c⟩, d⟩ := x; obtain ⟨a', ⟨b', c'⟩, d'⟩ := y
  unfold eqB
  simp
theorem tIndexL (K : List S77) (x : S77) (hK : K.length ≤ 1048576) : ∀ d j, j + d = K.length → ∃ q : Int, decide (q ≥ 0) = (K.drop j).any (eqB x) ∧ Told (fun k => impl_Place_117.l0 k K (K.length : Int) (j : Int) x.f0 x.f1.f0 x.f1.f1 x.f2) q := by
  intro d
  induction d with
  | zero =>
    intro j hd
    refine ⟨-1, by rw [List.drop_eq_nil_of_le (by omega)]; rfl, Told.stepr fun k => ?_⟩
    simp only [impl_Place_117.l0]; rw [if_neg (by omega)]
  | succ d ih =>
    intro j hd
    rw [rd_dropP K j (by omega), List.any_cons]
    have e2 : (rd_T77 K (j : Int)) = K.getD j z77 := rfl
    by_cases c : eqB x (K.getD j z77) = true
    · refine ⟨j, by rw [c, Bool.true_or]; exact decide_eq_true (by omega), Told.stepr fun k => ?_⟩
      unfold eqB at c
      simp only [impl_Place_117.l0]; rw [if_pos (by omega), if_pos (by omega), if_pos (by omega), e2, if_pos c]
    · obtain ⟨q, h1, h2⟩ := ih (j + 1) (by omega)
      refine ⟨q, by rw [Bool.eq_false_iff.2 c, Bool.false_or]; exact h1, Told.step (fun k => ?_) h2⟩
      unfold eqB at c
      simp only [impl_Place_117.l0]; rw [if_pos (by omega), if_pos (by omega), if_pos (by omega), e2, if_neg c, Gen.w64s (by omega)]
theorem tContains (K : List S77) (x : S77) (hK : K.length ≤ 1048576) : Told (fun k => impl_Place_91.f k K x.f0 x.f1.f0 x.f1.f1 x.f2) (K.any (eqB x)) := by
  obtain ⟨q, h1, h2⟩ := tIndexL K x hK K.length 0 (by omega)
  rw [List.drop_zero] at h1
  rw [← h1]
  exact Told.bind h2 (Told.ret _)
theorem tIdxL (l : List S77) (id : Int) (hl : l.length ≤ 1048576) : ∀ d j, j + d = l.length → (∃ i, j ≤ i ∧ i < l.length ∧ (l.getD i z77).f0 = id ∧ Told (fun k => impl_Place_89.l0 k l id (j : Int)) (i : Int)) ∨ ((∀ x ∈ l.drop j, x.f0 ≠ id) ∧ Told (fun k => impl_Place_89.l0 k l id (j : Int)) (-1)) := by
  intro d
  induction d with
  | zero =>
    intro j hd
    refine .inr ⟨by rw [List.drop_eq_nil_of_le (by omega)]; exact (fun x h => nomatch h), Told.stepr fun k => ?_⟩
    simp only [impl_Place_89.l0]; rw [if_neg (by omega)]
  | succ d ih =>
    intro j hd
    have e2 : (rd_T77 l (j : Int)) = l.getD j z77 := rfl
    by_cases c : (l.getD j z77).f0 = id
    · refine .inl ⟨j, Nat.le_refl j, by omega, c, Told.stepr fun k => ?_⟩
      simp only [impl_Place_89.l0]; rw [if_pos (by omega), if_pos (by omega), e2, if_pos c]
    · have st : ∀ k, impl_Place_89.l0 (k + 1) l id (j : Int) = impl_Place_89.l0 k l id ((j + 1 : Nat) : Int) := fun k => by
        simp only [impl_Place_89.l0]; rw [if_pos (by omega), if_pos (by omega), e2, if_neg c, Gen.w64s (by omega)]
      rcases ih (j + 1) (by omega) with ⟨i, h1, h2, h3, h4⟩ | ⟨h1, h2⟩
      · exact .inl ⟨i, by omega, h2, h3, Told.step st h4⟩
      · refine .inr ⟨?_, Told.step st h2⟩
        rw [rd_dropP l j (by omega)]
        intro x hx
        rcases List.mem_cons.1 hx with rfl | hx
        · exact c
        · exact h1 x hx
theorem implFarQ (x y : S77) : impl_FarSquared.f x.f1.f0 x.f1.f1 y.f1.f0 y.f1.f1 = some (fQ x y) := implFar _ _ _ _
def hidB (f : Int) (x y : S77) : Bool := upP y x && decide (fQ y x < f * f)
def hidV (f : Int) (K : List S77) (x : S77) : Int := ((K.find? (hidB f x)).map fun y => y.f0).getD 0
theorem iHidL (l K : List S77) (f : Int) (hf : 0 ≤ f ∧ f ≤ 200) (hl : l.length ≤ 1048576) (hK : K.length ≤ 1048576) (i : Nat) (hi : i < l.length) : ∀ d j, j + d = K.length → Told (fun k => impl_HiddenBy.l0 k l f (i : Int) K (K.length : Int) (j : Int)) (hidV f (K.drop j) (l.getD i z77)) := by
  intro d
  induction d with
  | zero =>
    intro j hd
    rw [List.drop_eq_nil_of_le (by omega)]
    exact Told.stepr fun k => by simp only [impl_HiddenBy.l0]; rw [if_neg (by omega)]; rfl
  | succ d ih =>
    intro j hd
    have h := ih (j + 1) (by omega)
    rw [rd_dropP K j (by omega)]
    have e2 : (rd_T77 K (j : Int)) = K.getD j z77 := rfl
    have e3 : (rd_T77 l (i : Int)) = l.getD i z77 := rfl
    unfold hidV at h ⊢
    rw [List.find?_cons]
    by_cases c1 : upP (K.getD j z77) (l.getD i z77) = true
    · by_cases c2 : fQ (K.getD j z77) (l.getD i z77) < f * f
      · rw [show hidB f (l.getD i z77) (K.getD j z77) = true by unfold hidB; rw [c1, decide_eq_true c2]; rfl]
        refine Told.stepr fun k => ?_
        simp only [impl_HiddenBy.l0]
        rw [if_pos (by omega), if_pos (by omega), if_pos (by omega), if_pos (by omega), if_pos (by omega), implAbove, Option.bind_some, e2, e3, if_pos c1, implFarQ, Option.bind_some, w64_sq hf, if_pos c2]
        rfl
      · rw [show hidB f (l.getD i z77) (K.getD j z77) = false by unfold hidB; rw [c1, decide_eq_false c2]; rfl]
        refine Told.step (fun k => ?_) h
        simp only [impl_HiddenBy.l0]
        rw [if_pos (by omega), if_pos (by omega), if_pos (by omega), if_pos (by omega), if_pos (by omega), implAbove, Option.bind_some, e2, e3, if_pos c1, implFarQ, Option.bind_some, w64_sq hf, if_neg c2, Gen.w64s (by omega)]
    · rw [show hidB f (l.getD i z77) (K.getD j z77) = false by unfold hidB; rw [Bool.eq_false_iff.2 c1]; rfl]
      refine Told.step (fun k => ?_) h
      simp only [impl_HiddenBy.l0]
      rw [if_pos (by omega), if_pos (by omega), if_pos (by omega), if_pos (by omega), if_pos (by omega), implAbove, Option.bind_some, e2, e3, if_neg c1, Gen.w64s (by omega)]
theorem tImplHid (l : List S77) (f id : Int) (hl : l.length ≤ 1048576) : (∃ i, i < l.length ∧ (l.getD i z77).f0 = id ∧ Told (fun k => impl_HiddenBy.f k l f id) (if (keptV l f).any (eqB (l.getD i z77)) = true then 0 else hidV f (keptV l f) (l.getD i z77))) ∨ ((∀ x ∈ l, x.f0 ≠ id) ∧ Told (fun k => impl_HiddenBy.f k l f id) 0) := by
  have h16 := len_keptV l f
  rcases tIdxL l id hl l.length 0 (by omega) with ⟨i, _, h2, h3, h4⟩ | ⟨h1, h2⟩
  · refine .inl ⟨i, h2, h3, Told.bind (tImplKept l f hl) (Told.bind h4 ?_)⟩
    refine Told.ite_f (by omega) (Told.ite_t (by omega) (Told.ite_t (by omega) (Told.bind (tContains (keptV l f) (l.getD i z77) (by omega)) ?_)))
    by_cases c : (keptV l f).any (eqB (l.getD i z77)) = true
    · rw [if_pos c, c]
      exact Told.stepr fun k => by simp only [impl_HiddenBy.j0, if_true]
    · rw [if_neg c, Bool.eq_false_iff.2 c]
      refine Told.step (fun k => by simp only [impl_HiddenBy.j0, Bool.false_eq_true, if_false]; rfl) ?_
      by_cases g : Gd l f
      · exact iHidL l (keptV l f) f g.2 hl (by omega) i h2 (keptV l f).length 0 (by omega)
      · have e : keptV l f = [] := by unfold keptV; rw [if_neg g]
        rw [e]
        exact Told.stepr fun k => by simp only [impl_HiddenBy.l0]; rw [if_neg (by simp)]; rfl
  · rw [List.drop_zero] at h1
    refine .inr ⟨h1, Told.bind (tImplKept l f hl) (Told.bind h2 (Told.ite_t (by omega) ?_))⟩
    exact Told.stepr fun k => by simp only [impl_HiddenBy.j0, if_true]
theorem ids_lt {l : List S77} (h : Pls l) : ∀ d i, i + d + 1 < l.length → (l.getD i z77).f0 < (l.getD (i + d + 1) z77).f0 := by
  intro d
  induction d with
  | zero =>
    intro i hi
    have := h.2 (i + 0 + 1) hi
    unfold plChk at this
    exact (of_decide_eq_true this).2.2.2 (by omega)
  | succ d ih =>
    intro i hi
    have h1 := ih i (by omega)
    have := h.2 (i + (d + 1) + 1) hi
    unfold plChk at this
    have h2 := (of_decide_eq_true this).2.2.2 (by omega)
    have e : i + (d + 1) + 1 - 1 = i + d + 1 := by omega
    rw [e] at h2
    omega
theorem mem_getD {l : List S77} {x : S77} (h : x ∈ l) : ∃ i, i < l.length ∧ l.getD i z77 = x := by
  obtain ⟨i, hi, e⟩ := List.mem_iff_getElem.1 h
  exact ⟨i, hi, by rw [List.getD_eq_getElem?_getD, List.getElem?_eq_getElem hi]; exact e⟩
theorem getD_mem {l : List S77} {i : Nat} (h : i < l.length) : l.getD i z77 ∈ l := by
  rw [List.getD_eq_getElem?_getD, List.getElem?_eq_getElem h]; exact List.getElem_mem h
theorem ids_inj {l : List S77} (h : Pls l) {x y : S77} (hx : x ∈ l) (hy : y ∈ l) (e : x.f0 = y.f0) : x = y := by
  obtain ⟨i, hi, rfl⟩ := mem_getD hx
  obtain ⟨j, hj, rfl⟩ := mem_getD hy
  rcases Nat.lt_trichotomy i j with c | c | c
  · obtain ⟨d, rfl⟩ : ∃ d, j = i + d + 1 := ⟨j - i - 1, by omega⟩
    have := ids_lt h d i hj; omega
  · rw [c]
  · obtain ⟨d, rfl⟩ : ∃ d, i = j + d + 1 := ⟨i - j - 1, by omega⟩
    have := ids_lt h d j hi; omega
theorem kept_sub {l : List S77} {f : Int} {y : S77} (h : y ∈ keptV l f) : y ∈ l := by
  unfold keptV at h
  split at h
  · exact (perm_sortP l).mem_iff.1 ((sub_keepP f (sortP l)).mem h)
  · cases h
theorem mem_thinV (l : List S77) (f n : Int) : n ∈ thinV l f ↔ ∃ y ∈ keptV l f, y.f0 = n := by
  unfold thinV
  rw [mem_idsP]
  exact ⟨fun h => h.resolve_right (fun h => nomatch h), .inl⟩
theorem any_eqB (K : List S77) (x : S77) : K.any (eqB x) = true ↔ x ∈ K := by
  rw [List.any_eq_true]
  exact ⟨fun ⟨y, h, e⟩ => by rw [(eqB_iff x y).1 e]; exact h, fun h => ⟨x, h, (eqB_iff x x).2 rfl⟩⟩
theorem asc_unique : ∀ a b : List Int, a.Pairwise (· < ·) → b.Pairwise (· < ·) → (∀ n, n ∈ a ↔ n ∈ b) → a = b
  | [], [], _, _, _ => rfl
  | [], y :: b, _, _, h => nomatch (h y).2 List.mem_cons_self
  | x :: a, [], _, _, h => nomatch (h x).1 List.mem_cons_self
  | x :: a, y :: b, ha, hb, h => by
    have ha' := List.pairwise_cons.1 ha
    have hb' := List.pairwise_cons.1 hb
    have exy : x = y := by
      rcases List.mem_cons.1 ((h x).1 List.mem_cons_self) with e | e
      · exact e
      · rcases List.mem_cons.1 ((h y).2 List.mem_cons_self) with e2 | e2
        · exact e2.symm
        · have := hb'.1 x e; have := ha'.1 y e2; omega
    subst exy
    congr 1
    refine asc_unique a b ha'.2 hb'.2 fun n => ⟨fun hn => ?_, fun hn => ?_⟩
    · rcases List.mem_cons.1 ((h n).1 (List.mem_cons_of_mem _ hn)) with e | e
      · have := ha'.1 n hn; omega
      · exact e
    · rcases List.mem_cons.1 ((h n).2 (List.mem_cons_of_mem _ hn)) with e | e
      · have := hb'.1 n hn; omega
      · exact e
theorem ids_nodup {l : List S77} (h : Pls l) : (l.map fun x => x.f0).Nodup := by
  refine List.Pairwise.imp (R := fun a b => a < b) (fun {a b} (hab : a < b) => (by omega : a ≠ b)) ?_
  rw [List.pairwise_iff_getElem]
  intro i j hi hj hij
  rw [List.length_map] at hi hj
  obtain ⟨d, rfl⟩ : ∃ d, j = i + d + 1 := ⟨j - i - 1, by omega⟩
  have := ids_lt h d i hj
  rw [List.getD_eq_getElem?_getD, List.getElem?_eq_getElem hi, List.getD_eq_getElem?_getD, List.getElem?_eq_getElem hj] at this
  simpa using this
theorem kept_nodup (l : List S77) (f : Int) : ((keptV l f).map fun x => x.f0).Nodup := by
  unfold keptV
  split
  · rename_i g
    exact ((((perm_sortP l).map fun x => x.f0).nodup_iff).2 (ids_nodup g.1)).sublist ((sub_keepP f (sortP l)).map _)
  · exact List.Pairwise.nil
theorem sort_kept (l : List S77) (f : Int) : (((keptV l f).map fun x => x.f0).mergeSort fun x y => decide (x ≤ y)) = thinV l f := by
  have hs : (((keptV l f).map fun x => x.f0).mergeSort fun x y => decide (x ≤ y)).Pairwise fun x y => decide (x ≤ y) = true :=
    List.pairwise_mergeSort (fun a b c h1 h2 => by simp only [decide_eq_true_eq] at h1 h2 ⊢; omega) (fun a b => by simp only [Bool.or_eq_true, decide_eq_true_eq]; omega) _
  have hn : (((keptV l f).map fun x => x.f0).mergeSort fun x y => decide (x ≤ y)).Nodup := ((List.mergeSort_perm _ _).nodup_iff).2 (kept_nodup l f)
  refine asc_unique _ _ ((List.Pairwise.and hs hn).imp fun {a b} h => ?_) (asc_idsP _ _ List.Pairwise.nil) fun n => ?_
  · have h1 := h.1; have h2 : a ≠ b := h.2
    simp only [decide_eq_true_eq] at h1; omega
  · rw [(List.mergeSort_perm _ _).mem_iff, List.mem_map]
    exact (mem_thinV l f n).symm
theorem iThinL (K : List S77) (hK : K.length ≤ 1048576) {r : List Int} (hr : Told (fun _ => (slices_Sort_int_int.f (K.map fun x => x.f0)).bind fun t => some t) r) : ∀ d i, i + d = K.length → Told (fun k => impl_ThinPlaces.l0 k ((K.take i).map fun x => x.f0) K (K.length : Int) (i : Int)) r := by
  intro d
  induction d with
  | zero =>
    intro i hd
    rw [List.take_of_length_le (by omega)]
    exact Told.step (fun k => by simp only [impl_ThinPlaces.l0]; rw [if_neg (by omega)]) hr
  | succ d ih =>
    intro i hd
    have h := ih (i + 1) (by omega)
    have e : (K.take (i + 1)).map (fun x => x.f0) = (K.take i).map (fun x => x.f0) ++ [(K.getD i z77).f0] := by
      rw [List.take_add_one, List.map_append, List.getElem?_eq_getElem (by omega), List.getD_eq_getElem?_getD, List.getElem?_eq_getElem (by omega)]; rfl
    rw [e] at h
    have e2 : (rd_T77 K (i : Int)) = K.getD i z77 := rfl
    refine Told.step (fun k => ?_) h
    simp only [impl_ThinPlaces.l0]
    rw [if_pos (by omega), if_pos (by omega), if_pos (by omega), if_pos (by simp; omega), e2, Gen.w64s (by omega)]
theorem tImplThin (l : List S77) (f : Int) (hl : l.length ≤ 1048576) : Told (fun k => impl_ThinPlaces.f k l f) (thinV l f) := by
  have h16 := len_keptV l f
  refine Told.bind (tImplKept l f hl) ?_
  refine iThinL (keptV l f) (by omega) ?_ (keptV l f).length 0 (by omega)
  unfold slices_Sort_int_int.f
  rw [if_pos (by rw [List.length_map]; omega), sort_kept]
  exact Told.ret _
theorem upP_iff (x y : S77) : upP x y = true ↔ x.f2 > y.f2 ∨ x.f2 = y.f2 ∧ x.f0 < y.f0 := by
  unfold upP
  by_cases h : x.f2 > y.f2
  · rw [if_pos h]; exact ⟨fun _ => .inl h, fun _ => rfl⟩
  · rw [if_neg h]
    by_cases h2 : x.f2 = y.f2
    · rw [if_pos h2, decide_eq_true_eq]; exact ⟨fun h3 => .inr ⟨h2, h3⟩, fun h3 => by omega⟩
    · rw [if_neg h2]; exact ⟨fun h3 => (nomatch h3), fun h3 => by omega⟩
theorem up_not (x y : S77) : upP x y = false ↔ ¬ (x.f2 > y.f2 ∨ x.f2 = y.f2 ∧ x.f0 < y.f0) := by
  rw [← upP_iff, Bool.not_eq_true]
theorem up_anti {x y : S77} (h : upP x y = true) : upP y x = false := by
  rw [upP_iff] at h; rw [up_not]; omega
theorem up_neg {a b c : S77} (h1 : upP b a = false) (h2 : upP c b = false) : upP c a = false := by
  rw [up_not] at h1 h2 ⊢; omega
theorem up_total {x y : S77} (h : upP x y = false) (hn : x.f0 ≠ y.f0) : upP y x = true := by
  rw [up_not] at h; rw [upP_iff]; omega
theorem posP_spec (x : S77) (S : List S77) : ∀ j, (∀ q, posP x S j ≤ q → q < j → upP x (S.getD q z77) = true) ∧ (0 < posP x S j → upP x (S.getD (posP x S j - 1) z77) = false)
  | 0 => ⟨fun q _ h => absurd h (Nat.not_lt_zero q), fun h => absurd h (Nat.lt_irrefl 0)⟩
  | j + 1 => by
    have ih := posP_spec x S j
    unfold posP
    by_cases c : upP x (S.getD j z77) = true
    · rw [if_pos c]
      refine ⟨fun q h1 h2 => ?_, ih.2⟩
      by_cases e : q = j
      · rw [e]; exact c
      · exact ih.1 q h1 (by omega)
    · rw [if_neg c]
      exact ⟨fun q h1 h2 => by omega, fun _ => by rw [Nat.add_sub_cancel]; exact Bool.eq_false_iff.2 c⟩
theorem sorted_ins (x : S77) (S : List S77) (h : S.Pairwise fun a b => upP b a = false) : (insP x S).Pairwise fun a b => upP b a = false := by
  obtain ⟨h1, h2⟩ := posP_spec x S S.length
  have h0 := posP_le x S S.length
  unfold insP
  generalize posP x S S.length = p at h1 h2 h0 ⊢
  have hg := List.pairwise_iff_getElem.1 h
  have tk : ∀ a ∈ S.take p, upP x a = false := fun a ha => by
    obtain ⟨q, hq, rfl⟩ := List.mem_iff_getElem.1 ha
    rw [List.length_take] at hq
    have l1 := h2 (by omega)
    rw [List.getD_eq_getElem?_getD, List.getElem?_eq_getElem (by omega), Option.getD_some] at l1
    rw [List.getElem_take]
    by_cases e : q = p - 1
    · subst e; exact l1
    · exact up_neg (hg q (p - 1) (by omega) (by omega) (by omega)) l1
  have dr : ∀ b ∈ S.drop p, upP b x = false := fun b hb => by
    obtain ⟨q, hq, rfl⟩ := List.mem_iff_getElem.1 hb
    rw [List.length_drop] at hq
    rw [List.getElem_drop]
    have := h1 (p + q) (by omega) (by omega)
    rw [List.getD_eq_getElem?_getD, List.getElem?_eq_getElem (by omega), Option.getD_some] at this
    exact up_anti this
  rw [List.pairwise_append, List.pairwise_cons]
  have h3 := h
  rw [← List.take_append_drop p S, List.pairwise_append] at h3
  refine ⟨h3.1, ⟨dr, h3.2.1⟩, fun a ha b hb => ?_⟩
  rcases List.mem_cons.1 hb with rfl | hb
  · exact tk a ha
  · exact h3.2.2 a ha b hb
theorem sorted_fold : ∀ (l S : List S77), (S.Pairwise fun a b => upP b a = false) → (l.foldl (fun S x => insP x S) S).Pairwise fun a b => upP b a = false
  | [], _, h => h
  | x :: l, S, h => sorted_fold l (insP x S) (sorted_ins x S h)
theorem sorted_sortP (l : List S77) : (sortP l).Pairwise fun a b => upP b a = false := sorted_fold l [] List.Pairwise.nil
theorem farOk_iff (f : Int) (x : S77) (out : List S77) : farOk f x out = true ↔ ∀ y ∈ out, fQ y x ≥ f * f := by
  unfold farOk
  rw [List.all_eq_true]
  exact ⟨fun h y hy => of_decide_eq_true (h y hy), fun h y hy => decide_eq_true (h y hy)⟩
theorem keep_far (f : Int) : ∀ (S out : List S77), (out.Pairwise fun a b => fQ a b ≥ f * f) → (S.foldl (keepStep f) out).Pairwise fun a b => fQ a b ≥ f * f
  | [], _, h => h
  | x :: S, out, h => by
    rw [List.foldl_cons]
    refine keep_far f S _ ?_
    unfold keepStep
    by_cases c : farOk f x out = true
    · rw [if_pos c, List.pairwise_append]
      exact ⟨h, List.pairwise_singleton _ _, fun a ha b hb => by rw [List.mem_singleton.1 hb]; exact (farOk_iff f x out).1 c a ha⟩
    · rw [if_neg c]; exact h
theorem pair_any {R : S77 → S77 → Prop} (hs : ∀ a b, R a b → R b a) : ∀ (l : List S77), l.Pairwise R → ∀ a ∈ l, ∀ b ∈ l, a ≠ b → R a b
  | [], _, _, h, _, _, _ => nomatch h
  | x :: l, h, a, ha, b, hb, hn => by
    have h' := List.pairwise_cons.1 h
    rcases List.mem_cons.1 ha with ea | ea
    · rcases List.mem_cons.1 hb with eb | eb
      · exact absurd (ea.trans eb.symm) hn
      · rw [ea]; exact h'.1 b eb
    · rcases List.mem_cons.1 hb with eb | eb
      · rw [eb]; exact hs _ _ (h'.1 a ea)
      · exact pair_any hs l h'.2 a ea b eb hn
theorem kept_far {l : List S77} {f : Int} {x y : S77} (hx : x ∈ keptV l f) (hy : y ∈ keptV l f) (hn : x ≠ y) : fQ x y ≥ f * f := by
  have h : (keptV l f).Pairwise fun a b => fQ a b ≥ f * f := by
    unfold keptV
    split
    · exact keep_far f _ [] List.Pairwise.nil
    · exact List.Pairwise.nil
  exact pair_any (fun a b h => by rw [fQ_comm b a]; exact h) _ h x hx y hy hn
theorem keep_mono (f : Int) : ∀ (S out : List S77), ∀ y ∈ out, y ∈ S.foldl (keepStep f) out
  | [], _, _, h => h
  | x :: S, out, y, h => by
    rw [List.foldl_cons]
    refine keep_mono f S _ y ?_
    unfold keepStep
    split
    · exact List.mem_append_left _ h
    · exact h
theorem keep_hid (f : Int) (x : S77) : ∀ (S out : List S77), x ∈ S → x ∉ S.foldl (keepStep f) out → (∀ y ∈ out, ∀ z ∈ S, upP z y = false) → (S.Pairwise fun a b => upP b a = false) → ∃ y ∈ S.foldl (keepStep f) out, fQ y x < f * f ∧ upP x y = false
  | [], _, h, _, _, _ => nomatch h
  | a :: S, out, hx, hn, ho, hs => by
    have hs' := List.pairwise_cons.1 hs
    rw [List.foldl_cons] at hn ⊢
    rcases List.mem_cons.1 hx with rfl | hx
    · by_cases c : farOk f x out = true
      · exact absurd (keep_mono f S _ x (by unfold keepStep; rw [if_pos c]; simp)) hn
      · have : ∃ y ∈ out, fQ y x < f * f := by
          refine Classical.byContradiction fun hh => c ((farOk_iff f x out).2 fun y hy => ?_)
          refine Classical.byContradiction fun h3 => hh ⟨y, hy, by omega⟩
        obtain ⟨y, hy, h1⟩ := this
        exact ⟨y, keep_mono f S _ y (by unfold keepStep; rw [if_neg c]; exact hy), h1, ho y hy x List.mem_cons_self⟩
    · refine keep_hid f x S _ hx hn (fun y hy z hz => ?_) hs'.2
      unfold keepStep at hy
      split at hy
      · rcases List.mem_append.1 hy with hy | hy
        · exact ho y hy z (List.mem_cons_of_mem _ hz)
        · rw [List.mem_singleton.1 hy]; exact hs'.1 z hz
      · exact ho y hy z (List.mem_cons_of_mem _ hz)
theorem hider {l : List S77} {f : Int} (g : Gd l f) {x : S77} (hx : x ∈ l) (hn : x ∉ keptV l f) : ∃ y, (keptV l f).find? (hidB f x) = some y := by
  have ek : keptV l f = keepP f (sortP l) := by unfold keptV; rw [if_pos g]
  have h1 : x ∉ keepP f (sortP l) := by rw [← ek]; exact hn
  obtain ⟨y, hy, h2, h3⟩ := keep_hid f x (sortP l) [] ((perm_sortP l).mem_iff.2 hx) h1 (fun y h => nomatch h) (sorted_sortP l)
  have hy' : y ∈ keptV l f := by rw [ek]; exact hy
  have hne : x.f0 ≠ y.f0 := fun e => hn (by rw [ids_inj g.1 hx (kept_sub hy') e]; exact hy')
  cases hf : (keptV l f).find? (hidB f x) with
  | some z => exact ⟨z, rfl⟩
  | none =>
    have := List.find?_eq_none.1 hf y hy'
    unfold hidB at this
    rw [up_total h3 hne, decide_eq_true h2] at this
    exact absurd rfl this
theorem kept_some {l : List S77} {f : Int} (g : Gd l f) (h : 0 < l.length) : 0 < (thinV l f).length := by
  cases hs : sortP l with
  | nil => have := len_sortP l; rw [hs] at this; simp at this; omega
  | cons a S =>
    have hk : a ∈ keptV l f := by
      unfold keptV; rw [if_pos g, hs]
      exact keep_mono f S _ a (by unfold keepStep farOk; simp)
    exact List.length_pos_of_mem ((mem_thinV l f a.f0).2 ⟨a, hk, rfl⟩)
theorem and255 (n : Int) : 0 ≤ bits .and .i64 n 255 ∧ bits .and .i64 n 255 ≤ 255 := by
  have h : (BitVec.ofInt 64 255).toNat = 2 ^ 8 - 1 := by decide
  have key : (BitVec.ofInt 64 n &&& BitVec.ofInt 64 255).toNat = (n % ((2 ^ 64 : Nat) : Int)).toNat % 2 ^ 8 := by
    rw [BitVec.toNat_and, BitVec.toNat_ofInt, h, Nat.and_two_pow_sub_one_eq_mod]
  show 0 ≤ IntKind.i64.wrap ((BitVec.ofInt 64 n &&& BitVec.ofInt 64 255).toNat : Nat) ∧ IntKind.i64.wrap ((BitVec.ofInt 64 n &&& BitVec.ofInt 64 255).toNat : Nat) ≤ 255
  rw [key, IntKind.wrap_i64]
  omega
structure CK (xs : List Int) (p : Int) : Prop where
  lo : 0 ≤ p
  hi : p ≤ xs.length
  sm : xs.length ≤ 1048576
theorem dByte {xs : List Int} {p : Int} (c : CK xs p) (s : Int) : ∃ b p' s', spec_l1Byte.f xs p s = some (b, p', s') ∧ 0 ≤ b ∧ b ≤ 255 ∧ CK xs p' := by
  obtain ⟨a, b, d⟩ := c
  unfold spec_l1Byte.f
  by_cases h : p < (xs.length : Int)
  · rw [if_pos h, if_pos a]
    refine ⟨_, _, _, rfl, (and255 _).1, (and255 _).2, ?_⟩
    rw [Gen.w64 (by omega) (by omega)]
    exact ⟨by omega, by omega, d⟩
  · rw [if_neg h]
    exact ⟨_, _, _, rfl, (and255 _).1, (and255 _).2, a, b, d⟩
theorem tmod_bd {b n : Int} (h : 0 ≤ b) (hn : 0 < n) : 0 ≤ Int.tmod b n ∧ Int.tmod b n < n := by
  rw [Int.tmod_eq_emod_of_nonneg h]
  exact ⟨Int.emod_nonneg _ (by omega), Int.emod_lt_of_pos _ hn⟩
theorem dBelow {xs : List Int} {p : Int} (c : CK xs p) (s n : Int) : ∃ b p' s', spec_l1Below.f xs p s n = some (b, p', s') ∧ 0 ≤ b ∧ (0 < n → b < n) ∧ (n ≤ 0 → b = 0) ∧ CK xs p' := by
  unfold spec_l1Below.f
  by_cases h : n ≤ 0
  · rw [if_pos h]; exact ⟨_, _, _, rfl, by omega, by omega, fun _ => rfl, c⟩
  · rw [if_neg h]
    obtain ⟨b, p1, s1, e, b0, b1, c1⟩ := dByte c s
    by_cases h2 : n ≤ 256
    · rw [if_pos h2, e]
      simp only [Option.bind_some]
      rw [if_neg (by omega)]
      exact ⟨_, _, _, rfl, (tmod_bd b0 (by omega)).1, fun _ => (tmod_bd b0 (by omega)).2, by omega, c1⟩
    · rw [if_neg h2, e]
      obtain ⟨d, p2, s2, e2, d0, d1, c2⟩ := dByte c1 s1
      obtain ⟨g, p3, s3, e3, g0, g1, c3⟩ := dByte c2 s2
      simp only [Option.bind_some, e2, e3]
      rw [if_neg (by omega)]
      have w : wrap64 ((wrap64 ((wrap64 (b * 65536)) + (wrap64 (d * 256)))) + g) = b * 65536 + d * 256 + g := by
        rw [Gen.w64 (n := b * 65536) (by omega) (by omega), Gen.w64 (n := d * 256) (by omega) (by omega), Gen.w64 (n := b * 65536 + d * 256) (by omega) (by omega), Gen.w64 (by omega) (by omega)]
      rw [w]
      exact ⟨_, _, _, rfl, (tmod_bd (by omega) (by omega)).1, fun _ => (tmod_bd (by omega) (by omega)).2, by omega, c3⟩
theorem dInt {xs : List Int} {p : Int} (c : CK xs p) (s : Int) (l : List Int) (hl : 0 < l.length) : ∃ b p' s', spec_l1Int.f xs p s l = some (b, p', s') ∧ b ∈ l ∧ CK xs p' := by
  unfold spec_l1Int.f
  obtain ⟨b, p1, s1, e, b0, b1, _, c1⟩ := dBelow c s (l.length : Int)
  have b1 := b1 (by omega)
  rw [e]
  simp only [Option.bind_some]
  rw [if_pos b0, if_pos b1]
  refine ⟨_, _, _, rfl, ?_, c1⟩
  unfold rd
  rw [List.getD_eq_getElem?_getD, List.getElem?_eq_getElem (by omega)]
  exact List.getElem_mem _
theorem dNew (xs : List Int) (h : xs.length ≤ 1048576) : ∃ s, Told (fun k => spec_l1New.f k xs) (xs, 0, s) := by
  have key : ∀ d (i : Nat), i + d = xs.length → ∀ s, ∃ s', Told (fun k => spec_l1New.l0 k xs s (i : Int)) (xs, 0, s') := by
    intro d
    induction d with
    | zero => intro i hi s; exact ⟨s, Told.stepr fun k => by simp only [spec_l1New.l0]; rw [if_neg (by omega)]⟩
    | succ d ih =>
      intro i hi s
      by_cases h4 : (i : Int) < 4000
      · obtain ⟨s', hs⟩ := ih (i + 1) (by omega) _
        exact ⟨s', Told.step (fun k => by simp only [spec_l1New.l0]; rw [if_pos (by omega), if_pos h4, if_pos (by omega), Gen.w64s (by omega)]) hs⟩
      · exact ⟨s, Told.stepr fun k => by simp only [spec_l1New.l0]; rw [if_pos (by omega), if_neg h4]⟩
  exact key xs.length 0 (by omega) _
theorem ck0 {xs : List Int} (h : xs.length ≤ 1048576) : CK xs 0 := ⟨by omega, by omega, h⟩
theorem d4Draw {xs : List Int} {p : Int} (c : CK xs p) (s : Int) : ∃ x y p' s', spec_l4Draw.f xs p s = some (x, y, p', s') ∧ 0 ≤ x ∧ x < 12 ∧ 0 ≤ y ∧ y < 12 ∧ CK xs p' := by
  unfold spec_l4Draw.f
  obtain ⟨x, p1, s1, e1, x0, x1, _, c1⟩ := dBelow c s 12
  obtain ⟨y, p2, s2, e2, y0, y1, _, c2⟩ := dBelow c1 s1 12
  simp only [e1, e2, Option.bind_some]
  exact ⟨_, _, _, _, rfl, x0, x1 (by omega), y0, y1 (by omega), c2⟩
theorem d4Raw {xs : List Int} {p : Int} (c : CK xs p) (s : Int) : ∃ x p' s', spec_l4Raw.f xs p s = some (x, p', s') ∧ CK xs p' := by
  unfold spec_l4Raw.f
  obtain ⟨x, p1, s1, e1, x0, c1⟩ := dInt c s [(-1), 0, 200, 201, 1000, 1001, 9223372036854775807, (-9223372036854775808)] (by simp)
  simp only [e1, Option.bind_some]
  exact ⟨_, _, _, rfl, c1⟩
theorem d4Any {xs : List Int} {p : Int} (c : CK xs p) (s : Int) : ∃ x y p' s', spec_l4Any.f xs p s = some (x, y, p', s') ∧ CK xs p' := by
  unfold spec_l4Any.f
  obtain ⟨x, y, p1, s1, e1, _, _, _, _, c1⟩ := d4Draw c s
  obtain ⟨b, p2, s2, e2, _, _, _, c2⟩ := dBelow c1 s1 12
  obtain ⟨z, p3, s3, e3, c3⟩ := d4Raw c2 s2
  simp only [e1, e2, e3, Option.bind_some]
  by_cases h : b = 0
  · rw [if_pos h]; exact ⟨_, _, _, _, rfl, c3⟩
  · rw [if_neg h]
    by_cases h1 : b = 1
    · rw [if_pos h1]; exact ⟨_, _, _, _, rfl, c3⟩
    · rw [if_neg h1]; exact ⟨_, _, _, _, rfl, c2⟩
theorem d14DrawL {xs : List Int} : ∀ (d i : Nat) (p s : Int) (l : List S77), i + d = 9 → CK xs p → l.length + d ≤ 100 → ∃ l' p' s', Told (fun k => spec_l14Draw.l0 k l (i : Int) xs p s) (l', p', s') ∧ l'.length ≤ 100 ∧ CK xs p' := by
  intro d
  induction d with
  | zero =>
    intro i p s l hi c hl
    obtain ⟨b, p1, s1, e, b0, b1, _, c1⟩ := dBelow c s 9
    have b1 := b1 (by omega)
    obtain rfl : i = 9 := by omega
    exact ⟨l, p1, s1, Told.step (fun k => by simp only [spec_l14Draw.l0]; rfl) (Told.bind (Told.of e) (Told.ite_f (show ¬ ((9 : Nat) : Int) ≤ b by omega) (Told.ret _))), by omega, c1⟩
  | succ d ih =>
    intro i p s l hi c hl
    obtain ⟨b, p1, s1, e, b0, b1, _, c1⟩ := dBelow c s 9
    by_cases h : (i : Int) ≤ b
    · obtain ⟨x, y, p2, s2, e2, _, _, _, _, c2⟩ := d4Draw c1 s1
      obtain ⟨q, p3, s3, e3, _, _, _, c3⟩ := dBelow c2 s2 4
      obtain ⟨l', p', s', t, g1, g2⟩ := ih (i + 1) p3 s3 (l ++ [⟨wrap64 (2 * (i : Int)), ⟨x, y⟩, q⟩]) (by omega) c3 (by simp; omega)
      have fit : l.length < 4398046511104 := by omega
      refine ⟨l', p', s', Told.step (fun k => by simp only [spec_l14Draw.l0]; rfl) (Told.bind (Told.of e) (Told.ite_t h (Told.bind (Told.of e2) (Told.bind (Told.of e3) (Told.ite_t fit ?_))))), g1, g2⟩
      rw [Gen.w64s (by omega)]
      exact t
    · exact ⟨l, p1, s1, Told.step (fun k => by simp only [spec_l14Draw.l0]; rfl) (Told.bind (Told.of e) (Told.ite_f h (Told.ret _))), by omega, c1⟩
theorem d14Any {xs : List Int} {p : Int} (c : CK xs p) (s : Int) : ∃ l p' s', Told (fun k => spec_l14Any.f k xs p s) (l, p', s') ∧ l.length ≤ 100 ∧ CK xs p' := by
  obtain ⟨l, p1, s1, t1, g1, c1⟩ := d14DrawL (xs := xs) 8 1 p s [] (by omega) c (by simp)
  have t1 : Told (fun k => spec_l14Draw.f k xs p s) (l, p1, s1) := t1
  by_cases h0 : (l.length : Int) = 0
  · exact ⟨l, p1, s1, Told.bind t1 (Told.ite_t h0 (Told.ret _)), g1, c1⟩
  obtain ⟨i, p2, s2, e2, i0, i1, _, c2⟩ := dBelow c1 s1 (l.length : Int)
  have i1 := i1 (by omega)
  obtain ⟨b, p3, s3, e3, b0, b1, _, c3⟩ := dBelow c2 s2 9
  by_cases hb0 : b = 0
  · obtain ⟨v, p4, s4, e4, _, c4⟩ := dInt c3 s3 [0, 2, 99, 100] (by simp)
    exact ⟨_, p4, s4, Told.bind t1 (Told.ite_f h0 (Told.bind (Told.of e2) (Told.bind (Told.of e3) (Told.ite_t hb0 (Told.bind (Told.of e4) (Told.ite_t i0 (Told.ite_t i1 (Told.ret _)))))))), by dsimp only; rw [List.length_set]; exact g1, c4⟩
  by_cases hb1 : b = 1
  · obtain ⟨x, y, p4, s4, e4, c4⟩ := d4Any c3 s3
    exact ⟨_, p4, s4, Told.bind t1 (Told.ite_f h0 (Told.bind (Told.of e2) (Told.bind (Told.of e3) (Told.ite_f hb0 (Told.ite_t hb1 (Told.bind (Told.of e4) (Told.ite_t i0 (Told.ite_t i1 (Told.ret _))))))))), by dsimp only; rw [List.length_set]; exact g1, c4⟩
  by_cases hb2 : b = 2
  · obtain ⟨v, p4, s4, e4, _, c4⟩ := dInt c3 s3 [(-1), 9, 10] (by simp)
    exact ⟨_, p4, s4, Told.bind t1 (Told.ite_f h0 (Told.bind (Told.of e2) (Told.bind (Told.of e3) (Told.ite_f hb0 (Told.ite_f hb1 (Told.ite_t hb2 (Told.bind (Told.of e4) (Told.ite_t i0 (Told.ite_t i1 (Told.ret _)))))))))), by dsimp only; rw [List.length_set]; exact g1, c4⟩
  · exact ⟨l, p3, s3, Told.bind t1 (Told.ite_f h0 (Told.bind (Told.of e2) (Told.bind (Told.of e3) (Told.ite_f hb0 (Told.ite_f hb1 (Told.ite_f hb2 (Told.ret _))))))), g1, c3⟩
theorem dThin (xs : List Int) (h : xs.length ≤ 1048576) : ∃ l f, Told (fun k => spec_DrawThinPlaces.f k xs) (l, f) ∧ l.length ≤ 100 := by
  obtain ⟨s, t⟩ := dNew xs h
  obtain ⟨l, p1, s1, t1, g1, c1⟩ := d14Any (ck0 h) s
  obtain ⟨f, p2, s2, e2, _, c2⟩ := dInt c1 s1 [0, 1, 2, 4, 7, 200, 201, (-1)] (by simp)
  exact ⟨l, f, Told.bind t (Told.bind t1 (Told.bind (Told.of e2) (Told.ret _))), g1⟩
theorem dAbove (xs : List Int) (h : xs.length ≤ 1048576) : ∃ a b : S77, Told (fun k => spec_DrawIsAbove.f k xs) (a.f0, a.f1.f0, a.f1.f1, a.f2, b.f0, b.f1.f0, b.f1.f1, b.f2) := by
  obtain ⟨s, t⟩ := dNew xs h
  obtain ⟨i1, p1, s1, e1, _, _, _, c1⟩ := dBelow (ck0 h) s 3
  obtain ⟨i2, p2, s2, e2, _, _, _, c2⟩ := dBelow c1 s1 3
  obtain ⟨i3, p3, s3, e3, _, _, _, c3⟩ := dBelow c2 s2 3
  obtain ⟨i4, p4, s4, e4, _, _, _, c4⟩ := dBelow c3 s3 3
  exact ⟨⟨wrap64 (1 + i1), ⟨0, 0⟩, i2⟩, ⟨wrap64 (1 + i3), ⟨0, 0⟩, i4⟩, Told.bind t (Told.bind (Told.of e1) (Told.bind (Told.of e2) (Told.bind (Told.of e3) (Told.bind (Told.of e4) (Told.ret _)))))⟩
theorem tAsc (xs : List Int) (h : xs.Pairwise (· < ·)) (hl : xs.length ≤ 1048576) : Told (fun k => laws_ascends.f k xs) true := by
  have hg := List.pairwise_iff_getElem.1 h
  have key : ∀ d i, 1 ≤ i → xs.length ≤ i + d → i ≤ 1048577 → Told (fun k => laws_ascends.l0 k xs (i : Int)) true := by
    intro d
    induction d with
    | zero => intro i h1 h2 _; exact Told.stepr fun k => by simp only [laws_ascends.l0]; rw [if_neg (by omega)]
    | succ d ih =>
      intro i h1 h2 h3
      by_cases c : i < xs.length
      · have e1 : wrap64 ((i : Int) - 1) = ((i - 1 : Nat) : Int) := by rw [Gen.w64 (by omega) (by omega)]; omega
        have lt : rd xs ((i - 1 : Nat) : Int) < rd xs (i : Int) := by
          have := hg (i - 1) i (by omega) c (by omega)
          show xs.getD (i - 1) 0 < xs.getD i 0
          rw [List.getD_eq_getElem?_getD, List.getElem?_eq_getElem (by omega), List.getD_eq_getElem?_getD, List.getElem?_eq_getElem c]
          exact this
        refine Told.step (fun k => ?_) (ih (i + 1) (by omega) (by omega) (by omega))
        simp only [laws_ascends.l0]
        rw [if_pos (by omega), e1, if_pos (by omega), if_pos (by omega), if_pos (by omega), if_neg (by omega), Gen.w64s (by omega)]
      · exact Told.stepr fun k => by simp only [laws_ascends.l0]; rw [if_neg (by omega)]
  exact key xs.length 1 (by omega) (by omega) (by omega)
theorem tCont (xs : List Int) (n : Int) (hl : xs.length ≤ 1048576) : Told (fun k => laws_contains.f k xs n) (decide (n ∈ xs)) := by
  have key : ∀ d j, j + d = xs.length → Told (fun k => laws_contains.l0 k xs n (j : Int)) (decide (n ∈ xs.drop j)) := by
    intro d
    induction d with
    | zero =>
      intro j hd
      rw [List.drop_eq_nil_of_le (by omega)]
      exact Told.stepr fun k => by simp only [laws_contains.l0]; rw [if_neg (by omega)]; simp
    | succ d ih =>
      intro j hd
      rw [rd_dropI xs j (by omega)]
      by_cases c : rd xs (j : Int) = n
      · refine Told.stepr fun k => ?_
        simp only [laws_contains.l0]; rw [if_pos (by omega), if_pos (by omega), if_pos c, c]; simp
      · have h := ih (j + 1) (by omega)
        have e : decide (n ∈ rd xs (j : Int) :: xs.drop (j + 1)) = decide (n ∈ xs.drop (j + 1)) := by
          rw [decide_eq_decide, List.mem_cons]; exact ⟨fun h => h.resolve_left fun e => c e.symm, .inr⟩
        rw [e]
        exact Told.step (fun k => by simp only [laws_contains.l0]; rw [if_pos (by omega), if_pos (by omega), if_neg c, Gen.w64s (by omega)]) h
  exact key xs.length 0 (by omega)
theorem thin_gd {l : List S77} {f n : Int} (h : n ∈ thinV l f) : Gd l f := by
  obtain ⟨y, hy, _⟩ := (mem_thinV l f n).1 h
  unfold keptV at hy
  split at hy
  · assumption
  · cases hy
theorem hidFacts (l : List S77) (f : Int) (hl : l.length ≤ 1048576) (x : S77) (hx : x ∈ l) : ∃ v, Told (fun k => impl_HiddenBy.f k l f x.f0) v ∧ (x.f0 ∈ thinV l f → v = 0) ∧ (x.f0 ∉ thinV l f → 0 < (thinV l f).length → v ∈ thinV l f ∧ ∀ y ∈ l, y.f0 = v → upP y x = true ∧ fQ x y < f * f) := by
  rcases tImplHid l f x.f0 hl with ⟨i, hi, he, ht⟩ | ⟨hn, _⟩
  · have hx' := getD_mem hi
    generalize l.getD i z77 = x' at he ht hx'
    refine ⟨_, ht, fun h => ?_, fun h h2 => ?_⟩
    · have g := thin_gd h
      obtain ⟨y, h1, h3⟩ := (mem_thinV l f x.f0).1 h
      rw [if_pos ((any_eqB _ _).2 ?_)]
      rw [← ids_inj g.1 (kept_sub h1) hx' (h3.trans he.symm)]; exact h1
    · obtain ⟨n, hn⟩ := List.exists_mem_of_length_pos h2
      have g := thin_gd hn
      obtain rfl : x' = x := ids_inj g.1 hx' hx he
      have nk : x' ∉ keptV l f := fun hk => h ((mem_thinV l f x'.f0).2 ⟨x', hk, rfl⟩)
      rw [if_neg (fun hc => nk ((any_eqB _ _).1 hc))]
      obtain ⟨y, hy⟩ := hider g hx nk
      have hv : hidV f (keptV l f) x' = y.f0 := by unfold hidV; rw [hy]; rfl
      have hm := List.mem_of_find?_eq_some hy
      have hb := List.find?_some hy
      unfold hidB at hb
      rw [Bool.and_eq_true, decide_eq_true_eq] at hb
      rw [hv]
      refine ⟨(mem_thinV l f y.f0).2 ⟨y, hm, rfl⟩, fun z hz ez => ?_⟩
      rw [ids_inj g.1 hz (kept_sub hm) ez, fQ_comm]
      exact hb
  · exact absurd rfl (hn x hx)
theorem farFact {l : List S77} {f : Int} {i j : Nat} (hi : i < l.length) (hj : j < l.length) (hn : i ≠ j) (h1 : (l.getD i z77).f0 ∈ thinV l f) (h2 : (l.getD j z77).f0 ∈ thinV l f) : fQ (l.getD i z77) (l.getD j z77) ≥ f * f := by
  have g := thin_gd h1
  obtain ⟨y, hy, ey⟩ := (mem_thinV l f _).1 h1
  obtain ⟨z, hz, ez⟩ := (mem_thinV l f _).1 h2
  rw [← ids_inj g.1 (kept_sub hy) (getD_mem hi) ey, ← ids_inj g.1 (kept_sub hz) (getD_mem hj) ez]
  refine kept_far hy hz fun e => ?_
  have e0 : (l.getD i z77).f0 = (l.getD j z77).f0 := by rw [← ey, ← ez, e]
  rcases Nat.lt_or_gt_of_ne hn with c | c
  · obtain ⟨d, rfl⟩ : ∃ d, j = i + d + 1 := ⟨j - i - 1, by omega⟩
    have := ids_lt g.1 d i hj; omega
  · obtain ⟨d, rfl⟩ : ∃ d, i = j + d + 1 := ⟨i - j - 1, by omega⟩
    have := ids_lt g.1 d j hi; omega
theorem lwJ3 (xs : List Int) (l : List S77) (f : Int) (hl : l.length ≤ 1048576) (hT : (thinV l f).length ≤ 1048576) (i j : Nat) (hi : i < l.length) (hj : j < l.length) (v : Int) {r : Bool} (h : Told (fun k => laws_FnThinned.l1 k xs l f (thinV l f) (i : Int) v (decide ((l.getD i z77).f0 ∈ thinV l f)) ((j + 1 : Nat) : Int)) r) :
    Told (fun k => laws_FnThinned.j3 k xs l f (thinV l f) (i : Int) v (decide ((l.getD i z77).f0 ∈ thinV l f)) (j : Int) false) r := by
  have e2 : (rd_T77 l (j : Int)) = l.getD j z77 := rfl
  have e3 : (rd_T77 l (i : Int)) = l.getD i z77 := rfl
  have h' : Told (fun k => laws_FnThinned.l1 k xs l f (thinV l f) (i : Int) v (decide ((l.getD i z77).f0 ∈ thinV l f)) (wrap64 ((j : Int) + 1))) r := by rw [Gen.w64s (by omega)]; exact h
  by_cases c : (l.getD i z77).f0 ∈ thinV l f
  · rw [decide_eq_true c] at h' ⊢
    by_cases e : i = j
    · exact Told.step (fun k => by simp only [laws_FnThinned.j3, Bool.false_eq_true, if_false, if_true]; rw [if_pos (by omega)]) h'
    · refine Told.step (fun k => by simp only [laws_FnThinned.j3, Bool.false_eq_true, if_false, if_true]; rw [if_neg (by omega), if_pos (by omega), if_pos (by omega), e2]) (Told.bind (tCont _ (l.getD j z77).f0 hT) ?_)
      by_cases c2 : (l.getD j z77).f0 ∈ thinV l f
      · have g := thin_gd c
        have ff := farFact hi hj e c c2
        refine Told.ite_t (decide_eq_true c2) (Told.ite_t (by omega) (Told.ite_t (by omega) (Told.bind (Told.of (implFarQ (l.getD i z77) (l.getD j z77))) (Told.ite_f ?_ h'))))
        rw [w64_sq g.2]; omega
      · exact Told.ite_f (by rw [decide_eq_true_eq]; exact c2) h'
  · rw [decide_eq_false c] at h' ⊢
    exact Told.step (fun k => by simp only [laws_FnThinned.j3, Bool.false_eq_true, if_false]) h'
theorem lwL1 (xs : List Int) (l : List S77) (f : Int) (hl : l.length ≤ 1048576) (hT : (thinV l f).length ≤ 1048576) (i : Nat) (hi : i < l.length) (v : Int) (hv : (l.getD i z77).f0 ∉ thinV l f → 0 < (thinV l f).length → v ∈ thinV l f ∧ ∀ y ∈ l, y.f0 = v → upP y (l.getD i z77) = true ∧ fQ (l.getD i z77) y < f * f) {r : Bool} (h : Told (fun k => laws_FnThinned.l0 k xs l f (thinV l f) ((i + 1 : Nat) : Int)) r) : ∀ d j, j + d = l.length →
    Told (fun k => laws_FnThinned.l1 k xs l f (thinV l f) (i : Int) v (decide ((l.getD i z77).f0 ∈ thinV l f)) (j : Int)) r := by
  intro d
  induction d with
  | zero => intro j hd; exact Told.step (fun k => by simp only [laws_FnThinned.l1]; rw [if_neg (by omega), Gen.w64s (by omega)]) h
  | succ d ih =>
    intro j hd
    have n := lwJ3 xs l f hl hT i j hi (by omega) v (ih (j + 1) (by omega))
    have e2 : (rd_T77 l (j : Int)) = l.getD j z77 := rfl
    have e3 : (rd_T77 l (i : Int)) = l.getD i z77 := rfl
    by_cases c1 : (l.getD j z77).f0 = v
    · by_cases c2 : ((thinV l f).length : Int) > 0
      · by_cases c3 : (l.getD i z77).f0 ∈ thinV l f
        · refine Told.step (fun k => ?_) n
          simp only [laws_FnThinned.l1]
          rw [if_pos (by omega), if_pos (by omega), e2, if_pos c1, if_pos c2, if_pos (decide_eq_true c3)]
        · obtain ⟨h1, h2⟩ := hv c3 (by omega)
          have g := thin_gd h1
          obtain ⟨u, w⟩ := h2 _ (getD_mem (show j < l.length by omega)) c1
          refine Told.step (fun k => ?_) n
          simp only [laws_FnThinned.l1]
          rw [if_pos (by omega), if_pos (by omega), e2, if_pos c1, if_pos c2, if_neg (by rw [decide_eq_true_eq]; exact c3), if_pos (by omega), if_pos (by omega), e3, implAbove, Option.bind_some, if_pos u, implFarQ, Option.bind_some, w64_sq g.2, decide_eq_false (by omega : ¬ fQ (l.getD i z77) (l.getD j z77) ≥ f * f)]
      · refine Told.step (fun k => ?_) n
        simp only [laws_FnThinned.l1]
        rw [if_pos (by omega), if_pos (by omega), e2, if_pos c1, if_neg c2]
    · refine Told.step (fun k => ?_) n
      simp only [laws_FnThinned.l1]
      rw [if_pos (by omega), if_pos (by omega), e2, if_neg c1]
theorem lwTail (l : List S77) (f : Int) (hl : l.length ≤ 1048576) : Told (fun k => if (l.length : Int) = 0 then some true else ((impl_ArePlaces.f k l).bind fun t478 => (if t478 = true then (if f < 0 then (some true) else (if f > 200 then (some true) else (some (decide (((thinV l f).length : Int) > 0))))) else (some true)))) true := by
  by_cases h0 : (l.length : Int) = 0
  · exact Told.ite_t h0 (Told.ret _)
  refine Told.ite_f h0 (Told.bind (⟨l.length + 1, fun k hk => implArePlaces l hl (by omega)⟩ : Told (fun k => impl_ArePlaces.f k l) (decide (Pls l))) ?_)
  by_cases hp : Pls l
  · refine Told.ite_t (decide_eq_true hp) ?_
    by_cases h1 : f < 0
    · exact Told.ite_t h1 (Told.ret _)
    by_cases h2 : f > 200
    · exact Told.ite_f h1 (Told.ite_t h2 (Told.ret _))
    · have := kept_some (l := l) (f := f) ⟨hp, by omega, by omega⟩ (by omega)
      exact Told.ite_f h1 (Told.ite_f h2 (Told.of (by rw [decide_eq_true (by omega)])))
  · exact Told.ite_f (by rw [decide_eq_true_eq]; exact hp) (Told.ret _)
theorem lwL0 (xs : List Int) (hx : xs.length ≤ 1048576) (l : List S77) (f : Int) (hl : l.length ≤ 1048576) (hT : (thinV l f).length ≤ 1048576) : ∀ d i, i + d = l.length → Told (fun k => laws_FnThinned.l0 k xs l f (thinV l f) (i : Int)) true := by
  intro d
  induction d with
  | zero =>
    intro i hd
    obtain ⟨a, b, t⟩ := dAbove xs hx
    refine Told.step (fun k => by simp only [laws_FnThinned.l0]; rw [if_neg (by omega)]) (Told.bind t (Told.bind (Told.of (implAbove a b)) ?_))
    by_cases c : upP a b = true
    · exact Told.ite_t c (Told.bind (Told.of (implAbove b a)) (Told.ite_f (by rw [up_anti c]; exact Bool.false_ne_true) (lwTail l f hl)))
    · exact Told.ite_f c (lwTail l f hl)
  | succ d ih =>
    intro i hd
    have hi : i < l.length := by omega
    obtain ⟨v, t, v1, v2⟩ := hidFacts l f hl _ (getD_mem hi)
    have n := lwL1 xs l f hl hT i hi v v2 (ih (i + 1) (by omega)) l.length 0 (by omega)
    have e3 : (rd_T77 l (i : Int)) = l.getD i z77 := rfl
    have nj : Told (fun k => laws_FnThinned.j1 k xs l f (thinV l f) (i : Int) v (decide ((l.getD i z77).f0 ∈ thinV l f)) false) true := Told.step (fun k => by simp only [laws_FnThinned.j1, Bool.false_eq_true, if_false]; rfl) n
    refine Told.step (fun k => by simp only [laws_FnThinned.l0]; rw [if_pos (by omega), if_pos (by omega), e3]) (Told.bind t (Told.bind (tCont _ _ hT) ?_))
    by_cases c : (l.getD i z77).f0 ∈ thinV l f
    · refine Told.ite_t (decide_eq_true c) (Told.ite_t (v1 c) ?_)
      exact Told.ite_t (by have := List.length_pos_of_mem c; omega) nj
    · refine Told.ite_f (by rw [decide_eq_true_eq]; exact c) ?_
      by_cases c2 : ((thinV l f).length : Int) > 0
      · refine Told.ite_t c2 (Told.bind (tCont _ v hT) ?_)
        rw [decide_eq_true (v2 c (by omega)).1]
        exact nj
      · exact Told.ite_f c2 nj
theorem pure_FnThinned : ∀ (l0 : (List Int)), (List.length l0 ≤ maxLen ∧ ∀ y ∈ l0, (0 ≤ y ∧ y ≤ 255)) → ∃ k, laws_FnThinned.f k l0 = some true := by
  intro xs ⟨hm, _⟩
  apply Told.ex
  unfold maxLen at hm
  by_cases hb : (xs.length : Int) > 1048576
  · exact Told.bind (Told.of (show laws_big.f xs = some true by unfold laws_big.f; rw [decide_eq_true hb])) (Told.ite_t rfl (Told.ret _))
  refine Told.bind (Told.of (show laws_big.f xs = some false by unfold laws_big.f; rw [decide_eq_false hb])) (Told.ite_f Bool.false_ne_true ?_)
  obtain ⟨l, f, t, g⟩ := dThin xs (by omega)
  have h16 := len_keptV l f
  have hT : (thinV l f).length ≤ 1048576 := by have := len_idsP (keptV l f) []; unfold thinV; simp at this; omega
  refine Told.bind t (Told.bind (tImplThin l f (by omega)) (Told.bind (tSpecThin l f (by omega)) (Told.ite_t rfl (Told.bind (tAsc _ (asc_idsP _ _ List.Pairwise.nil) hT) (Told.ite_t rfl ?_)))))
  exact lwL0 xs (by omega) l f (by omega) hT l.length 0 (by omega)
end Go.Proofs.Ytbackoeakepngab.MFnThinned
