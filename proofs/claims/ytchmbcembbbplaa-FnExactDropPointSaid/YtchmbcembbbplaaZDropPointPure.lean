/- The plain law behind FnExactDropPoint: what the printed functions compute answers true; no condition beyond the arguments' ranges. -/
import Derived.Test.YtchmbcembbbplaaZDropPointTold
import Derived.Test.YtchmbcembbbplaaZDropPointMx5
import Derived.Test.YtchmbcembbbplaaZDropPointOpn
namespace Go.Proofs.Ytchmbcembbbplaa.MFnExactDropPoint
open Go Go.RowKit Go.Proofs.YtchmbcembbbplaaW.PrintWords Go.Proofs.YtchmbcembbbplaaW.PrintLast Go.Proofs.YtchmbcembbbplaaW.PrintMore Go.Proofs.Ytchmbcembbbplaa.Open
set_option linter.unusedVariables false
set_option linter.unusedSimpArgs false
theorem implInRange (a b c : Int) : impl_InRange.f a b c = some (decide (b ≤ a ∧ a ≤ c)) := by
  unfold impl_InRange.f; by_cases h : b ≤ a <;> simp [h]
theorem specIn (a b c : Int) : spec_l1In.f a b c = some (decide (b ≤ a ∧ a ≤ c)) := by
  unfold spec_l1In.f; by_cases h : b ≤ a <;> simp [h]
def Pt (x y : Int) : Prop := 0 ≤ x ∧ x ≤ 200 ∧ 0 ≤ y ∧ y ≤ 200
instance (x y : Int) : Decidable (Pt x y) := by unfold Pt; infer_instance
theorem implIsPoint (x y : Int) : impl_IsPoint.f x y = some (decide (Pt x y)) := by
  unfold impl_IsPoint.f
  rw [implInRange, implInRange]
  simp only [Option.bind_some]
  by_cases h : 0 ≤ x ∧ x ≤ 200
  · rw [if_pos (by simpa using h)]; simp [Pt, h]
  · rw [if_neg (by simpa using h)]; simp only [Option.some.injEq, Bool.false_eq, decide_eq_false_iff_not]; unfold Pt; omega
theorem specIsPoint (x y : Int) : spec_IsPoint.f x y = some (decide (Pt x y)) := by
  unfold spec_IsPoint.f
  rw [specIn, specIn]
  simp only [Option.bind_some]
  by_cases h : 0 ≤ x ∧ x ≤ 200
  · rw [if_pos (by simpa using h)]; simp [Pt, h]
  · rw [if_neg (by simpa using h)]; simp only [Option.some.injEq, Bool.false_eq, decide_eq_false_iff_not]; unfold Pt; omega
def cP (p : S40) : S44 := ⟨p.f0, p.f1⟩
theorem toPointS_some (l : List S40) (hl : l.length ≤ 1048576) {k : Nat} (hk : l.length < k) : laws_toPointS.f k l = some (l.map cP) := by
  unfold laws_toPointS.f
  rw [if_pos (by omega), if_pos (by omega)]
  have := Gen.fill_all l z40 cP 0 (fun k out i => laws_toPointS.l0 k l out i) (fun k out i _ hi ho => by
      simp only [laws_toPointS.l0]
      rw [if_pos (by omega), if_pos (by omega)]
      simp only [laws_toPoint.f, Option.bind_some]
      rw [if_pos (by omega), Gen.w64s (by omega)]
      rfl) (fun k out ho => by
      simp only [laws_toPointS.l0]
      rw [if_neg (by omega)]) (k := k) (out := List.replicate l.length z44) (by simp) (by omega)
  simpa using this
theorem szPointS_some (l : List S40) (a : Int) (hl : l.length ≤ maxLen) (ha : 0 ≤ a) (ha' : a ≤ 1048576) : laws_szPointS.f l a = some (if a < l.length then -1 else a - l.length) := by
  unfold laws_szPointS.f
  unfold maxLen at hl
  rw [Gen.w64 (by omega) (by omega)]
  split <;> split <;> first | rfl | omega
theorem eqPointS_self (a : List S44) (hl : a.length ≤ 1048576) {k : Nat} (hk : a.length < k) : laws_eqPointS.f k a a = some true := by
  unfold laws_eqPointS.f
  rw [if_pos rfl]
  refine Gen.up_all a.length 0 true (fun k i => laws_eqPointS.l0 k a a i) (fun k i _ hi => ?_) (fun k _ => ?_) (k := k) (by omega)
  · simp only [laws_eqPointS.l0, laws_eqPoint.f]
    rw [if_pos (by omega), if_pos (by omega), if_pos (by omega)]
    simp only [if_true, Option.bind_some]
    rw [Gen.w64s (by omega)]
  · simp only [laws_eqPointS.l0]
    rw [if_neg (by omega)]
theorem tToPointS (l : List S40) (hl : l.length ≤ 1048576) : Told (fun k => laws_toPointS.f k l) (l.map cP) := ⟨l.length + 1, fun k hk => toPointS_some l hl (by omega)⟩
theorem tEqPointS (l : List S44) (hl : l.length ≤ 1048576) : Told (fun k => laws_eqPointS.f k l l) true := ⟨l.length + 1, fun k hk => eqPointS_self l hl (by omega)⟩
def Ln (l : List S44) : Prop := 2 ≤ l.length ∧ l.length ≤ 10 ∧ ∀ i, i < l.length → Pt (l.getD i z44).f0 (l.getD i z44).f1 ∧ ¬ (0 < i ∧ (l.getD (i - 1) z44).f0 = (l.getD i z44).f0 ∧ (l.getD (i - 1) z44).f1 = (l.getD i z44).f1)
def lnChk (l : List S44) (i : Nat) : Bool := decide (Pt (l.getD i z44).f0 (l.getD i z44).f1 ∧ ¬ (0 < i ∧ (l.getD (i - 1) z44).f0 = (l.getD i z44).f0 ∧ (l.getD (i - 1) z44).f1 = (l.getD i z44).f1))
instance (l : List S44) : Decidable (Ln l) := decidable_of_iff ((2 ≤ l.length ∧ l.length ≤ 10) ∧ ∀ i, i < l.length → lnChk l i = true) (by unfold Ln lnChk; simp only [decide_eq_true_eq, and_assoc])
theorem rdP (l : List S44) (i : Nat) : rd_T44 l (i : Int) = l.getD i z44 := rfl
theorem specIsLine (l : List S44) (hl : l.length ≤ 1048576) {k : Nat} (hk : l.length < k) : spec_IsLine.f k l = some (decide (Ln l)) := by
  unfold spec_IsLine.f
  rw [Gen.scan_all l.length 0 (lnChk l) (decide (2 ≤ l.length ∧ l.length ≤ 10)) (fun k i => spec_IsLine.l0 k l i) (fun k i _ hi => by
    simp only [spec_IsLine.l0]
    rw [if_pos (by omega), if_pos (by omega), specIsPoint, rdP]
    simp only [Option.bind_some, decide_eq_true_eq]
    unfold lnChk
    by_cases h1 : Pt (l.getD i z44).f0 (l.getD i z44).f1
    · rw [if_pos h1]
      by_cases h0 : 0 < i
      · have e1 : wrap64 ((i : Int) - 1) = ((i - 1 : Nat) : Int) := by rw [Gen.w64 (by omega) (by omega)]; omega
        rw [if_pos (by omega), e1, if_pos (by omega), if_pos (by omega), rdP, Gen.w64s (by omega)]
        by_cases h2 : (l.getD (i - 1) z44).f0 = (l.getD i z44).f0 ∧ (l.getD (i - 1) z44).f1 = (l.getD i z44).f1
        · rw [if_pos (by simpa using h2), if_neg (by simp only [decide_eq_true_eq]; exact fun h => h.2 ⟨h0, h2⟩)]
        · rw [if_neg (by simpa using h2), if_pos (by simp only [decide_eq_true_eq]; exact ⟨h1, fun h => h2 h.2⟩)]
      · rw [if_neg (by omega), if_pos (by simp only [decide_eq_true_eq]; exact ⟨h1, fun h => h0 h.1⟩), Gen.w64s (by omega)]
    · rw [if_neg h1, if_neg (by simp only [decide_eq_true_eq]; exact fun h => h1 h.1)]) (fun k _ => by
    simp only [spec_IsLine.l0]
    rw [if_neg (by omega), specIn]
    simp only [Option.bind_some, Option.some.injEq, decide_eq_decide]
    omega) (by omega)]
  congr 1
  rw [Bool.eq_iff_iff, Bool.and_eq_true, decide_eq_true_eq, decide_eq_true_eq, decide_eq_true_eq]
  unfold Ln lnChk
  simp only [decide_eq_true_eq]
  constructor
  · rintro ⟨h1, h2, h3⟩; exact ⟨h2, h3, h1⟩
  · rintro ⟨h1, h2, h3⟩; exact ⟨h3, h1, h2⟩
theorem implIsLine (l : List S44) (hl : l.length ≤ 1048576) {k : Nat} (hk : l.length + 1 < k) : impl_IsLine.f k l = some (decide (Ln l)) := by
  obtain ⟨k, rfl⟩ : ∃ m, k = m + 1 := ⟨k - 1, by omega⟩
  unfold impl_IsLine.f
  simp only [impl_IsLine.j0]
  by_cases h2 : l.length < 2
  · rw [if_pos (by omega), if_pos trivial]
    congr 1
    rw [eq_comm, decide_eq_false_iff_not]
    intro h; have := h.1; omega
  · rw [if_neg (by omega)]
    by_cases h10 : l.length > 10
    · rw [if_pos (by rw [decide_eq_true_eq]; omega)]
      congr 1
      rw [eq_comm, decide_eq_false_iff_not]
      intro h; have := h.2.1; omega
    · rw [if_neg (by rw [decide_eq_true_eq]; omega)]
      rw [Gen.scan_all l.length 0 (lnChk l) true (fun k i => impl_IsLine.l0 k l l l.length i) (fun k i _ hi => by
        simp only [impl_IsLine.l0]
        rw [if_pos (by omega), if_pos (by omega), if_pos (by omega), implIsPoint, rdP]
        simp only [Option.bind_some, decide_eq_true_eq]
        unfold lnChk
        by_cases h1 : Pt (l.getD i z44).f0 (l.getD i z44).f1
        · rw [if_pos h1]
          by_cases h0 : 0 < i
          · have e1 : wrap64 ((i : Int) - 1) = ((i - 1 : Nat) : Int) := by rw [Gen.w64 (by omega) (by omega)]; omega
            rw [if_pos (by omega), e1, if_pos (by omega), if_pos (by omega), rdP, Gen.w64s (by omega)]
            by_cases h2 : (l.getD (i - 1) z44).f0 = (l.getD i z44).f0 ∧ (l.getD (i - 1) z44).f1 = (l.getD i z44).f1
            · rw [if_pos (by rw [h2.1, h2.2]; simp), if_neg (by simp only [decide_eq_true_eq]; exact fun h => h.2 ⟨h0, h2⟩)]
            · rw [if_neg (by simp only [Bool.and_eq_true, beq_iff_eq]; exact fun h => h2 ⟨h.1.symm, h.2.symm⟩), if_pos (by simp only [decide_eq_true_eq]; exact ⟨h1, fun h => h2 h.2⟩)]
          · rw [if_neg (by omega), if_pos (by simp only [decide_eq_true_eq]; exact ⟨h1, fun h => h0 h.1⟩), Gen.w64s (by omega)]
        · rw [if_neg h1, if_neg (by simp only [decide_eq_true_eq]; exact fun h => h1 h.1)]) (fun k _ => by
        simp only [impl_IsLine.l0]
        rw [if_neg (by omega)]) (by omega)]
      congr 1
      rw [Bool.eq_iff_iff, Bool.and_eq_true, decide_eq_true_eq, decide_eq_true_eq]
      unfold Ln lnChk
      simp only [decide_eq_true_eq, and_true]
      constructor
      · intro h; exact ⟨by omega, by omega, h⟩
      · intro h; exact h.2.2
theorem tSpecLine (l : List S44) (hl : l.length ≤ 1048576) : Told (fun k => spec_IsLine.f k l) (decide (Ln l)) := ⟨l.length + 1, fun k hk => specIsLine l hl (by omega)⟩
theorem tImplLine (l : List S44) (hl : l.length ≤ 1048576) : Told (fun k => impl_IsLine.f k l) (decide (Ln l)) := ⟨l.length + 2, fun k hk => implIsLine l hl (by omega)⟩
theorem mk_get (l : List S44) (i j : Nat) (p : S44) (hi : i < l.length) : (l.set i p).getD j z44 = if i = j then p else l.getD j z44 := by
  simp only [List.getD_eq_getElem?_getD, List.getElem?_set]
  by_cases h : i = j
  · subst h; simp [hi]
  · simp [h]
theorem tMarkP0 : ∀ d (l : List S44) (i : Nat), i + d = l.length → l.length ≤ 1048576 → (∀ j, j < i → l.getD j z44 = ⟨1 + 2 * j, 2 + 2 * j⟩) →
    ∃ l' : List S44, l'.length = l.length ∧ (∀ j, j < l.length → l'.getD j z44 = ⟨1 + 2 * j, 2 + 2 * j⟩) ∧ Told (fun k => laws_markPointS.l0 k l (1 + 2 * (i : Int)) i) (1 + 2 * (l.length : Int), l') := by
  intro d
  induction d with
  | zero =>
    intro l i hi hl h
    have : i = l.length := by omega
    subst this
    exact ⟨l, rfl, h, Told.stepr fun k => by simp only [laws_markPointS.l0]; rw [if_neg (by omega)]⟩
  | succ d ih =>
    intro l i hi hl h
    obtain ⟨l', h1, h2, h3⟩ := ih (l.set i ⟨1 + 2 * i, 2 + 2 * i⟩) (i + 1) (by rw [List.length_set]; omega) (by rw [List.length_set]; exact hl) (fun j hj => by
      rw [mk_get l i j _ (by omega)]
      by_cases e : i = j
      · subst e; rw [if_pos rfl]
      · rw [if_neg e]; exact h j (by omega))
    rw [List.length_set] at h1 h2 h3
    refine ⟨l', h1, h2, Told.step (fun k => ?_) h3⟩
    simp only [laws_markPointS.l0]
    rw [if_pos (by omega), if_pos (by omega)]
    simp only [Option.bind_some, Int.toNat_natCast]
    have e1 : wrap64 (1 + 2 * (i : Int) + 1) = 2 + 2 * (i : Int) := by unfold wrap64; omega
    have e2 : wrap64 (2 + 2 * (i : Int) + 1) = 1 + 2 * ((i + 1 : Nat) : Int) := by unfold wrap64; omega
    rw [e1, e2, Gen.w64s (by omega), List.set_set]
    have e3 : rd_T44 (l.set i ⟨1 + 2 * (i : Int), (rd_T44 l i).f1⟩) (i : Int) = ⟨1 + 2 * (i : Int), (rd_T44 l i).f1⟩ := by
      show List.getD _ _ _ = _
      rw [Int.toNat_natCast, mk_get l i i _ (by omega), if_pos rfl]
    rw [e3]
theorem tMarkP (l : List S44) (hl : l.length ≤ 1048576) :
    ∃ l' : List S44, l'.length = l.length ∧ (∀ j, j < l.length → l'.getD j z44 = ⟨1 + 2 * j, 2 + 2 * j⟩) ∧ Told (fun k => laws_markPointS.f k l 1) (1 + 2 * (l.length : Int), l') :=
  tMarkP0 l.length l 0 (by omega) hl (fun j hj => by omega)
theorem tHeldP0 (l : List S44) (hl : l.length ≤ 1048576) (h : ∀ j, j < l.length → l.getD j z44 = ⟨1 + 2 * j, 2 + 2 * j⟩) : ∀ d (i : Nat), i + d = l.length → Told (fun k => laws_heldPointS.l0 k l (1 + 2 * (i : Int)) i) (1 + 2 * (l.length : Int)) := by
  intro d
  induction d with
  | zero =>
    intro i hi
    have : i = l.length := by omega
    subst this
    exact Told.stepr fun k => by simp only [laws_heldPointS.l0]; rw [if_neg (by omega)]
  | succ d ih =>
    intro i hi
    refine Told.step (fun k => ?_) (ih (i + 1) (by omega))
    have e0 : rd_T44 l i = ⟨1 + 2 * i, 2 + 2 * i⟩ := h i (by omega)
    have e1 : wrap64 (1 + 2 * (i : Int) + 1) = 2 + 2 * (i : Int) := by unfold wrap64; omega
    have e2 : wrap64 (2 + 2 * (i : Int) + 1) = 1 + 2 * ((i + 1 : Nat) : Int) := by unfold wrap64; omega
    simp only [laws_heldPointS.l0]
    rw [if_pos (by omega), if_pos (by omega), e0, e1, if_pos rfl, if_pos rfl, e2, Gen.w64s (by omega)]
theorem tHeldP (l l' : List S44) (hl : l.length ≤ 1048576) (h1 : l'.length = l.length) (h : ∀ j, j < l.length → l'.getD j z44 = ⟨1 + 2 * j, 2 + 2 * j⟩) : Told (fun k => laws_heldPointS.f k l' 1) (1 + 2 * (l.length : Int)) := by
  rw [← h1]
  exact tHeldP0 l' (by omega) (by rw [h1]; exact h) l'.length 0 (by omega)
def wo (l : List S44) (i : Int) : List S44 := l.take i.toNat ++ l.drop (i.toNat + 1)
theorem wo_len (l : List S44) (i : Int) : (wo l i).length ≤ l.length := by unfold wo; simp; omega
def dropV (l : List S44) (i : Int) : List S44 × Bool := if Ln l ∧ 1 ≤ i ∧ i ≤ l.length - 2 then (if Ln (wo l i) then (wo l i, true) else (l, false)) else (l, false)
theorem drop_len (l : List S44) (i : Int) : (dropV l i).1.length ≤ l.length := by
  unfold dropV; split
  · split
    · exact wo_len l i
    · exact Nat.le_refl _
  · exact Nat.le_refl _
theorem tSpecDrop (l : List S44) (i : Int) (hl : l.length ≤ 1048576) : Told (fun k => spec_DropPoint.f k l i) (dropV l i) := by
  have no : ¬ (Ln l ∧ 1 ≤ i ∧ i ≤ l.length - 2) → Told (fun k => spec_DropPoint.j0 k l i true) (dropV l i) := fun h => by
    unfold dropV; rw [if_neg h]
    refine Told.step (fun k => by simp only [spec_DropPoint.j0]; rw [if_pos trivial]) ?_
    exact Told.bind (Told.ret _) (Told.ite_t (by simp; omega) (Told.ret _))
  refine Told.bind (tSpecLine l hl) ?_
  by_cases h1 : Ln l
  · refine Told.ite_t (by simpa using h1) (Told.bind (Told.of (specIn _ _ _)) ?_)
    rw [Gen.w64 (by omega) (by omega)]
    by_cases h2 : 1 ≤ i ∧ i ≤ l.length - 2
    · have e1 : (wrap64 (i + 1)).toNat = i.toNat + 1 := by unfold wrap64; omega
      have e2 : wrap64 (i + 1) = i + 1 := by unfold wrap64; omega
      have e3 : (i + 1).toNat = i.toNat + 1 := by omega
      have ev : dropV l i = if Ln (wo l i) then (wo l i, true) else (l, false) := by unfold dropV; exact if_pos ⟨h1, h2⟩
      rw [ev]
      refine Told.step (fun k => by simp only [spec_DropPoint.j0]; rw [if_neg (by simp [h2]), e2, e3]) ?_
      refine Told.bind (Told.ret _) (Told.ite_t (by omega) (Told.ite_t (by omega) (Told.bind (Told.ret _) (Told.ite_t (by simp; omega) (Told.bind (Told.ret _) (Told.ite_t (by omega) (Told.ite_t (by omega) (Told.bind (Told.ret _) (Told.ite_t (by simp; omega) (Told.bind (Told.ret _) ?_))))))))))
      refine Told.bind (tSpecLine (wo l i) (Nat.le_trans (wo_len l i) hl)) ?_
      by_cases h3 : Ln (wo l i)
      · rw [if_pos h3]; exact Told.ite_t (by simpa using h3) (Told.ret _)
      · rw [if_neg h3]; exact Told.ite_f (by simpa using h3) (Told.bind (Told.ret _) (Told.ite_t (by simp; omega) (Told.ret _)))
    · rw [decide_eq_false h2]; exact no (fun h => h2 h.2)
  · exact Told.ite_f (by simpa using h1) (no (fun h => h1 h.1))
theorem implWo (l : List S44) (i : Int) (h0 : 0 ≤ i) (h1 : i < l.length) (hl : l.length ≤ 1048576) : impl_without.f l i = some (wo l i) := by
  unfold impl_without.f wo; rw [if_pos h0, if_pos h1, if_pos (by omega)]
theorem implClone (l : List S44) (hl : l.length ≤ 1048576) : impl_Point_118.f l = some l := by
  unfold impl_Point_118.f
  simp only [Option.bind_some, List.nil_append]
  rw [if_pos (by simp; omega)]
theorem tImplDrop (l : List S44) (i : Int) (hl : l.length ≤ 1048576) : Told (fun k => impl_DropPoint.f k l i) (dropV l i) := by
  have no : ¬ (Ln l ∧ 1 ≤ i ∧ i ≤ l.length - 2) → Told (fun k => impl_DropPoint.j0 k l i true) (dropV l i) := fun h => by
    unfold dropV; rw [if_neg h]
    refine Told.step (fun k => by simp only [impl_DropPoint.j0]; rw [if_pos trivial]) ?_
    exact Told.bind (Told.of (implClone l hl)) (Told.ret _)
  refine Told.bind (tImplLine l hl) ?_
  by_cases h1 : Ln l
  · refine Told.ite_t (by simpa using h1) (Told.bind (Told.of (implInRange _ _ _)) ?_)
    rw [Gen.w64 (by omega) (by omega)]
    by_cases h2 : 1 ≤ i ∧ i ≤ l.length - 2
    · have ev : dropV l i = if Ln (wo l i) then (wo l i, true) else (l, false) := by unfold dropV; exact if_pos ⟨h1, h2⟩
      rw [ev]
      refine Told.step (fun k => by simp only [impl_DropPoint.j0]; rw [if_neg (by simp [h2])]) ?_
      refine Told.bind (Told.of (implWo l i (by omega) (by omega) hl)) (Told.bind (tImplLine (wo l i) (Nat.le_trans (wo_len l i) hl)) ?_)
      by_cases h3 : Ln (wo l i)
      · rw [if_pos h3]; exact Told.ite_t (by simpa using h3) (Told.ret _)
      · rw [if_neg h3]; exact Told.ite_f (by simpa using h3) (Told.bind (Told.of (implClone l hl)) (Told.ret _))
    · rw [decide_eq_false h2]; exact no (fun h => h2 h.2)
  · exact Told.ite_f (by simpa using h1) (no (fun h => h1 h.1))
theorem pure_FnExactDropPoint : ∀ (l0 : (List S40)) (a1 : Int), (List.length l0 ≤ maxLen ∧ ∀ y ∈ l0, G40 y) → I64 a1 → ∃ k, laws_FnExactDropPoint.f k l0 a1 = some true := by
  intro a i ⟨ha, _⟩ _
  apply Told.ex
  unfold maxLen at ha
  refine Told.bind (Told.of (szPointS_some a 1048576 (by unfold maxLen; omega) (by omega) (by omega))) ?_
  by_cases h1 : (1048576 : Int) < a.length
  · rw [if_pos h1]; exact Told.ite_t (by omega) (Told.ret _)
  rw [if_neg h1]
  have la : (a.map cP).length ≤ 1048576 := by simp; omega
  have lv := Nat.le_trans (drop_len (a.map cP) i) la
  have tp := tToPointS a (by omega)
  refine Told.ite_f (by omega) (Told.bind tp (Told.bind (tSpecDrop _ i la) (Told.bind tp (Told.bind (tImplDrop _ i la) (Told.bind (tEqPointS _ lv) (Told.ite_t rfl ?_))))))
  obtain ⟨x, _, _, hx⟩ := tMarkP (a.map cP) la
  obtain ⟨y, y1, y2, hy⟩ := tMarkP (dropV (a.map cP) i).1 lv
  have held := tHeldP _ y lv y1 y2
  refine Told.step (fun k => by simp only [laws_FnExactDropPoint.j0, bne_self_eq_false, Bool.false_eq_true, if_false]; rfl) ?_
  refine Told.bind tp (Told.bind (tEqPointS _ la) (Told.ite_t rfl (Told.bind hx (Told.ite_f (by simp only; omega) (Told.bind (tEqPointS _ lv) (Told.ite_t rfl ?_))))))
  refine Told.step (fun k => by simp only [laws_FnExactDropPoint.j1, bne_self_eq_false, Bool.false_eq_true, if_false]; rfl) ?_
  refine Told.bind hy (Told.bind held (Told.ite_f (by omega) (Told.ite_t rfl (Told.bind tp (Told.bind (tImplDrop _ i la) (Told.bind (tEqPointS _ lv) (Told.ite_t rfl ?_)))))))
  refine Told.step (fun k => by simp only [laws_FnExactDropPoint.j2, bne_self_eq_false, Bool.false_eq_true, if_false]; rfl) ?_
  exact Told.bind held (Told.ite_f (by omega) (Told.ite_t rfl (Told.ret _)))
end Go.Proofs.Ytchmbcembbbplaa.MFnExactDropPoint
