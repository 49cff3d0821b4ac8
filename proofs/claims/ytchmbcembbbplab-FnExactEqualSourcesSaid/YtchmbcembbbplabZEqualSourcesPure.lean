/- The plain law behind FnExactEqualSources: what the printed functions compute answers true; no condition beyond the arguments' ranges. -/
import Derived.Test.YtchmbcembbbplabZEqualSourcesTold
import Derived.Test.YtchmbcembbbplabZEqualSourcesMx4
import Derived.Test.YtchmbcembbbplabZEqualSourcesOpn
namespace Go.Proofs.Ytchmbcembbbplab.MFnExactEqualSources
open Go Go.RowKit Go.Proofs.YtchmbcembbbplabW.PrintWords Go.Proofs.YtchmbcembbbplabW.PrintLast Go.Proofs.YtchmbcembbbplabW.PrintMore Go.Proofs.Ytchmbcembbbplab.Open
set_option linter.unusedVariables false
set_option linter.unusedSimpArgs false
def cP (p : S77) : S27 := ⟨p.f0, p.f1⟩
theorem toPointS_some (l : List S77) (hl : l.length ≤ 1048576) {k : Nat} (hk : l.length < k) : laws_toPointS.f k l = some (l.map cP) := by
  unfold laws_toPointS.f
  rw [if_pos (by omega), if_pos (by omega)]
  have := Gen.fill_all l z77 cP 0 (fun k out i => laws_toPointS.l0 k l out i) (fun k out i _ hi ho => by
      simp only [laws_toPointS.l0]
      rw [if_pos (by omega), if_pos (by omega)]
      simp only [laws_toPoint.f, Option.bind_some]
      rw [if_pos (by omega), Gen.w64s (by omega)]
      rfl) (fun k out ho => by
      simp only [laws_toPointS.l0]
      rw [if_neg (by omega)]) (k := k) (out := List.replicate l.length z27) (by simp) (by omega)
  simpa using this
theorem szPointS_some (l : List S77) (a : Int) (hl : l.length ≤ maxLen) (ha : 0 ≤ a) (ha' : a ≤ 1048576) : laws_szPointS.f l a = some (if a < l.length then -1 else a - l.length) := by
  unfold laws_szPointS.f
  unfold maxLen at hl
  rw [Gen.w64 (by omega) (by omega)]
  split <;> split <;> first | rfl | omega
theorem eqPointS_self (a : List S27) (hl : a.length ≤ 1048576) {k : Nat} (hk : a.length < k) : laws_eqPointS.f k a a = some true := by
  unfold laws_eqPointS.f
  rw [if_pos rfl]
  refine Gen.up_all a.length 0 true (fun k i => laws_eqPointS.l0 k a a i) (fun k i _ hi => ?_) (fun k _ => ?_) (k := k) (by omega)
  · simp only [laws_eqPointS.l0, laws_eqPoint.f]
    rw [if_pos (by omega), if_pos (by omega), if_pos (by omega)]
    simp only [if_true, Option.bind_some]
    rw [Gen.w64s (by omega)]
  · simp only [laws_eqPointS.l0]
    rw [if_neg (by omega)]
theorem tToPointS (l : List S77) (hl : l.length ≤ 1048576) : Told (fun k => laws_toPointS.f k l) (l.map cP) := ⟨l.length + 1, fun k hk => toPointS_some l hl (by omega)⟩
theorem tEqPointS (l : List S27) (hl : l.length ≤ 1048576) : Told (fun k => laws_eqPointS.f k l l) true := ⟨l.length + 1, fun k hk => eqPointS_self l hl (by omega)⟩
theorem szFeature_some (a0 a1 a2 : Int) (s : ByteArray) (l : List S77) (a : Int) (hs : s.size ≤ maxLen) (hl : l.length ≤ maxLen) (ha : 0 ≤ a) (ha' : a ≤ 1048576) : laws_szFeature.f a0 a1 a2 s l a = some (if a < s.size + l.length then -1 else a - s.size - l.length) := by
  have hs' := hs
  have hl' := hl
  unfold maxLen at hs' hl'
  unfold laws_szFeature.f
  rw [Gen.w64 (by omega) (by omega)]
  by_cases c : a - (s.size : Int) < 0
  · rw [if_pos c, if_pos (by omega)]
  · rw [if_neg c, szPointS_some l _ hl (by omega) (by omega)]
    simp only [Option.bind_some]
    by_cases c2 : a - (s.size : Int) < l.length
    · rw [if_pos c2, if_pos (by omega), if_pos (by omega)]
    · rw [if_neg c2, if_neg (by omega), if_neg (by omega)]
theorem tToFeature (a0 a1 a2 : Int) (s : ByteArray) (l : List S77) (hl : l.length ≤ 1048576) : Told (fun k => laws_toFeature.f k a0 a1 a2 s l) (a0, a1, a2, s, l.map cP) :=
  Told.bind (tToPointS l hl) (Told.ret _)
theorem tEqFeature (a0 a1 a2 : Int) (s : ByteArray) (l : List S27) (hl : l.length ≤ 1048576) : Told (fun k => laws_eqFeature.f k a0 a1 a2 s l a0 a1 a2 s l) true :=
  Told.ite_t rfl (Told.ite_t rfl (Told.ite_t rfl (Told.ite_t rfl (Told.bind (tEqPointS l hl) (Told.ite_t rfl (Told.ret _))))))
theorem rdF (l : List S95) (i : Nat) : rd_T95 l (i : Int) = l.getD i z95 := rfl
def FtOk (f : S95) : Prop := f.f3.size ≤ 1048576 ∧ f.f4.length ≤ 1048576
def SrOk (l : List S95) : Prop := l.length ≤ 1048576 ∧ ∀ i, i < l.length → FtOk (l.getD i z95)
theorem rdLF (l : List S92) (i : Nat) : rd_T92 l (i : Int) = l.getD i z92 := rfl
def cF (f : S92) : S95 := ⟨f.f0, f.f1, f.f2, f.f3, f.f4.map cP⟩
def LfOk (l : List S92) : Prop := ∀ i, i < l.length → (l.getD i z92).f3.size ≤ maxLen ∧ (l.getD i z92).f4.length ≤ maxLen
def LfSmall (l : List S92) : Prop := l.length ≤ 1048576 ∧ ∀ i, i < l.length → (l.getD i z92).f3.size ≤ 1048576 ∧ (l.getD i z92).f4.length ≤ 1048576
theorem tSzFeatureS (l : List S92) (a : Int) (hl : l.length ≤ maxLen) (ho : LfOk l) (ha : 0 ≤ a) (ha' : a ≤ 1048576) : ∃ r : Int, Told (fun k => laws_szFeatureS.f k l a) r ∧ r ≤ 1048576 ∧ (0 ≤ r → LfSmall l) := by
  have hl' := hl
  unfold maxLen at hl'
  by_cases c : a - (l.length : Int) < 0
  · refine ⟨-1, Told.eq (fun k => ?_) (Told.ret _), by omega, fun h => by omega⟩
    unfold laws_szFeatureS.f
    rw [Gen.w64 (by omega) (by omega), if_pos c]
  · have key : ∀ d (i : Nat) (b : Int), i + d = l.length → 0 ≤ b → b ≤ 1048576 → ∃ r : Int, Told (fun k => laws_szFeatureS.l0 k l b (i : Int)) r ∧ r ≤ 1048576 ∧ (0 ≤ r → ∀ j, i ≤ j → j < l.length → (l.getD j z92).f3.size ≤ 1048576 ∧ (l.getD j z92).f4.length ≤ 1048576) := by
      intro d
      induction d with
      | zero =>
        intro i b hi hb hb'
        exact ⟨b, Told.stepr fun k => by simp only [laws_szFeatureS.l0]; rw [if_neg (by omega)], hb', fun _ j h1 h2 => by omega⟩
      | succ d ih =>
        intro i b hi hb hb'
        obtain ⟨h3, h4⟩ := ho i (by omega)
        have st : ∀ r, Told (fun k => if (if b < (l.getD i z92).f3.size + (l.getD i z92).f4.length then (-1 : Int) else b - (l.getD i z92).f3.size - (l.getD i z92).f4.length) < 0 then some (-1) else laws_szFeatureS.l0 k l (if b < (l.getD i z92).f3.size + (l.getD i z92).f4.length then (-1 : Int) else b - (l.getD i z92).f3.size - (l.getD i z92).f4.length) ((i + 1 : Nat) : Int)) r → Told (fun k => laws_szFeatureS.l0 k l b (i : Int)) r := fun r h => Told.step (fun k => by
          simp only [laws_szFeatureS.l0]
          rw [if_pos (by omega), if_pos (by omega), rdLF, szFeature_some _ _ _ _ _ b h3 h4 hb hb', Gen.w64s (by omega)]
          rfl) h
        by_cases c2 : b < (l.getD i z92).f3.size + (l.getD i z92).f4.length
        · refine ⟨-1, st _ ?_, by omega, fun h => by omega⟩
          simp only [if_pos c2]
          exact Told.ite_t (by omega) (Told.ret _)
        · obtain ⟨r, hr, h5, h6⟩ := ih (i + 1) (b - (l.getD i z92).f3.size - (l.getD i z92).f4.length) (by omega) (by omega) (by omega)
          refine ⟨r, st _ ?_, h5, fun h j h1 h2 => ?_⟩
          · simp only [if_neg c2]
            exact Told.ite_f (by omega) hr
          · by_cases e : j = i
            · subst e; exact ⟨by omega, by omega⟩
            · exact h6 h j (by omega) h2
    obtain ⟨r, hr, h5, h6⟩ := key l.length 0 (a - l.length) (by omega) (by omega) (by omega)
    refine ⟨r, Told.eq (fun k => ?_) hr, h5, fun h => ⟨by omega, fun i hi => h6 h i (by omega) hi⟩⟩
    unfold laws_szFeatureS.f
    rw [Gen.w64 (by omega) (by omega), if_neg c]
    rfl
theorem small_ok {l : List S92} (h : LfSmall l) : SrOk (l.map cF) := by
  refine ⟨by simpa using h.1, fun i hi => ?_⟩
  have hi' : i < l.length := by simpa using hi
  have e : (l.map cF).getD i z95 = cF (l.getD i z92) := by
    rw [List.getD_eq_getElem?_getD, List.getD_eq_getElem?_getD, List.getElem?_map, List.getElem?_eq_getElem hi']; rfl
  rw [e]
  have := h.2 i hi'
  exact ⟨this.1, by unfold cF; simpa using this.2⟩
theorem tToFeatureS (l : List S92) (h : LfSmall l) : Told (fun k => laws_toFeatureS.f k l) (l.map cF) := by
  have hl := h.1
  refine Told.eq (M := fun k => laws_toFeatureS.l0 k l (List.replicate l.length z95) ((0 : Nat) : Int)) (fun k => ?_) ?_
  · unfold laws_toFeatureS.f
    rw [if_pos (by omega), if_pos (by omega)]; rfl
  have key : ∀ d out (i : Nat), i + d = l.length → out.length = l.length → Told (fun k => laws_toFeatureS.l0 k l out (i : Int)) (out.take i ++ (l.drop i).map cF) := by
    intro d
    induction d with
    | zero =>
      intro out i hi ho
      refine Told.stepr fun k => ?_
      simp only [laws_toFeatureS.l0]
      rw [if_neg (by omega), List.drop_of_length_le (by omega), List.take_of_length_le (by omega)]
      simp
    | succ d ih =>
      intro out i hi ho
      have hf := h.2 i (by omega)
      refine Told.step (fun k => by simp only [laws_toFeatureS.l0]; rw [if_pos (by omega), if_pos (by omega), rdLF, Gen.w64s (by omega)]) ?_
      refine Told.bind (tToFeature _ _ _ _ _ hf.2) ?_
      refine Told.ite_t (by omega) ?_
      have := ih (out.set i (cF (l.getD i z92))) (i + 1) (by omega) (by simpa using ho)
      rw [Gen.set_take_drop out i (by omega)] at this
      have e : l.drop i = l.getD i z92 :: l.drop (i + 1) := by
        rw [List.drop_eq_getElem_cons (by omega), List.getD_eq_getElem?_getD, List.getElem?_eq_getElem (by omega)]; rfl
      rw [e, List.map_cons]
      rw [List.append_assoc] at this
      exact this
  have := key l.length (List.replicate l.length z95) 0 (by omega) (by simp)
  simpa using this
theorem tEqFeatureS (l : List S95) (h : SrOk l) : Told (fun k => laws_eqFeatureS.f k l l) true := by
  have hl := h.1
  refine Told.ite_t rfl ?_
  refine Told.scan (n := l.length) false (fun _ => True) (fun k i => laws_eqFeatureS.l0 k l l i) (fun i hi h1 h2 => ?_) (fun _ => Told.stepr fun k => by simp only [laws_eqFeatureS.l0]; rw [if_neg (by omega)]) (fun hh => absurd (fun _ _ => trivial) hh)
  have hf := h.2 i hi
  refine Told.step (fun k => by simp only [laws_eqFeatureS.l0]; rw [if_pos (by omega), if_pos (by omega), if_pos (by omega), rdF, Gen.w64s (by omega)]) (Told.bind (tEqFeature _ _ _ _ _ hf.2) (Told.ite_t rfl (h1 trivial)))
theorem rdP' (l : List S27) (i : Nat) : rd_T27 l (i : Int) = l.getD i z27 := rfl
def pDiff (a b : List S27) (i : Nat) : Bool := !(((a.getD i z27).f0) == ((b.getD i z27).f0)) || (!(((a.getD i z27).f1) == ((b.getD i z27).f1)))
def eqlV (a b : List S27) : Bool := decide (a.length = b.length ∧ ∀ i, i < a.length → pDiff a b i = false)
theorem tSpecEql (a b : List S27) (ha : a.length ≤ 1048576) (hb : b.length ≤ 1048576) : Told (fun k => spec_EqualLines.f k a b) (eqlV a b) := by
  by_cases h : a.length = b.length
  · refine Told.ite_t (by omega) ?_
    refine Told.scan (n := a.length) false (fun i => pDiff a b i = false) (fun k i => spec_EqualLines.l0 k a b i) (fun i hi h1 h2 => ?_) (fun hh => ?_) (fun hh => decide_eq_false fun hs => hh hs.2)
    · refine Told.step (fun k => by simp only [spec_EqualLines.l0]; rw [if_pos (by omega), if_pos (by omega), if_pos (by omega), rdP', rdP', Gen.w64s (by omega)]) ?_
      by_cases c : pDiff a b i = true
      · rw [h2 (by simp [c])]; exact Told.ite_t c (Told.ret _)
      · exact Told.ite_f c (h1 (by simpa using c))
    · have e : eqlV a b = true := decide_eq_true ⟨h, hh⟩
      rw [e]
      exact Told.stepr fun k => by simp only [spec_EqualLines.l0]; rw [if_neg (by omega)]
  · have e : eqlV a b = false := decide_eq_false fun hs => h hs.1
    rw [e]; exact Told.ite_f (by omega) (Told.ret _)
theorem tImplEql (a b : List S27) (ha : a.length ≤ 1048576) (hb : b.length ≤ 1048576) : Told (fun k => impl_Point.f k a b) (eqlV a b) := by
  by_cases h : a.length = b.length
  · refine Told.ite_t (by omega) ?_
    refine Told.scan (n := a.length) false (fun i => pDiff a b i = false) (fun k i => impl_Point.l0 k a b (a.length : Int) i) (fun i hi h1 h2 => ?_) (fun hh => ?_) (fun hh => decide_eq_false fun hs => hh hs.2)
    · refine Told.step (fun k => by simp only [impl_Point.l0]; rw [if_pos (by omega), if_pos (by omega), if_pos (by omega), if_pos (by omega), rdP', rdP', Gen.w64s (by omega)]) ?_
      by_cases c : pDiff a b i = true
      · rw [h2 (by simp [c])]; exact Told.ite_t c (Told.ret _)
      · exact Told.ite_f c (h1 (by simpa using c))
    · have e : eqlV a b = true := decide_eq_true ⟨h, hh⟩
      rw [e]
      exact Told.stepr fun k => by simp only [impl_Point.l0]; rw [if_neg (by omega)]
  · have e : eqlV a b = false := decide_eq_false fun hs => h hs.1
    rw [e]; exact Told.ite_f (by omega) (Told.ret _)
def eqfV (a0 a1 a2 : Int) (s : ByteArray) (l : List S27) (b0 b1 b2 : Int) (t : ByteArray) (m : List S27) : Bool := if a0 = b0 ∧ a1 = b1 ∧ a2 = b2 ∧ s.toList = t.toList then eqlV l m else false
theorem tEqfGo {a0 a1 a2 : Int} {s : ByteArray} {l : List S27} {b0 b1 b2 : Int} {t : ByteArray} {m : List S27} {L : Nat → Option Bool} (h : Told L (eqlV l m)) :
    Told (fun k => if a0 = b0 then (if a1 = b1 then (if a2 = b2 then (if s.toList = t.toList then ((L k).bind fun t112 => (some t112)) else (some false)) else (some false)) else (some false)) else (some false)) (eqfV a0 a1 a2 s l b0 b1 b2 t m) := by
  by_cases h0 : a0 = b0
  · refine Told.ite_t h0 ?_
    by_cases h1 : a1 = b1
    · refine Told.ite_t h1 ?_
      by_cases h2 : a2 = b2
      · refine Told.ite_t h2 ?_
        by_cases h3 : s.toList = t.toList
        · have e : eqfV a0 a1 a2 s l b0 b1 b2 t m = eqlV l m := by unfold eqfV; exact if_pos ⟨h0, h1, h2, h3⟩
          rw [e]; exact Told.ite_t h3 (Told.bind h (Told.ret _))
        · have e : eqfV a0 a1 a2 s l b0 b1 b2 t m = false := by unfold eqfV; exact if_neg fun h => h3 h.2.2.2
          rw [e]; exact Told.ite_f h3 (Told.ret _)
      · have e : eqfV a0 a1 a2 s l b0 b1 b2 t m = false := by unfold eqfV; exact if_neg fun h => h2 h.2.2.1
        rw [e]; exact Told.ite_f h2 (Told.ret _)
    · have e : eqfV a0 a1 a2 s l b0 b1 b2 t m = false := by unfold eqfV; exact if_neg fun h => h1 h.2.1
      rw [e]; exact Told.ite_f h1 (Told.ret _)
  · have e : eqfV a0 a1 a2 s l b0 b1 b2 t m = false := by unfold eqfV; exact if_neg fun h => h0 h.1
    rw [e]; exact Told.ite_f h0 (Told.ret _)
def eqfB (x y : S95) : Bool := eqfV x.f0 x.f1 x.f2 x.f3 x.f4 y.f0 y.f1 y.f2 y.f3 y.f4
def eqsV (a b : List S95) : Bool := decide (a.length = b.length ∧ ∀ i, i < a.length → eqfB (a.getD i z95) (b.getD i z95) = true)
theorem tSpecEqs (a b : List S95) (ha : SrOk a) (hb : SrOk b) : Told (fun k => spec_EqualSources.f k a b) (eqsV a b) := by
  have hal := ha.1
  have hbl := hb.1
  by_cases h : a.length = b.length
  · refine Told.ite_t (by omega) ?_
    refine Told.scan (n := a.length) false (fun i => eqfB (a.getD i z95) (b.getD i z95) = true) (fun k i => spec_EqualSources.l0 k a b i) (fun i hi h1 h2 => ?_) (fun hh => ?_) (fun hh => decide_eq_false fun hs => hh hs.2)
    · refine Told.step (fun k => by simp only [spec_EqualSources.l0]; rw [if_pos (by omega), if_pos (by omega), if_pos (by omega), rdF, rdF, Gen.w64s (by omega)]) ?_
      refine Told.bind (tEqfGo (tSpecEql _ _ (ha.2 i hi).2 (hb.2 i (by omega)).2)) ?_
      by_cases c : eqfB (a.getD i z95) (b.getD i z95) = true
      · exact Told.ite_t c (h1 c)
      · rw [h2 c]; exact Told.ite_f c (Told.ret _)
    · have e : eqsV a b = true := decide_eq_true ⟨h, hh⟩
      rw [e]
      exact Told.stepr fun k => by simp only [spec_EqualSources.l0]; rw [if_neg (by omega)]
  · have e : eqsV a b = false := decide_eq_false fun hs => h hs.1
    rw [e]; exact Told.ite_f (by omega) (Told.ret _)
theorem tImplEqs (a b : List S95) (ha : SrOk a) (hb : SrOk b) : Told (fun k => impl_EqualSources.f k a b) (eqsV a b) := by
  have hal := ha.1
  have hbl := hb.1
  suffices hf : Told (fun k => impl_Feature.f k a b) (eqsV a b) from Told.bind hf (Told.ret _)
  by_cases h : a.length = b.length
  · refine Told.ite_t (by omega) ?_
    refine Told.scan (n := a.length) false (fun i => eqfB (a.getD i z95) (b.getD i z95) = true) (fun k i => impl_Feature.l0 k b a (a.length : Int) i) (fun i hi h1 h2 => ?_) (fun hh => ?_) (fun hh => decide_eq_false fun hs => hh hs.2)
    · refine Told.step (fun k => by simp only [impl_Feature.l0]; rw [if_pos (by omega), if_pos (by omega), if_pos (by omega), if_pos (by omega), rdF, rdF, Gen.w64s (by omega)]) ?_
      refine Told.bind (tEqfGo (tImplEql _ _ (ha.2 i hi).2 (hb.2 i (by omega)).2)) ?_
      by_cases c : eqfB (a.getD i z95) (b.getD i z95) = true
      · exact Told.ite_t c (h1 c)
      · rw [h2 c]; exact Told.ite_f c (Told.ret _)
    · have e : eqsV a b = true := decide_eq_true ⟨h, hh⟩
      rw [e]
      exact Told.stepr fun k => by simp only [impl_Feature.l0]; rw [if_neg (by omega)]
  · have e : eqsV a b = false := decide_eq_false fun hs => h hs.1
    rw [e]; exact Told.ite_f (by omega) (Told.ret _)
theorem pure_FnExactEqualSources : ∀ (l0 : (List S92)) (l1 : (List S92)), (List.length l0 ≤ maxLen ∧ ∀ y ∈ l0, G92 y) → (List.length l1 ≤ maxLen ∧ ∀ y ∈ l1, G92 y) → ∃ k, laws_FnExactEqualSources.f k l0 l1 = some true := by
  intro l m ⟨hl, hg⟩ ⟨hm, hg'⟩
  apply Told.ex
  have ho : LfOk l := fun i hi => by
    have := hg (l.getD i z92) (by rw [List.getD_eq_getElem?_getD, List.getElem?_eq_getElem hi]; exact List.getElem_mem hi)
    obtain ⟨_, _, _, h3, h4, _⟩ := this
    exact ⟨h3, h4⟩
  have ho' : LfOk m := fun i hi => by
    have := hg' (m.getD i z92) (by rw [List.getD_eq_getElem?_getD, List.getElem?_eq_getElem hi]; exact List.getElem_mem hi)
    obtain ⟨_, _, _, h3, h4, _⟩ := this
    exact ⟨h3, h4⟩
  obtain ⟨r, hr, h5, h6⟩ := tSzFeatureS l 1048576 hl ho (by omega) (by omega)
  refine Told.bind hr ?_
  by_cases c : r < 0
  · exact Told.ite_t c (Told.ret _)
  refine Told.ite_f c ?_
  obtain ⟨r', hr', h5', h6'⟩ := tSzFeatureS m r hm ho' (by omega) h5
  refine Told.bind hr' ?_
  by_cases c' : r' < 0
  · exact Told.ite_t c' (Told.ret _)
  refine Told.ite_f c' ?_
  have sm := h6 (by omega)
  have sm' := h6' (by omega)
  have ok := small_ok sm
  have ok' := small_ok sm'
  have tf := tToFeatureS l sm
  have tg := tToFeatureS m sm'
  exact Told.bind tf (Told.bind tg (Told.bind (tSpecEqs _ _ ok ok') (Told.bind tf (Told.bind tg (Told.bind (tImplEqs _ _ ok ok') (Told.ite_f (by simp) (Told.bind tf (Told.bind (tEqFeatureS _ ok) (Told.ite_t rfl (Told.bind tg (Told.bind (tEqFeatureS _ ok') (Told.ite_t rfl (Told.ret _)))))))))))))
end Go.Proofs.Ytchmbcembbbplab.MFnExactEqualSources
