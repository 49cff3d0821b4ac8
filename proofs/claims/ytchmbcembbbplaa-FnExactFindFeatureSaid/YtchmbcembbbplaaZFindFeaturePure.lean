/- The plain law behind FnExactFindFeature: what the printed functions compute answers true; no condition beyond the arguments' ranges. -/
import Derived.Test.YtchmbcembbbplaaZFindFeatureTold
import Derived.Test.YtchmbcembbbplaaZFindFeatureMx2
import Derived.Test.YtchmbcembbbplaaZFindFeatureOpn
namespace Go.Proofs.Ytchmbcembbbplaa.MFnExactFindFeature
open Go Go.RowKit Go.Proofs.YtchmbcembbbplaaW.PrintWords Go.Proofs.YtchmbcembbbplaaW.PrintLast Go.Proofs.YtchmbcembbbplaaW.PrintMore Go.Proofs.Ytchmbcembbbplaa.Open
set_option linter.unusedVariables false
set_option linter.unusedSimpArgs false
def cP (p : S40) : S44 := ⟨p.f0, p.f1⟩
theorem toPointS_some (l : List S40) (hl : l.length ≤ 1048576) {k : Nat} (hk : l.length < k) : laws_toPointS.f k l = some (l.map cP) := by
  unfold laws_toPointS.f
  rw [if_pos (by omega), if_pos (by omega)]
  have := Gen.fill_all l z40 cP 0 (fun k out i => laws_toPointS.l0 k l out i) (fun k out i _ hi ho => by
      simp only [laws_toPointS.l0]
      rw [if_pos (by omega), if_pos (by omega)]
      simp only [laws_toPoint.f, Option.bind_some]
      rw [if_pos (by omega), Gen.w64s (by omega)]
      rfl) (fun k out ho => by
      simp only [laws_toPointS.l0]
      rw [if_neg (by omega)]) (k := k) (out := List.replicate l.length z44) (by simp) (by omega)
  simpa using this
theorem szPointS_some (l : List S40) (a : Int) (hl : l.length ≤ maxLen) (ha : 0 ≤ a) (ha' : a ≤ 1048576) : laws_szPointS.f l a = some (if a < l.length then -1 else a - l.length) := by
  unfold laws_szPointS.f
  unfold maxLen at hl
  rw [Gen.w64 (by omega) (by omega)]
  split <;> split <;> first | rfl | omega
theorem eqPointS_self (a : List S44) (hl : a.length ≤ 1048576) {k : Nat} (hk : a.length < k) : laws_eqPointS.f k a a = some true := by
  unfold laws_eqPointS.f
  rw [if_pos rfl]
  refine Gen.up_all a.length 0 true (fun k i => laws_eqPointS.l0 k a a i) (fun k i _ hi => ?_) (fun k _ => ?_) (k := k) (by omega)
  · simp only [laws_eqPointS.l0, laws_eqPoint.f]
    rw [if_pos (by omega), if_pos (by omega), if_pos (by omega)]
    simp only [if_true, Option.bind_some]
    rw [Gen.w64s (by omega)]
  · simp only [laws_eqPointS.l0]
    rw [if_neg (by omega)]
theorem tToPointS (l : List S40) (hl : l.length ≤ 1048576) : Told (fun k => laws_toPointS.f k l) (l.map cP) := ⟨l.length + 1, fun k hk => toPointS_some l hl (by omega)⟩
theorem tEqPointS (l : List S44) (hl : l.length ≤ 1048576) : Told (fun k => laws_eqPointS.f k l l) true := ⟨l.length + 1, fun k hk => eqPointS_self l hl (by omega)⟩
theorem szFeature_some (a0 a1 a2 : Int) (s : ByteArray) (l : List S40) (a : Int) (hs : s.size ≤ maxLen) (hl : l.length ≤ maxLen) (ha : 0 ≤ a) (ha' : a ≤ 1048576) : laws_szFeature.f a0 a1 a2 s l a = some (if a < s.size + l.length then -1 else a - s.size - l.length) := by
  have hs' := hs
  have hl' := hl
  unfold maxLen at hs' hl'
  unfold laws_szFeature.f
  rw [Gen.w64 (by omega) (by omega)]
  by_cases c : a - (s.size : Int) < 0
  · rw [if_pos c, if_pos (by omega)]
  · rw [if_neg c, szPointS_some l _ hl (by omega) (by omega)]
    simp only [Option.bind_some]
    by_cases c2 : a - (s.size : Int) < l.length
    · rw [if_pos c2, if_pos (by omega), if_pos (by omega)]
    · rw [if_neg c2, if_neg (by omega), if_neg (by omega)]
theorem tToFeature (a0 a1 a2 : Int) (s : ByteArray) (l : List S40) (hl : l.length ≤ 1048576) : Told (fun k => laws_toFeature.f k a0 a1 a2 s l) (a0, a1, a2, s, l.map cP) :=
  Told.bind (tToPointS l hl) (Told.ret _)
theorem tEqFeature (a0 a1 a2 : Int) (s : ByteArray) (l : List S44) (hl : l.length ≤ 1048576) : Told (fun k => laws_eqFeature.f k a0 a1 a2 s l a0 a1 a2 s l) true :=
  Told.ite_t rfl (Told.ite_t rfl (Told.ite_t rfl (Told.ite_t rfl (Told.bind (tEqPointS l hl) (Told.ite_t rfl (Told.ret _))))))
theorem rdF (l : List S27) (i : Nat) : rd_T27 l (i : Int) = l.getD i z27 := rfl
def FtOk (f : S27) : Prop := f.f3.size ≤ 1048576 ∧ f.f4.length ≤ 1048576
def SrOk (l : List S27) : Prop := l.length ≤ 1048576 ∧ ∀ i, i < l.length → FtOk (l.getD i z27)
theorem rdLF (l : List S75) (i : Nat) : rd_T75 l (i : Int) = l.getD i z75 := rfl
def cF (f : S75) : S27 := ⟨f.f0, f.f1, f.f2, f.f3, f.f4.map cP⟩
def LfOk (l : List S75) : Prop := ∀ i, i < l.length → (l.getD i z75).f3.size ≤ maxLen ∧ (l.getD i z75).f4.length ≤ maxLen
def LfSmall (l : List S75) : Prop := l.length ≤ 1048576 ∧ ∀ i, i < l.length → (l.getD i z75).f3.size ≤ 1048576 ∧ (l.getD i z75).f4.length ≤ 1048576
theorem tSzFeatureS (l : List S75) (a : Int) (hl : l.length ≤ maxLen) (ho : LfOk l) (ha : 0 ≤ a) (ha' : a ≤ 1048576) : ∃ r : Int, Told (fun k => laws_szFeatureS.f k l a) r ∧ r ≤ 1048576 ∧ (0 ≤ r → LfSmall l) := by
  have hl' := hl
  unfold maxLen at hl'
  by_cases c : a - (l.length : Int) < 0
  · refine ⟨-1, Told.eq (fun k => ?_) (Told.ret _), by omega, fun h => by omega⟩
    unfold laws_szFeatureS.f
    rw [Gen.w64 (by omega) (by omega), if_pos c]
  · have key : ∀ d (i : Nat) (b : Int), i + d = l.length → 0 ≤ b → b ≤ 1048576 → ∃ r : Int, Told (fun k => laws_szFeatureS.l0 k l b (i : Int)) r ∧ r ≤ 1048576 ∧ (0 ≤ r → ∀ j, i ≤ j → j < l.length → (l.getD j z75).f3.size ≤ 1048576 ∧ (l.getD j z75).f4.length ≤ 1048576) := by
      intro d
      induction d with
      | zero =>
        intro i b hi hb hb'
        exact ⟨b, Told.stepr fun k => by simp only [laws_szFeatureS.l0]; rw [if_neg (by omega)], hb', fun _ j h1 h2 => by omega⟩
      | succ d ih =>
        intro i b hi hb hb'
        obtain ⟨h3, h4⟩ := ho i (by omega)
        have st : ∀ r, Told (fun k => if (if b < (l.getD i z75).f3.size + (l.getD i z75).f4.length then (-1 : Int) else b - (l.getD i z75).f3.size - (l.getD i z75).f4.length) < 0 then some (-1) else laws_szFeatureS.l0 k l (if b < (l.getD i z75).f3.size + (l.getD i z75).f4.length then (-1 : Int) else b - (l.getD i z75).f3.size - (l.getD i z75).f4.length) ((i + 1 : Nat) : Int)) r → Told (fun k => laws_szFeatureS.l0 k l b (i : Int)) r := fun r h => Told.step (fun k => by
          simp only [laws_szFeatureS.l0]
          rw [if_pos (by omega), if_pos (by omega), rdLF, szFeature_some _ _ _ _ _ b h3 h4 hb hb', Gen.w64s (by omega)]
          rfl) h
        by_cases c2 : b < (l.getD i z75).f3.size + (l.getD i z75).f4.length
        · refine ⟨-1, st _ ?_, by omega, fun h => by omega⟩
          simp only [if_pos c2]
          exact Told.ite_t (by omega) (Told.ret _)
        · obtain ⟨r, hr, h5, h6⟩ := ih (i + 1) (b - (l.getD i z75).f3.size - (l.getD i z75).f4.length) (by omega) (by omega) (by omega)
          refine ⟨r, st _ ?_, h5, fun h j h1 h2 => ?_⟩
          · simp only [if_neg c2]
            exact Told.ite_f (by omega) hr
          · by_cases e : j = i
            · subst e; exact ⟨by omega, by omega⟩
            · exact h6 h j (by omega) h2
    obtain ⟨r, hr, h5, h6⟩ := key l.length 0 (a - l.length) (by omega) (by omega) (by omega)
    refine ⟨r, Told.eq (fun k => ?_) hr, h5, fun h => ⟨by omega, fun i hi => h6 h i (by omega) hi⟩⟩
    unfold laws_szFeatureS.f
    rw [Gen.w64 (by omega) (by omega), if_neg c]
    rfl
theorem small_ok {l : List S75} (h : LfSmall l) : SrOk (l.map cF) := by
  refine ⟨by simpa using h.1, fun i hi => ?_⟩
  have hi' : i < l.length := by simpa using hi
  have e : (l.map cF).getD i z27 = cF (l.getD i z75) := by
    rw [List.getD_eq_getElem?_getD, List.getD_eq_getElem?_getD, List.getElem?_map, List.getElem?_eq_getElem hi']; rfl
  rw [e]
  have := h.2 i hi'
  exact ⟨this.1, by unfold cF; simpa using this.2⟩
theorem tToFeatureS (l : List S75) (h : LfSmall l) : Told (fun k => laws_toFeatureS.f k l) (l.map cF) := by
  have hl := h.1
  refine Told.eq (M := fun k => laws_toFeatureS.l0 k l (List.replicate l.length z27) ((0 : Nat) : Int)) (fun k => ?_) ?_
  · unfold laws_toFeatureS.f
    rw [if_pos (by omega), if_pos (by omega)]; rfl
  have key : ∀ d out (i : Nat), i + d = l.length → out.length = l.length → Told (fun k => laws_toFeatureS.l0 k l out (i : Int)) (out.take i ++ (l.drop i).map cF) := by
    intro d
    induction d with
    | zero =>
      intro out i hi ho
      refine Told.stepr fun k => ?_
      simp only [laws_toFeatureS.l0]
      rw [if_neg (by omega), List.drop_of_length_le (by omega), List.take_of_length_le (by omega)]
      simp
    | succ d ih =>
      intro out i hi ho
      have hf := h.2 i (by omega)
      refine Told.step (fun k => by simp only [laws_toFeatureS.l0]; rw [if_pos (by omega), if_pos (by omega), rdLF, Gen.w64s (by omega)]) ?_
      refine Told.bind (tToFeature _ _ _ _ _ hf.2) ?_
      refine Told.ite_t (by omega) ?_
      have := ih (out.set i (cF (l.getD i z75))) (i + 1) (by omega) (by simpa using ho)
      rw [Gen.set_take_drop out i (by omega)] at this
      have e : l.drop i = l.getD i z75 :: l.drop (i + 1) := by
        rw [List.drop_eq_getElem_cons (by omega), List.getD_eq_getElem?_getD, List.getElem?_eq_getElem (by omega)]; rfl
      rw [e, List.map_cons]
      rw [List.append_assoc] at this
      exact this
  have := key l.length (List.replicate l.length z27) 0 (by omega) (by simp)
  simpa using this
theorem tEqFeatureS (l : List S27) (h : SrOk l) : Told (fun k => laws_eqFeatureS.f k l l) true := by
  have hl := h.1
  refine Told.ite_t rfl ?_
  refine Told.scan (n := l.length) false (fun _ => True) (fun k i => laws_eqFeatureS.l0 k l l i) (fun i hi h1 h2 => ?_) (fun _ => Told.stepr fun k => by simp only [laws_eqFeatureS.l0]; rw [if_neg (by omega)]) (fun hh => absurd (fun _ _ => trivial) hh)
  have hf := h.2 i hi
  refine Told.step (fun k => by simp only [laws_eqFeatureS.l0]; rw [if_pos (by omega), if_pos (by omega), if_pos (by omega), rdF, Gen.w64s (by omega)]) (Told.bind (tEqFeature _ _ _ _ _ hf.2) (Told.ite_t rfl (h1 trivial)))
def ffV (l : List S27) (id : Int) : Nat → Int
  | 0 => -1
  | d + 1 => if (l.getD (l.length - (d + 1)) z27).f0 = id then ((l.length - (d + 1) : Nat) : Int) else ffV l id d
theorem tSpecFF (l : List S27) (id : Int) (hl : l.length ≤ 1048576) : ∀ d (i : Nat), i + d = l.length → Told (fun k => spec_FindFeature.l0 k l id i) (ffV l id d) := by
  intro d
  induction d with
  | zero => intro i hi; exact Told.stepr fun k => by simp only [spec_FindFeature.l0]; rw [if_neg (by omega)]; rfl
  | succ d ih =>
    intro i hi
    have e : l.length - (d + 1) = i := by omega
    rw [ffV, e]
    refine Told.step (fun k => by simp only [spec_FindFeature.l0]; rw [if_pos (by omega), if_pos (by omega), rdF, Gen.w64s (by omega)]) ?_
    by_cases c : (l.getD i z27).f0 = id
    · have e2 : (if (l.getD i z27).f0 = id then (i : Int) else ffV l id d) = i := if_pos c
      rw [e2]; exact Told.ite_t c (Told.ret _)
    · have e2 : (if (l.getD i z27).f0 = id then (i : Int) else ffV l id d) = ffV l id d := if_neg c
      rw [e2]; exact Told.ite_f c (ih (i + 1) (by omega))
theorem tImplFF (l : List S27) (id : Int) (hl : l.length ≤ 1048576) : ∀ d (i : Nat), i + d = l.length → Told (fun k => impl_FindFeature.l0 k l id i) (ffV l id d) := by
  intro d
  induction d with
  | zero => intro i hi; exact Told.stepr fun k => by simp only [impl_FindFeature.l0]; rw [if_neg (by omega)]; rfl
  | succ d ih =>
    intro i hi
    have e : l.length - (d + 1) = i := by omega
    rw [ffV, e]
    refine Told.step (fun k => by simp only [impl_FindFeature.l0]; rw [if_pos (by omega), if_pos (by omega), rdF, Gen.w64s (by omega)]) ?_
    by_cases c : (l.getD i z27).f0 = id
    · have e2 : (if (l.getD i z27).f0 = id then (i : Int) else ffV l id d) = i := if_pos c
      rw [e2]; exact Told.ite_t c (Told.ret _)
    · have e2 : (if (l.getD i z27).f0 = id then (i : Int) else ffV l id d) = ffV l id d := if_neg c
      rw [e2]; exact Told.ite_f c (ih (i + 1) (by omega))
theorem pure_FnExactFindFeature : ∀ (l0 : (List S75)) (a1 : Int), (List.length l0 ≤ maxLen ∧ ∀ y ∈ l0, G75 y) → I64 a1 → ∃ k, laws_FnExactFindFeature.f k l0 a1 = some true := by
  intro l id ⟨hl, hg⟩ _
  apply Told.ex
  have ho : LfOk l := fun i hi => by
    have := hg (l.getD i z75) (by rw [List.getD_eq_getElem?_getD, List.getElem?_eq_getElem hi]; exact List.getElem_mem hi)
    obtain ⟨_, _, _, h3, h4, _⟩ := this
    exact ⟨h3, h4⟩
  obtain ⟨r, hr, h5, h6⟩ := tSzFeatureS l 1048576 hl ho (by omega) (by omega)
  refine Told.bind hr ?_
  by_cases c : r < 0
  · exact Told.ite_t c (Told.ret _)
  have sm := h6 (by omega)
  have ok := small_ok sm
  have tf := tToFeatureS l sm
  have ts : Told (fun k => spec_FindFeature.f k (l.map cF) id) (ffV (l.map cF) id (l.map cF).length) := tSpecFF _ id ok.1 _ 0 (by omega)
  have ti : Told (fun k => impl_FindFeature.f k (l.map cF) id) (ffV (l.map cF) id (l.map cF).length) := tImplFF _ id ok.1 _ 0 (by omega)
  exact Told.ite_f c (Told.bind tf (Told.bind ts (Told.bind tf (Told.bind ti (Told.ite_t rfl (Told.bind tf (Told.bind (tEqFeatureS _ ok) (Told.ite_t rfl (Told.ret _)))))))))
end Go.Proofs.Ytchmbcembbbplaa.MFnExactFindFeature
