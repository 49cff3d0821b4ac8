/- The plain law behind FnExactEqualFeatures: what the printed functions compute answers true; no condition beyond the arguments' ranges. -/
import Derived.Test.YtchmbcembbbplaaTold
import Derived.Test.YtchmbcembbbplaaMFnExactEqualFeaturesx4
import Derived.Test.YtchmbcembbbplaaOpnFnExactEqualFeatures
namespace Go.Proofs.Ytchmbcembbbplaa.MFnExactEqualFeatures
open Go Go.RowKit Go.Proofs.YtchmbcembbbplaaW.PrintWords Go.Proofs.YtchmbcembbbplaaW.PrintLast Go.Proofs.YtchmbcembbbplaaW.PrintMore Go.Proofs.Ytchmbcembbbplaa.Open
set_option linter.unusedVariables false
set_option linter.unusedSimpArgs false

/-! points: laws' to impl's -/
def cP (p : S40) : S44 := ⟨p.f0, p.f1⟩
theorem toPointS_some (l : List S40) (hl : l.length ≤ 1048576) {k : Nat} (hk : l.length < k) : laws_toPointS.f k l = some (l.map cP) := by
  unfold laws_toPointS.f
  rw [if_pos (by omega), if_pos (by omega)]
  have := Gen.fill_all l z40 cP 0 (fun k out i => laws_toPointS.l0 k l out i) (fun k out i _ hi ho => by
      simp only [laws_toPointS.l0]
      rw [if_pos (by omega), if_pos (by omega)]
      simp only [laws_toPoint.f, Option.bind_some]
      rw [if_pos (by omega), Gen.w64s (by omega)]
      rfl) (fun k out ho => by
      simp only [laws_toPointS.l0]
      rw [if_neg (by omega)]) (k := k) (out := List.replicate l.length z44) (by simp) (by omega)
  simpa using this
theorem szPointS_some (l : List S40) (a : Int) (hl : l.length ≤ maxLen) (ha : 0 ≤ a) (ha' : a ≤ 1048576) : laws_szPointS.f l a = some (if a < l.length then -1 else a - l.length) := by
  unfold laws_szPointS.f
  unfold maxLen at hl
  rw [Gen.w64 (by omega) (by omega)]
  split <;> split <;> first | rfl | omega

theorem eqPointS_self (a : List S44) (hl : a.length ≤ 1048576) {k : Nat} (hk : a.length < k) : laws_eqPointS.f k a a = some true := by
  unfold laws_eqPointS.f
  rw [if_pos rfl]
  refine Gen.up_all a.length 0 true (fun k i => laws_eqPointS.l0 k a a i) (fun k i _ hi => ?_) (fun k _ => ?_) (k := k) (by omega)
  · simp only [laws_eqPointS.l0, laws_eqPoint.f]
    rw [if_pos (by omega), if_pos (by omega), if_pos (by omega)]
    simp only [if_true, Option.bind_some]
    rw [Gen.w64s (by omega)]
  · simp only [laws_eqPointS.l0]
    rw [if_neg (by omega)]

theorem tToPointS (l : List S40) (hl : l.length ≤ 1048576) : Told (fun k => laws_toPointS.f k l) (l.map cP) := ⟨l.length + 1, fun k hk => toPointS_some l hl (by omega)⟩
theorem tEqPointS (l : List S44) (hl : l.length ≤ 1048576) : Told (fun k => laws_eqPointS.f k l l) true := ⟨l.length + 1, fun k hk => eqPointS_self l hl (by omega)⟩

/-! the laws' features -/
theorem szFeature_some (a0 a1 a2 : Int) (s : ByteArray) (l : List S40) (a : Int) (hs : s.size ≤ maxLen) (hl : l.length ≤ maxLen) (ha : 0 ≤ a) (ha' : a ≤ 1048576) : laws_szFeature.f a0 a1 a2 s l a = some (if a < s.size + l.length then -1 else a - s.size - l.length) := by
  have hs' := hs
  have hl' := hl
  unfold maxLen at hs' hl'
  unfold laws_szFeature.f
  rw [Gen.w64 (by omega) (by omega)]
  by_cases c : a - (s.size : Int) < 0
  · rw [if_pos c, if_pos (by omega)]
  · rw [if_neg c, szPointS_some l _ hl (by omega) (by omega)]
    simp only [Option.bind_some]
    by_cases c2 : a - (s.size : Int) < l.length
    · rw [if_pos c2, if_pos (by omega), if_pos (by omega)]
    · rw [if_neg c2, if_neg (by omega), if_neg (by omega)]
theorem tToFeature (a0 a1 a2 : Int) (s : ByteArray) (l : List S40) (hl : l.length ≤ 1048576) : Told (fun k => laws_toFeature.f k a0 a1 a2 s l) (a0, a1, a2, s, l.map cP) :=
  Told.bind (tToPointS l hl) (Told.ret _)
theorem tEqFeature (a0 a1 a2 : Int) (s : ByteArray) (l : List S44) (hl : l.length ≤ 1048576) : Told (fun k => laws_eqFeature.f k a0 a1 a2 s l a0 a1 a2 s l) true :=
  Told.ite_t rfl (Told.ite_t rfl (Told.ite_t rfl (Told.ite_t rfl (Told.bind (tEqPointS l hl) (Told.ite_t rfl (Told.ret _))))))

/-! equal lines -/
theorem rdP' (l : List S44) (i : Nat) : rd_T44 l (i : Int) = l.getD i z44 := rfl
def pDiff (a b : List S44) (i : Nat) : Bool := !(((a.getD i z44).f0) == ((b.getD i z44).f0)) || (!(((a.getD i z44).f1) == ((b.getD i z44).f1)))
def eqlV (a b : List S44) : Bool := decide (a.length = b.length ∧ ∀ i, i < a.length → pDiff a b i = false)
theorem tSpecEql (a b : List S44) (ha : a.length ≤ 1048576) (hb : b.length ≤ 1048576) : Told (fun k => spec_EqualLines.f k a b) (eqlV a b) := by
  by_cases h : a.length = b.length
  · refine Told.ite_t (by omega) ?_
    refine Told.scan (n := a.length) false (fun i => pDiff a b i = false) (fun k i => spec_EqualLines.l0 k a b i) (fun i hi h1 h2 => ?_) (fun hh => ?_) (fun hh => decide_eq_false fun hs => hh hs.2)
    · refine Told.step (fun k => by simp only [spec_EqualLines.l0]; rw [if_pos (by omega), if_pos (by omega), if_pos (by omega), rdP', rdP', Gen.w64s (by omega)]) ?_
      by_cases c : pDiff a b i = true
      · rw [h2 (by simp [c])]; exact Told.ite_t c (Told.ret _)
      · exact Told.ite_f c (h1 (by simpa using c))
    · have e : eqlV a b = true := decide_eq_true ⟨h, hh⟩
      rw [e]
      exact Told.stepr fun k => by simp only [spec_EqualLines.l0]; rw [if_neg (by omega)]
  · have e : eqlV a b = false := decide_eq_false fun hs => h hs.1
    rw [e]; exact Told.ite_f (by omega) (Told.ret _)
theorem tImplEql (a b : List S44) (ha : a.length ≤ 1048576) (hb : b.length ≤ 1048576) : Told (fun k => impl_Point.f k a b) (eqlV a b) := by
  by_cases h : a.length = b.length
  · refine Told.ite_t (by omega) ?_
    refine Told.scan (n := a.length) false (fun i => pDiff a b i = false) (fun k i => impl_Point.l0 k a b (a.length : Int) i) (fun i hi h1 h2 => ?_) (fun hh => ?_) (fun hh => decide_eq_false fun hs => hh hs.2)
    · refine Told.step (fun k => by simp only [impl_Point.l0]; rw [if_pos (by omega), if_pos (by omega), if_pos (by omega), if_pos (by omega), rdP', rdP', Gen.w64s (by omega)]) ?_
      by_cases c : pDiff a b i = true
      · rw [h2 (by simp [c])]; exact Told.ite_t c (Told.ret _)
      · exact Told.ite_f c (h1 (by simpa using c))
    · have e : eqlV a b = true := decide_eq_true ⟨h, hh⟩
      rw [e]
      exact Told.stepr fun k => by simp only [impl_Point.l0]; rw [if_neg (by omega)]
  · have e : eqlV a b = false := decide_eq_false fun hs => h hs.1
    rw [e]; exact Told.ite_f (by omega) (Told.ret _)
def eqfV (a0 a1 a2 : Int) (s : ByteArray) (l : List S44) (b0 b1 b2 : Int) (t : ByteArray) (m : List S44) : Bool := if a0 = b0 ∧ a1 = b1 ∧ a2 = b2 ∧ s.toList = t.toList then eqlV l m else false
theorem tEqfGo {a0 a1 a2 : Int} {s : ByteArray} {l : List S44} {b0 b1 b2 : Int} {t : ByteArray} {m : List S44} {L : Nat → Option Bool} (h : Told L (eqlV l m)) :
    Told (fun k => if a0 = b0 then (if a1 = b1 then (if a2 = b2 then (if s.toList = t.toList then ((L k).bind fun t112 => (some t112)) else (some false)) else (some false)) else (some false)) else (some false)) (eqfV a0 a1 a2 s l b0 b1 b2 t m) := by
  by_cases h0 : a0 = b0
  · refine Told.ite_t h0 ?_
    by_cases h1 : a1 = b1
    · refine Told.ite_t h1 ?_
      by_cases h2 : a2 = b2
      · refine Told.ite_t h2 ?_
        by_cases h3 : s.toList = t.toList
        · have e : eqfV a0 a1 a2 s l b0 b1 b2 t m = eqlV l m := by unfold eqfV; exact if_pos ⟨h0, h1, h2, h3⟩
          rw [e]; exact Told.ite_t h3 (Told.bind h (Told.ret _))
        · have e : eqfV a0 a1 a2 s l b0 b1 b2 t m = false := by unfold eqfV; exact if_neg fun h => h3 h.2.2.2
          rw [e]; exact Told.ite_f h3 (Told.ret _)
      · have e : eqfV a0 a1 a2 s l b0 b1 b2 t m = false := by unfold eqfV; exact if_neg fun h => h2 h.2.2.1
        rw [e]; exact Told.ite_f h2 (Told.ret _)
    · have e : eqfV a0 a1 a2 s l b0 b1 b2 t m = false := by unfold eqfV; exact if_neg fun h => h1 h.2.1
      rw [e]; exact Told.ite_f h1 (Told.ret _)
  · have e : eqfV a0 a1 a2 s l b0 b1 b2 t m = false := by unfold eqfV; exact if_neg fun h => h0 h.1
    rw [e]; exact Told.ite_f h0 (Told.ret _)

theorem pure_FnExactEqualFeatures : ∀ (a0_0 : Int) (a0_1 : Int) (a0_2 : Int) (a0_3 : ByteArray) (l0_4 : (List S40)) (a1_0 : Int) (a1_1 : Int) (a1_2 : Int) (a1_3 : ByteArray) (l1_4 : (List S40)), ((I64 a0_0) ∧ (I64 a0_1) ∧ (I64 a0_2) ∧ (ByteArray.size a0_3 ≤ maxLen) ∧ ((List.length l0_4 ≤ maxLen ∧ ∀ y ∈ l0_4, G40 y))) → ((I64 a1_0) ∧ (I64 a1_1) ∧ (I64 a1_2) ∧ (ByteArray.size a1_3 ≤ maxLen) ∧ ((List.length l1_4 ≤ maxLen ∧ ∀ y ∈ l1_4, G40 y))) → ∃ k, laws_FnExactEqualFeatures.f k a0_0 a0_1 a0_2 a0_3 l0_4 a1_0 a1_1 a1_2 a1_3 l1_4 = some true := by
  intro a0 a1 a2 s l b0 b1 b2 t m ⟨_, _, _, hs, hl, _⟩ ⟨_, _, _, ht, hm, _⟩
  apply Told.ex
  refine Told.bind (Told.of (szFeature_some a0 a1 a2 s l 1048576 hs hl (by omega) (by omega))) ?_
  by_cases h1 : (1048576 : Int) < s.size + l.length
  · rw [if_pos h1]; exact Told.ite_t (by omega) (Told.ret _)
  rw [if_neg h1]
  refine Told.ite_f (by omega) (Told.bind (Told.of (szFeature_some b0 b1 b2 t m _ ht hm (by omega) (by omega))) ?_)
  by_cases h2 : (1048576 : Int) - s.size - l.length < t.size + m.length
  · rw [if_pos h2]; exact Told.ite_t (by omega) (Told.ret _)
  rw [if_neg h2]
  have la : (l.map cP).length ≤ 1048576 := by simp; omega
  have lb : (m.map cP).length ≤ 1048576 := by simp; omega
  refine Told.ite_f (by omega) (Told.bind (tToFeature a0 a1 a2 s l (by omega)) (Told.bind (tToFeature b0 b1 b2 t m (by omega)) (Told.bind (tEqfGo (tSpecEql _ _ la lb)) (Told.bind (tToFeature a0 a1 a2 s l (by omega)) (Told.bind (tToFeature b0 b1 b2 t m (by omega)) (Told.bind (tEqfGo (tImplEql _ _ la lb)) (Told.ite_f (by simp) ?_)))))))
  refine Told.bind (tToFeature a0 a1 a2 s l (by omega)) (Told.bind (tEqFeature a0 a1 a2 s _ la) (Told.ite_t rfl (Told.bind (tToFeature b0 b1 b2 t m (by omega)) (Told.bind (tEqFeature b0 b1 b2 t _ lb) (Told.ite_t rfl (Told.ret _))))))

end Go.Proofs.Ytchmbcembbbplaa.MFnExactEqualFeatures
