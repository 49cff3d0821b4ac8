/- The plain law behind FnExactBorder: what the printed functions compute answers true; no condition beyond the arguments' ranges. -/
import Derived.Test.YtchmbcembbbplaaZBorderTold
import Derived.Test.YtchmbcembbbplaaZBorderMx6
import Derived.Test.YtchmbcembbbplaaZBorderOpn
namespace Go.Proofs.Ytchmbcembbbplaa.MFnExactBorder
open Go Go.RowKit Go.Proofs.YtchmbcembbbplaaW.PrintWords Go.Proofs.YtchmbcembbbplaaW.PrintLast Go.Proofs.YtchmbcembbbplaaW.PrintMore Go.Proofs.Ytchmbcembbbplaa.Open
set_option linter.unusedVariables false
set_option linter.unusedSimpArgs false
theorem implInRange (a b c : Int) : impl_InRange.f a b c = some (decide (b ≤ a ∧ a ≤ c)) := by
  unfold impl_InRange.f; by_cases h : b ≤ a <;> simp [h]
theorem specIn (a b c : Int) : spec_l1In.f a b c = some (decide (b ≤ a ∧ a ≤ c)) := by
  unfold spec_l1In.f; by_cases h : b ≤ a <;> simp [h]
def nx (w i j : Int) : Prop := j = i + w ∨ i = j + w ∨ (j = i + 1 ∧ j % w ≠ 0) ∨ (i = j + 1 ∧ i % w ≠ 0)
instance (w i j : Int) : Decidable (nx w i j) := by unfold nx; infer_instance
structure Adj (w : Int) (s : ByteArray) (i j : Int) : Prop where
  i0 : 0 ≤ i
  i1 : i < s.size
  j0 : 0 ≤ j
  j1 : j < s.size
  nx : nx w i j
  eq : bt s i = bt s j
inductive Conn (w : Int) (s : ByteArray) : Int → Int → Prop
  | refl (i : Int) : Conn w s i i
  | step {i j l : Int} : Adj w s i j → Conn w s j l → Conn w s i l
theorem nx_symm {w i j : Int} (h : nx w i j) : nx w j i := by
  unfold nx at *; rcases h with h | h | h | h
  · exact Or.inr (Or.inl h)
  · exact Or.inl h
  · exact Or.inr (Or.inr (Or.inr h))
  · exact Or.inr (Or.inr (Or.inl h))
theorem Adj.symm {w : Int} {s : ByteArray} {i j : Int} (h : Adj w s i j) : Adj w s j i := ⟨h.j0, h.j1, h.i0, h.i1, nx_symm h.nx, h.eq.symm⟩
theorem Conn.same {w : Int} {s : ByteArray} {i j : Int} (h : Conn w s i j) : bt s i = bt s j := by
  induction h with
  | refl i => rfl
  | step a _ ih => exact a.eq.trans ih
theorem rd_set {x : List Int} {i c v : Int} (hi : 0 ≤ i) (hi' : i < x.length) (hc : 0 ≤ c) : rd (x.set i.toNat v) c = if c = i then v else rd x c := by
  unfold rd
  rw [List.getD_eq_getElem?_getD, List.getD_eq_getElem?_getD, List.getElem?_set]
  by_cases e : c = i
  · subst e; rw [if_pos rfl, if_pos rfl, if_pos (by omega)]; rfl
  · rw [if_neg e, if_neg (by omega)]
def IsReg (w : Int) (s : ByteArray) (R : List Int) : Prop := R.length = s.size ∧ (∀ i : Int, 0 ≤ i → i < s.size → 0 ≤ rd R i ∧ rd R i ≤ i) ∧ (∀ i j, Adj w s i j → rd R i = rd R j) ∧ ∀ i : Int, 0 ≤ i → i < s.size → Conn w s i (rd R i)
theorem IsReg.conn {w : Int} {s : ByteArray} {R : List Int} (h : IsReg w s R) {i j : Int} (c : Conn w s i j) : rd R i = rd R j := by
  induction c with
  | refl i => rfl
  | step a _ ih => exact (h.2.2.1 _ _ a).trans ih
theorem IsReg.le {w : Int} {s : ByteArray} {R R' : List Int} (h : IsReg w s R) (h' : IsReg w s R') {i : Int} (h0 : 0 ≤ i) (h1 : i < s.size) : rd R i ≤ rd R' i := by
  have a := h'.2.1 i h0 h1
  have b := h.conn (h'.2.2.2 i h0 h1)
  have c := (h.2.1 (rd R' i) a.1 (by omega)).2
  omega
theorem IsReg.uniq {w : Int} {s : ByteArray} {R R' : List Int} (h : IsReg w s R) (h' : IsReg w s R') : R = R' := by
  refine List.ext_getElem (h.1.trans h'.1.symm) fun n h1 h2 => ?_
  have hn : (n : Int) < s.size := by have := h.1; omega
  have e : rd R (n : Int) = rd R' (n : Int) := by
    have := h.le h' (i := n) (by omega) hn
    have := h'.le h (i := n) (by omega) hn
    omega
  unfold rd at e
  rw [List.getD_eq_getElem?_getD, List.getD_eq_getElem?_getD, Int.toNat_natCast, List.getElem?_eq_getElem h1, List.getElem?_eq_getElem h2] at e
  exact e
def ms : List Int → Nat
  | [] => 0
  | a :: t => a.toNat + ms t
theorem ms_set : ∀ (x : List Int) (i : Nat) (v : Int), i < x.length → v.toNat < (x.getD i 0).toNat → ms (x.set i v) < ms x := by
  intro x
  induction x with
  | nil => intro i v h; simp at h
  | cons a t ih =>
    intro i v h h1
    cases i with
    | zero => simp [ms] at *; omega
    | succ i =>
      have := ih i v (by simpa using h) (by simpa using h1)
      simp [ms] at *; omega
def un : List Int → Nat
  | [] => 0
  | a :: t => (if a < 0 then 1 else 0) + un t
theorem un_set : ∀ (x : List Int) (i : Nat) (v : Int), i < x.length → x.getD i 0 < 0 → 0 ≤ v → un (x.set i v) + 1 = un x := by
  intro x
  induction x with
  | nil => intro i v h; simp at h
  | cons a t ih =>
    intro i v h h1 h2
    cases i with
    | zero =>
      have h1' : a < 0 := by simpa using h1
      show (if v < 0 then 1 else 0) + un t + 1 = (if a < 0 then 1 else 0) + un t
      rw [if_neg (by omega), if_pos h1']; omega
    | succ i =>
      have := ih i v (by simpa using h) (by simpa using h1) h2
      show (if a < 0 then 1 else 0) + un (t.set i v) + 1 = (if a < 0 then 1 else 0) + un t
      omega
structure Cov (w h : Int) (s : ByteArray) : Prop where
  w0 : 1 ≤ w
  w1 : w ≤ 6
  h0 : 1 ≤ h
  h1 : h ≤ 6
  n : (s.size : Int) = w * h
theorem Cov.le {w h : Int} {s : ByteArray} (c : Cov w h s) : s.size ≤ 36 := by
  obtain ⟨a, b, c, d, e⟩ := c
  have : w = 1 ∨ w = 2 ∨ w = 3 ∨ w = 4 ∨ w = 5 ∨ w = 6 := by omega
  rcases this with rfl | rfl | rfl | rfl | rfl | rfl <;> omega
theorem next_some {w h : Int} {s : ByteArray} (c : Cov w h s) {i j : Int} (i0 : 0 ≤ i) (i1 : i < s.size) (j0 : 0 ≤ j) (j1 : j < s.size) : spec_l15Next.f w h s i j = some (decide (nx w i j)) := by
  have hn := c.le
  have w0 := c.w0
  have w1 := c.w1
  unfold spec_l15Next.f
  rw [Gen.w64 (n := j + w) (by omega) (by omega), Gen.w64 (n := j + 1) (by omega) (by omega), Gen.w64 (n := i + w) (by omega) (by omega), Gen.w64 (n := i + 1) (by omega) (by omega), Int.tmod_eq_emod_of_nonneg i0, Int.tmod_eq_emod_of_nonneg j0]
  by_cases c1 : i > j
  · rw [if_pos c1]
    by_cases c2 : i = j + w
    · rw [if_pos c2, decide_eq_true (show nx w i j from Or.inr (Or.inl c2))]
    · rw [if_neg c2]
      by_cases c3 : i = j + 1
      · rw [if_pos c3, if_neg (by omega)]
        by_cases c4 : i % w = 0
        · rw [decide_eq_false (show ¬ nx w i j by unfold nx; omega), c4]; rfl
        · rw [decide_eq_true (show nx w i j from Or.inr (Or.inr (Or.inr ⟨c3, c4⟩)))]; simp [c4]
      · rw [if_neg c3, decide_eq_false (show ¬ nx w i j by unfold nx; omega)]
  · rw [if_neg c1]
    by_cases c2 : j = i + w
    · rw [if_pos c2, decide_eq_true (show nx w i j from Or.inl c2)]
    · rw [if_neg c2]
      by_cases c3 : j = i + 1
      · rw [if_pos c3, if_neg (by omega)]
        by_cases c4 : j % w = 0
        · rw [decide_eq_false (show ¬ nx w i j by unfold nx; omega), c4]; rfl
        · rw [decide_eq_true (show nx w i j from Or.inr (Or.inr (Or.inl ⟨c3, c4⟩)))]; simp [c4]
      · rw [if_neg c3, decide_eq_false (show ¬ nx w i j by unfold nx; omega)]
def PN (w : Int) (s : ByteArray) (x : List Int) : Prop := x.length = s.size ∧ ∀ i : Int, 0 ≤ i → i < s.size → 0 ≤ rd x i ∧ rd x i ≤ i ∧ Conn w s i (rd x i)
theorem tN3 {w h : Int} {s : ByteArray} (c : Cov w h s) (i : Nat) (hi : i < s.size) : ∀ d (j : Nat), j + d = s.size → ∀ x b, PN w s x → ∃ x' b', PN w s x' ∧ ms x' ≤ ms x ∧ (b' = true → b = true ∨ ms x' < ms x) ∧ (b' = false → b = false ∧ x' = x ∧ ∀ l : Int, (j : Int) ≤ l → Adj w s i l → ¬ rd x l < rd x i) ∧ ∀ r, Told (fun k => spec_l15Numbers.l2 k x' b' ((i + 1 : Nat) : Int) w h s) r → Told (fun k => spec_l15Numbers.l3 k x b (i : Int) (j : Int) w h s) r := by
  have hn := c.le
  intro d
  induction d with
  | zero =>
    intro j hj x b hx
    have hl := hx.1
    refine ⟨x, b, hx, Nat.le_refl _, fun h => Or.inl h, fun h => ⟨h, rfl, fun l h1 h2 => ?_⟩, fun r hr => ?_⟩
    · have := h2.j1; omega
    · exact Told.step (fun k => by simp only [spec_l15Numbers.l3]; rw [if_neg (by omega), Gen.w64s (by omega)]) hr
  | succ d ih =>
    intro j hj x b hx
    have hl := hx.1
    have go : ∀ r (L : Nat → Option (List Int)), Told L r → (∀ k, spec_l15Numbers.l3 (k + 1) x b (i : Int) (j : Int) w h s = L k) → Told (fun k => spec_l15Numbers.l3 k x b (i : Int) (j : Int) w h s) r := fun r L hL he => Told.step he hL
    by_cases cn : nx w i j
    · by_cases ce : bt s (i : Int) = bt s (j : Int)
      · have adj : Adj w s i j := ⟨by omega, by omega, by omega, by omega, cn, ce⟩
        by_cases cl : rd x (j : Int) < rd x (i : Int)
        · -- stored
          have hx' : PN w s (x.set (i : Int).toNat (rd x (j : Int))) := by
            refine ⟨by simpa using hl, fun l l0 l1 => ?_⟩
            rw [rd_set (by omega) (by omega) l0]
            by_cases e : l = (i : Int)
            · subst e; rw [if_pos rfl]
              have a := hx.2 (j : Int) (by omega) (by omega)
              have b := hx.2 (i : Int) (by omega) (by omega)
              exact ⟨a.1, by omega, Conn.step adj a.2.2⟩
            · rw [if_neg e]; exact hx.2 l l0 l1
          have hm : ms (x.set (i : Int).toNat (rd x (j : Int))) < ms x := by
            have a := (hx.2 (j : Int) (by omega) (by omega)).1
            refine ms_set _ _ _ (by omega) ?_
            have : x.getD (i : Int).toNat 0 = rd x (i : Int) := rfl
            rw [this]; omega
          obtain ⟨x', b', h1, h2, h3, h4, h5⟩ := ih (j + 1) (by omega) _ true hx'
          refine ⟨x', b', h1, by omega, fun _ => Or.inr (by omega), fun h => absurd (h4 h).1 (by simp), fun r hr => go r _ (h5 r hr) fun k => ?_⟩
          simp only [spec_l15Numbers.l3]
          rw [if_pos (by omega), next_some c (by omega) (by omega) (by omega) (by omega)]
          simp only [Option.bind_some]
          rw [if_pos (decide_eq_true cn), if_pos (by omega), if_pos (by omega), if_pos (by omega), if_pos (by omega), if_pos ce, if_pos (by omega), if_pos cl, Gen.w64s (by omega)]
        · obtain ⟨x', b', h1, h2, h3, h4, h5⟩ := ih (j + 1) (by omega) x b hx
          refine ⟨x', b', h1, h2, h3, fun h => ⟨(h4 h).1, (h4 h).2.1, fun l l1 l2 => ?_⟩, fun r hr => go r _ (h5 r hr) fun k => ?_⟩
          · by_cases e : l = (j : Int)
            · subst e; exact cl
            · exact (h4 h).2.2 l (by omega) l2
          · simp only [spec_l15Numbers.l3]
            rw [if_pos (by omega), next_some c (by omega) (by omega) (by omega) (by omega)]
            simp only [Option.bind_some]
            rw [if_pos (decide_eq_true cn), if_pos (by omega), if_pos (by omega), if_pos (by omega), if_pos (by omega), if_pos ce, if_pos (by omega), if_neg cl, Gen.w64s (by omega)]
      · obtain ⟨x', b', h1, h2, h3, h4, h5⟩ := ih (j + 1) (by omega) x b hx
        refine ⟨x', b', h1, h2, h3, fun h => ⟨(h4 h).1, (h4 h).2.1, fun l l1 l2 => ?_⟩, fun r hr => go r _ (h5 r hr) fun k => ?_⟩
        · by_cases e : l = (j : Int)
          · subst e; exact absurd l2.eq ce
          · exact (h4 h).2.2 l (by omega) l2
        · simp only [spec_l15Numbers.l3]
          rw [if_pos (by omega), next_some c (by omega) (by omega) (by omega) (by omega)]
          simp only [Option.bind_some]
          rw [if_pos (decide_eq_true cn), if_pos (by omega), if_pos (by omega), if_pos (by omega), if_pos (by omega), if_neg ce, Gen.w64s (by omega)]
    · obtain ⟨x', b', h1, h2, h3, h4, h5⟩ := ih (j + 1) (by omega) x b hx
      refine ⟨x', b', h1, h2, h3, fun h => ⟨(h4 h).1, (h4 h).2.1, fun l l1 l2 => ?_⟩, fun r hr => go r _ (h5 r hr) fun k => ?_⟩
      · by_cases e : l = (j : Int)
        · subst e; exact absurd l2.nx cn
        · exact (h4 h).2.2 l (by omega) l2
      · simp only [spec_l15Numbers.l3]
        rw [if_pos (by omega), next_some c (by omega) (by omega) (by omega) (by omega)]
        simp only [Option.bind_some]
        rw [if_neg (by simp [cn]), Gen.w64s (by omega)]
theorem tN2 {w h : Int} {s : ByteArray} (c : Cov w h s) : ∀ d (i : Nat), i + d = s.size → ∀ x b, PN w s x → ∃ x' b', PN w s x' ∧ ms x' ≤ ms x ∧ (b' = true → b = true ∨ ms x' < ms x) ∧ (b' = false → b = false ∧ x' = x ∧ ∀ m l : Int, (i : Int) ≤ m → Adj w s m l → ¬ rd x l < rd x m) ∧ ∀ r, Told (fun k => spec_l15Numbers.l1 k x' b' w h s) r → Told (fun k => spec_l15Numbers.l2 k x b (i : Int) w h s) r := by
  have hn := c.le
  intro d
  induction d with
  | zero =>
    intro i hi x b hx
    have hl := hx.1
    refine ⟨x, b, hx, Nat.le_refl _, fun h => Or.inl h, fun h => ⟨h, rfl, fun m l h1 h2 => ?_⟩, fun r hr => ?_⟩
    · have := h2.i1; omega
    · exact Told.step (fun k => by simp only [spec_l15Numbers.l2]; rw [if_neg (by omega)]) hr
  | succ d ih =>
    intro i hi x b hx
    have hl := hx.1
    obtain ⟨x1, b1, g1, g2, g3, g4, g5⟩ := tN3 c i (by omega) s.size 0 (by omega) x b hx
    obtain ⟨x', b', h1, h2, h3, h4, h5⟩ := ih (i + 1) (by omega) x1 b1 g1
    refine ⟨x', b', h1, by omega, fun h => ?_, fun h => ?_, fun r hr => ?_⟩
    · rcases h3 h with e | e
      · rcases g3 e with f | f
        · exact Or.inl f
        · exact Or.inr (by omega)
      · exact Or.inr (by omega)
    · obtain ⟨e1, e2, e3⟩ := h4 h
      obtain ⟨f1, f2, f3⟩ := g4 e1
      subst f2
      refine ⟨f1, e2, fun m l m1 m2 => ?_⟩
      by_cases e : m = (i : Int)
      · subst e; exact f3 l m2.j0 m2
      · exact e3 m l (by omega) m2
    · exact Told.step (fun k => by simp only [spec_l15Numbers.l2]; rw [if_pos (by omega)]; rfl) (g5 r (h5 r hr))
theorem tN1 {w h : Int} {s : ByteArray} (c : Cov w h s) : ∀ m x, PN w s x → ms x ≤ m → ∃ R, IsReg w s R ∧ Told (fun k => spec_l15Numbers.l1 k x true w h s) R := by
  intro m
  induction m with
  | zero =>
    intro x hx hm
    obtain ⟨x', b', h1, h2, h3, h4, h5⟩ := tN2 c s.size 0 (by omega) x false hx
    cases b' with
    | true => rcases h3 rfl with e | e
              · simp at e
              · omega
    | false =>
      obtain ⟨_, e, h6⟩ := h4 rfl
      subst e
      refine ⟨x', ⟨hx.1, fun i i0 i1 => ⟨(hx.2 i i0 i1).1, (hx.2 i i0 i1).2.1⟩, fun i j a => ?_, fun i i0 i1 => (hx.2 i i0 i1).2.2⟩, Told.step (fun k => by simp only [spec_l15Numbers.l1, if_true]; rfl) (h5 _ (Told.stepr fun k => by simp only [spec_l15Numbers.l1]; rw [if_neg (by simp)]))⟩
      have := h6 i j a.i0 a
      have := h6 j i a.j0 a.symm
      omega
  | succ m ih =>
    intro x hx hm
    obtain ⟨x', b', h1, h2, h3, h4, h5⟩ := tN2 c s.size 0 (by omega) x false hx
    cases b' with
    | true => rcases h3 rfl with e | e
              · simp at e
              · obtain ⟨R, hR, ht⟩ := ih x' h1 (by omega)
                exact ⟨R, hR, Told.step (fun k => by simp only [spec_l15Numbers.l1, if_true]; rfl) (h5 _ ht)⟩
    | false =>
      obtain ⟨_, e, h6⟩ := h4 rfl
      subst e
      refine ⟨x', ⟨hx.1, fun i i0 i1 => ⟨(hx.2 i i0 i1).1, (hx.2 i i0 i1).2.1⟩, fun i j a => ?_, fun i i0 i1 => (hx.2 i i0 i1).2.2⟩, Told.step (fun k => by simp only [spec_l15Numbers.l1, if_true]; rfl) (h5 _ (Told.stepr fun k => by simp only [spec_l15Numbers.l1]; rw [if_neg (by simp)]))⟩
      have := h6 i j a.i0 a
      have := h6 j i a.j0 a.symm
      omega
def idl (n : Nat) : List Int := List.map (fun m : Nat => (m : Int)) (List.range n)
theorem idl_rd {n i : Nat} (h : i < n) : rd (idl n) (i : Int) = i := by
  unfold rd idl
  rw [List.getD_eq_getElem?_getD, List.getElem?_map, Int.toNat_natCast, List.getElem?_range h]; rfl
theorem tNumbers {w h : Int} {s : ByteArray} (c : Cov w h s) : ∃ R, IsReg w s R ∧ Told (fun k => spec_l15Numbers.f k w h s) R := by
  have hn := c.le
  have hP : PN w s (idl s.size) := by
    refine ⟨by simp [idl], fun i i0 i1 => ?_⟩
    obtain ⟨m, rfl⟩ : ∃ m : Nat, i = m := ⟨i.toNat, by omega⟩
    rw [idl_rd (by omega)]
    exact ⟨i0, by omega, Conn.refl _⟩
  obtain ⟨R, hR, ht⟩ := tN1 c _ _ hP (Nat.le_refl _)
  refine ⟨R, hR, ?_⟩
  have key : ∀ d (i : Nat), i + d = s.size → Told (fun k => spec_l15Numbers.l0 k (idl i) (i : Int) w h s) R := by
    intro d
    induction d with
    | zero =>
      intro i hi
      have e : i = s.size := by omega
      subst e
      exact Told.step (fun k => by simp only [spec_l15Numbers.l0]; rw [if_neg (by omega)]) ht
    | succ d ih =>
      intro i hi
      refine Told.step (fun k => ?_) (ih (i + 1) (by omega))
      simp only [spec_l15Numbers.l0]
      rw [if_pos (by omega), if_pos (by simp [idl]; omega), Gen.w64s (by omega)]
      have e : idl (i + 1) = idl i ++ [(i : Int)] := by unfold idl; rw [List.range_succ, List.map_append]; rfl
      rw [e]
  exact key s.size 0 (by omega)
def lets (s : ByteArray) : Bool := decide (∀ i : Nat, i < s.size → ¬ bt s (i : Int) < 97 ∧ ¬ bt s (i : Int) > 122)
def covV (w h : Int) (s : ByteArray) : Bool := decide ((1 ≤ w ∧ w ≤ 6) ∧ (1 ≤ h ∧ h ≤ 6) ∧ (s.size : Int) = w * h) && lets s
theorem tSpecLets (w h : Int) (s : ByteArray) (hs : s.size ≤ 1048576) : Told (fun k => spec_IsCover.l0 k 0 w h s) (lets s) := by
  refine Told.scan (n := s.size) false (fun i : Nat => ¬ bt s (i : Int) < 97 ∧ ¬ bt s (i : Int) > 122) (fun k i => spec_IsCover.l0 k i w h s) (fun i hi h1 h2 => ?_) (fun hh => ?_) (fun hh => decide_eq_false hh)
  · refine Told.step (fun k => by simp only [spec_IsCover.l0]; rw [if_pos (by omega), if_pos (by omega), Gen.w64s (by omega)]) ?_
    by_cases c : bt s (i : Int) < 97
    · rw [h2 fun hh => hh.1 c]; exact Told.ite_t c (Told.ret _)
    · refine Told.ite_f c ?_
      by_cases c' : bt s (i : Int) > 122
      · rw [h2 fun hh => hh.2 c']; exact Told.ite_t c' (Told.ret _)
      · exact Told.ite_f c' (h1 ⟨c, c'⟩)
  · have e : lets s = true := decide_eq_true hh
    rw [e]; exact Told.stepr fun k => by simp only [spec_IsCover.l0]; rw [if_neg (by omega)]
theorem tImplLets (w h : Int) (s : ByteArray) (hs : s.size ≤ 1048576) : Told (fun k => impl_IsCover.l0 k s.size 0 w h s) (lets s) := by
  refine Told.scan (n := s.size) false (fun i : Nat => ¬ bt s (i : Int) < 97 ∧ ¬ bt s (i : Int) > 122) (fun k i => impl_IsCover.l0 k s.size i w h s) (fun i hi h1 h2 => ?_) (fun hh => ?_) (fun hh => decide_eq_false hh)
  · refine Told.step (fun k => by simp only [impl_IsCover.l0]; rw [if_pos (by omega), if_pos (by omega), if_pos (by omega), Gen.w64s (by omega)]) ?_
    by_cases c : bt s (i : Int) < 97
    · rw [h2 fun hh => hh.1 c]; exact Told.ite_t c (Told.ret _)
    · refine Told.ite_f c ?_
      by_cases c' : bt s (i : Int) > 122
      · rw [h2 fun hh => hh.2 c']; exact Told.ite_t c' (Told.ret _)
      · exact Told.ite_f c' (h1 ⟨c, c'⟩)
  · have e : lets s = true := decide_eq_true hh
    rw [e]; exact Told.stepr fun k => by simp only [impl_IsCover.l0]; rw [if_neg (by omega)]
theorem mul66 {w h : Int} (hw : 1 ≤ w ∧ w ≤ 6) (hh : 1 ≤ h ∧ h ≤ 6) : 0 ≤ w * h ∧ w * h ≤ 36 := by
  have := Gen.mul_bd (x := w) (y := h) (m := 6) (n := 6) (by omega) (by omega)
  have := Int.mul_nonneg (a := w) (b := h) (by omega) (by omega)
  omega
theorem tSpecCover (w h : Int) (s : ByteArray) (hs : s.size ≤ 1048576) : Told (fun k => spec_IsCover.f k w h s) (covV w h s) := by
  refine Told.bind (Told.of (specIn w 1 6)) ?_
  by_cases h1 : 1 ≤ w ∧ w ≤ 6
  · refine Told.ite_t (by simpa using h1) (Told.bind (Told.of (specIn h 1 6)) ?_)
    by_cases h2 : 1 ≤ h ∧ h ≤ 6
    · refine Told.ite_t (by simpa using h2) ?_
      have m := mul66 h1 h2
      by_cases h3 : (s.size : Int) = w * h
      · refine Told.step (fun k => by simp only [spec_IsCover.j0]; rw [Gen.w64 (by omega) (by omega), if_neg (by simp [h3])]) ?_
        have e : covV w h s = lets s := by unfold covV; rw [decide_eq_true ⟨h1, h2, h3⟩]; rfl
        rw [e]; exact tSpecLets w h s hs
      · have e : covV w h s = false := by unfold covV; rw [decide_eq_false fun hh => h3 hh.2.2]; rfl
        rw [e]; exact Told.stepr fun k => by simp only [spec_IsCover.j0]; rw [Gen.w64 (by omega) (by omega), if_pos (by simpa using h3)]
    · have e : covV w h s = false := by unfold covV; rw [decide_eq_false fun hh => h2 hh.2.1]; rfl
      rw [e]; exact Told.ite_f (by simpa using h2) (Told.stepr fun k => by simp only [spec_IsCover.j0, if_true])
  · have e : covV w h s = false := by unfold covV; rw [decide_eq_false fun hh => h1 hh.1]; rfl
    rw [e]; exact Told.ite_f (by simpa using h1) (Told.stepr fun k => by simp only [spec_IsCover.j0, if_true])
theorem tImplCover (w h : Int) (s : ByteArray) (hs : s.size ≤ 1048576) : Told (fun k => impl_IsCover.f k w h s) (covV w h s) := by
  refine Told.bind (Told.of (implInRange w 1 6)) ?_
  by_cases h1 : 1 ≤ w ∧ w ≤ 6
  · refine Told.ite_t (by simpa using h1) (Told.bind (Told.of (implInRange h 1 6)) ?_)
    by_cases h2 : 1 ≤ h ∧ h ≤ 6
    · refine Told.ite_t (by simpa using h2) ?_
      have m := mul66 h1 h2
      by_cases h3 : (s.size : Int) = w * h
      · refine Told.step (fun k => by simp only [impl_IsCover.j0]; rw [Gen.w64 (by omega) (by omega), if_neg (by simp [h3])]) ?_
        have e : covV w h s = lets s := by unfold covV; rw [decide_eq_true ⟨h1, h2, h3⟩]; rfl
        rw [e]; exact tImplLets w h s hs
      · have e : covV w h s = false := by unfold covV; rw [decide_eq_false fun hh => h3 hh.2.2]; rfl
        rw [e]; exact Told.stepr fun k => by simp only [impl_IsCover.j0]; rw [Gen.w64 (by omega) (by omega), if_pos (by simpa using h3)]
    · have e : covV w h s = false := by unfold covV; rw [decide_eq_false fun hh => h2 hh.2.1]; rfl
      rw [e]; exact Told.ite_f (by simpa using h2) (Told.stepr fun k => by simp only [impl_IsCover.j0, if_true])
  · have e : covV w h s = false := by unfold covV; rw [decide_eq_false fun hh => h1 hh.1]; rfl
    rw [e]; exact Told.ite_f (by simpa using h1) (Told.stepr fun k => by simp only [impl_IsCover.j0, if_true])
theorem covV_cov {w h : Int} {s : ByteArray} (c : covV w h s = true) : Cov w h s := by
  unfold covV at c
  have := (Bool.and_eq_true _ _).mp c
  have := of_decide_eq_true this.1
  exact ⟨this.1.1, this.1.2, this.2.1.1, this.2.1.2, this.2.2⟩
def nbl (w n x : Int) : List Int := (if x ≥ w then [x - w] else []) ++ (if x % w > 0 then [x - 1] else []) ++ (if x % w < w - 1 then [x + 1] else []) ++ (if x + w < n then [x + w] else [])
theorem nbl_mem {w h : Int} {s : ByteArray} (c : Cov w h s) {x : Int} (x0 : 0 ≤ x) (x1 : x < s.size) (y : Int) : y ∈ nbl w s.size x ↔ 0 ≤ y ∧ y < s.size ∧ nx w x y := by
  obtain ⟨a, b, c, d, e⟩ := c
  have m : ∀ (p : Prop) [Decidable p] (v : Int), (y ∈ (if p then [v] else [])) ↔ (p ∧ y = v) := by
    intro p _ v; by_cases hp : p <;> simp [hp]
  unfold nbl nx
  rw [List.mem_append, List.mem_append, List.mem_append, m, m, m, m]
  have : w = 1 ∨ w = 2 ∨ w = 3 ∨ w = 4 ∨ w = 5 ∨ w = 6 := by omega
  rcases this with rfl | rfl | rfl | rfl | rfl | rfl <;> omega
theorem nbl_nodup {w h : Int} {s : ByteArray} (c : Cov w h s) {x : Int} (x0 : 0 ≤ x) (x1 : x < s.size) : (nbl w s.size x).Nodup := by
  obtain ⟨a, b, c, d, e⟩ := c
  unfold nbl
  have h1 : x % w > 0 → 2 ≤ w := fun h => by
    by_cases e : w = 1
    · subst e; omega
    · omega
  have h2 := Int.emod_nonneg x (show w ≠ 0 by omega)
  by_cases c1 : x ≥ w <;> by_cases c2 : x % w > 0 <;> by_cases c3 : x % w < w - 1 <;> by_cases c4 : x + w < (s.size : Int) <;> simp only [c1, c2, c3, c4, if_true, if_false, ite_true, ite_false] <;> simp <;> omega
theorem nbl_len (w n x : Int) : (nbl w n x).length ≤ 4 := by
  unfold nbl
  simp only [List.length_append]
  have m : ∀ (p : Prop) [Decidable p] (v : Int), (if p then [v] else []).length ≤ 1 := by
    intro p _ v; by_cases hp : p <;> simp [hp]
  have := m (x ≥ w) (x - w)
  have := m (x % w > 0) (x - 1)
  have := m (x % w < w - 1) (x + 1)
  have := m (x + w < n) (x + w)
  omega
theorem tB1 {w h : Int} {s : ByteArray} (c : Cov w h s) {x : Int} (x0 : 0 ≤ x) (x1 : x < s.size) (y : List Int) (hy : y.length ≤ 2) : Told (fun k => impl_beside.j1 k x y w h s) ((y ++ (if x % w < w - 1 then [x + 1] else [])) ++ (if x + w < (s.size : Int) then [x + w] else [])) := by
  have hn := c.le
  have w0 := c.w0
  have w1 := c.w1
  have cn := c.n
  have m := mul66 ⟨c.w0, c.w1⟩ ⟨c.h0, c.h1⟩
  refine Told.step (M := fun k => if x % w < w - 1 then (if y.length < 17592186044416 then ((some (y ++ [x + 1] : List Int)).bind fun y138 => (if x + w < (s.size : Int) then (if y138.length < 17592186044416 then (some (y138 ++ [x + w])) else (none)) else (some y138))) else (none)) else (if x + w < (s.size : Int) then (if y.length < 17592186044416 then (some (y ++ [x + w])) else (none)) else (some y))) (fun k => by simp only [impl_beside.j1]; rw [if_neg (by omega), Int.tmod_eq_emod_of_nonneg x0, Gen.w64 (n := w - 1) (by omega) (by omega), Gen.w64 (n := x + w) (by omega) (by omega), Gen.w64 (n := w * h) (by omega) (by omega), Gen.w64 (n := x + 1) (by omega) (by omega), ← cn]) ?_
  by_cases c1 : x % w < w - 1
  · simp only [if_pos c1]
    refine Told.ite_t (by omega) (Told.bind (Told.ret _) ?_)
    by_cases c2 : x + w < (s.size : Int)
    · simp only [if_pos c2]; exact Told.ite_t (by simp; omega) (Told.ret _)
    · simp only [if_neg c2, List.append_nil]; exact Told.ret _
  · simp only [if_neg c1, List.append_nil]
    by_cases c2 : x + w < (s.size : Int)
    · simp only [if_pos c2]; exact Told.ite_t (by omega) (Told.ret _)
    · simp only [if_neg c2, List.append_nil]; exact Told.ret _
theorem tB0 {w h : Int} {s : ByteArray} (c : Cov w h s) {x : Int} (x0 : 0 ≤ x) (x1 : x < s.size) (y : List Int) (hy : y.length ≤ 1) : Told (fun k => impl_beside.j0 k x y w h s) (((y ++ (if x % w > 0 then [x - 1] else [])) ++ (if x % w < w - 1 then [x + 1] else [])) ++ (if x + w < (s.size : Int) then [x + w] else [])) := by
  have hn := c.le
  have w0 := c.w0
  have w1 := c.w1
  refine Told.step (M := fun k => if x % w > 0 then (if y.length < 17592186044416 then impl_beside.j1 k x (y ++ [x - 1]) w h s else none) else impl_beside.j1 k x y w h s) (fun k => by simp only [impl_beside.j0]; rw [if_neg (by omega), Int.tmod_eq_emod_of_nonneg x0, Gen.w64 (n := x - 1) (by omega) (by omega)]) ?_
  by_cases c1 : x % w > 0
  · simp only [if_pos c1]
    exact Told.ite_t (by omega) (tB1 c x0 x1 _ (by simp; omega))
  · simp only [if_neg c1, List.append_nil]
    exact tB1 c x0 x1 _ (by omega)
theorem tBeside {w h : Int} {s : ByteArray} (c : Cov w h s) {x : Int} (x0 : 0 ≤ x) (x1 : x < s.size) : Told (fun k => impl_beside.f k w h s x) (nbl w s.size x) := by
  have hn := c.le
  have w1 := c.w1
  have w0 := c.w0
  refine Told.bind (Told.ret _) ?_
  unfold nbl
  by_cases c1 : x ≥ w
  · rw [if_pos c1]
    refine Told.ite_t c1 (Told.ite_t (by simp) ?_)
    have := tB0 c x0 x1 ([x - w]) (by simp)
    refine Told.eq (fun k => ?_) this
    rw [Gen.w64 (n := x - w) (by omega) (by omega)]; rfl
  · rw [if_neg c1]
    exact Told.ite_f c1 (tB0 c x0 x1 [] (by simp))
structure RI (w : Int) (s : ByteArray) (i : Int) (x st : List Int) (ex : Int → Int → Prop) : Prop where
  len : x.length = s.size
  val : ∀ c : Int, 0 ≤ c → c < s.size → rd x c = -1 ∨ (0 ≤ rd x c ∧ rd x c ≤ c ∧ rd x c ≤ i ∧ Conn w s c (rd x c))
  low : ∀ c : Int, 0 ≤ c → c ≤ i → c < s.size → 0 ≤ rd x c
  clo : ∀ c d : Int, Adj w s c d → 0 ≤ rd x c → c ∉ st → ¬ ex c d → rd x d = rd x c
  stk : ∀ c : Int, c ∈ st → 0 ≤ c ∧ c < s.size ∧ rd x c = i
theorem nx_irr {w x : Int} (hw : 1 ≤ w) : ¬ nx w x x := by unfold nx; omega
theorem tR3 {w h : Int} {s : ByteArray} (c : Cov w h s) (i : Nat) (hi : i < s.size) (p : Int) (p0 : 0 ≤ p) (p1 : p < s.size) (nb : List Int) (hnb : ∀ y : Int, y ∈ nb ↔ 0 ≤ y ∧ y < s.size ∧ nx w p y) (hnl : nb.length ≤ 4) :
    ∀ d (m : Nat), m + d = nb.length → ∀ x st, RI w s i x st (fun c d => c = p ∧ d ∈ nb.drop m) → rd x p = i → 2 * un x + st.length ≤ 100 → ∃ x' st', RI w s i x' st' (fun _ _ => False) ∧ 2 * un x' + st'.length ≤ 2 * un x + st.length ∧
      ∀ r, Told (fun k => impl_regions.l2 k x' i st' s.size i w h s) r → Told (fun k => impl_regions.l3 k x i st s.size i nb nb.length (m : Int) w h s) r := by
  have hn := c.le
  have w0 := c.w0
  intro d
  induction d with
  | zero =>
    intro m hm x st hx hp hM
    refine ⟨x, st, ⟨hx.len, hx.val, hx.low, fun c d a b e _ => hx.clo c d a b e fun hh => ?_, hx.stk⟩, Nat.le_refl _, fun r hr => Told.step (fun k => by simp only [impl_regions.l3]; rw [if_neg (by omega)]) hr⟩
    rw [List.drop_of_length_le (by omega)] at hh; simp at hh
  | succ d ih =>
    intro m hm x st hx hp hM
    have hl := hx.len
    obtain ⟨y, hy⟩ : ∃ y, y = rd nb (m : Int) := ⟨_, rfl⟩
    have hy2 : nb[m]? = some y := by
      rw [hy]; unfold rd; rw [List.getD_eq_getElem?_getD, Int.toNat_natCast, List.getElem?_eq_getElem (by omega)]; rfl
    have hdrop : nb.drop m = y :: nb.drop (m + 1) := by
      rw [List.drop_eq_getElem_cons (by omega)]
      rw [List.getElem?_eq_getElem (by omega)] at hy2
      rw [Option.some.inj hy2]
    have hmem : y ∈ nb := List.mem_of_getElem? hy2
    obtain ⟨y0, y1, ynx⟩ := (hnb y).mp hmem
    have yp : y ≠ p := fun e => nx_irr w0 (e ▸ ynx)
    have hconn : Conn w s p (i : Int) := by
      rcases hx.val p p0 p1 with e | e
      · omega
      · rw [hp] at e; exact e.2.2.2
    have skip : (Adj w s p y → rd x y = rd x p) → (∀ r, Told (fun k => impl_regions.l3 k x i st s.size i nb nb.length ((m + 1 : Nat) : Int) w h s) r → Told (fun k => impl_regions.l3 k x i st s.size i nb nb.length (m : Int) w h s) r) → ∃ x' st', RI w s i x' st' (fun _ _ => False) ∧ 2 * un x' + st'.length ≤ 2 * un x + st.length ∧
      ∀ r, Told (fun k => impl_regions.l2 k x' i st' s.size i w h s) r → Told (fun k => impl_regions.l3 k x i st s.size i nb nb.length (m : Int) w h s) r := fun h1 h2 => by
      obtain ⟨x', st', g1, g2, g3⟩ := ih (m + 1) (by omega) x st ⟨hx.len, hx.val, hx.low, fun c d a b e f => by
        by_cases e1 : c = p ∧ d = y
        · obtain ⟨rfl, rfl⟩ := e1; exact h1 a
        · refine hx.clo c d a b e fun hh => ?_
          rw [hdrop, List.mem_cons] at hh
          rcases hh with ⟨h3, h4 | h4⟩
          · exact e1 ⟨h3, h4⟩
          · exact f ⟨h3, h4⟩, hx.stk⟩ hp hM
      exact ⟨x', st', g1, g2, fun r hr => h2 r (g3 r hr)⟩
    by_cases c1 : rd x y < 0
    · by_cases c2 : bt s y = bt s (i : Int)
      · have yi : (i : Int) < y := by
          by_cases e : y ≤ (i : Int)
          · have := hx.low y y0 e y1; omega
          · omega
        have adj : Adj w s y p := ⟨y0, y1, p0, p1, nx_symm ynx, c2.trans hconn.same.symm⟩
        have hu := un_set x y.toNat i (by omega) c1 (by omega)
        have rs : ∀ c : Int, 0 ≤ c → rd (x.set y.toNat i) c = if c = y then (i : Int) else rd x c := fun c c0 => rd_set y0 (by omega) c0
        obtain ⟨x', st', g1, g2, g3⟩ := ih (m + 1) (by omega) (x.set y.toNat i) (st ++ [y]) ⟨by simpa using hl, fun c c0 c1' => by
            rw [rs c c0]
            by_cases e : c = y
            · subst e; rw [if_pos rfl]; exact Or.inr ⟨by omega, by omega, by omega, Conn.step adj hconn⟩
            · rw [if_neg e]; exact hx.val c c0 c1', fun c c0 c1' c2' => by
            rw [rs c c0]
            by_cases e : c = y
            · rw [if_pos e]; omega
            · rw [if_neg e]; exact hx.low c c0 c1' c2', fun c d a b e f => by
            rw [List.mem_append, not_or] at e
            have ec : c ≠ y := fun h => e.2 (by simp [h])
            rw [rs c a.i0, if_neg ec] at b
            rw [rs c a.i0, if_neg ec, rs d a.j0]
            by_cases ed : d = y
            · subst ed
              rw [if_pos rfl]
              by_cases ep : c = p
              · rw [ep, hp]
              · have := hx.clo c d a b e.1 (fun hh => ep hh.1); omega
            · rw [if_neg ed]
              refine hx.clo c d a b e.1 fun hh => f ⟨hh.1, ?_⟩
              have := hh.2
              rw [hdrop, List.mem_cons] at this
              rcases this with h | h
              · exact absurd h ed
              · exact h, fun c hc => by
            rw [List.mem_append] at hc
            rcases hc with hc | hc
            · have := hx.stk c hc
              rw [rs c this.1, if_neg (by intro h; subst h; omega)]; exact this
            · have hc' : c = y := by simpa using hc
              subst hc'; rw [rs _ y0, if_pos rfl]; exact ⟨y0, y1, rfl⟩⟩ (by rw [rs p p0, if_neg (fun h => yp h.symm)]; exact hp) (by simp; omega)
        refine ⟨x', st', g1, by simp at g2; omega, fun r hr => Told.step (fun k => ?_) (g3 r hr)⟩
        simp only [impl_regions.l3]
        rw [← hy, if_pos (by omega), if_pos (by omega), if_pos (by omega), if_pos (by omega), if_pos (by omega), if_pos c1, if_pos (by omega), if_pos (by omega), if_pos (by omega), if_pos c2, if_pos (by omega), Gen.w64s (by omega)]
      · refine skip (fun a => absurd (a.eq.symm.trans hconn.same) c2) fun r hr => Told.step (fun k => ?_) hr
        simp only [impl_regions.l3]
        rw [← hy, if_pos (by omega), if_pos (by omega), if_pos (by omega), if_pos (by omega), if_pos (by omega), if_pos c1, if_pos (by omega), if_pos (by omega), if_pos (by omega), if_neg c2, Gen.w64s (by omega)]
    · refine skip (fun a => ?_) fun r hr => Told.step (fun k => ?_) hr
      · by_cases e : y ∈ st
        · rw [(hx.stk y e).2.2, hp]
        · exact (hx.clo y p a.symm (by omega) e (fun hh => yp hh.1)).symm
      · simp only [impl_regions.l3]
        rw [← hy, if_pos (by omega), if_pos (by omega), if_pos (by omega), if_pos (by omega), if_pos (by omega), if_neg c1, Gen.w64s (by omega)]
theorem tR2 {w h : Int} {s : ByteArray} (c : Cov w h s) (i : Nat) (hi : i < s.size) : ∀ M x st, RI w s i x st (fun _ _ => False) → 2 * un x + st.length ≤ M → M ≤ 100 → ∃ x', RI w s i x' [] (fun _ _ => False) ∧ ∀ r, Told (fun k => impl_regions.l1 k x' s.size ((i + 1 : Nat) : Int) w h s) r → Told (fun k => impl_regions.l2 k x i st s.size i w h s) r := by
  have hn := c.le
  have fin : ∀ x, RI w s i x [] (fun _ _ => False) → ∃ x', RI w s i x' [] (fun _ _ => False) ∧ ∀ r, Told (fun k => impl_regions.l1 k x' s.size ((i + 1 : Nat) : Int) w h s) r → Told (fun k => impl_regions.l2 k x i [] s.size i w h s) r := fun x hx =>
    ⟨x, hx, fun r hr => Told.step (fun k => by simp only [impl_regions.l2]; rw [if_neg (by simp), Gen.w64s (by omega)]) hr⟩
  intro M
  induction M with
  | zero =>
    intro x st hx hM hM'
    cases st with
    | nil => exact fin x hx
    | cons a t => simp at hM
  | succ M ih =>
    intro x st hx hM hM'
    by_cases hst : st = []
    · subst hst; exact fin x hx
    have hlen : 0 < st.length := List.length_pos_iff.mpr hst
    obtain ⟨p, hp⟩ : ∃ p, p = rd st ((st.length : Int) - 1) := ⟨_, rfl⟩
    have hsplit : st = st.take (st.length - 1) ++ [p] := by
      have e : st.drop (st.length - 1) = [p] := by
        rw [List.drop_eq_getElem_cons (by omega), List.drop_of_length_le (by omega)]
        rw [hp]; unfold rd
        rw [List.getD_eq_getElem?_getD, List.getElem?_eq_getElem (by omega)]
        have : ((st.length : Int) - 1).toNat = st.length - 1 := by omega
        simp [this]
      rw [← e]; exact (List.take_append_drop _ _).symm
    have pst : p ∈ st := by rw [hsplit]; simp
    obtain ⟨p0, p1, pi⟩ := hx.stk p pst
    have hnb := nbl_mem c p0 p1
    have hl4 := nbl_len w s.size p
    have hx1 : RI w s i x (st.take (st.length - 1)) (fun c d => c = p ∧ d ∈ (nbl w s.size p).drop 0) := ⟨hx.len, hx.val, hx.low, fun c d a b e f => by
      by_cases ep : c = p
      · subst ep; exact absurd ⟨rfl, by rw [List.drop_zero]; exact (hnb d).mpr ⟨a.j0, a.j1, a.nx⟩⟩ f
      · refine hx.clo c d a b (fun hc => ?_) (fun h => h)
        rw [hsplit, List.mem_append] at hc
        rcases hc with hc | hc
        · exact e hc
        · exact ep (by simpa using hc), fun c hc => hx.stk c (List.mem_of_mem_take hc)⟩
    obtain ⟨x1, st1, g1, g2, g3⟩ := tR3 c i hi p p0 p1 _ hnb hl4 _ 0 (Nat.zero_add _) x _ hx1 pi (by simp; omega)
    obtain ⟨x2, h1, h2⟩ := ih x1 st1 g1 (by simp at g2; omega) (by omega)
    refine ⟨x2, h1, fun r hr => ?_⟩
    refine Told.step (fun k => by simp only [impl_regions.l2]; rw [if_pos (by omega), Gen.w64 (by omega) (by omega), if_pos (by omega), if_pos (by omega), if_pos (by omega), ← hp]) ?_
    refine Told.bind (tBeside c p0 p1) ?_
    have e : ((st.length : Int) - 1).toNat = st.length - 1 := by omega
    rw [e]
    exact g3 r (h2 r hr)
theorem tR1 {w h : Int} {s : ByteArray} (c : Cov w h s) {R : List Int} (hR : IsReg w s R) : ∀ d (i : Nat), i + d = s.size → ∀ x, RI w s ((i : Int) - 1) x [] (fun _ _ => False) → Told (fun k => impl_regions.l1 k x s.size (i : Int) w h s) R := by
  have hn := c.le
  intro d
  induction d with
  | zero =>
    intro i hi x hx
    have hl := hx.len
    have e : x = R := IsReg.uniq ⟨hx.len, fun c c0 c1 => by
        have := hx.low c c0 (by omega) c1
        rcases hx.val c c0 c1 with e | e
        · omega
        · exact ⟨e.1, e.2.1⟩, fun a b ab => (hx.clo a b ab (hx.low a ab.i0 (by have := ab.i1; omega) ab.i1) (by simp) (fun h => h)).symm, fun c c0 c1 => by
        have := hx.low c c0 (by omega) c1
        rcases hx.val c c0 c1 with e | e
        · omega
        · exact e.2.2.2⟩ hR
    subst e
    exact Told.stepr fun k => by simp only [impl_regions.l1]; rw [if_neg (by omega)]
  | succ d ih =>
    intro i hi x hx
    have hl := hx.len
    have ei : (((i + 1 : Nat) : Int) - 1) = i := by omega
    by_cases c1 : rd x (i : Int) ≥ 0
    · refine Told.step (fun k => by simp only [impl_regions.l1]; rw [if_pos (by omega), if_pos (by omega), if_pos (by omega), if_pos c1, Gen.w64s (by omega)]) (ih (i + 1) (by omega) x ?_)
      rw [ei]
      refine ⟨hx.len, fun c c0 c1' => ?_, fun c c0 c1' c2' => ?_, hx.clo, fun c hc => by simp at hc⟩
      · rcases hx.val c c0 c1' with e | e
        · exact Or.inl e
        · exact Or.inr ⟨e.1, e.2.1, by omega, e.2.2.2⟩
      · by_cases e : c = (i : Int)
        · rw [e]; exact c1
        · exact hx.low c c0 (by omega) c2'
    · have rs : ∀ c : Int, 0 ≤ c → rd (x.set (i : Int).toNat i) c = if c = (i : Int) then (i : Int) else rd x c := fun c c0 => rd_set (by omega) (by omega) c0
      have hx1 : RI w s i (x.set (i : Int).toNat i) [(i : Int)] (fun _ _ => False) := by
        refine ⟨by simpa using hl, fun c c0 c1' => ?_, fun c c0 c1' c2' => ?_, fun a b ab h1 h2 _ => ?_, fun c hc => ?_⟩
        · rw [rs c c0]
          by_cases e : c = (i : Int)
          · subst e; rw [if_pos rfl]; exact Or.inr ⟨by omega, by omega, by omega, Conn.refl _⟩
          · rw [if_neg e]
            rcases hx.val c c0 c1' with e | e
            · exact Or.inl e
            · exact Or.inr ⟨e.1, e.2.1, by omega, e.2.2.2⟩
        · rw [rs c c0]
          by_cases e : c = (i : Int)
          · rw [if_pos e]; omega
          · rw [if_neg e]; exact hx.low c c0 (by omega) c2'
        · have ea : a ≠ (i : Int) := fun h => h2 (by simp [h])
          rw [rs a ab.i0, if_neg ea] at h1
          have := hx.clo a b ab h1 (by simp) (fun h => h)
          rw [rs a ab.i0, if_neg ea, rs b ab.j0, if_neg (by intro h; subst h; omega)]
          exact this
        · have hc' : c = (i : Int) := by simpa using hc
          subst hc'
          rw [rs _ (by omega), if_pos rfl]
          exact ⟨by omega, by omega, rfl⟩
      have hu : un (x.set (i : Int).toNat i) ≤ 36 := by
        have : ∀ l : List Int, un l ≤ l.length := by
          intro l
          induction l with
          | nil => simp [un]
          | cons a t ih => simp only [un, List.length_cons]; split <;> omega
        have := this (x.set (i : Int).toNat i)
        simp at this; simp; omega
      obtain ⟨x2, h1, h2⟩ := tR2 c i (by omega) 100 _ _ hx1 (by simp at *; omega) (by omega)
      refine Told.step (fun k => by simp only [impl_regions.l1]; rw [if_pos (by omega), if_pos (by omega), if_pos (by omega), if_neg c1]) (h2 _ (ih (i + 1) (by omega) x2 ?_))
      rw [ei]; exact h1
theorem tRegions {w h : Int} {s : ByteArray} (hc : covV w h s = true) {R : List Int} (hR : IsReg w s R) : Told (fun k => impl_regions.f k w h s) R := by
  have c := covV_cov hc
  have hn := c.le
  have t := tImplCover w h s (by omega)
  rw [hc] at t
  refine Told.bind t (Told.ite_t rfl (Told.ite_t (by omega) (Told.ite_t (by omega) (Told.bind (Told.ret _) ?_))))
  have key : ∀ d (i : Nat), i + d = s.size → ∀ x : List Int, x.length = s.size → (∀ c : Int, 0 ≤ c → c < (i : Int) → rd x c = -1) → Told (fun k => impl_regions.l0 k x s.size (i : Int) w h s) R := by
    intro d
    induction d with
    | zero =>
      intro i hi x hx hm
      refine Told.step (fun k => by simp only [impl_regions.l0]; rw [if_neg (by omega), hx]; rfl) (tR1 c hR s.size 0 (by omega) x ⟨hx, fun c c0 c1 => Or.inl (hm c c0 (by omega)), fun c c0 c1 => by omega, fun a b ab h1 => ?_, fun c hc => by simp at hc⟩)
      have := hm a ab.i0 (by have := ab.i1; omega)
      omega
    | succ d ih =>
      intro i hi x hx hm
      refine Told.step (fun k => by simp only [impl_regions.l0]; rw [if_pos (by omega), if_pos (by omega), if_pos (by omega), Gen.w64s (by omega)]) (ih (i + 1) (by omega) _ (by simpa using hx) fun c c0 c1 => ?_)
      rw [rd_set (by omega) (by omega) c0]
      by_cases e : c = (i : Int)
      · rw [if_pos e]
      · rw [if_neg e]; exact hm c c0 (by omega)
  have := key s.size 0 (by omega) (List.replicate s.size 0) (by simp) (fun c c0 c1 => by omega)
  refine Told.eq (fun k => ?_) this
  simp
theorem tRegionsNo {w h : Int} {s : ByteArray} (hs : s.size ≤ 1048576) (hc : covV w h s = false) : Told (fun k => impl_regions.f k w h s) ([] : List Int) := by
  have t := tImplCover w h s hs
  rw [hc] at t
  exact Told.bind t (Told.ite_f (by simp) (Told.ret _))
def sfx : Nat → Nat → List Int
  | _, 0 => []
  | i, d + 1 => (i : Int) :: sfx (i + 1) d
theorem sfx_mem : ∀ (d i : Nat) (y : Int), y ∈ sfx i d ↔ (i : Int) ≤ y ∧ y < (i : Int) + d := by
  intro d
  induction d with
  | zero => intro i y; simp only [sfx]; constructor
            · intro h; simp at h
            · intro h; omega
  | succ d ih => intro i y; simp only [sfx, List.mem_cons, ih]; omega
theorem sfx_nodup : ∀ (d i : Nat), (sfx i d).Nodup := by
  intro d
  induction d with
  | zero => intro i; simp [sfx]
  | succ d ih => intro i; simp only [sfx, List.nodup_cons, sfx_mem]; exact ⟨by omega, ih _⟩
theorem sfx_len : ∀ (d i : Nat), (sfx i d).length = d := by
  intro d
  induction d with
  | zero => intro i; rfl
  | succ d ih => intro i; simp [sfx, ih]
def cells (R : List Int) (a : Int) (i d : Nat) : List Int := (sfx i d).filter fun c => decide (rd R c = a)
theorem cells_len (R : List Int) (a : Int) (i d : Nat) : (cells R a i d).length ≤ d := by
  have := List.length_filter_le (fun c => decide (rd R c = a)) (sfx i d)
  rw [sfx_len] at this; exact this
theorem cells_mem (R : List Int) (a : Int) (i d : Nat) (y : Int) : y ∈ cells R a i d ↔ ((i : Int) ≤ y ∧ y < (i : Int) + d) ∧ rd R y = a := by
  unfold cells; rw [List.mem_filter, sfx_mem, decide_eq_true_eq]
def cnt (w : Int) (t : List Int) (c : Int) : Nat := (t.filter fun y => decide (nx w c y)).length
def bsum (w : Int) (t : List Int) : List Int → Nat
  | [] => 0
  | c :: l => cnt w t c + bsum w t l
theorem cnt_nbl {w h : Int} {s : ByteArray} (c : Cov w h s) (R : List Int) (b : Int) {x : Int} (x0 : 0 ≤ x) (x1 : x < s.size) : cnt w (cells R b 0 s.size) x = ((nbl w s.size x).filter fun y => decide (rd R y = b)).length := by
  unfold cnt
  refine List.Perm.length_eq ((List.perm_ext_iff_of_nodup (List.Pairwise.filter _ (List.Pairwise.filter _ (sfx_nodup _ _))) (List.Pairwise.filter _ (nbl_nodup c x0 x1))).mpr fun y => ?_)
  show y ∈ List.filter _ (cells R b 0 s.size) ↔ _
  rw [List.mem_filter, List.mem_filter, cells_mem, nbl_mem c x0 x1, decide_eq_true_eq, decide_eq_true_eq]
  constructor
  · rintro ⟨⟨⟨h1, h2⟩, h3⟩, h4⟩; exact ⟨⟨by omega, by omega, h4⟩, h3⟩
  · rintro ⟨⟨h1, h2, h4⟩, h3⟩; exact ⟨⟨⟨by omega, by omega⟩, h3⟩, h4⟩
theorem tCells {w h : Int} {s : ByteArray} (c : covV w h s = true) {R : List Int} (hR : IsReg w s R) (ht : Told (fun k => spec_l15Numbers.f k w h s) R) (a : Int) : Told (fun k => spec_RegionCells.f k w h s a) (cells R a 0 s.size) := by
  have hn := (covV_cov c).le
  have hl := hR.1
  have t := tSpecCover w h s (by omega)
  rw [c] at t
  refine Told.bind (Told.ret _) (Told.bind t (Told.ite_t rfl (Told.bind ht ?_)))
  have key : ∀ d (i : Nat), i + d = s.size → ∀ acc : List Int, acc.length ≤ i → Told (fun k => spec_RegionCells.l0 k a acc R (i : Int)) (acc ++ cells R a i d) := by
    intro d
    induction d with
    | zero =>
      intro i hi acc ha
      simp only [cells, sfx, List.filter_nil, List.append_nil]
      exact Told.stepr fun k => by simp only [spec_RegionCells.l0]; rw [if_neg (by omega)]
    | succ d ih =>
      intro i hi acc ha
      refine Told.step (fun k => by simp only [spec_RegionCells.l0]; rw [if_pos (by omega), if_pos (by omega), Gen.w64s (by omega)]) ?_
      by_cases e : rd R (i : Int) = a
      · have := ih (i + 1) (by omega) (acc ++ [(i : Int)]) (by simp; omega)
        have e2 : cells R a i (d + 1) = (i : Int) :: cells R a (i + 1) d := by
          unfold cells; simp only [sfx]; rw [List.filter_cons_of_pos (by simpa using e)]
        rw [List.append_assoc] at this
        rw [e2]
        exact Told.ite_t e (Told.ite_t (by omega) this)
      · have := ih (i + 1) (by omega) acc (by omega)
        have e2 : cells R a i (d + 1) = cells R a (i + 1) d := by
          unfold cells; simp only [sfx]; rw [List.filter_cons_of_neg (by simpa using e)]
        rw [e2]
        exact Told.ite_f e this
  have := key s.size 0 (by omega) [] (by simp)
  rw [List.nil_append] at this
  exact this
theorem tCellsNo {w h : Int} {s : ByteArray} (hs : s.size ≤ 1048576) (c : covV w h s = false) (a : Int) : Told (fun k => spec_RegionCells.f k w h s a) [] := by
  have t := tSpecCover w h s hs
  rw [c] at t
  exact Told.bind (Told.ret _) (Told.bind t (Told.ite_f (by simp) (Told.ret _)))
theorem getD_drop {l : List Int} {i : Nat} (h : i < l.length) : l.drop i = rd l (i : Int) :: l.drop (i + 1) := by
  unfold rd
  rw [List.drop_eq_getElem_cons h, List.getD_eq_getElem?_getD, Int.toNat_natCast, List.getElem?_eq_getElem h]; rfl
theorem tSB1 {w h : Int} {s : ByteArray} (c : Cov w h s) (a b : Int) (S T : List Int) (hS : ∀ y ∈ S, 0 ≤ y ∧ y < s.size) (hT : ∀ y ∈ T, 0 ≤ y ∧ y < s.size) (hl : S.length ≤ 36) (hl' : T.length ≤ 36) (i : Nat) (hi : i < S.length) :
    ∀ d (j : Nat), j + d = T.length → ∀ v : Nat, v ≤ 3000 + j → ∀ r, Told (fun k => spec_Border.l0 k a b S T ((v + cnt w (T.drop j) (rd S (i : Int)) : Nat) : Int) ((i + 1 : Nat) : Int) w h s) r → Told (fun k => spec_Border.l1 k a b S T (v : Int) (i : Int) (j : Int) w h s) r := by
  have hm : ∀ l : List Int, ∀ i : Nat, i < l.length → rd l (i : Int) ∈ l := fun l i hi => by
    unfold rd; rw [List.getD_eq_getElem?_getD, Int.toNat_natCast, List.getElem?_eq_getElem hi]; exact List.getElem_mem hi
  intro d
  induction d with
  | zero =>
    intro j hj v hv r hr
    rw [List.drop_of_length_le (by omega)] at hr
    exact Told.step (fun k => by simp only [spec_Border.l1]; rw [if_neg (by omega), Gen.w64s (by omega)]; rfl) hr
  | succ d ih =>
    intro j hj v hv r hr
    rw [getD_drop (by omega)] at hr
    have h1 := hS _ (hm S i hi)
    have h2 := hT _ (hm T j (by omega))
    refine Told.step (fun k => by simp only [spec_Border.l1]; rw [if_pos (by omega), if_pos (by omega), if_pos (by omega), if_pos (by omega), Gen.w64s (by omega), Gen.w64s (by omega)]) ?_
    refine Told.bind (Told.of (next_some c h1.1 h1.2 h2.1 h2.2)) ?_
    by_cases e : nx w (rd S (i : Int)) (rd T (j : Int))
    · refine Told.ite_t (decide_eq_true e) (ih (j + 1) (by omega) (v + 1) (by omega) r ?_)
      have : cnt w (rd T (j : Int) :: T.drop (j + 1)) (rd S (i : Int)) = cnt w (T.drop (j + 1)) (rd S (i : Int)) + 1 := by
        unfold cnt; rw [List.filter_cons_of_pos (by simpa using e)]; rfl
      rw [this] at hr
      have e3 : v + 1 + cnt w (T.drop (j + 1)) (rd S (i : Int)) = v + (cnt w (T.drop (j + 1)) (rd S (i : Int)) + 1) := by omega
      rw [e3]; exact hr
    · refine Told.ite_f (by simpa using e) (ih (j + 1) (by omega) v (by omega) r ?_)
      have : cnt w (rd T (j : Int) :: T.drop (j + 1)) (rd S (i : Int)) = cnt w (T.drop (j + 1)) (rd S (i : Int)) := by
        unfold cnt; rw [List.filter_cons_of_neg (by simpa using e)]
      rw [this] at hr; exact hr
theorem tSB0 {w h : Int} {s : ByteArray} (c : Cov w h s) {a b : Int} (hab : a ≠ b) (S T : List Int) (hS : ∀ y ∈ S, 0 ≤ y ∧ y < s.size) (hT : ∀ y ∈ T, 0 ≤ y ∧ y < s.size) (hl : S.length ≤ 36) (hl' : T.length ≤ 36) :
    ∀ d (i : Nat), i + d = S.length → ∀ v : Nat, v ≤ 36 * i → Told (fun k => spec_Border.l0 k a b S T (v : Int) (i : Int) w h s) ((v + bsum w T (S.drop i) : Nat) : Int) := by
  intro d
  induction d with
  | zero =>
    intro i hi v hv
    rw [List.drop_of_length_le (by omega)]
    refine Told.step (fun k => by simp only [spec_Border.l0]; rw [if_neg (by omega)]) (Told.stepr fun k => by simp only [spec_Border.j1]; rfl)
  | succ d ih =>
    intro i hi v hv
    rw [getD_drop (by omega)]
    refine Told.step (fun k => by simp only [spec_Border.l0]; rw [if_pos (by omega)]) (Told.step (fun k => by simp only [spec_Border.j1]; rw [if_pos (by simpa using hab)]) ?_)
    have hc : cnt w T (rd S (i : Int)) ≤ 36 := by
      have := List.length_filter_le (fun y => decide (nx w (rd S (i : Int)) y)) T
      unfold cnt; omega
    have := ih (i + 1) (by omega) (v + cnt w T (rd S (i : Int))) (by omega)
    refine tSB1 c a b S T hS hT hl hl' i (by omega) T.length 0 (by omega) v (by omega) _ ?_
    rw [List.drop_zero]
    simp only [bsum]
    rw [← Nat.add_assoc]
    exact this
theorem tIB1 {w h : Int} {s : ByteArray} (a b : Int) (R nb : List Int) (hn : s.size ≤ 36) (hl : R.length = s.size) (hnb : ∀ y ∈ nb, 0 ≤ y ∧ y < s.size) (hl4 : nb.length ≤ 4) (i : Nat) (hi : i < s.size) :
    ∀ d (j : Nat), j + d = nb.length → ∀ v : Nat, v ≤ 3000 + j → ∀ r, Told (fun k => impl_Border.l0 k a b R ((v + ((nb.drop j).filter fun y => decide (rd R y = b)).length : Nat) : Int) s.size ((i + 1 : Nat) : Int) w h s) r → Told (fun k => impl_Border.l1 k a b R (v : Int) s.size (i : Int) nb nb.length (j : Int) w h s) r := by
  have hm : ∀ l : List Int, ∀ i : Nat, i < l.length → rd l (i : Int) ∈ l := fun l i hi => by
    unfold rd; rw [List.getD_eq_getElem?_getD, Int.toNat_natCast, List.getElem?_eq_getElem hi]; exact List.getElem_mem hi
  intro d
  induction d with
  | zero =>
    intro j hj v hv r hr
    rw [List.drop_of_length_le (by omega)] at hr
    exact Told.step (fun k => by simp only [impl_Border.l1]; rw [if_neg (by omega), Gen.w64s (by omega)]; rfl) hr
  | succ d ih =>
    intro j hj v hv r hr
    rw [getD_drop (by omega)] at hr
    have h2 := hnb _ (hm nb j (by omega))
    refine Told.step (fun k => by simp only [impl_Border.l1]; rw [if_pos (by omega), if_pos (by omega), if_pos (by omega), if_pos (by omega), if_pos (by omega), Gen.w64s (by omega), Gen.w64s (by omega)]) ?_
    by_cases e : rd R (rd nb (j : Int)) = b
    · refine Told.ite_t e (ih (j + 1) (by omega) (v + 1) (by omega) r ?_)
      rw [List.filter_cons_of_pos (by simpa using e), List.length_cons] at hr
      have e3 : v + 1 + ((nb.drop (j + 1)).filter fun y => decide (rd R y = b)).length = v + (((nb.drop (j + 1)).filter fun y => decide (rd R y = b)).length + 1) := by omega
      rw [e3]; exact hr
    · refine Told.ite_f e (ih (j + 1) (by omega) v (by omega) r ?_)
      rw [List.filter_cons_of_neg (by simpa using e)] at hr
      exact hr
theorem tIB0 {w h : Int} {s : ByteArray} (c : Cov w h s) (a b : Int) (R : List Int) (hl : R.length = s.size) :
    ∀ d (i : Nat), i + d = s.size → ∀ v : Nat, v ≤ 36 * i → Told (fun k => impl_Border.l0 k a b R (v : Int) s.size (i : Int) w h s) ((v + bsum w (cells R b 0 s.size) (cells R a i d) : Nat) : Int) := by
  have hn := c.le
  intro d
  induction d with
  | zero =>
    intro i hi v hv
    exact Told.stepr fun k => by simp only [impl_Border.l0]; rw [if_neg (by omega)]; rfl
  | succ d ih =>
    intro i hi v hv
    by_cases e : rd R (i : Int) = a
    · have e2 : cells R a i (d + 1) = (i : Int) :: cells R a (i + 1) d := by
        unfold cells; simp only [sfx]; rw [List.filter_cons_of_pos (by simpa using e)]
      rw [e2]
      simp only [bsum]
      have hc : cnt w (cells R b 0 s.size) (i : Int) ≤ 36 := by
        have := List.length_filter_le (fun y => decide (nx w (i : Int) y)) (cells R b 0 s.size)
        have := cells_len R b 0 s.size
        unfold cnt; omega
      have := ih (i + 1) (by omega) (v + cnt w (cells R b 0 s.size) (i : Int)) (by omega)
      refine Told.step (fun k => by simp only [impl_Border.l0]; rw [if_pos (by omega), if_pos (by omega), if_pos (by omega), if_pos e]) (Told.bind (tBeside c (by omega) (by omega)) ?_)
      refine tIB1 a b R _ hn hl (fun y hy => ?_) (nbl_len _ _ _) i (by omega) _ 0 (Nat.zero_add _) v (by omega) _ ?_
      · have := (nbl_mem c (by omega) (by omega) y).mp hy; exact ⟨this.1, this.2.1⟩
      · rw [List.drop_zero, ← cnt_nbl c R b (by omega) (by omega), ← Nat.add_assoc]; exact this
    · have e2 : cells R a i (d + 1) = cells R a (i + 1) d := by
        unfold cells; simp only [sfx]; rw [List.filter_cons_of_neg (by simpa using e)]
      rw [e2]
      exact Told.step (fun k => by simp only [impl_Border.l0]; rw [if_pos (by omega), if_pos (by omega), if_pos (by omega), if_neg e, Gen.w64s (by omega)]) (ih (i + 1) (by omega) v (by omega))
theorem tBorder {w h : Int} {s : ByteArray} (hs : s.size ≤ 1048576) (a b : Int) : ∃ v : Int, Told (fun k => spec_Border.f k w h s a b) v ∧ Told (fun k => impl_Border.f k w h s a b) v := by
  by_cases c : covV w h s = true
  · have cv := covV_cov c
    have hn := cv.le
    obtain ⟨R, hR, ht⟩ := tNumbers cv
    have hcs : ∀ a, ∀ y ∈ cells R a 0 s.size, 0 ≤ y ∧ y < s.size := fun a y hy => by
      have := (cells_mem R a 0 s.size y).mp hy; omega
    have t1 := tCells c hR ht a
    have t2 := tCells c hR ht b
    have l1 := cells_len R a 0 s.size
    have l2 := cells_len R b 0 s.size
    by_cases hab : a = b
    · refine ⟨0, Told.bind t1 (Told.bind t2 ?_), Told.ite_t hab (Told.ret _)⟩
      have hf : (a != b) = false := by simpa using hab
      have e : ∀ L : Nat → Option Int, (∀ k, L k = some 0) → Told L 0 := fun L h => Told.eq h (Told.ret _)
      refine Told.step (M := fun k => spec_Border.j1 k a b (cells R a 0 s.size) (cells R b 0 s.size) 0 0 false w h s) (fun k => ?_) (Told.stepr fun k => by simp only [spec_Border.j1]; rfl)
      simp only [spec_Border.l0]; rw [hf]; split <;> rfl
    · refine ⟨((0 + bsum w (cells R b 0 s.size) (cells R a 0 s.size) : Nat) : Int), Told.bind t1 (Told.bind t2 ?_), Told.ite_f hab (Told.bind (tRegions c hR) ?_)⟩
      · have := tSB0 cv hab _ _ (hcs a) (hcs b) (by omega) (by omega) _ 0 (Nat.zero_add _) 0 (by omega)
        rw [List.drop_zero] at this; exact this
      · have := tIB0 cv a b R hR.1 s.size 0 (by omega) 0 (by omega)
        rw [hR.1]; exact this
  · have c' : covV w h s = false := by simpa using c
    have t1 := tCellsNo hs c' a
    have t2 := tCellsNo hs c' b
    refine ⟨0, Told.bind t1 (Told.bind t2 (Told.step (fun k => by simp only [spec_Border.l0]; rw [if_neg (by simp)]) (Told.stepr fun k => by simp only [spec_Border.j1]; rfl))), ?_⟩
    by_cases hab : a = b
    · exact Told.ite_t hab (Told.ret _)
    · exact Told.ite_f hab (Told.bind (tRegionsNo hs c') (Told.stepr fun k => by simp only [impl_Border.l0]; rw [if_neg (by simp)]))
theorem pure_FnExactBorder : ∀ (a0_0 : Int) (a0_1 : Int) (a0_2 : ByteArray) (a1 : Int) (a2 : Int), ((I64 a0_0) ∧ (I64 a0_1) ∧ (ByteArray.size a0_2 ≤ maxLen)) → I64 a1 → I64 a2 → ∃ k, laws_FnExactBorder.f k a0_0 a0_1 a0_2 a1 a2 = some true := by
  intro w h s a b ⟨_, _, hs⟩ _ _
  unfold maxLen at hs
  apply Told.ex
  by_cases c : wrap64 (1048576 - (s.size : Int)) < 0
  · exact Told.bind (Told.of (if_pos c)) (Told.ite_t (by omega) (Told.ret _))
  have hs' : s.size ≤ 1048576 := by rw [Gen.w64 (by omega) (by omega)] at c; omega
  refine Told.bind (Told.of (if_neg c)) (Told.ite_f c (Told.bind (Told.ret _) ?_))
  obtain ⟨v, h1, h2⟩ := tBorder hs' a b
  exact Told.bind h1 (Told.bind (Told.ret _) (Told.bind h2 (Told.ite_t rfl (Told.ret _))))
end Go.Proofs.Ytchmbcembbbplaa.MFnExactBorder
