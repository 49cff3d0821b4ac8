-- Laid by this session's program pp.py, after the kit's print and texts of the session's own. Not trusted: Lean checks it.
import Derived.Test.YtchmbcembbbplabMFnExactIsFaithfulx0
import Derived.Test.YtchmbcembbbplabMFnExactIsFaithfulx1
import Derived.Test.YtchmbcembbbplabMFnExactIsFaithfulx4
import Derived.Test.YtchmbcembbbplabMFnExactIsFaithfulx5
namespace Go.Proofs.Ytchmbcembbbplab.MFnExactIsFaithful
open Go.RowKit Go.Proofs.YtchmbcembbbplabW.PrintWords Go.Proofs.YtchmbcembbbplabW.PrintLast Go.Proofs.YtchmbcembbbplabW.PrintMore
attribute [local go_sem] max2_int min2_int max_two min_two max_three min_three max_four min_four   -- for this text's walks alone
set_option linter.unusedVariables false
set_option linter.unusedSimpArgs false

attribute [local go_sem high] eqA27
/-! ### impl_IsFaithful: function 35 -/
mutual
def impl_IsFaithful.j0 : Nat → List (S27) → List (S27) → Int → Bool → Option (Bool)
  | 0, _, _, _, _ => none
  | k + 1, x0, x1, x2, x44 => if x44 = true then (some false) else ((impl_SegmentsOf.f k x1).bind fun t209 => (impl_IsFaithful.l0 k x2 t209 x0 (x0.length : Int) 0))
def impl_IsFaithful.l0 : Nat → Int → List (S60) → List (S27) → Int → Int → Option (Bool)
  | 0, _, _, _, _, _ => none
  | k + 1, x2, x7, x47, x48, x49 => if x49 < x48 then (if 0 ≤ x49 then (if x49 < (x47.length : Int) then (impl_IsFaithful.l1 k x2 x7 false x47 x48 x49 x7 (x7.length : Int) 0 ((rd_T27 x47 x49).f0) ((rd_T27 x47 x49).f1)) else (none)) else (none)) else (some true)
def impl_IsFaithful.l1 : Nat → Int → List (S60) → Bool → List (S27) → Int → Int → List (S60) → Int → Int → Int → Int → Option (Bool)
  | 0, _, _, _, _, _, _, _, _, _, _, _ => none
  | k + 1, x2, x7, x10, x47, x48, x49, x53, x54, x55, x214000, x214001 => if x55 < x54 then (if 0 ≤ x55 then (if x55 < (x53.length : Int) then (if x10 = true then (impl_IsFaithful.l1 k x2 x7 true x47 x48 x49 x53 x54 (wrap64 (x55 + 1)) x214000 x214001) else ((impl_IsNear.f ((rd_T60 x53 x55).f0.f0) ((rd_T60 x53 x55).f0.f1) ((rd_T60 x53 x55).f1.f0) ((rd_T60 x53 x55).f1.f1) x214000 x214001 x2).bind fun t216 => (impl_IsFaithful.l1 k x2 x7 t216 x47 x48 x49 x53 x54 (wrap64 (x55 + 1)) x214000 x214001))) else (none)) else (none)) else (if x10 = true then (impl_IsFaithful.l0 k x2 x7 x47 x48 (wrap64 (x49 + 1))) else (some false))
end
def impl_IsFaithful.f (k : Nat) (l0 : List (S27)) (l1 : List (S27)) (a2 : Int) : Option (Bool) := (impl_IsLine.f k l0).bind fun t203 => (if t203 = true then ((impl_IsLine.f k l1).bind fun t204 => (if t204 = true then (if 0 < (l0.length : Int) then (if 0 < (l1.length : Int) then (if (!(((rd_T27 l0 0).f0) == ((rd_T27 l1 0).f0)) || (!(((rd_T27 l0 0).f1) == ((rd_T27 l1 0).f1)))) = true then (impl_IsFaithful.j0 k l0 l1 a2 true) else (if 0 ≤ (wrap64 ((l0.length : Int) - 1)) then (if (wrap64 ((l0.length : Int) - 1)) < (l0.length : Int) then (if 0 ≤ (wrap64 ((l1.length : Int) - 1)) then (if (wrap64 ((l1.length : Int) - 1)) < (l1.length : Int) then (impl_IsFaithful.j0 k l0 l1 a2 (!(((rd_T27 l0 (wrap64 ((l0.length : Int) - 1))).f0) == ((rd_T27 l1 (wrap64 ((l1.length : Int) - 1))).f0)) || (!(((rd_T27 l0 (wrap64 ((l0.length : Int) - 1))).f1) == ((rd_T27 l1 (wrap64 ((l1.length : Int) - 1))).f1))))) else (none)) else (none)) else (none)) else (none))) else (none)) else (none)) else (impl_IsFaithful.j0 k l0 l1 a2 true))) else (impl_IsFaithful.j0 k l0 l1 a2 true))
theorem impl_IsFaithful.mono_l : ∀ k, (∀ y0 y1 y2 y3, LeO (impl_IsFaithful.j0 k y0 y1 y2 y3) (impl_IsFaithful.j0 (k + 1) y0 y1 y2 y3)) ∧ (∀ y0 y1 y2 y3 y4, LeO (impl_IsFaithful.l0 k y0 y1 y2 y3 y4) (impl_IsFaithful.l0 (k + 1) y0 y1 y2 y3 y4)) ∧ (∀ y0 y1 y2 y3 y4 y5 y6 y7 y8 y9 y10, LeO (impl_IsFaithful.l1 k y0 y1 y2 y3 y4 y5 y6 y7 y8 y9 y10) (impl_IsFaithful.l1 (k + 1) y0 y1 y2 y3 y4 y5 y6 y7 y8 y9 y10))
  | 0 => ⟨fun _ _ _ _ r h => by simp [impl_IsFaithful.j0] at h, fun _ _ _ _ _ r h => by simp [impl_IsFaithful.l0] at h, fun _ _ _ _ _ _ _ _ _ _ _ r h => by simp [impl_IsFaithful.l1] at h⟩
  | k + 1 => by
    obtain ⟨ih0, ih1, ih2⟩ := impl_IsFaithful.mono_l k
    refine ⟨?_, ?_, ?_⟩
    · intro y0 y1 y2 y3
      unfold impl_IsFaithful.j0
      repeat' first
      | (with_reducible exact ih0 _ _ _ _)
      | (with_reducible exact ih1 _ _ _ _ _)
      | (with_reducible exact ih2 _ _ _ _ _ _ _ _ _ _ _)
      | (with_reducible exact impl_IsLine.mono _ _)
      | (with_reducible exact impl_SegmentsOf.mono _ _)
      | (with_reducible exact LeO.refl _)
      | (with_reducible exact LeO.none _)
      | (with_reducible refine LeO.ite ?_ ?_)
      | (with_reducible refine LeO.bind ?_ (fun _ => ?_))
      | exact ih0 _ _ _ _
      | exact ih1 _ _ _ _ _
      | exact ih2 _ _ _ _ _ _ _ _ _ _ _
      | exact impl_IsLine.mono _ _
      | exact impl_SegmentsOf.mono _ _
      | exact LeO.none _
      | refine LeO.ite ?_ ?_
      | refine LeO.bind ?_ (fun _ => ?_)
    · intro y0 y1 y2 y3 y4
      unfold impl_IsFaithful.l0
      repeat' first
      | (with_reducible exact ih0 _ _ _ _)
      | (with_reducible exact ih1 _ _ _ _ _)
      | (with_reducible exact ih2 _ _ _ _ _ _ _ _ _ _ _)
      | (with_reducible exact impl_IsLine.mono _ _)
      | (with_reducible exact impl_SegmentsOf.mono _ _)
      | (with_reducible exact LeO.refl _)
      | (with_reducible exact LeO.none _)
      | (with_reducible refine LeO.ite ?_ ?_)
      | (with_reducible refine LeO.bind ?_ (fun _ => ?_))
      | exact ih0 _ _ _ _
      | exact ih1 _ _ _ _ _
      | exact ih2 _ _ _ _ _ _ _ _ _ _ _
      | exact impl_IsLine.mono _ _
      | exact impl_SegmentsOf.mono _ _
      | exact LeO.none _
      | refine LeO.ite ?_ ?_
      | refine LeO.bind ?_ (fun _ => ?_)
    · intro y0 y1 y2 y3 y4 y5 y6 y7 y8 y9 y10
      unfold impl_IsFaithful.l1
      repeat' first
      | (with_reducible exact ih0 _ _ _ _)
      | (with_reducible exact ih1 _ _ _ _ _)
      | (with_reducible exact ih2 _ _ _ _ _ _ _ _ _ _ _)
      | (with_reducible exact impl_IsLine.mono _ _)
      | (with_reducible exact impl_SegmentsOf.mono _ _)
      | (with_reducible exact LeO.refl _)
      | (with_reducible exact LeO.none _)
      | (with_reducible refine LeO.ite ?_ ?_)
      | (with_reducible refine LeO.bind ?_ (fun _ => ?_))
      | exact ih0 _ _ _ _
      | exact ih1 _ _ _ _ _
      | exact ih2 _ _ _ _ _ _ _ _ _ _ _
      | exact impl_IsLine.mono _ _
      | exact impl_SegmentsOf.mono _ _
      | exact LeO.none _
      | refine LeO.ite ?_ ?_
      | refine LeO.bind ?_ (fun _ => ?_)
theorem impl_IsFaithful.mono : ∀ a0 a1 a2 k, LeO (impl_IsFaithful.f k a0 a1 a2) (impl_IsFaithful.f (k + 1) a0 a1 a2) := by
  intro a0 a1 a2 k
  obtain ⟨ih0, ih1, ih2⟩ := impl_IsFaithful.mono_l k
  unfold impl_IsFaithful.f
  repeat' first
      | (with_reducible exact ih0 _ _ _ _)
      | (with_reducible exact ih1 _ _ _ _ _)
      | (with_reducible exact ih2 _ _ _ _ _ _ _ _ _ _ _)
      | (with_reducible exact impl_IsLine.mono _ _)
      | (with_reducible exact impl_SegmentsOf.mono _ _)
      | (with_reducible exact LeO.refl _)
      | (with_reducible exact LeO.none _)
      | (with_reducible refine LeO.ite ?_ ?_)
      | (with_reducible refine LeO.bind ?_ (fun _ => ?_))
      | exact ih0 _ _ _ _
      | exact ih1 _ _ _ _ _
      | exact ih2 _ _ _ _ _ _ _ _ _ _ _
      | exact impl_IsLine.mono _ _
      | exact impl_SegmentsOf.mono _ _
      | exact LeO.none _
      | refine LeO.ite ?_ ?_
      | refine LeO.bind ?_ (fun _ => ?_)
def impl_IsFaithful.T1 : Bool × List (List Nat × List Nat) := (true, [([], []), ([0], [0]), ([1], [1]), ([2, 1], [2]), ([3], [3]), ([4, 3, 3], [3, 4]), ([5, 3], [3, 5]), ([3, 6], [3, 6]), ([7, 5], [7]), ([8], [8]), ([9, 8], [8, 9]), ([10, 8], [8, 10]), ([8], [8]), ([12, 8], [8, 12]), ([13, 8], [8, 13]), ([11, 14, 8], [8, 11, 14]), ([8, 15], [8, 15]), ([16, 8], [16]), ([17], [17]), ([17], [17]), ([19, 17], [17, 19]), ([20, 17], [17, 20]), ([18, 21, 17], [17, 18, 21]), ([22, 17], [17, 22]), ([17], [17]), ([17], [17]), ([25, 17], [17, 25]), ([26, 17], [17, 26]), ([24, 27, 17], [17, 24, 27]), ([28, 17], [17, 28]), ([23, 29, 17], [17, 23, 29]), ([17, 30], [17, 30])])
def impl_IsFaithful.B1 : List Nat := [0, 1, 3, 7, 15, 31, 63, 127, 255, 511, 1023, 2047, 511, 4607, 12799, 32767, 65535, 131071, 262143, 262143, 786431, 1835007, 4194303, 8388607, 262143, 262143, 33816575, 100925439, 251920383, 520355839, 1073741823, 2147483647]
theorem impl_IsFaithful.tab1 : rtab .any (opsOf Try.f35 1) = impl_IsFaithful.T1 := by kernel_rfl
theorem impl_IsFaithful.bits1 : waitsOk impl_IsFaithful.T1.2 impl_IsFaithful.B1 = true := by kernel_rfl
set_option maxHeartbeats 8000000 in
set_option maxRecDepth 100000 in
theorem impl_IsFaithful.calls (k : Nat) (A0 : Option Addr) (c0 : Nat) (l0 : List (S27)) (A1 : Option Addr) (c1 : Nat) (l1 : List (S27)) (a2 : Int) (r : Bool) (w : World) (hr0 : Kd.C k27 w A0 l0.length l0) (hc0 : l0.length ≤ c0) (hr1 : Kd.C k27 w A1 l1.length l1) (hc1 : l1.length ≤ c1) (h : impl_IsFaithful.f k l0 l1 a2 = some r) :
    Calls Try.prog 35 #[.slice A0 l0.length c0, .slice A1 l1.length c1, .int .i64 a2] w fun e w' => e = .returned (.bool r) ∧ Below w.heap.size w w' := by
  have hu27 := Try.underlying27
  have hu60 := Try.underlying60
  have HR0 := Aside0.mk hr0
  have HC0 := Aside0.mk hc0
  clear hr0 hc0
  have HR1 := Aside0.mk hr1
  have HC1 := Aside0.mk hc1
  clear hr1 hc1
  have HB := Aside0.mk (Below.refl w.heap.size w)
  have H : ((impl_IsLine.f k l0).bind fun t203 => (if t203 = true then ((impl_IsLine.f k l1).bind fun t204 => (if t204 = true then (if 0 < (l0.length : Int) then (if 0 < (l1.length : Int) then (if (!(((rd_T27 l0 0).f0) == ((rd_T27 l1 0).f0)) || (!(((rd_T27 l0 0).f1) == ((rd_T27 l1 0).f1)))) = true then (impl_IsFaithful.j0 k l0 l1 a2 true) else (if 0 ≤ (wrap64 ((l0.length : Int) - 1)) then (if (wrap64 ((l0.length : Int) - 1)) < (l0.length : Int) then (if 0 ≤ (wrap64 ((l1.length : Int) - 1)) then (if (wrap64 ((l1.length : Int) - 1)) < (l1.length : Int) then (impl_IsFaithful.j0 k l0 l1 a2 (!(((rd_T27 l0 (wrap64 ((l0.length : Int) - 1))).f0) == ((rd_T27 l1 (wrap64 ((l1.length : Int) - 1))).f0)) || (!(((rd_T27 l0 (wrap64 ((l0.length : Int) - 1))).f1) == ((rd_T27 l1 (wrap64 ((l1.length : Int) - 1))).f1))))) else (none)) else (none)) else (none)) else (none))) else (none)) else (none)) else (impl_IsFaithful.j0 k l0 l1 a2 true))) else (impl_IsFaithful.j0 k l0 l1 a2 true))) = some r := h
  clear h
  have HC4 := Aside0.mk H
  clear H
  go_enter Try.func35, Try.ntmps35
  go_upto_region 1 with (fail)
  go_cut [44] (fun v44 wc => ∃ (kq : Nat) (x44_3 : Bool), v44 = .bool x44_3 ∧ Aside0 (impl_IsFaithful.j0 kq l0 l1 a2 x44_3 = some r) ∧ Aside0 (kq ≤ k) ∧ Aside0 (Below w.heap.size w wc))
  case first =>
    have H := HC4.out
    clear HC4
    replace H := Option.bind_eq_some_iff.mp H
    obtain ⟨t203, A50, H⟩ := H
    replace H : (if t203 = true then ((impl_IsLine.f k l1).bind fun t204 => (if t204 = true then (if 0 < (l0.length : Int) then (if 0 < (l1.length : Int) then (if (!(((rd_T27 l0 0).f0) == ((rd_T27 l1 0).f0)) || (!(((rd_T27 l0 0).f1) == ((rd_T27 l1 0).f1)))) = true then (impl_IsFaithful.j0 k l0 l1 a2 true) else (if 0 ≤ (wrap64 ((l0.length : Int) - 1)) then (if (wrap64 ((l0.length : Int) - 1)) < (l0.length : Int) then (if 0 ≤ (wrap64 ((l1.length : Int) - 1)) then (if (wrap64 ((l1.length : Int) - 1)) < (l1.length : Int) then (impl_IsFaithful.j0 k l0 l1 a2 (!(((rd_T27 l0 (wrap64 ((l0.length : Int) - 1))).f0) == ((rd_T27 l1 (wrap64 ((l1.length : Int) - 1))).f0)) || (!(((rd_T27 l0 (wrap64 ((l0.length : Int) - 1))).f1) == ((rd_T27 l1 (wrap64 ((l1.length : Int) - 1))).f1))))) else (none)) else (none)) else (none)) else (none))) else (none)) else (none)) else (impl_IsFaithful.j0 k l0 l1 a2 true))) else (impl_IsFaithful.j0 k l0 l1 a2 true)) = some r := H
    have A5 := Aside0.mk A50
    clear A50
    by_cases c6 : t203 = true
    · subst c6
      have H1 : ((impl_IsLine.f k l1).bind fun t204 => (if t204 = true then (if 0 < (l0.length : Int) then (if 0 < (l1.length : Int) then (if (!(((rd_T27 l0 0).f0) == ((rd_T27 l1 0).f0)) || (!(((rd_T27 l0 0).f1) == ((rd_T27 l1 0).f1)))) = true then (impl_IsFaithful.j0 k l0 l1 a2 true) else (if 0 ≤ (wrap64 ((l0.length : Int) - 1)) then (if (wrap64 ((l0.length : Int) - 1)) < (l0.length : Int) then (if 0 ≤ (wrap64 ((l1.length : Int) - 1)) then (if (wrap64 ((l1.length : Int) - 1)) < (l1.length : Int) then (impl_IsFaithful.j0 k l0 l1 a2 (!(((rd_T27 l0 (wrap64 ((l0.length : Int) - 1))).f0) == ((rd_T27 l1 (wrap64 ((l1.length : Int) - 1))).f0)) || (!(((rd_T27 l0 (wrap64 ((l0.length : Int) - 1))).f1) == ((rd_T27 l1 (wrap64 ((l1.length : Int) - 1))).f1))))) else (none)) else (none)) else (none)) else (none))) else (none)) else (none)) else (impl_IsFaithful.j0 k l0 l1 a2 true))) = some r := by rw [if_pos rfl] at H; exact H
      clear H
      have H := H1
      clear H1
      replace H := Option.bind_eq_some_iff.mp H
      obtain ⟨t204, A70, H⟩ := H
      replace H : (if t204 = true then (if 0 < (l0.length : Int) then (if 0 < (l1.length : Int) then (if (!(((rd_T27 l0 0).f0) == ((rd_T27 l1 0).f0)) || (!(((rd_T27 l0 0).f1) == ((rd_T27 l1 0).f1)))) = true then (impl_IsFaithful.j0 k l0 l1 a2 true) else (if 0 ≤ (wrap64 ((l0.length : Int) - 1)) then (if (wrap64 ((l0.length : Int) - 1)) < (l0.length : Int) then (if 0 ≤ (wrap64 ((l1.length : Int) - 1)) then (if (wrap64 ((l1.length : Int) - 1)) < (l1.length : Int) then (impl_IsFaithful.j0 k l0 l1 a2 (!(((rd_T27 l0 (wrap64 ((l0.length : Int) - 1))).f0) == ((rd_T27 l1 (wrap64 ((l1.length : Int) - 1))).f0)) || (!(((rd_T27 l0 (wrap64 ((l0.length : Int) - 1))).f1) == ((rd_T27 l1 (wrap64 ((l1.length : Int) - 1))).f1))))) else (none)) else (none)) else (none)) else (none))) else (none)) else (none)) else (impl_IsFaithful.j0 k l0 l1 a2 true)) = some r := H
      have A7 := Aside0.mk A70
      clear A70
      by_cases c8 : t204 = true
      · subst c8
        have H1 : (if 0 < (l0.length : Int) then (if 0 < (l1.length : Int) then (if (!(((rd_T27 l0 0).f0) == ((rd_T27 l1 0).f0)) || (!(((rd_T27 l0 0).f1) == ((rd_T27 l1 0).f1)))) = true then (impl_IsFaithful.j0 k l0 l1 a2 true) else (if 0 ≤ (wrap64 ((l0.length : Int) - 1)) then (if (wrap64 ((l0.length : Int) - 1)) < (l0.length : Int) then (if 0 ≤ (wrap64 ((l1.length : Int) - 1)) then (if (wrap64 ((l1.length : Int) - 1)) < (l1.length : Int) then (impl_IsFaithful.j0 k l0 l1 a2 (!(((rd_T27 l0 (wrap64 ((l0.length : Int) - 1))).f0) == ((rd_T27 l1 (wrap64 ((l1.length : Int) - 1))).f0)) || (!(((rd_T27 l0 (wrap64 ((l0.length : Int) - 1))).f1) == ((rd_T27 l1 (wrap64 ((l1.length : Int) - 1))).f1))))) else (none)) else (none)) else (none)) else (none))) else (none)) else (none)) = some r := by rw [if_pos rfl] at H; exact H
        clear H
        have H := H1
        clear H1
        by_cases c9 : 0 < (l0.length : Int)
        · rw [if_pos c9] at H
          have c9b0 : decide (0 < (l0.length : Int)) = true := decide_eq_true c9
          have c9b1 : decide (0 < l0.length) = true := decide_eq_true (by omega)
          clear c9
          (first | rw [c9b0] | (simp only [i64_w, i32_w]; rw [c9b0]) | skip)
          by_cases c10 : 0 < (l1.length : Int)
          · rw [if_pos c10] at H
            have c10b0 : decide (0 < (l1.length : Int)) = true := decide_eq_true c10
            have c10b1 : decide (0 < l1.length) = true := decide_eq_true (by omega)
            clear c10
            by_cases c11 : (!(((rd_T27 l0 0).f0) == ((rd_T27 l1 0).f0)) || (!(((rd_T27 l0 0).f1) == ((rd_T27 l1 0).f1)))) = true
            · rw [if_pos c11] at H
              have c11b0 : (!(((rd_T27 l0 0).f0) == ((rd_T27 l1 0).f0)) || (!(((rd_T27 l0 0).f1) == ((rd_T27 l1 0).f1)))) = true := c11
              clear c11
              have H' := Aside0.mk H
              clear H
              try go_wp2
              have n0_ := Aside0.mk (below_drew1 HB.out)
              clear HB
              have HB := n0_
              clear n0_
              have p205 : 0 ≤ (0 : Int) := (by omega)
              have q205 : 0 < (l0.length : Int) := of_decide_eq_true (by first | (with_reducible assumption) | assumption)
              obtain ⟨ad205, e205, hx205_0, hx205_1⟩ := at_T27 HR0.out 0 p205 q205
              have hw205_1 := hx205_1
              (try rw [show ((0 : Int)).toNat = 0 from rfl] at hw205_1)
              (try rw [show 0 * 2 = 0 from rfl] at hw205_1)
              (try rw [Addr.add_zero'] at hw205_1)
              have hw205_0 := hx205_0
              (try rw [show ((0 : Int)).toNat = 0 from rfl] at hw205_0)
              (try rw [show 0 * 2 = 0 from rfl] at hw205_0)
              (try rw [Addr.add_zero'] at hw205_0)
              cases e205
              have qi205 : (0 < l0.length) = True := eq_true (by omega)
              (try rw [show ((0 : Int)).toNat = 0 from rfl] at hx205_0)
              (try rw [show 0 * 2 = 0 from rfl] at hx205_0)
              (try rw [Addr.add_zero'] at hx205_0)
              (try rw [show ((0 : Int)).toNat = 0 from rfl] at hx205_1)
              (try rw [show 0 * 2 = 0 from rfl] at hx205_1)
              (try rw [Addr.add_zero'] at hx205_1)
              replace hx205_0 := (HB.out.cell (World.block_lt_of_cell? w _ hx205_0)).trans hx205_0
              replace hx205_1 := (HB.out.cell (World.block_lt_of_cell? w _ hx205_1)).trans hx205_1
              replace p205 := eq_true p205
              replace q205 := eq_true q205
              have p206 : 0 ≤ (0 : Int) := (by omega)
              have q206 : 0 < (l1.length : Int) := of_decide_eq_true (by first | (with_reducible assumption) | assumption)
              obtain ⟨ad206, e206, hx206_0, hx206_1⟩ := at_T27 HR1.out 0 p206 q206
              have hw206_1 := hx206_1
              (try rw [show ((0 : Int)).toNat = 0 from rfl] at hw206_1)
              (try rw [show 0 * 2 = 0 from rfl] at hw206_1)
              (try rw [Addr.add_zero'] at hw206_1)
              have hw206_0 := hx206_0
              (try rw [show ((0 : Int)).toNat = 0 from rfl] at hw206_0)
              (try rw [show 0 * 2 = 0 from rfl] at hw206_0)
              (try rw [Addr.add_zero'] at hw206_0)
              cases e206
              have qi206 : (0 < l1.length) = True := eq_true (by omega)
              (try rw [show ((0 : Int)).toNat = 0 from rfl] at hx206_0)
              (try rw [show 0 * 2 = 0 from rfl] at hx206_0)
              (try rw [Addr.add_zero'] at hx206_0)
              (try rw [show ((0 : Int)).toNat = 0 from rfl] at hx206_1)
              (try rw [show 0 * 2 = 0 from rfl] at hx206_1)
              (try rw [Addr.add_zero'] at hx206_1)
              replace hx206_0 := (HB.out.cell (World.block_lt_of_cell? w _ hx206_0)).trans hx206_0
              replace hx206_1 := (HB.out.cell (World.block_lt_of_cell? w _ hx206_1)).trans hx206_1
              replace p206 := eq_true p206
              replace q206 := eq_true q206
              have S_ : (fun w' : World => w'.cell? ad205 = some (.int .i64 ((rd_T27 l0 0).f0)) ∧ w'.cell? ⟨ad205.block, ad205.off + 1, none⟩ = some (.int .i64 ((rd_T27 l0 0).f1)) ∧ w'.cell? ad206 = some (.int .i64 ((rd_T27 l1 0).f0)) ∧ w'.cell? ⟨ad206.block, ad206.off + 1, none⟩ = some (.int .i64 ((rd_T27 l1 0).f1))) w.drew := ⟨((HB.out.cell (World.block_lt_of_cell? w _ hw205_0)).trans hw205_0), ((HB.out.cell (World.block_lt_of_cell? w _ hw205_1)).trans hw205_1), ((HB.out.cell (World.block_lt_of_cell? w _ hw206_0)).trans hw206_0), ((HB.out.cell (World.block_lt_of_cell? w _ hw206_1)).trans hw206_1)⟩
              obtain ⟨s0_, s1_, s2_, s3_⟩ := S_
              replace s0_ := fun q : Hd.HW w.drew => q.cell s0_
              replace s1_ := fun q : Hd.HW w.drew => q.cell s1_
              replace s2_ := fun q : Hd.HW w.drew => q.cell s2_
              replace s3_ := fun q : Hd.HW w.drew => q.cell s3_
              refine Hd.HW.region (by kernel_rfl) (by kernel_rfl) ?_
              repeat (go_big_quiet_step ((first | (go_at_call 45; with_reducible exact Hd.HW.c (impl_IsLine.calls k _ _ l0 true _ (Kd.C_below HR0.out (Hd.HW.bel HB.out)) HC0.out A5.out)) | (go_at_call 45; with_reducible exact Hd.HW.c (impl_IsLine.calls k _ _ l1 true _ (Kd.C_below HR1.out (Hd.HW.bel HB.out)) HC1.out A7.out)))))
              refine wpQuiet_nil ?_
              intro _ hq_
              obtain ⟨q_, rfl⟩ := hq_
              clear s0_ s1_ s2_ s3_
              replace HB := Aside0.mk (below_step HB.out q_.b)
              replace hx205_0 := q_.cell hx205_0
              replace hx205_1 := q_.cell hx205_1
              replace hx206_0 := q_.cell hx206_0
              replace hx206_1 := q_.cell hx206_1
              generalize q_.W = w14 at HB hx205_0 hx205_1 hx206_0 hx206_1 ⊢
              try simp only [i64_w, i32_w]
              try go_wp2
              go_meet
              case rel => exact ⟨_, (true), (by first | rfl | (simp; done) | (simp [*]; done)), H', ⟨by first | omega | exact Nat.le_refl _⟩, ⟨by repeat (first | (with_reducible first | exact HB.out | apply below_alloc | apply pw_below_drewN | apply below_drew1) | exact HB.out)⟩⟩
            · rw [if_neg c11] at H
              have c11b0 : (!(((rd_T27 l0 0).f0) == ((rd_T27 l1 0).f0)) || (!(((rd_T27 l0 0).f1) == ((rd_T27 l1 0).f1)))) = false := by simpa using c11
              clear c11
              obtain ⟨ji15, hji15⟩ : ∃ j_ : Int, (wrap64 ((l0.length : Int) - 1)) = j_ := ⟨_, rfl⟩
              replace H : (if 0 ≤ (ji15) then (if (ji15) < (l0.length : Int) then (if 0 ≤ (wrap64 ((l1.length : Int) - 1)) then (if (wrap64 ((l1.length : Int) - 1)) < (l1.length : Int) then (impl_IsFaithful.j0 k l0 l1 a2 (!(((rd_T27 l0 (ji15)).f0) == ((rd_T27 l1 (wrap64 ((l1.length : Int) - 1))).f0)) || (!(((rd_T27 l0 (ji15)).f1) == ((rd_T27 l1 (wrap64 ((l1.length : Int) - 1))).f1))))) else (none)) else (none)) else (none)) else (none)) = some r := by first | (rw [hji15] at H; exact H) | (simp only [hji15] at H ⊢; exact H)
              (try rw [hji15] at A5)
              (try rw [hji15] at A7)
              have hji15w : (IntKind.i64.wrap ((l0.length : Int) - 1)) = ji15 := (i64_w _).trans hji15
              by_cases c16 : 0 ≤ (ji15)
              · rw [if_pos c16] at H
                have c16b0 : decide (0 ≤ (ji15)) = true := decide_eq_true c16
                clear c16
                by_cases c17 : (ji15) < (l0.length : Int)
                · rw [if_pos c17] at H
                  have c17b0 : decide ((ji15) < (l0.length : Int)) = true := decide_eq_true c17
                  clear c17
                  obtain ⟨ji18, hji18⟩ : ∃ j_ : Int, (wrap64 ((l1.length : Int) - 1)) = j_ := ⟨_, rfl⟩
                  replace H : (if 0 ≤ (ji18) then (if (ji18) < (l1.length : Int) then (impl_IsFaithful.j0 k l0 l1 a2 (!(((rd_T27 l0 (ji15)).f0) == ((rd_T27 l1 (ji18)).f0)) || (!(((rd_T27 l0 (ji15)).f1) == ((rd_T27 l1 (ji18)).f1))))) else (none)) else (none)) = some r := by first | (rw [hji18] at H; exact H) | (simp only [hji18] at H ⊢; exact H)
                  (try rw [hji18] at A5)
                  (try rw [hji18] at A7)
                  have hji18w : (IntKind.i64.wrap ((l1.length : Int) - 1)) = ji18 := (i64_w _).trans hji18
                  by_cases c19 : 0 ≤ (ji18)
                  · rw [if_pos c19] at H
                    have c19b0 : decide (0 ≤ (ji18)) = true := decide_eq_true c19
                    clear c19
                    by_cases c20 : (ji18) < (l1.length : Int)
                    · rw [if_pos c20] at H
                      have c20b0 : decide ((ji18) < (l1.length : Int)) = true := decide_eq_true c20
                      clear c20
                      have H' := Aside0.mk H
                      clear H
                      try go_wp2
                      have n0_ := Aside0.mk (below_drew1 HB.out)
                      clear HB
                      have HB := n0_
                      clear n0_
                      have p205 : 0 ≤ (0 : Int) := (by omega)
                      have q205 : 0 < (l0.length : Int) := of_decide_eq_true (by first | (with_reducible assumption) | assumption)
                      obtain ⟨ad205, e205, hx205_0, hx205_1⟩ := at_T27 HR0.out 0 p205 q205
                      have hw205_1 := hx205_1
                      (try rw [show ((0 : Int)).toNat = 0 from rfl] at hw205_1)
                      (try rw [show 0 * 2 = 0 from rfl] at hw205_1)
                      (try rw [Addr.add_zero'] at hw205_1)
                      have hw205_0 := hx205_0
                      (try rw [show ((0 : Int)).toNat = 0 from rfl] at hw205_0)
                      (try rw [show 0 * 2 = 0 from rfl] at hw205_0)
                      (try rw [Addr.add_zero'] at hw205_0)
                      cases e205
                      have qi205 : (0 < l0.length) = True := eq_true (by omega)
                      (try rw [show ((0 : Int)).toNat = 0 from rfl] at hx205_0)
                      (try rw [show 0 * 2 = 0 from rfl] at hx205_0)
                      (try rw [Addr.add_zero'] at hx205_0)
                      (try rw [show ((0 : Int)).toNat = 0 from rfl] at hx205_1)
                      (try rw [show 0 * 2 = 0 from rfl] at hx205_1)
                      (try rw [Addr.add_zero'] at hx205_1)
                      replace hx205_0 := (HB.out.cell (World.block_lt_of_cell? w _ hx205_0)).trans hx205_0
                      replace hx205_1 := (HB.out.cell (World.block_lt_of_cell? w _ hx205_1)).trans hx205_1
                      replace p205 := eq_true p205
                      replace q205 := eq_true q205
                      have p206 : 0 ≤ (0 : Int) := (by omega)
                      have q206 : 0 < (l1.length : Int) := of_decide_eq_true (by first | (with_reducible assumption) | assumption)
                      obtain ⟨ad206, e206, hx206_0, hx206_1⟩ := at_T27 HR1.out 0 p206 q206
                      have hw206_1 := hx206_1
                      (try rw [show ((0 : Int)).toNat = 0 from rfl] at hw206_1)
                      (try rw [show 0 * 2 = 0 from rfl] at hw206_1)
                      (try rw [Addr.add_zero'] at hw206_1)
                      have hw206_0 := hx206_0
                      (try rw [show ((0 : Int)).toNat = 0 from rfl] at hw206_0)
                      (try rw [show 0 * 2 = 0 from rfl] at hw206_0)
                      (try rw [Addr.add_zero'] at hw206_0)
                      cases e206
                      have qi206 : (0 < l1.length) = True := eq_true (by omega)
                      (try rw [show ((0 : Int)).toNat = 0 from rfl] at hx206_0)
                      (try rw [show 0 * 2 = 0 from rfl] at hx206_0)
                      (try rw [Addr.add_zero'] at hx206_0)
                      (try rw [show ((0 : Int)).toNat = 0 from rfl] at hx206_1)
                      (try rw [show 0 * 2 = 0 from rfl] at hx206_1)
                      (try rw [Addr.add_zero'] at hx206_1)
                      replace hx206_0 := (HB.out.cell (World.block_lt_of_cell? w _ hx206_0)).trans hx206_0
                      replace hx206_1 := (HB.out.cell (World.block_lt_of_cell? w _ hx206_1)).trans hx206_1
                      replace p206 := eq_true p206
                      replace q206 := eq_true q206
                      have p207 : 0 ≤ ((ji15) : Int) := of_decide_eq_true (by first | (with_reducible assumption) | assumption)
                      have q207 : (ji15) < (l0.length : Int) := of_decide_eq_true (by first | (with_reducible assumption) | assumption)
                      obtain ⟨ad207, e207, hx207_0, hx207_1⟩ := at_T27 HR0.out (ji15) p207 q207
                      have hw207_1 := hx207_1
                      have hw207_0 := hx207_0
                      obtain rfl : ad205 = ad207 := (by injection e207)
                      replace hx207_0 := (HB.out.cell (World.block_lt_of_cell? w _ hx207_0)).trans hx207_0
                      replace hx207_1 := (HB.out.cell (World.block_lt_of_cell? w _ hx207_1)).trans hx207_1
                      replace p207 := eq_true p207
                      replace q207 := eq_true q207
                      have p208 : 0 ≤ ((ji18) : Int) := of_decide_eq_true (by first | (with_reducible assumption) | assumption)
                      have q208 : (ji18) < (l1.length : Int) := of_decide_eq_true (by first | (with_reducible assumption) | assumption)
                      obtain ⟨ad208, e208, hx208_0, hx208_1⟩ := at_T27 HR1.out (ji18) p208 q208
                      have hw208_1 := hx208_1
                      have hw208_0 := hx208_0
                      obtain rfl : ad206 = ad208 := (by injection e208)
                      replace hx208_0 := (HB.out.cell (World.block_lt_of_cell? w _ hx208_0)).trans hx208_0
                      replace hx208_1 := (HB.out.cell (World.block_lt_of_cell? w _ hx208_1)).trans hx208_1
                      replace p208 := eq_true p208
                      replace q208 := eq_true q208
                      have S_ : (fun w' : World => w'.cell? ad205 = some (.int .i64 ((rd_T27 l0 0).f0)) ∧ w'.cell? ⟨ad205.block, ad205.off + 1, none⟩ = some (.int .i64 ((rd_T27 l0 0).f1)) ∧ w'.cell? ad206 = some (.int .i64 ((rd_T27 l1 0).f0)) ∧ w'.cell? ⟨ad206.block, ad206.off + 1, none⟩ = some (.int .i64 ((rd_T27 l1 0).f1)) ∧ w'.cell? (ad205.add (((ji15)).toNat * 2)) = some (.int .i64 ((rd_T27 l0 (ji15)).f0)) ∧ w'.cell? ⟨(ad205.add (((ji15)).toNat * 2)).block, (ad205.add (((ji15)).toNat * 2)).off + 1, none⟩ = some (.int .i64 ((rd_T27 l0 (ji15)).f1)) ∧ w'.cell? (ad206.add (((ji18)).toNat * 2)) = some (.int .i64 ((rd_T27 l1 (ji18)).f0)) ∧ w'.cell? ⟨(ad206.add (((ji18)).toNat * 2)).block, (ad206.add (((ji18)).toNat * 2)).off + 1, none⟩ = some (.int .i64 ((rd_T27 l1 (ji18)).f1))) w.drew := ⟨((HB.out.cell (World.block_lt_of_cell? w _ hw205_0)).trans hw205_0), ((HB.out.cell (World.block_lt_of_cell? w _ hw205_1)).trans hw205_1), ((HB.out.cell (World.block_lt_of_cell? w _ hw206_0)).trans hw206_0), ((HB.out.cell (World.block_lt_of_cell? w _ hw206_1)).trans hw206_1), ((HB.out.cell (World.block_lt_of_cell? w _ hw207_0)).trans hw207_0), ((HB.out.cell (World.block_lt_of_cell? w _ hw207_1)).trans hw207_1), ((HB.out.cell (World.block_lt_of_cell? w _ hw208_0)).trans hw208_0), ((HB.out.cell (World.block_lt_of_cell? w _ hw208_1)).trans hw208_1)⟩
                      obtain ⟨s0_, s1_, s2_, s3_, s4_, s5_, s6_, s7_⟩ := S_
                      replace s0_ := fun q : Hd.HW w.drew => q.cell s0_
                      replace s1_ := fun q : Hd.HW w.drew => q.cell s1_
                      replace s2_ := fun q : Hd.HW w.drew => q.cell s2_
                      replace s3_ := fun q : Hd.HW w.drew => q.cell s3_
                      replace s4_ := fun q : Hd.HW w.drew => q.cell s4_
                      replace s5_ := fun q : Hd.HW w.drew => q.cell s5_
                      replace s6_ := fun q : Hd.HW w.drew => q.cell s6_
                      replace s7_ := fun q : Hd.HW w.drew => q.cell s7_
                      refine Hd.HW.region (by kernel_rfl) (by kernel_rfl) ?_
                      repeat (go_big_quiet_step ((first | (go_at_call 45; with_reducible exact Hd.HW.c (impl_IsLine.calls k _ _ l0 true _ (Kd.C_below HR0.out (Hd.HW.bel HB.out)) HC0.out A5.out)) | (go_at_call 45; with_reducible exact Hd.HW.c (impl_IsLine.calls k _ _ l1 true _ (Kd.C_below HR1.out (Hd.HW.bel HB.out)) HC1.out A7.out)))))
                      refine wpQuiet_nil ?_
                      intro _ hq_
                      obtain ⟨q_, rfl⟩ := hq_
                      clear s0_ s1_ s2_ s3_ s4_ s5_ s6_ s7_
                      replace HB := Aside0.mk (below_step HB.out q_.b)
                      replace hx205_0 := q_.cell hx205_0
                      replace hx205_1 := q_.cell hx205_1
                      replace hx206_0 := q_.cell hx206_0
                      replace hx206_1 := q_.cell hx206_1
                      replace hx207_0 := q_.cell hx207_0
                      replace hx207_1 := q_.cell hx207_1
                      replace hx208_0 := q_.cell hx208_0
                      replace hx208_1 := q_.cell hx208_1
                      generalize q_.W = w23 at HB hx205_0 hx205_1 hx206_0 hx206_1 hx207_0 hx207_1 hx208_0 hx208_1 ⊢
                      try simp only [i64_w, i32_w]
                      try go_wp2
                      go_meet
                      case rel => exact ⟨_, ((!(((rd_T27 l0 (ji15)).f0) == ((rd_T27 l1 (ji18)).f0)) || (!(((rd_T27 l0 (ji15)).f1) == ((rd_T27 l1 (ji18)).f1))))), (by first | rfl | (simp; done) | (simp only [← hji15, ← hji18] <;> (first | rfl | simp)) | (simp [*]; done)), H', ⟨by first | omega | exact Nat.le_refl _⟩, ⟨by repeat (first | (with_reducible first | exact HB.out | apply below_alloc | apply pw_below_drewN | apply below_drew1) | exact HB.out)⟩⟩
                    · rw [if_neg c20] at H
                      exact absurd H (by simp)
                  · rw [if_neg c19] at H
                    exact absurd H (by simp)
                · rw [if_neg c17] at H
                  exact absurd H (by simp)
              · rw [if_neg c16] at H
                exact absurd H (by simp)
          · rw [if_neg c10] at H
            exact absurd H (by simp)
        · rw [if_neg c9] at H
          exact absurd H (by simp)
      · replace c8 := Bool.eq_false_iff.mpr c8
        subst c8
        have H1 : (impl_IsFaithful.j0 k l0 l1 a2 true) = some r := by rw [if_neg (show ¬ (false = true) by decide)] at H; exact H
        clear H
        have H := H1
        clear H1
        have H' := Aside0.mk H
        clear H
        try go_wp2
        have n0_ := Aside0.mk (below_drew1 HB.out)
        clear HB
        have HB := n0_
        clear n0_
        have S_ : (fun w' : World => True) w.drew := trivial
        clear S_
        refine Hd.HW.region (by kernel_rfl) (by kernel_rfl) ?_
        repeat (go_big_quiet_step ((first | (go_at_call 45; with_reducible exact Hd.HW.c (impl_IsLine.calls k _ _ l0 true _ (Kd.C_below HR0.out (Hd.HW.bel HB.out)) HC0.out A5.out)) | (go_at_call 45; with_reducible exact Hd.HW.c (impl_IsLine.calls k _ _ l1 false _ (Kd.C_below HR1.out (Hd.HW.bel HB.out)) HC1.out A7.out)))))
        refine wpQuiet_nil ?_
        intro _ hq_
        obtain ⟨q_, rfl⟩ := hq_
        replace HB := Aside0.mk (below_step HB.out q_.b)
        generalize q_.W = w26 at HB ⊢
        try simp only [i64_w, i32_w]
        try go_wp2
        go_meet
        case rel => exact ⟨_, (true), (by first | rfl | (simp; done) | (simp [*]; done)), H', ⟨by first | omega | exact Nat.le_refl _⟩, ⟨by repeat (first | (with_reducible first | exact HB.out | apply below_alloc | apply pw_below_drewN | apply below_drew1) | exact HB.out)⟩⟩
    · replace c6 := Bool.eq_false_iff.mpr c6
      subst c6
      have H1 : (impl_IsFaithful.j0 k l0 l1 a2 true) = some r := by rw [if_neg (show ¬ (false = true) by decide)] at H; exact H
      clear H
      have H := H1
      clear H1
      have H' := Aside0.mk H
      clear H
      try go_wp2
      have n0_ := Aside0.mk (below_drew1 HB.out)
      clear HB
      have HB := n0_
      clear n0_
      have S_ : (fun w' : World => True) w.drew := trivial
      clear S_
      refine Hd.HW.region (by kernel_rfl) (by kernel_rfl) ?_
      repeat (go_big_quiet_step ((first | (go_at_call 45; with_reducible exact Hd.HW.c (impl_IsLine.calls k _ _ l0 false _ (Kd.C_below HR0.out (Hd.HW.bel HB.out)) HC0.out A5.out)))))
      refine wpQuiet_nil ?_
      intro _ hq_
      obtain ⟨q_, rfl⟩ := hq_
      replace HB := Aside0.mk (below_step HB.out q_.b)
      generalize q_.W = w28 at HB ⊢
      try simp only [i64_w, i32_w]
      try go_wp2
      go_meet
      case rel => exact ⟨_, (true), (by first | rfl | (simp; done) | (simp [*]; done)), H', ⟨by first | omega | exact Nat.le_refl _⟩, ⟨by repeat (first | (with_reducible first | exact HB.out | apply below_alloc | apply pw_below_drewN | apply below_drew1) | exact HB.out)⟩⟩
  case rest =>
    clear HC4
    try clear c1
    try clear c2
    try clear p2
    try clear c4
    try clear c6
    try clear c8
    try clear c9
    try clear c10
    try clear c16
    try clear c17
    try clear c19
    try clear c20
    obtain ⟨kq, x44_3, rfl, HA, HJ3, HB⟩ := hcut
    cases kq with
    | zero => exact absurd HA.out (by simp [impl_IsFaithful.j0])
    | succ kj3 =>
      have H := HA.out
      clear HA
      simp only [impl_IsFaithful.j0] at H
      by_cases c29 : x44_3 = true
      · subst c29
        have H1 : (some false) = some r := by rw [if_pos rfl] at H; exact H
        clear H
        have H := H1
        clear H1
        obtain rfl := Option.some.inj H
        go_wp2
        go_ret
        exact ⟨by first | rfl | (simp [errW_none, errW_some] <;> rfl) | (simp [*, errW_none, errW_some] <;> rfl), by repeat (first | (with_reducible first | exact HB.out | apply below_alloc | apply pw_below_drewN | apply below_drew1) | exact HB.out)⟩
      · replace c29 := Bool.eq_false_iff.mpr c29
        subst c29
        have H1 : ((impl_SegmentsOf.f kj3 l1).bind fun t209 => (impl_IsFaithful.l0 kj3 a2 t209 l0 (l0.length : Int) 0)) = some r := by rw [if_neg (show ¬ (false = true) by decide)] at H; exact H
        clear H
        have H := H1
        clear H1
        replace H := Option.bind_eq_some_iff.mp H
        obtain ⟨t209, A300, H⟩ := H
        replace H : (impl_IsFaithful.l0 kj3 a2 t209 l0 (l0.length : Int) 0) = some r := H
        have A30 := Aside0.mk A300
        clear A300
        have H' := Aside0.mk H
        clear H
        go_wp2_with (first | ((with_reducible refine gate_callee (f := 87) rfl ?_); refine goesL_ (some 46) rfl rfl Try.func87 (by kernel_rfl) rfl #[.slice A1 l1.length c1] rfl (by (try simp only [List.map_toArray, List.map_cons, List.map_nil]); first | done | rfl | (simp only [List.length_drop, List.length_take]; rfl)) ?_; (with_reducible refine (impl_SegmentsOf.calls kj3 _ _ l1 t209 _ ?side1 ?side2 A30.out).mono ?_); (case side1 => repeat (first | exact (Kd.C_below HR1.out HB.out) | (with_reducible refine Kd.C_alloc ?_ _) | (with_reducible refine Kd.C_drewN ?_ _) | (with_reducible refine Kd.C_drew ?_))); (case side2 => exact HC1.out); rintro e w31 ⟨v210, rfl, ho0, hb⟩; refine ⟨_, rfl, ?_⟩; have n0_ := Aside0.mk (Kd.R_lower ho0 (below_size (by repeat (first | (with_reducible first | exact HB.out | apply below_alloc | apply pw_below_drewN | apply below_drew1) | exact HB.out)))); have n1_ := Aside0.mk (below_step (by repeat (first | (with_reducible first | exact HB.out | apply below_alloc | apply pw_below_drewN | apply below_drew1) | exact HB.out)) hb); clear HB; have HO211 := n0_; have HB := n1_; clear n0_ n1_; (try clear hb); (try clear hb2); (try clear hk); (try clear hi); (try clear ho0)))
        go_loopg [49] kj3 (fun kq v49 w' => ∃ (x49_2 : Int), v49 = .int .i64 x49_2 ∧ Aside0 (impl_IsFaithful.l0 kq a2 t209 l0 (l0.length : Int) x49_2 = some r) ∧ Aside0 (kq ≤ kj3) ∧ Aside0 (Kd.R k60 60 w' w.heap.size (fun _ => True) v210 t209) ∧ Aside0 (Below w.heap.size w w'))
        case atStart => exact ⟨(0), (by first | rfl | (simp; done) | (simp [*]; done)), H', ⟨Nat.le_refl _⟩, ⟨by (with_reducible repeat (first | apply Kd.R_alloc | apply Kd.R_drewN | apply Kd.R_drew)); exact HO211.out⟩, ⟨by repeat (first | (with_reducible first | exact HB.out | apply below_alloc | apply pw_below_drewN | apply below_drew1) | exact HB.out)⟩⟩
        case round =>
          clear H'
          try clear c1
          try clear c2
          try clear p2
          try clear c4
          try clear c6
          try clear c8
          try clear c9
          try clear c10
          try clear c16
          try clear c17
          try clear c19
          try clear c20
          try clear c29
          try clear p2
          obtain ⟨x49_2, rfl, HA, HK2, HO_7, HB⟩ := hrel
          cases gk with
          | zero => exact absurd HA.out (by simp [impl_IsFaithful.l0])
          | succ k2 =>
            have H := HA.out
            clear HA
            simp only [impl_IsFaithful.l0] at H
            by_cases c32 : x49_2 < (l0.length : Int)
            · rw [if_pos c32] at H
              have c32b0 : decide (x49_2 < (l0.length : Int)) = true := decide_eq_true c32
              clear c32
              by_cases c33 : 0 ≤ x49_2
              · rw [if_pos c33] at H
                have c33b0 : decide (0 ≤ x49_2) = true := decide_eq_true c33
                clear c33
                by_cases c34 : x49_2 < (l0.length : Int)
                · rw [if_pos c34] at H
                  have c34b0 : decide (x49_2 < (l0.length : Int)) = true := decide_eq_true c34
                  clear c34
                  have H' := Aside0.mk H
                  clear H
                  have p212 : 0 ≤ (x49_2 : Int) := of_decide_eq_true (by first | (with_reducible assumption) | assumption)
                  have q212 : x49_2 < (l0.length : Int) := of_decide_eq_true (by first | (with_reducible assumption) | assumption)
                  obtain ⟨ad212, e212, hx212_0, hx212_1⟩ := at_T27 HR0.out x49_2 p212 q212
                  cases e212
                  replace hx212_0 := (HB.out.cell (World.block_lt_of_cell? w _ hx212_0)).trans hx212_0
                  replace hx212_1 := (HB.out.cell (World.block_lt_of_cell? w _ hx212_1)).trans hx212_1
                  replace p212 := eq_true p212
                  replace q212 := eq_true q212
                  go_wp2_with (first | ((with_reducible refine gate_dst (N := 9) rfl ?_); (try (refine gate_guard (by rfl) ?_; dsimp only)); refine box_event ?hg (N := 9) ?hd (cs := #[.int .i64 0, .int .i64 0]) (t := 27) ?hr ?_; (case hd => rfl); (case hg => rfl); (case hr => first | (go_simp; done) | (go_simp; rfl)); intro gb213 hg w35 hbox hb; have n0_ := Aside0.mk (Kd.R_below (by (with_reducible repeat (first | apply Kd.R_alloc | apply Kd.R_drewN | apply Kd.R_drew)); exact HO_7.out) hb); have n1_ := Aside0.mk (below_step (by repeat (first | (with_reducible first | exact HB.out | apply below_alloc | apply pw_below_drewN | apply below_drew1) | exact HB.out)) hb); have n2_ := Aside0.mk (hbox); have n3_ := Aside0.mk ((by rw [hg]; exact (below_size (by repeat (first | (with_reducible first | exact HB.out | apply below_alloc | apply pw_below_drewN | apply below_drew1) | exact HB.out))) : w.heap.size ≤ gb213)); have n4_ := Aside0.mk ((by rw [hg]; exact (below_size (by repeat (first | (with_reducible first | exact HB.out | apply below_alloc | apply pw_below_drewN | apply below_drew1) | exact HB.out))) : w.heap.size ≤ gb213)); clear HO_7; clear HB; have HO_7 := n0_; have HB := n1_; have BK213 := n2_; have GW213 := n3_; have GE213 := n4_; clear n0_ n1_ n2_ n3_ n4_; clear hb hbox hg; have hcz36_0 : w35.cell? ⟨gb213, 0, none⟩ = some (.int .i64 0) := (blk_cell BK213.out 0).trans rfl; have hcz36_1 : w35.cell? ⟨gb213, 1, none⟩ = some (.int .i64 0) := (blk_cell BK213.out 1).trans rfl; have hfz36_0 := blk_frozen BK213.out 0; have hfz36_1 := blk_frozen BK213.out 1; obtain ⟨Ao37, co37, eo37⟩ := Kd.R_slice HO_7.out; subst eo37))
                  go_loopg [10, 55] k2 (fun kq v10 v55 w' => ∃ (x10_3 : Bool) (x55_3 : Int), v10 = .bool x10_3 ∧ v55 = .int .i64 x55_3 ∧ Aside0 (impl_IsFaithful.l1 kq a2 t209 x10_3 l0 (l0.length : Int) x49_2 t209 (t209.length : Int) x55_3 ((rd_T27 l0 x49_2).f0) ((rd_T27 l0 x49_2).f1) = some r) ∧ Aside0 (kq ≤ k2) ∧ Aside0 (Kd.R k60 60 w' w.heap.size (fun _ => True) (.slice Ao37 t209.length co37) t209) ∧ Aside0 (Kd.R k60 60 w' w.heap.size (fun _ => True) (.slice Ao37 t209.length co37) t209) ∧ Aside0 (w'.heap[gb213]? = some (.cells #[.int .i64 ((rd_T27 l0 x49_2).f0), .int .i64 ((rd_T27 l0 x49_2).f1)] 27 (0, 0))) ∧ Aside0 (Below w.heap.size w w'))
                  case atStart => exact ⟨(false), (0), (by first | rfl | (simp; done) | (simp [*]; done)), (by first | rfl | (simp; done) | (simp [*]; done)), H', ⟨Nat.le_refl _⟩, ⟨by (with_reducible repeat (first | apply Kd.R_alloc | apply Kd.R_drewN | apply Kd.R_drew)); exact Kd.R_mono (Kd.R_far (p := ⟨gb213, 1, none⟩) (Kd.R_far (p := ⟨gb213, 0, none⟩) (Kd.R_types HO_7.out BK213.out (by decide)) (fun _ hk => hk.2) (.int .i64 ((rd_T27 l0 x49_2).f0))) (fun _ hk => hk.2) (.int .i64 ((rd_T27 l0 x49_2).f1))) (fun _ hk => trivial)⟩, ⟨by (with_reducible repeat (first | apply Kd.R_alloc | apply Kd.R_drewN | apply Kd.R_drew)); exact Kd.R_mono (Kd.R_far (p := ⟨gb213, 1, none⟩) (Kd.R_far (p := ⟨gb213, 0, none⟩) (Kd.R_types HO_7.out BK213.out (by decide)) (fun _ hk => hk.2) (.int .i64 ((rd_T27 l0 x49_2).f0))) (fun _ hk => hk.2) (.int .i64 ((rd_T27 l0 x49_2).f1))) (fun _ hk => trivial)⟩, ⟨by (with_reducible repeat (first | refine blk_drewN ?_ _ | refine blk_drew ?_ | refine blk_alloc ?_ _)); refine blk_put (cs := #[.int .i64 ((rd_T27 l0 x49_2).f0), .int .i64 0]) ?_ 1 _ rfl; (with_reducible repeat (first | refine blk_drewN ?_ _ | refine blk_drew ?_ | refine blk_alloc ?_ _)); refine blk_put (cs := #[.int .i64 0, .int .i64 0]) ?_ 0 _ rfl; (with_reducible repeat (first | refine blk_drewN ?_ _ | refine blk_drew ?_ | refine blk_alloc ?_ _)); exact BK213.out⟩, ⟨by repeat (first | (with_reducible first | exact HB.out | apply below_alloc | apply pw_below_drewN | apply below_drew1 | refine below_set ?_ GE213.out) | exact HB.out)⟩⟩
                  case round =>
                    clear H'
                    try clear c1
                    try clear c2
                    try clear p2
                    try clear q2
                    try clear hx2
                    try clear c3
                    try clear c4
                    try clear c6
                    try clear c8
                    try clear c9
                    try clear c10
                    try clear c16
                    try clear c17
                    try clear c19
                    try clear c20
                    try clear p21
                    try clear q21
                    try clear hx21
                    try clear c29
                    try clear c32
                    try clear c32b0
                    try clear c33
                    try clear c33b0
                    try clear c34
                    try clear c34b0
                    try clear hcz36_0
                    try clear hcz36_1
                    try clear hfz36_0
                    try clear hfz36_1
                    try clear hx212_0
                    try clear hx212_1
                    try clear p2
                    try clear p212
                    try clear q212
                    obtain ⟨x10_3, x55_3, rfl, rfl, HA, HK3, HO_7, HO_53, BK213, HB⟩ := hrel
                    cases gk with
                    | zero => exact absurd HA.out (by simp [impl_IsFaithful.l1])
                    | succ k3 =>
                      have H := HA.out
                      clear HA
                      simp only [impl_IsFaithful.l1] at H
                      by_cases c38 : x55_3 < (t209.length : Int)
                      · rw [if_pos c38] at H
                        have c38b0 : decide (x55_3 < (t209.length : Int)) = true := decide_eq_true c38
                        clear c38
                        by_cases c39 : 0 ≤ x55_3
                        · rw [if_pos c39] at H
                          have c39b0 : decide (0 ≤ x55_3) = true := decide_eq_true c39
                          clear c39
                          by_cases c40 : x55_3 < (t209.length : Int)
                          · rw [if_pos c40] at H
                            have c40b0 : decide (x55_3 < (t209.length : Int)) = true := decide_eq_true c40
                            clear c40
                            by_cases c41 : x10_3 = true
                            · subst c41
                              have H1 : (impl_IsFaithful.l1 k3 a2 t209 true l0 (l0.length : Int) x49_2 t209 (t209.length : Int) (wrap64 (x55_3 + 1)) ((rd_T27 l0 x49_2).f0) ((rd_T27 l0 x49_2).f1)) = some r := by rw [if_pos rfl] at H; exact H
                              clear H
                              have H := H1
                              clear H1
                              have H' := Aside0.mk H
                              clear H
                              have p214 : 0 ≤ (x55_3 : Int) := of_decide_eq_true (by first | (with_reducible assumption) | assumption)
                              have q214 : x55_3 < (t209.length : Int) := of_decide_eq_true (by first | (with_reducible assumption) | assumption)
                              obtain ⟨ad214, e214, hx214_0, hx214_1, hx214_2, hx214_3⟩ := at_T60 (Kd.R_reads' HO_53.out).2.2 x55_3 p214 q214
                              cases e214
                              replace p214 := eq_true p214
                              replace q214 := eq_true q214
                              go_wp2_with (first | ((with_reducible refine gate_dst (N := 12) rfl ?_); (try (refine gate_guard (by rfl) ?_; dsimp only)); refine box_event ?hg (N := 12) ?hd (cs := #[.int .i64 0, .int .i64 0, .int .i64 0, .int .i64 0]) (t := 60) ?hr ?_; (case hd => rfl); (case hg => rfl); (case hr => first | (go_simp; done) | (go_simp; rfl)); intro gb215 hg w42 hbox hb; have n0_ := Aside0.mk (Kd.R_below (Kd.R_elderB (by (with_reducible repeat (first | apply Kd.R_alloc | apply Kd.R_drewN | apply Kd.R_drew)); exact HO_7.out) gb215 (Nat.le_of_eq hg.symm)) hb); have n1_ := Aside0.mk (Kd.R_below (Kd.R_elderB (by (with_reducible repeat (first | apply Kd.R_alloc | apply Kd.R_drewN | apply Kd.R_drew)); exact HO_53.out) gb215 (Nat.le_of_eq hg.symm)) hb); have n2_ := Aside0.mk (blk_below (g := gb213) (o := .cells #[.int .i64 ((rd_T27 l0 x49_2).f0), .int .i64 ((rd_T27 l0 x49_2).f1)] 27 (0, 0)) (by (with_reducible repeat (first | refine blk_drewN ?_ _ | refine blk_drew ?_ | refine blk_alloc ?_ _)); exact BK213.out) hb); have n3_ := Aside0.mk (below_step (by repeat (first | (with_reducible first | exact HB.out | apply below_alloc | apply pw_below_drewN | apply below_drew1 | refine below_set ?_ GE213.out) | exact HB.out)) hb); have n4_ := Aside0.mk (hbox); have n5_ := Aside0.mk ((by rw [hg]; exact (below_size (by repeat (first | (with_reducible first | exact HB.out | apply below_alloc | apply pw_below_drewN | apply below_drew1 | refine below_set ?_ GE213.out) | exact HB.out))) : w.heap.size ≤ gb215)); have n6_ := Aside0.mk ((by rw [hg]; exact (below_size (by repeat (first | (with_reducible first | exact HB.out | apply below_alloc | apply pw_below_drewN | apply below_drew1 | refine below_set ?_ GE213.out) | exact HB.out))) : w.heap.size ≤ gb215)); have n7_ := Aside0.mk ((by rw [hg]; exact Nat.ne_of_lt (blk_lt (g := gb213) (o := .cells #[.int .i64 ((rd_T27 l0 x49_2).f0), .int .i64 ((rd_T27 l0 x49_2).f1)] 27 (0, 0)) (by (with_reducible repeat (first | refine blk_drewN ?_ _ | refine blk_drew ?_ | refine blk_alloc ?_ _)); exact BK213.out)) : gb213 ≠ gb215)); have n8_ := Aside0.mk ((by rw [hg]; exact Nat.ne_of_gt (blk_lt (g := gb213) (o := .cells #[.int .i64 ((rd_T27 l0 x49_2).f0), .int .i64 ((rd_T27 l0 x49_2).f1)] 27 (0, 0)) (by (with_reducible repeat (first | refine blk_drewN ?_ _ | refine blk_drew ?_ | refine blk_alloc ?_ _)); exact BK213.out)) : gb215 ≠ gb213)); clear HO_7; clear HO_53; clear BK213; clear HB; have HO_7 := n0_; have HO_53 := n1_; have BK213 := n2_; have HB := n3_; have BK215 := n4_; have GW215 := n5_; have GE215 := n6_; have NB213_215 := n7_; have NB215_213 := n8_; clear n0_ n1_ n2_ n3_ n4_ n5_ n6_ n7_ n8_; clear hb hbox hg; have hnb43 := NB215_213.out; have hnc43 := NB213_215.out; have hcz44_0 : w42.cell? ⟨gb215, 0, none⟩ = some (.int .i64 0) := (blk_cell BK215.out 0).trans rfl; have hcz44_1 : w42.cell? ⟨gb215, 1, none⟩ = some (.int .i64 0) := (blk_cell BK215.out 1).trans rfl; have hcz44_2 : w42.cell? ⟨gb215, 2, none⟩ = some (.int .i64 0) := (blk_cell BK215.out 2).trans rfl; have hcz44_3 : w42.cell? ⟨gb215, 3, none⟩ = some (.int .i64 0) := (blk_cell BK215.out 3).trans rfl; have hfz44_0 := blk_frozen BK215.out 0; have hfz44_1 := blk_frozen BK215.out 1; have hfz44_2 := blk_frozen BK215.out 2; have hfz44_3 := blk_frozen BK215.out 3))
                              go_roundg k3
                              case measure => have := HJ3.out; have := HK2.out; have := HK3.out; omega
                              case rel => exact ⟨(true), (wrap64 (x55_3 + 1)), (by first | rfl | (simp; done) | (simp [*]; done)), (by first | rfl | (simp; done) | (simp [*]; done)), H', ⟨by have := HJ3.out; have := HK2.out; have := HK3.out; omega⟩, ⟨by (with_reducible repeat (first | apply Kd.R_alloc | apply Kd.R_drewN | apply Kd.R_drew)); exact Kd.R_mono (Kd.R_far (p := ⟨gb215, 3, none⟩) (Kd.R_far (p := ⟨gb215, 2, none⟩) (Kd.R_far (p := ⟨gb215, 1, none⟩) (Kd.R_far (p := ⟨gb215, 0, none⟩) (Kd.R_mono HO_7.out (fun k_ hk => (⟨hk, hk.2⟩ : _ ∧ k_ ≠ gb215))) (fun _ hk => hk.2) (.int .i64 ((rd_T60 t209 x55_3).f0.f0))) (fun _ hk => hk.2) (.int .i64 ((rd_T60 t209 x55_3).f0.f1))) (fun _ hk => hk.2) (.int .i64 ((rd_T60 t209 x55_3).f1.f0))) (fun _ hk => hk.2) (.int .i64 ((rd_T60 t209 x55_3).f1.f1))) (fun _ hk => trivial)⟩, ⟨by (with_reducible repeat (first | apply Kd.R_alloc | apply Kd.R_drewN | apply Kd.R_drew)); exact Kd.R_mono (Kd.R_far (p := ⟨gb215, 3, none⟩) (Kd.R_far (p := ⟨gb215, 2, none⟩) (Kd.R_far (p := ⟨gb215, 1, none⟩) (Kd.R_far (p := ⟨gb215, 0, none⟩) (Kd.R_mono HO_53.out (fun k_ hk => (⟨hk, hk.2⟩ : _ ∧ k_ ≠ gb215))) (fun _ hk => hk.2) (.int .i64 ((rd_T60 t209 x55_3).f0.f0))) (fun _ hk => hk.2) (.int .i64 ((rd_T60 t209 x55_3).f0.f1))) (fun _ hk => hk.2) (.int .i64 ((rd_T60 t209 x55_3).f1.f0))) (fun _ hk => hk.2) (.int .i64 ((rd_T60 t209 x55_3).f1.f1))) (fun _ hk => trivial)⟩, ⟨by (with_reducible repeat (first | refine blk_drewN ?_ _ | refine blk_drew ?_ | refine blk_alloc ?_ _)); refine blk_far ?_ NB213_215.out _; (with_reducible repeat (first | refine blk_drewN ?_ _ | refine blk_drew ?_ | refine blk_alloc ?_ _)); refine blk_far ?_ NB213_215.out _; (with_reducible repeat (first | refine blk_drewN ?_ _ | refine blk_drew ?_ | refine blk_alloc ?_ _)); refine blk_far ?_ NB213_215.out _; (with_reducible repeat (first | refine blk_drewN ?_ _ | refine blk_drew ?_ | refine blk_alloc ?_ _)); refine blk_far ?_ NB213_215.out _; (with_reducible repeat (first | refine blk_drewN ?_ _ | refine blk_drew ?_ | refine blk_alloc ?_ _)); exact BK213.out⟩, ⟨by repeat (first | (with_reducible first | exact HB.out | apply below_alloc | apply pw_below_drewN | apply below_drew1 | refine below_set ?_ GE213.out | refine below_set ?_ GE215.out) | exact HB.out)⟩⟩
                            · replace c41 := Bool.eq_false_iff.mpr c41
                              subst c41
                              have H1 : ((impl_IsNear.f ((rd_T60 t209 x55_3).f0.f0) ((rd_T60 t209 x55_3).f0.f1) ((rd_T60 t209 x55_3).f1.f0) ((rd_T60 t209 x55_3).f1.f1) ((rd_T27 l0 x49_2).f0) ((rd_T27 l0 x49_2).f1) a2).bind fun t216 => (impl_IsFaithful.l1 k3 a2 t209 t216 l0 (l0.length : Int) x49_2 t209 (t209.length : Int) (wrap64 (x55_3 + 1)) ((rd_T27 l0 x49_2).f0) ((rd_T27 l0 x49_2).f1))) = some r := by rw [if_neg (show ¬ (false = true) by decide)] at H; exact H
                              clear H
                              have H := H1
                              clear H1
                              replace H := Option.bind_eq_some_iff.mp H
                              obtain ⟨t216, A450, H⟩ := H
                              replace H : (impl_IsFaithful.l1 k3 a2 t209 t216 l0 (l0.length : Int) x49_2 t209 (t209.length : Int) (wrap64 (x55_3 + 1)) ((rd_T27 l0 x49_2).f0) ((rd_T27 l0 x49_2).f1)) = some r := H
                              have A45 := Aside0.mk A450
                              clear A450
                              have H' := Aside0.mk H
                              clear H
                              have p214 : 0 ≤ (x55_3 : Int) := of_decide_eq_true (by first | (with_reducible assumption) | assumption)
                              have q214 : x55_3 < (t209.length : Int) := of_decide_eq_true (by first | (with_reducible assumption) | assumption)
                              obtain ⟨ad214, e214, hx214_0, hx214_1, hx214_2, hx214_3⟩ := at_T60 (Kd.R_reads' HO_53.out).2.2 x55_3 p214 q214
                              cases e214
                              replace p214 := eq_true p214
                              replace q214 := eq_true q214
                              go_wp2_with (first | ((with_reducible refine gate_dst (N := 12) rfl ?_); (try (refine gate_guard (by rfl) ?_; dsimp only)); refine box_event ?hg (N := 12) ?hd (cs := #[.int .i64 0, .int .i64 0, .int .i64 0, .int .i64 0]) (t := 60) ?hr ?_; (case hd => rfl); (case hg => rfl); (case hr => first | (go_simp; done) | (go_simp; rfl)); intro gb215 hg w46 hbox hb; have n0_ := Aside0.mk (Kd.R_below (Kd.R_elderB (by (with_reducible repeat (first | apply Kd.R_alloc | apply Kd.R_drewN | apply Kd.R_drew)); exact HO_7.out) gb215 (Nat.le_of_eq hg.symm)) hb); have n1_ := Aside0.mk (Kd.R_below (Kd.R_elderB (by (with_reducible repeat (first | apply Kd.R_alloc | apply Kd.R_drewN | apply Kd.R_drew)); exact HO_53.out) gb215 (Nat.le_of_eq hg.symm)) hb); have n2_ := Aside0.mk (blk_below (g := gb213) (o := .cells #[.int .i64 ((rd_T27 l0 x49_2).f0), .int .i64 ((rd_T27 l0 x49_2).f1)] 27 (0, 0)) (by (with_reducible repeat (first | refine blk_drewN ?_ _ | refine blk_drew ?_ | refine blk_alloc ?_ _)); exact BK213.out) hb); have n3_ := Aside0.mk (below_step (by repeat (first | (with_reducible first | exact HB.out | apply below_alloc | apply pw_below_drewN | apply below_drew1 | refine below_set ?_ GE213.out) | exact HB.out)) hb); have n4_ := Aside0.mk (hbox); have n5_ := Aside0.mk ((by rw [hg]; exact (below_size (by repeat (first | (with_reducible first | exact HB.out | apply below_alloc | apply pw_below_drewN | apply below_drew1 | refine below_set ?_ GE213.out) | exact HB.out))) : w.heap.size ≤ gb215)); have n6_ := Aside0.mk ((by rw [hg]; exact (below_size (by repeat (first | (with_reducible first | exact HB.out | apply below_alloc | apply pw_below_drewN | apply below_drew1 | refine below_set ?_ GE213.out) | exact HB.out))) : w.heap.size ≤ gb215)); have n7_ := Aside0.mk ((by rw [hg]; exact Nat.ne_of_lt (blk_lt (g := gb213) (o := .cells #[.int .i64 ((rd_T27 l0 x49_2).f0), .int .i64 ((rd_T27 l0 x49_2).f1)] 27 (0, 0)) (by (with_reducible repeat (first | refine blk_drewN ?_ _ | refine blk_drew ?_ | refine blk_alloc ?_ _)); exact BK213.out)) : gb213 ≠ gb215)); have n8_ := Aside0.mk ((by rw [hg]; exact Nat.ne_of_gt (blk_lt (g := gb213) (o := .cells #[.int .i64 ((rd_T27 l0 x49_2).f0), .int .i64 ((rd_T27 l0 x49_2).f1)] 27 (0, 0)) (by (with_reducible repeat (first | refine blk_drewN ?_ _ | refine blk_drew ?_ | refine blk_alloc ?_ _)); exact BK213.out)) : gb215 ≠ gb213)); clear HO_7; clear HO_53; clear BK213; clear HB; have HO_7 := n0_; have HO_53 := n1_; have BK213 := n2_; have HB := n3_; have BK215 := n4_; have GW215 := n5_; have GE215 := n6_; have NB213_215 := n7_; have NB215_213 := n8_; clear n0_ n1_ n2_ n3_ n4_ n5_ n6_ n7_ n8_; clear hb hbox hg; have hnb47 := NB215_213.out; have hnc47 := NB213_215.out; have hcz48_0 : w46.cell? ⟨gb215, 0, none⟩ = some (.int .i64 0) := (blk_cell BK215.out 0).trans rfl; have hcz48_1 : w46.cell? ⟨gb215, 1, none⟩ = some (.int .i64 0) := (blk_cell BK215.out 1).trans rfl; have hcz48_2 : w46.cell? ⟨gb215, 2, none⟩ = some (.int .i64 0) := (blk_cell BK215.out 2).trans rfl; have hcz48_3 : w46.cell? ⟨gb215, 3, none⟩ = some (.int .i64 0) := (blk_cell BK215.out 3).trans rfl; have hfz48_0 := blk_frozen BK215.out 0; have hfz48_1 := blk_frozen BK215.out 1; have hfz48_2 := blk_frozen BK215.out 2; have hfz48_3 := blk_frozen BK215.out 3; have hcz49_0 : w46.cell? ⟨gb213, 0, none⟩ = some (.int .i64 ((rd_T27 l0 x49_2).f0)) := (blk_cell BK213.out 0).trans rfl; have hcz49_1 : w46.cell? ⟨gb213, 1, none⟩ = some (.int .i64 ((rd_T27 l0 x49_2).f1)) := (blk_cell BK213.out 1).trans rfl; have hfz49_0 := blk_frozen BK213.out 0; have hfz49_1 := blk_frozen BK213.out 1) | (go_at_call 47; (with_reducible refine (impl_IsNear.calls ((rd_T60 t209 x55_3).f0.f0) ((rd_T60 t209 x55_3).f0.f1) ((rd_T60 t209 x55_3).f1.f0) ((rd_T60 t209 x55_3).f1.f1) ((rd_T27 l0 x49_2).f0) ((rd_T27 l0 x49_2).f1) a2 t216 _ A45.out).mono ?_); rintro e w50 ⟨rfl, hb⟩; have n0_ := Aside0.mk (Kd.R_below (by (with_reducible repeat (first | apply Kd.R_alloc | apply Kd.R_drewN | apply Kd.R_drew)); exact (Kd.R_mono (Kd.R_far (p := ⟨gb215, 3, none⟩) (Kd.R_far (p := ⟨gb215, 2, none⟩) (Kd.R_far (p := ⟨gb215, 1, none⟩) (Kd.R_far (p := ⟨gb215, 0, none⟩) (Kd.R_mono HO_7.out (fun k_ hk => (⟨hk, hk.2⟩ : _ ∧ k_ ≠ gb215))) (fun _ hk => hk.2) (.int .i64 ((rd_T60 t209 x55_3).f0.f0))) (fun _ hk => hk.2) (.int .i64 ((rd_T60 t209 x55_3).f0.f1))) (fun _ hk => hk.2) (.int .i64 ((rd_T60 t209 x55_3).f1.f0))) (fun _ hk => hk.2) (.int .i64 ((rd_T60 t209 x55_3).f1.f1))) (fun _ h_ => h_.1))) hb); have n1_ := Aside0.mk (Kd.R_below (by (with_reducible repeat (first | apply Kd.R_alloc | apply Kd.R_drewN | apply Kd.R_drew)); exact (Kd.R_mono (Kd.R_far (p := ⟨gb215, 3, none⟩) (Kd.R_far (p := ⟨gb215, 2, none⟩) (Kd.R_far (p := ⟨gb215, 1, none⟩) (Kd.R_far (p := ⟨gb215, 0, none⟩) (Kd.R_mono HO_53.out (fun k_ hk => (⟨hk, hk.2⟩ : _ ∧ k_ ≠ gb215))) (fun _ hk => hk.2) (.int .i64 ((rd_T60 t209 x55_3).f0.f0))) (fun _ hk => hk.2) (.int .i64 ((rd_T60 t209 x55_3).f0.f1))) (fun _ hk => hk.2) (.int .i64 ((rd_T60 t209 x55_3).f1.f0))) (fun _ hk => hk.2) (.int .i64 ((rd_T60 t209 x55_3).f1.f1))) (fun _ h_ => h_.1))) hb); have n2_ := Aside0.mk (blk_below (g := gb213) (o := .cells #[.int .i64 ((rd_T27 l0 x49_2).f0), .int .i64 ((rd_T27 l0 x49_2).f1)] 27 (0, 0)) (by (with_reducible repeat (first | refine blk_drewN ?_ _ | refine blk_drew ?_ | refine blk_alloc ?_ _)); refine blk_far ?_ NB213_215.out _; (with_reducible repeat (first | refine blk_drewN ?_ _ | refine blk_drew ?_ | refine blk_alloc ?_ _)); refine blk_far ?_ NB213_215.out _; (with_reducible repeat (first | refine blk_drewN ?_ _ | refine blk_drew ?_ | refine blk_alloc ?_ _)); refine blk_far ?_ NB213_215.out _; (with_reducible repeat (first | refine blk_drewN ?_ _ | refine blk_drew ?_ | refine blk_alloc ?_ _)); refine blk_far ?_ NB213_215.out _; (with_reducible repeat (first | refine blk_drewN ?_ _ | refine blk_drew ?_ | refine blk_alloc ?_ _)); exact BK213.out) hb); have n3_ := Aside0.mk (blk_below (g := gb215) (o := .cells #[.int .i64 ((rd_T60 t209 x55_3).f0.f0), .int .i64 ((rd_T60 t209 x55_3).f0.f1), .int .i64 ((rd_T60 t209 x55_3).f1.f0), .int .i64 ((rd_T60 t209 x55_3).f1.f1)] 60 (0, 0)) (by (with_reducible repeat (first | refine blk_drewN ?_ _ | refine blk_drew ?_ | refine blk_alloc ?_ _)); refine blk_put (cs := #[.int .i64 ((rd_T60 t209 x55_3).f0.f0), .int .i64 ((rd_T60 t209 x55_3).f0.f1), .int .i64 ((rd_T60 t209 x55_3).f1.f0), .int .i64 0]) ?_ 3 _ rfl; (with_reducible repeat (first | refine blk_drewN ?_ _ | refine blk_drew ?_ | refine blk_alloc ?_ _)); refine blk_put (cs := #[.int .i64 ((rd_T60 t209 x55_3).f0.f0), .int .i64 ((rd_T60 t209 x55_3).f0.f1), .int .i64 0, .int .i64 0]) ?_ 2 _ rfl; (with_reducible repeat (first | refine blk_drewN ?_ _ | refine blk_drew ?_ | refine blk_alloc ?_ _)); refine blk_put (cs := #[.int .i64 ((rd_T60 t209 x55_3).f0.f0), .int .i64 0, .int .i64 0, .int .i64 0]) ?_ 1 _ rfl; (with_reducible repeat (first | refine blk_drewN ?_ _ | refine blk_drew ?_ | refine blk_alloc ?_ _)); refine blk_put (cs := #[.int .i64 0, .int .i64 0, .int .i64 0, .int .i64 0]) ?_ 0 _ rfl; (with_reducible repeat (first | refine blk_drewN ?_ _ | refine blk_drew ?_ | refine blk_alloc ?_ _)); exact BK215.out) hb); have n4_ := Aside0.mk (below_step (by repeat (first | (with_reducible first | exact HB.out | apply below_alloc | apply pw_below_drewN | apply below_drew1 | refine below_set ?_ GE213.out | refine below_set ?_ GE215.out) | exact HB.out)) hb); clear HO_7; clear HO_53; clear BK213; clear BK215; clear HB; have HO_7 := n0_; have HO_53 := n1_; have BK213 := n2_; have BK215 := n3_; have HB := n4_; clear n0_ n1_ n2_ n3_ n4_; (try clear hb); (try clear hb2); (try clear hk); (try clear hi)))
                              go_roundg k3
                              case measure => have := HJ3.out; have := HK2.out; have := HK3.out; omega
                              case rel => exact ⟨(t216), (wrap64 (x55_3 + 1)), (by first | rfl | (simp; done) | (simp [*]; done)), (by first | rfl | (simp; done) | (simp [*]; done)), H', ⟨by have := HJ3.out; have := HK2.out; have := HK3.out; omega⟩, ⟨by (with_reducible repeat (first | apply Kd.R_alloc | apply Kd.R_drewN | apply Kd.R_drew)); exact Kd.R_mono HO_7.out (fun _ hk => trivial)⟩, ⟨by (with_reducible repeat (first | apply Kd.R_alloc | apply Kd.R_drewN | apply Kd.R_drew)); exact Kd.R_mono HO_53.out (fun _ hk => trivial)⟩, ⟨by (with_reducible repeat (first | refine blk_drewN ?_ _ | refine blk_drew ?_ | refine blk_alloc ?_ _)); exact BK213.out⟩, ⟨by repeat (first | (with_reducible first | exact HB.out | apply below_alloc | apply pw_below_drewN | apply below_drew1 | refine below_set ?_ GE213.out | refine below_set ?_ GE215.out) | exact HB.out)⟩⟩
                          · rw [if_neg c40] at H
                            exact absurd H (by simp)
                        · rw [if_neg c39] at H
                          exact absurd H (by simp)
                      · rw [if_neg c38] at H
                        have c38b0 : decide (x55_3 < (t209.length : Int)) = false := decide_eq_false c38
                        clear c38
                        by_cases c51 : x10_3 = true
                        · subst c51
                          have H1 : (impl_IsFaithful.l0 k3 a2 t209 l0 (l0.length : Int) (wrap64 (x49_2 + 1))) = some r := by rw [if_pos rfl] at H; exact H
                          clear H
                          have H := H1
                          clear H1
                          have H' := Aside0.mk H
                          clear H
                          go_wp2
                          go_roundg k3
                          case measure => have := HJ3.out; have := HK2.out; have := HK3.out; omega
                          case rel => exact ⟨(wrap64 (x49_2 + 1)), (by first | rfl | (simp; done) | (simp [*]; done)), H', ⟨by have := HJ3.out; have := HK2.out; have := HK3.out; omega⟩, ⟨by (with_reducible repeat (first | apply Kd.R_alloc | apply Kd.R_drewN | apply Kd.R_drew)); exact HO_7.out⟩, ⟨by repeat (first | (with_reducible first | exact HB.out | apply below_alloc | apply pw_below_drewN | apply below_drew1 | refine below_set ?_ GE213.out) | exact HB.out)⟩⟩
                        · replace c51 := Bool.eq_false_iff.mpr c51
                          subst c51
                          have H1 : (some false) = some r := by rw [if_neg (show ¬ (false = true) by decide)] at H; exact H
                          clear H
                          have H := H1
                          clear H1
                          obtain rfl := Option.some.inj H
                          go_wp2
                          go_ret
                          exact ⟨by first | rfl | (simp [errW_none, errW_some] <;> rfl) | (simp [*, errW_none, errW_some] <;> rfl), by repeat (first | (with_reducible first | exact HB.out | apply below_alloc | apply pw_below_drewN | apply below_drew1 | refine below_set ?_ GE213.out) | exact HB.out)⟩
                · rw [if_neg c34] at H
                  exact absurd H (by simp)
              · rw [if_neg c33] at H
                exact absurd H (by simp)
            · rw [if_neg c32] at H
              have c32b0 : decide (x49_2 < (l0.length : Int)) = false := decide_eq_false c32
              clear c32
              obtain rfl := Option.some.inj H
              go_wp2
              go_ret
              exact ⟨by first | rfl | (simp [errW_none, errW_some] <;> rfl) | (simp [*, errW_none, errW_some] <;> rfl), by repeat (first | (with_reducible first | exact HB.out | apply below_alloc | apply pw_below_drewN | apply below_drew1) | exact HB.out)⟩

/-! ### laws_eqPoint: function 52 -/
def laws_eqPoint.f (a0_0 : Int) (a0_1 : Int) (a1_0 : Int) (a1_1 : Int) : Option (Bool) := if a0_0 = a1_0 then (if a0_1 = a1_1 then (some true) else (some false)) else (some false)
set_option maxHeartbeats 8000000 in
set_option maxRecDepth 100000 in
theorem laws_eqPoint.calls (a0_0 : Int) (a0_1 : Int) (a1_0 : Int) (a1_1 : Int) (r : Bool) (w : World) (h : laws_eqPoint.f a0_0 a0_1 a1_0 a1_1 = some r) :
    Calls Try.prog 52 #[.agg #[.int .i64 a0_0, .int .i64 a0_1], .agg #[.int .i64 a1_0, .int .i64 a1_1]] w fun e w' => e = .returned (.bool r) ∧ Below w.heap.size w w' := by
  have hu27 := Try.underlying27
  have HB := Aside0.mk (Below.refl w.heap.size w)
  have H : (if a0_0 = a1_0 then (if a0_1 = a1_1 then (some true) else (some false)) else (some false)) = some r := h
  clear h
  by_cases c3 : a0_0 = a1_0
  · rw [if_pos c3] at H
    have c3b0 : (a0_0 == a1_0) = true := beq_iff_eq.mpr c3
    have c3b1 : (a0_0 != a1_0) = false := bne_eq_false_iff_eq.mpr c3
    clear c3
    by_cases c4 : a0_1 = a1_1
    · rw [if_pos c4] at H
      have c4b0 : (a0_1 == a1_1) = true := beq_iff_eq.mpr c4
      have c4b1 : (a0_1 != a1_1) = false := bne_eq_false_iff_eq.mpr c4
      clear c4
      obtain rfl := Option.some.inj H
      go_enter Try.func52, Try.ntmps52
      go_wp2_with (first | ((with_reducible refine gate_dst (N := 2) rfl ?_); refine box_event ?hg (N := 2) ?hd (cs := #[.int .i64 a0_0, .int .i64 a0_1]) (t := 27) ?hr ?_; (case hd => rfl); (case hg => rfl); (case hr => first | (go_simp; done) | (go_simp; rfl)); intro gb217 hg w5 hbox hb; have n0_ := Aside0.mk (below_step (by repeat (first | (with_reducible first | exact HB.out | apply below_alloc | apply pw_below_drewN | apply below_drew1) | exact HB.out)) hb); have n1_ := Aside0.mk (hbox); have n2_ := Aside0.mk ((by rw [hg]; exact (below_size (by repeat (first | (with_reducible first | exact HB.out | apply below_alloc | apply pw_below_drewN | apply below_drew1) | exact HB.out))) : w.heap.size ≤ gb217)); have n3_ := Aside0.mk ((by rw [hg]; exact (below_size (by repeat (first | (with_reducible first | exact HB.out | apply below_alloc | apply pw_below_drewN | apply below_drew1) | exact HB.out))) : w.heap.size ≤ gb217)); clear HB; have HB := n0_; have BK217 := n1_; have GW217 := n2_; have GE217 := n3_; clear n0_ n1_ n2_ n3_; clear hb hbox hg) | ((with_reducible refine gate_dst (N := 3) rfl ?_); refine box_event ?hg (N := 3) ?hd (cs := #[.int .i64 a1_0, .int .i64 a1_1]) (t := 27) ?hr ?_; (case hd => rfl); (case hg => rfl); (case hr => first | (go_simp; done) | (go_simp; rfl)); intro gb218 hg w6 hbox hb; have n0_ := Aside0.mk (blk_below (g := gb217) (o := .cells #[.int .i64 a0_0, .int .i64 a0_1] 27 (0, 0)) (by (with_reducible repeat (first | refine blk_drewN ?_ _ | refine blk_drew ?_ | refine blk_alloc ?_ _)); exact BK217.out) hb); have n1_ := Aside0.mk (below_step (by repeat (first | (with_reducible first | exact HB.out | apply below_alloc | apply pw_below_drewN | apply below_drew1 | refine below_set ?_ GE217.out) | exact HB.out)) hb); have n2_ := Aside0.mk (hbox); have n3_ := Aside0.mk ((by rw [hg]; exact (below_size (by repeat (first | (with_reducible first | exact HB.out | apply below_alloc | apply pw_below_drewN | apply below_drew1 | refine below_set ?_ GE217.out) | exact HB.out))) : w.heap.size ≤ gb218)); have n4_ := Aside0.mk ((by rw [hg]; exact (below_size (by repeat (first | (with_reducible first | exact HB.out | apply below_alloc | apply pw_below_drewN | apply below_drew1 | refine below_set ?_ GE217.out) | exact HB.out))) : w.heap.size ≤ gb218)); have n5_ := Aside0.mk ((by rw [hg]; exact Nat.ne_of_lt (blk_lt (g := gb217) (o := .cells #[.int .i64 a0_0, .int .i64 a0_1] 27 (0, 0)) (by (with_reducible repeat (first | refine blk_drewN ?_ _ | refine blk_drew ?_ | refine blk_alloc ?_ _)); exact BK217.out)) : gb217 ≠ gb218)); have n6_ := Aside0.mk ((by rw [hg]; exact Nat.ne_of_gt (blk_lt (g := gb217) (o := .cells #[.int .i64 a0_0, .int .i64 a0_1] 27 (0, 0)) (by (with_reducible repeat (first | refine blk_drewN ?_ _ | refine blk_drew ?_ | refine blk_alloc ?_ _)); exact BK217.out)) : gb218 ≠ gb217)); clear BK217; clear HB; have BK217 := n0_; have HB := n1_; have BK218 := n2_; have GW218 := n3_; have GE218 := n4_; have NB217_218 := n5_; have NB218_217 := n6_; clear n0_ n1_ n2_ n3_ n4_ n5_ n6_; clear hb hbox hg; have hnb7 := NB217_218.out; have hnc7 := NB218_217.out; have hcz8_0 : w6.cell? ⟨gb217, 0, none⟩ = some (.int .i64 a0_0) := (blk_cell BK217.out 0).trans rfl; have hcz8_1 : w6.cell? ⟨gb217, 1, none⟩ = some (.int .i64 a0_1) := (blk_cell BK217.out 1).trans rfl; have hfz8_0 := blk_frozen BK217.out 0; have hfz8_1 := blk_frozen BK217.out 1; have hcz9_0 : w6.cell? ⟨gb218, 0, none⟩ = some (.int .i64 a1_0) := (blk_cell BK218.out 0).trans rfl; have hcz9_1 : w6.cell? ⟨gb218, 1, none⟩ = some (.int .i64 a1_1) := (blk_cell BK218.out 1).trans rfl; have hfz9_0 := blk_frozen BK218.out 0; have hfz9_1 := blk_frozen BK218.out 1))
      go_ret
      exact ⟨by first | rfl | (simp [errW_none, errW_some] <;> rfl) | (simp [*, errW_none, errW_some] <;> rfl), by repeat (first | (with_reducible first | exact HB.out | apply below_alloc | apply pw_below_drewN | apply below_drew1 | refine below_set ?_ GE217.out | refine below_set ?_ GE218.out) | exact HB.out)⟩
    · rw [if_neg c4] at H
      have c4b0 : (a0_1 == a1_1) = false := beq_eq_false_iff_ne.mpr c4
      have c4b1 : (a0_1 != a1_1) = true := bne_iff_ne.mpr c4
      obtain rfl := Option.some.inj H
      go_enter Try.func52, Try.ntmps52
      go_wp2_with (first | ((with_reducible refine gate_dst (N := 2) rfl ?_); refine box_event ?hg (N := 2) ?hd (cs := #[.int .i64 a0_0, .int .i64 a0_1]) (t := 27) ?hr ?_; (case hd => rfl); (case hg => rfl); (case hr => first | (go_simp; done) | (go_simp; rfl)); intro gb217 hg w10 hbox hb; have n0_ := Aside0.mk (below_step (by repeat (first | (with_reducible first | exact HB.out | apply below_alloc | apply pw_below_drewN | apply below_drew1) | exact HB.out)) hb); have n1_ := Aside0.mk (hbox); have n2_ := Aside0.mk ((by rw [hg]; exact (below_size (by repeat (first | (with_reducible first | exact HB.out | apply below_alloc | apply pw_below_drewN | apply below_drew1) | exact HB.out))) : w.heap.size ≤ gb217)); have n3_ := Aside0.mk ((by rw [hg]; exact (below_size (by repeat (first | (with_reducible first | exact HB.out | apply below_alloc | apply pw_below_drewN | apply below_drew1) | exact HB.out))) : w.heap.size ≤ gb217)); clear HB; have HB := n0_; have BK217 := n1_; have GW217 := n2_; have GE217 := n3_; clear n0_ n1_ n2_ n3_; clear hb hbox hg) | ((with_reducible refine gate_dst (N := 3) rfl ?_); refine box_event ?hg (N := 3) ?hd (cs := #[.int .i64 a1_0, .int .i64 a1_1]) (t := 27) ?hr ?_; (case hd => rfl); (case hg => rfl); (case hr => first | (go_simp; done) | (go_simp; rfl)); intro gb218 hg w11 hbox hb; have n0_ := Aside0.mk (blk_below (g := gb217) (o := .cells #[.int .i64 a0_0, .int .i64 a0_1] 27 (0, 0)) (by (with_reducible repeat (first | refine blk_drewN ?_ _ | refine blk_drew ?_ | refine blk_alloc ?_ _)); exact BK217.out) hb); have n1_ := Aside0.mk (below_step (by repeat (first | (with_reducible first | exact HB.out | apply below_alloc | apply pw_below_drewN | apply below_drew1 | refine below_set ?_ GE217.out) | exact HB.out)) hb); have n2_ := Aside0.mk (hbox); have n3_ := Aside0.mk ((by rw [hg]; exact (below_size (by repeat (first | (with_reducible first | exact HB.out | apply below_alloc | apply pw_below_drewN | apply below_drew1 | refine below_set ?_ GE217.out) | exact HB.out))) : w.heap.size ≤ gb218)); have n4_ := Aside0.mk ((by rw [hg]; exact (below_size (by repeat (first | (with_reducible first | exact HB.out | apply below_alloc | apply pw_below_drewN | apply below_drew1 | refine below_set ?_ GE217.out) | exact HB.out))) : w.heap.size ≤ gb218)); have n5_ := Aside0.mk ((by rw [hg]; exact Nat.ne_of_lt (blk_lt (g := gb217) (o := .cells #[.int .i64 a0_0, .int .i64 a0_1] 27 (0, 0)) (by (with_reducible repeat (first | refine blk_drewN ?_ _ | refine blk_drew ?_ | refine blk_alloc ?_ _)); exact BK217.out)) : gb217 ≠ gb218)); have n6_ := Aside0.mk ((by rw [hg]; exact Nat.ne_of_gt (blk_lt (g := gb217) (o := .cells #[.int .i64 a0_0, .int .i64 a0_1] 27 (0, 0)) (by (with_reducible repeat (first | refine blk_drewN ?_ _ | refine blk_drew ?_ | refine blk_alloc ?_ _)); exact BK217.out)) : gb218 ≠ gb217)); clear BK217; clear HB; have BK217 := n0_; have HB := n1_; have BK218 := n2_; have GW218 := n3_; have GE218 := n4_; have NB217_218 := n5_; have NB218_217 := n6_; clear n0_ n1_ n2_ n3_ n4_ n5_ n6_; clear hb hbox hg; have hnb12 := NB217_218.out; have hnc12 := NB218_217.out; have hcz13_0 : w11.cell? ⟨gb217, 0, none⟩ = some (.int .i64 a0_0) := (blk_cell BK217.out 0).trans rfl; have hcz13_1 : w11.cell? ⟨gb217, 1, none⟩ = some (.int .i64 a0_1) := (blk_cell BK217.out 1).trans rfl; have hfz13_0 := blk_frozen BK217.out 0; have hfz13_1 := blk_frozen BK217.out 1; have hcz14_0 : w11.cell? ⟨gb218, 0, none⟩ = some (.int .i64 a1_0) := (blk_cell BK218.out 0).trans rfl; have hcz14_1 : w11.cell? ⟨gb218, 1, none⟩ = some (.int .i64 a1_1) := (blk_cell BK218.out 1).trans rfl; have hfz14_0 := blk_frozen BK218.out 0; have hfz14_1 := blk_frozen BK218.out 1))
      go_ret
      exact ⟨by first | rfl | (simp [errW_none, errW_some] <;> rfl) | (simp [*, errW_none, errW_some] <;> rfl), by repeat (first | (with_reducible first | exact HB.out | apply below_alloc | apply pw_below_drewN | apply below_drew1 | refine below_set ?_ GE217.out | refine below_set ?_ GE218.out) | exact HB.out)⟩
  · rw [if_neg c3] at H
    have c3b0 : (a0_0 == a1_0) = false := beq_eq_false_iff_ne.mpr c3
    have c3b1 : (a0_0 != a1_0) = true := bne_iff_ne.mpr c3
    obtain rfl := Option.some.inj H
    go_enter Try.func52, Try.ntmps52
    go_wp2_with (first | ((with_reducible refine gate_dst (N := 2) rfl ?_); refine box_event ?hg (N := 2) ?hd (cs := #[.int .i64 a0_0, .int .i64 a0_1]) (t := 27) ?hr ?_; (case hd => rfl); (case hg => rfl); (case hr => first | (go_simp; done) | (go_simp; rfl)); intro gb217 hg w15 hbox hb; have n0_ := Aside0.mk (below_step (by repeat (first | (with_reducible first | exact HB.out | apply below_alloc | apply pw_below_drewN | apply below_drew1) | exact HB.out)) hb); have n1_ := Aside0.mk (hbox); have n2_ := Aside0.mk ((by rw [hg]; exact (below_size (by repeat (first | (with_reducible first | exact HB.out | apply below_alloc | apply pw_below_drewN | apply below_drew1) | exact HB.out))) : w.heap.size ≤ gb217)); have n3_ := Aside0.mk ((by rw [hg]; exact (below_size (by repeat (first | (with_reducible first | exact HB.out | apply below_alloc | apply pw_below_drewN | apply below_drew1) | exact HB.out))) : w.heap.size ≤ gb217)); clear HB; have HB := n0_; have BK217 := n1_; have GW217 := n2_; have GE217 := n3_; clear n0_ n1_ n2_ n3_; clear hb hbox hg) | ((with_reducible refine gate_dst (N := 3) rfl ?_); refine box_event ?hg (N := 3) ?hd (cs := #[.int .i64 a1_0, .int .i64 a1_1]) (t := 27) ?hr ?_; (case hd => rfl); (case hg => rfl); (case hr => first | (go_simp; done) | (go_simp; rfl)); intro gb218 hg w16 hbox hb; have n0_ := Aside0.mk (blk_below (g := gb217) (o := .cells #[.int .i64 a0_0, .int .i64 a0_1] 27 (0, 0)) (by (with_reducible repeat (first | refine blk_drewN ?_ _ | refine blk_drew ?_ | refine blk_alloc ?_ _)); exact BK217.out) hb); have n1_ := Aside0.mk (below_step (by repeat (first | (with_reducible first | exact HB.out | apply below_alloc | apply pw_below_drewN | apply below_drew1 | refine below_set ?_ GE217.out) | exact HB.out)) hb); have n2_ := Aside0.mk (hbox); have n3_ := Aside0.mk ((by rw [hg]; exact (below_size (by repeat (first | (with_reducible first | exact HB.out | apply below_alloc | apply pw_below_drewN | apply below_drew1 | refine below_set ?_ GE217.out) | exact HB.out))) : w.heap.size ≤ gb218)); have n4_ := Aside0.mk ((by rw [hg]; exact (below_size (by repeat (first | (with_reducible first | exact HB.out | apply below_alloc | apply pw_below_drewN | apply below_drew1 | refine below_set ?_ GE217.out) | exact HB.out))) : w.heap.size ≤ gb218)); have n5_ := Aside0.mk ((by rw [hg]; exact Nat.ne_of_lt (blk_lt (g := gb217) (o := .cells #[.int .i64 a0_0, .int .i64 a0_1] 27 (0, 0)) (by (with_reducible repeat (first | refine blk_drewN ?_ _ | refine blk_drew ?_ | refine blk_alloc ?_ _)); exact BK217.out)) : gb217 ≠ gb218)); have n6_ := Aside0.mk ((by rw [hg]; exact Nat.ne_of_gt (blk_lt (g := gb217) (o := .cells #[.int .i64 a0_0, .int .i64 a0_1] 27 (0, 0)) (by (with_reducible repeat (first | refine blk_drewN ?_ _ | refine blk_drew ?_ | refine blk_alloc ?_ _)); exact BK217.out)) : gb218 ≠ gb217)); clear BK217; clear HB; have BK217 := n0_; have HB := n1_; have BK218 := n2_; have GW218 := n3_; have GE218 := n4_; have NB217_218 := n5_; have NB218_217 := n6_; clear n0_ n1_ n2_ n3_ n4_ n5_ n6_; clear hb hbox hg; have hnb17 := NB217_218.out; have hnc17 := NB218_217.out; have hcz18_0 : w16.cell? ⟨gb217, 0, none⟩ = some (.int .i64 a0_0) := (blk_cell BK217.out 0).trans rfl; have hcz18_1 : w16.cell? ⟨gb217, 1, none⟩ = some (.int .i64 a0_1) := (blk_cell BK217.out 1).trans rfl; have hfz18_0 := blk_frozen BK217.out 0; have hfz18_1 := blk_frozen BK217.out 1; have hcz19_0 : w16.cell? ⟨gb218, 0, none⟩ = some (.int .i64 a1_0) := (blk_cell BK218.out 0).trans rfl; have hcz19_1 : w16.cell? ⟨gb218, 1, none⟩ = some (.int .i64 a1_1) := (blk_cell BK218.out 1).trans rfl; have hfz19_0 := blk_frozen BK218.out 0; have hfz19_1 := blk_frozen BK218.out 1))
    go_ret
    exact ⟨by first | rfl | (simp [errW_none, errW_some] <;> rfl) | (simp [*, errW_none, errW_some] <;> rfl), by repeat (first | (with_reducible first | exact HB.out | apply below_alloc | apply pw_below_drewN | apply below_drew1 | refine below_set ?_ GE217.out | refine below_set ?_ GE218.out) | exact HB.out)⟩

end Go.Proofs.Ytchmbcembbbplab.MFnExactIsFaithful
