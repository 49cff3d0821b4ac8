-- Laid by this session's program pp.py, after the kit's print and texts of the session's own. Not trusted: Lean checks it.
import Derived.Test.YtchmbcembbbplabMFnExactCornerSizex0
import Derived.Test.YtchmbcembbbplabMFnExactCornerSizex2
import Derived.Test.YtchmbcembbbplabMFnExactCornerSizex3
import Derived.Test.YtchmbcembbbplabMFnExactCornerSizex6
namespace Go.Proofs.Ytchmbcembbbplab.MFnExactCornerSize
open Go.RowKit Go.Proofs.YtchmbcembbbplabW.PrintWords Go.Proofs.YtchmbcembbbplabW.PrintLast Go.Proofs.YtchmbcembbbplabW.PrintMore
attribute [local go_sem] max2_int min2_int max_two min_two max_three min_three max_four min_four   -- for this text's walks alone
set_option linter.unusedVariables false
set_option linter.unusedSimpArgs false

/-! ### spec_IsRing: function 98 -/
mutual
def spec_IsRing.l0 : Nat → List (S60) → Int → Option (Bool)
  | 0, _, _ => none
  | k + 1, x3, x4 => if x4 < (x3.length : Int) then (if 0 ≤ x4 then ((spec_IsSegment.f ((rd_T60 x3 x4).f0.f0) ((rd_T60 x3 x4).f0.f1) ((rd_T60 x3 x4).f1.f0) ((rd_T60 x3 x4).f1.f1)).bind fun t193 => (if t193 = true then (spec_IsRing.l1 k x3 x4 0) else (some false))) else (none)) else (some true)
def spec_IsRing.l1 : Nat → List (S60) → Int → Int → Option (Bool)
  | 0, _, _, _ => none
  | k + 1, x3, x4, x5 => if x5 < x4 then (if (wrap64 (x5 + 1)) = x4 then (spec_IsRing.j2 k x3 x4 x5 0 true) else (if x5 = 0 then (spec_IsRing.j2 k x3 x4 x5 0 ((wrap64 (x4 + 1)) == (x3.length : Int))) else (spec_IsRing.j2 k x3 x4 x5 0 false))) else (spec_IsRing.l0 k x3 (wrap64 (x4 + 1)))
def spec_IsRing.j2 : Nat → List (S60) → Int → Int → Int → Bool → Option (Bool)
  | 0, _, _, _, _, _ => none
  | k + 1, x3, x4, x5, x6, x44 => if x44 = true then (if 0 ≤ x4 then (if x4 < (x3.length : Int) then (if 0 ≤ x5 then (if x5 < (x3.length : Int) then ((spec_HowMeet.f k ((rd_T60 x3 x4).f0.f0) ((rd_T60 x3 x4).f0.f1) ((rd_T60 x3 x4).f1.f0) ((rd_T60 x3 x4).f1.f1) ((rd_T60 x3 x5).f0.f0) ((rd_T60 x3 x5).f0.f1) ((rd_T60 x3 x5).f1.f0) ((rd_T60 x3 x5).f1.f1)).bind fun t196 => (if t196 = 1 then (spec_IsRing.l1 k x3 x4 (wrap64 (x5 + 1))) else (some false))) else (none)) else (none)) else (none)) else (none)) else (if 0 ≤ x4 then (if x4 < (x3.length : Int) then (if 0 ≤ x5 then (if x5 < (x3.length : Int) then ((spec_HowMeet.f k ((rd_T60 x3 x4).f0.f0) ((rd_T60 x3 x4).f0.f1) ((rd_T60 x3 x4).f1.f0) ((rd_T60 x3 x4).f1.f1) ((rd_T60 x3 x5).f0.f0) ((rd_T60 x3 x5).f0.f1) ((rd_T60 x3 x5).f1.f0) ((rd_T60 x3 x5).f1.f1)).bind fun t199 => (if t199 = x6 then (spec_IsRing.l1 k x3 x4 (wrap64 (x5 + 1))) else (some false))) else (none)) else (none)) else (none)) else (none))
end
def spec_IsRing.f (k : Nat) (l0 : List (S27)) : Option (Bool) := (spec_l1In.f (l0.length : Int) 3 10).bind fun t188 => (if t188 = true then ((spec_l7Segments.f k l0).bind fun t189 => (spec_IsRing.l0 k t189 0)) else (some false))
theorem spec_IsRing.mono_l : ∀ k, (∀ y0 y1, LeO (spec_IsRing.l0 k y0 y1) (spec_IsRing.l0 (k + 1) y0 y1)) ∧ (∀ y0 y1 y2, LeO (spec_IsRing.l1 k y0 y1 y2) (spec_IsRing.l1 (k + 1) y0 y1 y2)) ∧ (∀ y0 y1 y2 y3 y4, LeO (spec_IsRing.j2 k y0 y1 y2 y3 y4) (spec_IsRing.j2 (k + 1) y0 y1 y2 y3 y4))
  | 0 => ⟨fun _ _ r h => by simp [spec_IsRing.l0] at h, fun _ _ _ r h => by simp [spec_IsRing.l1] at h, fun _ _ _ _ _ r h => by simp [spec_IsRing.j2] at h⟩
  | k + 1 => by
    obtain ⟨ih0, ih1, ih2⟩ := spec_IsRing.mono_l k
    refine ⟨?_, ?_, ?_⟩
    · intro y0 y1
      unfold spec_IsRing.l0
      repeat' first
      | (with_reducible exact ih0 _ _)
      | (with_reducible exact ih1 _ _ _)
      | (with_reducible exact ih2 _ _ _ _ _)
      | (with_reducible exact spec_HowMeet.mono _ _ _ _ _ _ _ _ _)
      | (with_reducible exact spec_l7Segments.mono _ _)
      | (with_reducible exact LeO.refl _)
      | (with_reducible exact LeO.none _)
      | (with_reducible refine LeO.ite ?_ ?_)
      | (with_reducible refine LeO.bind ?_ (fun _ => ?_))
      | exact ih0 _ _
      | exact ih1 _ _ _
      | exact ih2 _ _ _ _ _
      | exact spec_HowMeet.mono _ _ _ _ _ _ _ _ _
      | exact spec_l7Segments.mono _ _
      | exact LeO.none _
      | refine LeO.ite ?_ ?_
      | refine LeO.bind ?_ (fun _ => ?_)
    · intro y0 y1 y2
      unfold spec_IsRing.l1
      repeat' first
      | (with_reducible exact ih0 _ _)
      | (with_reducible exact ih1 _ _ _)
      | (with_reducible exact ih2 _ _ _ _ _)
      | (with_reducible exact spec_HowMeet.mono _ _ _ _ _ _ _ _ _)
      | (with_reducible exact spec_l7Segments.mono _ _)
      | (with_reducible exact LeO.refl _)
      | (with_reducible exact LeO.none _)
      | (with_reducible refine LeO.ite ?_ ?_)
      | (with_reducible refine LeO.bind ?_ (fun _ => ?_))
      | exact ih0 _ _
      | exact ih1 _ _ _
      | exact ih2 _ _ _ _ _
      | exact spec_HowMeet.mono _ _ _ _ _ _ _ _ _
      | exact spec_l7Segments.mono _ _
      | exact LeO.none _
      | refine LeO.ite ?_ ?_
      | refine LeO.bind ?_ (fun _ => ?_)
    · intro y0 y1 y2 y3 y4
      unfold spec_IsRing.j2
      repeat' first
      | (with_reducible exact ih0 _ _)
      | (with_reducible exact ih1 _ _ _)
      | (with_reducible exact ih2 _ _ _ _ _)
      | (with_reducible exact spec_HowMeet.mono _ _ _ _ _ _ _ _ _)
      | (with_reducible exact spec_l7Segments.mono _ _)
      | (with_reducible exact LeO.refl _)
      | (with_reducible exact LeO.none _)
      | (with_reducible refine LeO.ite ?_ ?_)
      | (with_reducible refine LeO.bind ?_ (fun _ => ?_))
      | exact ih0 _ _
      | exact ih1 _ _ _
      | exact ih2 _ _ _ _ _
      | exact spec_HowMeet.mono _ _ _ _ _ _ _ _ _
      | exact spec_l7Segments.mono _ _
      | exact LeO.none _
      | refine LeO.ite ?_ ?_
      | refine LeO.bind ?_ (fun _ => ?_)
theorem spec_IsRing.mono : ∀ a0 k, LeO (spec_IsRing.f k a0) (spec_IsRing.f (k + 1) a0) := by
  intro a0 k
  obtain ⟨ih0, ih1, ih2⟩ := spec_IsRing.mono_l k
  unfold spec_IsRing.f
  repeat' first
      | (with_reducible exact ih0 _ _)
      | (with_reducible exact ih1 _ _ _)
      | (with_reducible exact ih2 _ _ _ _ _)
      | (with_reducible exact spec_HowMeet.mono _ _ _ _ _ _ _ _ _)
      | (with_reducible exact spec_l7Segments.mono _ _)
      | (with_reducible exact LeO.refl _)
      | (with_reducible exact LeO.none _)
      | (with_reducible refine LeO.ite ?_ ?_)
      | (with_reducible refine LeO.bind ?_ (fun _ => ?_))
      | exact ih0 _ _
      | exact ih1 _ _ _
      | exact ih2 _ _ _ _ _
      | exact spec_HowMeet.mono _ _ _ _ _ _ _ _ _
      | exact spec_l7Segments.mono _ _
      | exact LeO.none _
      | refine LeO.ite ?_ ?_
      | refine LeO.bind ?_ (fun _ => ?_)
def spec_IsRing.T15 : Bool × List (List Nat × List Nat) := (true, [([], []), ([], []), ([0, 1], [0, 1]), ([2], [2]), ([], []), ([], []), ([4, 5], [4, 5]), ([6], [6]), ([3, 7], [3, 7]), ([], []), ([8, 9], [8, 9])])
def spec_IsRing.B15 : List Nat := [0, 0, 3, 7, 0, 0, 48, 112, 255, 0, 1023]
theorem spec_IsRing.tab15 : rtab .any (opsOf Try.f98 15) = spec_IsRing.T15 := by kernel_rfl
theorem spec_IsRing.bits15 : waitsOk spec_IsRing.T15.2 spec_IsRing.B15 = true := by kernel_rfl
set_option maxHeartbeats 8000000 in
set_option maxRecDepth 100000 in
theorem spec_IsRing.calls (k : Nat) (A0 : Option Addr) (c0 : Nat) (l0 : List (S27)) (r : Bool) (w : World) (hr0 : Kd.C k27 w A0 l0.length l0) (hc0 : l0.length ≤ c0) (h : spec_IsRing.f k l0 = some r) :
    Calls Try.prog 98 #[.slice A0 l0.length c0] w fun e w' => e = .returned (.bool r) ∧ Below w.heap.size w w' := by
  have hu60 := Try.underlying60
  have HR0 := Aside0.mk hr0
  have HC0 := Aside0.mk hc0
  clear hr0 hc0
  have HB := Aside0.mk (Below.refl w.heap.size w)
  have H : ((spec_l1In.f (l0.length : Int) 3 10).bind fun t188 => (if t188 = true then ((spec_l7Segments.f k l0).bind fun t189 => (spec_IsRing.l0 k t189 0)) else (some false))) = some r := h
  clear h
  replace H := Option.bind_eq_some_iff.mp H
  obtain ⟨t188, A20, H⟩ := H
  replace H : (if t188 = true then ((spec_l7Segments.f k l0).bind fun t189 => (spec_IsRing.l0 k t189 0)) else (some false)) = some r := H
  have A2 := Aside0.mk A20
  clear A20
  by_cases c3 : t188 = true
  · subst c3
    have H1 : ((spec_l7Segments.f k l0).bind fun t189 => (spec_IsRing.l0 k t189 0)) = some r := by rw [if_pos rfl] at H; exact H
    clear H
    have H := H1
    clear H1
    replace H := Option.bind_eq_some_iff.mp H
    obtain ⟨t189, A40, H⟩ := H
    replace H : (spec_IsRing.l0 k t189 0) = some r := H
    have A4 := Aside0.mk A40
    clear A40
    have H' := Aside0.mk H
    clear H
    go_enter Try.func98, Try.ntmps98
    go_wp2_with (first | ((with_reducible refine gate_callee (f := 88) rfl ?_); refine goesL_ (some 9) rfl rfl Try.func88 (by kernel_rfl) rfl #[.int .i64 (l0.length : Int), .int .i64 3, .int .i64 10] rfl (by (try simp only [List.map_toArray, List.map_cons, List.map_nil]); first | done | rfl | (simp only [List.length_drop, List.length_take]; rfl)) ?_; (with_reducible refine (spec_l1In.calls (l0.length : Int) 3 10 true _ A2.out).mono ?_); rintro e w' ⟨rfl, ⟨nd, rfl⟩⟩; refine ⟨_, rfl, ?_⟩) | ((with_reducible refine gate_callee (f := 112) rfl ?_); refine goesL_ (some 12) rfl rfl Try.func112 (by kernel_rfl) rfl #[.slice A0 l0.length c0] rfl (by (try simp only [List.map_toArray, List.map_cons, List.map_nil]); first | done | rfl | (simp only [List.length_drop, List.length_take]; rfl)) ?_; (with_reducible refine (spec_l7Segments.calls k _ _ l0 t189 _ ?side1 ?side2 A4.out).mono ?_); (case side1 => repeat (first | exact HR0.out | (with_reducible refine Kd.C_alloc ?_ _) | (with_reducible refine Kd.C_drewN ?_ _) | (with_reducible refine Kd.C_drew ?_))); (case side2 => exact HC0.out); rintro e w5 ⟨v190, rfl, ho0, hb⟩; refine ⟨_, rfl, ?_⟩; have n0_ := Aside0.mk (Kd.R_lower ho0 (below_size (by repeat (first | (with_reducible first | exact HB.out | apply below_alloc | apply pw_below_drewN | apply below_drew1) | exact HB.out)))); have n1_ := Aside0.mk (below_step (by repeat (first | (with_reducible first | exact HB.out | apply below_alloc | apply pw_below_drewN | apply below_drew1) | exact HB.out)) hb); clear HB; have HO191 := n0_; have HB := n1_; clear n0_ n1_; (try clear hb); (try clear hb2); (try clear hk); (try clear hi); (try clear ho0)))
    go_loopg [4] k (fun kq v4 w' => ∃ (x4_1 : Int), v4 = .int .i64 x4_1 ∧ Aside0 (spec_IsRing.l0 kq t189 x4_1 = some r) ∧ Aside0 (kq ≤ k) ∧ Aside0 (Kd.R k60 60 w' w.heap.size (fun _ => True) v190 t189) ∧ Aside0 (Below w.heap.size w w'))
    case atStart => exact ⟨(0), (by first | rfl | (simp; done) | (simp [*]; done)), H', ⟨Nat.le_refl _⟩, ⟨by (with_reducible repeat (first | apply Kd.R_alloc | apply Kd.R_drewN | apply Kd.R_drew)); exact HO191.out⟩, ⟨by repeat (first | (with_reducible first | exact HB.out | apply below_alloc | apply pw_below_drewN | apply below_drew1) | exact HB.out)⟩⟩
    case round =>
      clear H'
      try clear c1
      try clear p2
      try clear c3
      obtain ⟨x4_1, rfl, HA, HK1, HO_3, HB⟩ := hrel
      cases gk with
      | zero => exact absurd HA.out (by simp [spec_IsRing.l0])
      | succ k1 =>
        have H := HA.out
        clear HA
        simp only [spec_IsRing.l0] at H
        by_cases c6 : x4_1 < (t189.length : Int)
        · rw [if_pos c6] at H
          have c6b0 : decide (x4_1 < (t189.length : Int)) = true := decide_eq_true c6
          clear c6
          by_cases c7 : 0 ≤ x4_1
          · rw [if_pos c7] at H
            have c7b0 : decide (0 ≤ x4_1) = true := decide_eq_true c7
            clear c7
            replace H := Option.bind_eq_some_iff.mp H
            obtain ⟨t193, A80, H⟩ := H
            replace H : (if t193 = true then (spec_IsRing.l1 k1 t189 x4_1 0) else (some false)) = some r := H
            have A8 := Aside0.mk A80
            clear A80
            by_cases c9 : t193 = true
            · subst c9
              have H1 : (spec_IsRing.l1 k1 t189 x4_1 0) = some r := by rw [if_pos rfl] at H; exact H
              clear H
              have H := H1
              clear H1
              have H' := Aside0.mk H
              clear H
              obtain ⟨Ao10, co10, eo10⟩ := Kd.R_slice HO_3.out
              subst eo10
              have p192 : 0 ≤ (x4_1 : Int) := of_decide_eq_true (by first | (with_reducible assumption) | assumption)
              have q192 : x4_1 < (t189.length : Int) := of_decide_eq_true (by first | (with_reducible assumption) | assumption)
              obtain ⟨ad192, e192, hx192_0, hx192_1, hx192_2, hx192_3⟩ := at_T60 (Kd.R_reads' HO_3.out).2.2 x4_1 p192 q192
              cases e192
              replace p192 := eq_true p192
              replace q192 := eq_true q192
              go_wp2_with (first | ((with_reducible refine gate_callee (f := 118) rfl ?_); refine goesL_ (some 23) rfl rfl Try.func118 (by kernel_rfl) rfl #[.agg #[.int .i64 ((rd_T60 t189 x4_1).f0.f0), .int .i64 ((rd_T60 t189 x4_1).f0.f1), .int .i64 ((rd_T60 t189 x4_1).f1.f0), .int .i64 ((rd_T60 t189 x4_1).f1.f1)]] rfl (by (try simp only [List.map_toArray, List.map_cons, List.map_nil]); first | done | rfl | (simp only [List.length_drop, List.length_take]; rfl)) ?_; (with_reducible refine (spec_IsSegment.calls ((rd_T60 t189 x4_1).f0.f0) ((rd_T60 t189 x4_1).f0.f1) ((rd_T60 t189 x4_1).f1.f0) ((rd_T60 t189 x4_1).f1.f1) true _ A8.out).mono ?_); rintro e w11 ⟨rfl, hb⟩; refine ⟨_, rfl, ?_⟩; have n0_ := Aside0.mk (Kd.R_below (by (with_reducible repeat (first | apply Kd.R_alloc | apply Kd.R_drewN | apply Kd.R_drew)); exact HO_3.out) hb); have n1_ := Aside0.mk (below_step (by repeat (first | (with_reducible first | exact HB.out | apply below_alloc | apply pw_below_drewN | apply below_drew1) | exact HB.out)) hb); clear HO_3; clear HB; have HO_3 := n0_; have HB := n1_; clear n0_ n1_; (try clear hb); (try clear hb2); (try clear hk); (try clear hi)))
              go_loopg [5] k1 (fun kq v5 w' => ∃ (x5_2 : Int), v5 = .int .i64 x5_2 ∧ Aside0 (spec_IsRing.l1 kq t189 x4_1 x5_2 = some r) ∧ Aside0 (kq ≤ k1) ∧ Aside0 (Kd.R k60 60 w' w.heap.size (fun _ => True) (.slice (some ad192) t189.length co10) t189) ∧ Aside0 (Below w.heap.size w w'))
              case atStart => exact ⟨(0), (by first | rfl | (simp; done) | (simp [*]; done)), H', ⟨Nat.le_refl _⟩, ⟨by (with_reducible repeat (first | apply Kd.R_alloc | apply Kd.R_drewN | apply Kd.R_drew)); exact HO_3.out⟩, ⟨by repeat (first | (with_reducible first | exact HB.out | apply below_alloc | apply pw_below_drewN | apply below_drew1) | exact HB.out)⟩⟩
              case round =>
                clear H'
                try clear c1
                try clear p1
                try clear q1
                try clear hx1
                try clear p2
                try clear c3
                try clear c6
                try clear c6b0
                try clear c7
                try clear c7b0
                try clear c8
                try clear c9
                try clear c11
                try clear hx192_0
                try clear hx192_1
                try clear hx192_2
                try clear hx192_3
                try clear p192
                try clear p2
                try clear q192
                obtain ⟨x5_2, rfl, HA, HK2, HO_3, HB⟩ := hrel
                cases gk with
                | zero => exact absurd HA.out (by simp [spec_IsRing.l1])
                | succ k2 =>
                  have H := HA.out
                  clear HA
                  simp only [spec_IsRing.l1] at H
                  by_cases c12 : x5_2 < x4_1
                  · rw [if_pos c12] at H
                    have c12b0 : decide (x5_2 < x4_1) = true := decide_eq_true c12
                    clear c12
                    have HC13 := Aside0.mk H
                    clear H
                    go_upto_region 13 with (fail)
                    go_cut [44] (fun v44 wc => ∃ (kq : Nat) (x44_12 : Bool), v44 = .bool x44_12 ∧ Aside0 (spec_IsRing.j2 kq t189 x4_1 x5_2 0 x44_12 = some r) ∧ Aside0 (kq ≤ k2) ∧ Aside0 (Kd.R k60 60 wc w.heap.size (fun _ => True) (.slice (some ad192) t189.length co10) t189) ∧ Aside0 (Below w.heap.size w wc))
                    case first =>
                      have H := HC13.out
                      clear HC13
                      by_cases c14 : (wrap64 (x5_2 + 1)) = x4_1
                      · rw [if_pos c14] at H
                        have c14b0 : ((wrap64 (x5_2 + 1)) == x4_1) = true := beq_iff_eq.mpr c14
                        have c14b1 : ((wrap64 (x5_2 + 1)) != x4_1) = false := bne_eq_false_iff_eq.mpr c14
                        clear c14
                        (first | rw [c14b0] | (simp only [i64_w, i32_w]; rw [c14b0]) | skip)
                        have H' := Aside0.mk H
                        clear H
                        go_wp2
                        go_meet
                        case rel => exact ⟨_, (true), (by first | rfl | (simp; done) | (simp [*]; done)), H', ⟨by have := HK1.out; have := HK2.out; first | omega | exact Nat.le_refl _⟩, ⟨by (with_reducible repeat (first | apply Kd.R_alloc | apply Kd.R_drewN | apply Kd.R_drew)); exact HO_3.out⟩, ⟨by repeat (first | (with_reducible first | exact HB.out | apply below_alloc | apply pw_below_drewN | apply below_drew1) | exact HB.out)⟩⟩
                      · rw [if_neg c14] at H
                        have c14b0 : ((wrap64 (x5_2 + 1)) == x4_1) = false := beq_eq_false_iff_ne.mpr c14
                        have c14b1 : ((wrap64 (x5_2 + 1)) != x4_1) = true := bne_iff_ne.mpr c14
                        (first | rw [c14b0] | (simp only [i64_w, i32_w]; rw [c14b0]) | skip)
                        by_cases c15 : x5_2 = 0
                        · rw [if_pos c15] at H
                          have c15b0 : (x5_2 == 0) = true := beq_iff_eq.mpr c15
                          have c15b1 : (x5_2 != 0) = false := bne_eq_false_iff_eq.mpr c15
                          clear c15
                          have H' := Aside0.mk H
                          clear H
                          go_wp2
                          go_meet
                          case rel => exact ⟨_, (((wrap64 (x4_1 + 1)) == (t189.length : Int))), (by first | rfl | (simp; done) | (simp [*]; done)), H', ⟨by have := HK1.out; have := HK2.out; first | omega | exact Nat.le_refl _⟩, ⟨by (with_reducible repeat (first | apply Kd.R_alloc | apply Kd.R_drewN | apply Kd.R_drew)); exact HO_3.out⟩, ⟨by repeat (first | (with_reducible first | exact HB.out | apply below_alloc | apply pw_below_drewN | apply below_drew1) | exact HB.out)⟩⟩
                        · rw [if_neg c15] at H
                          have c15b0 : (x5_2 == 0) = false := beq_eq_false_iff_ne.mpr c15
                          have c15b1 : (x5_2 != 0) = true := bne_iff_ne.mpr c15
                          have H' := Aside0.mk H
                          clear H
                          go_wp2
                          go_meet
                          case rel => exact ⟨_, (false), (by first | rfl | (simp; done) | (simp [*]; done)), H', ⟨by have := HK1.out; have := HK2.out; first | omega | exact Nat.le_refl _⟩, ⟨by (with_reducible repeat (first | apply Kd.R_alloc | apply Kd.R_drewN | apply Kd.R_drew)); exact HO_3.out⟩, ⟨by repeat (first | (with_reducible first | exact HB.out | apply below_alloc | apply pw_below_drewN | apply below_drew1) | exact HB.out)⟩⟩
                    case rest =>
                      clear HC13
                      try clear c1
                      try clear p1
                      try clear q1
                      try clear hx1
                      try clear p2
                      try clear c3
                      try clear c6
                      try clear c6b0
                      try clear p6
                      try clear c7
                      try clear c7b0
                      try clear c8
                      try clear c9
                      try clear c11
                      try clear c12
                      try clear c12b0
                      try clear c14
                      try clear c14b0
                      try clear c14b1
                      try clear c15
                      try clear c15b0
                      try clear c15b1
                      try clear hx192_0
                      try clear hx192_1
                      try clear hx192_2
                      try clear hx192_3
                      try clear p1
                      try clear p192
                      try clear p2
                      try clear q1
                      try clear q192
                      obtain ⟨kq, x44_12, rfl, HA, HJ12, HO_3, HB⟩ := hcut
                      cases kq with
                      | zero => exact absurd HA.out (by simp [spec_IsRing.j2])
                      | succ kj12 =>
                        have H := HA.out
                        clear HA
                        simp only [spec_IsRing.j2] at H
                        by_cases c16 : x44_12 = true
                        · subst c16
                          have H1 : (if 0 ≤ x4_1 then (if x4_1 < (t189.length : Int) then (if 0 ≤ x5_2 then (if x5_2 < (t189.length : Int) then ((spec_HowMeet.f kj12 ((rd_T60 t189 x4_1).f0.f0) ((rd_T60 t189 x4_1).f0.f1) ((rd_T60 t189 x4_1).f1.f0) ((rd_T60 t189 x4_1).f1.f1) ((rd_T60 t189 x5_2).f0.f0) ((rd_T60 t189 x5_2).f0.f1) ((rd_T60 t189 x5_2).f1.f0) ((rd_T60 t189 x5_2).f1.f1)).bind fun t196 => (if t196 = 1 then (spec_IsRing.l1 kj12 t189 x4_1 (wrap64 (x5_2 + 1))) else (some false))) else (none)) else (none)) else (none)) else (none)) = some r := by rw [if_pos rfl] at H; exact H
                          clear H
                          have H := H1
                          clear H1
                          by_cases c17 : 0 ≤ x4_1
                          · rw [if_pos c17] at H
                            have c17b0 : decide (0 ≤ x4_1) = true := decide_eq_true c17
                            clear c17
                            by_cases c18 : x4_1 < (t189.length : Int)
                            · rw [if_pos c18] at H
                              have c18b0 : decide (x4_1 < (t189.length : Int)) = true := decide_eq_true c18
                              clear c18
                              by_cases c19 : 0 ≤ x5_2
                              · rw [if_pos c19] at H
                                have c19b0 : decide (0 ≤ x5_2) = true := decide_eq_true c19
                                clear c19
                                by_cases c20 : x5_2 < (t189.length : Int)
                                · rw [if_pos c20] at H
                                  have c20b0 : decide (x5_2 < (t189.length : Int)) = true := decide_eq_true c20
                                  clear c20
                                  replace H := Option.bind_eq_some_iff.mp H
                                  obtain ⟨t196, A210, H⟩ := H
                                  replace H : (if t196 = 1 then (spec_IsRing.l1 kj12 t189 x4_1 (wrap64 (x5_2 + 1))) else (some false)) = some r := H
                                  have A21 := Aside0.mk A210
                                  clear A210
                                  by_cases c22 : t196 = 1
                                  · rw [if_pos c22] at H
                                    have c22b0 : (t196 == 1) = true := beq_iff_eq.mpr c22
                                    have c22b1 : (t196 != 1) = false := bne_eq_false_iff_eq.mpr c22
                                    clear c22
                                    have H' := Aside0.mk H
                                    clear H
                                    try go_wp2
                                    have n0_ := Aside0.mk (Kd.R_drew HO_3.out)
                                    have n1_ := Aside0.mk (below_drew1 HB.out)
                                    clear HO_3
                                    clear HB
                                    have HO_3 := n0_
                                    have HB := n1_
                                    clear n0_ n1_
                                    have p194 : 0 ≤ (x4_1 : Int) := of_decide_eq_true (by first | (with_reducible assumption) | assumption)
                                    have q194 : x4_1 < (t189.length : Int) := of_decide_eq_true (by first | (with_reducible assumption) | assumption)
                                    obtain ⟨ad194, e194, hx194_0, hx194_1, hx194_2, hx194_3⟩ := at_T60 (Kd.R_reads' HO_3.out).2.2 x4_1 p194 q194
                                    obtain rfl : ad192 = ad194 := (by injection e194)
                                    replace p194 := eq_true p194
                                    replace q194 := eq_true q194
                                    have p195 : 0 ≤ (x5_2 : Int) := of_decide_eq_true (by first | (with_reducible assumption) | assumption)
                                    have q195 : x5_2 < (t189.length : Int) := of_decide_eq_true (by first | (with_reducible assumption) | assumption)
                                    obtain ⟨ad195, e195, hx195_0, hx195_1, hx195_2, hx195_3⟩ := at_T60 (Kd.R_reads' HO_3.out).2.2 x5_2 p195 q195
                                    obtain rfl : ad192 = ad195 := (by injection e195)
                                    replace p195 := eq_true p195
                                    replace q195 := eq_true q195
                                    have S_ : (fun w' : World => w'.cell? (ad192.add ((x4_1).toNat * 4)) = some (.int .i64 ((rd_T60 t189 x4_1).f0.f0)) ∧ w'.cell? ⟨(ad192.add ((x4_1).toNat * 4)).block, (ad192.add ((x4_1).toNat * 4)).off + 1, none⟩ = some (.int .i64 ((rd_T60 t189 x4_1).f0.f1)) ∧ w'.cell? ⟨(ad192.add ((x4_1).toNat * 4)).block, (ad192.add ((x4_1).toNat * 4)).off + 2, none⟩ = some (.int .i64 ((rd_T60 t189 x4_1).f1.f0)) ∧ w'.cell? ⟨(ad192.add ((x4_1).toNat * 4)).block, (ad192.add ((x4_1).toNat * 4)).off + 3, none⟩ = some (.int .i64 ((rd_T60 t189 x4_1).f1.f1)) ∧ w'.cell? (ad192.add ((x5_2).toNat * 4)) = some (.int .i64 ((rd_T60 t189 x5_2).f0.f0)) ∧ w'.cell? ⟨(ad192.add ((x5_2).toNat * 4)).block, (ad192.add ((x5_2).toNat * 4)).off + 1, none⟩ = some (.int .i64 ((rd_T60 t189 x5_2).f0.f1)) ∧ w'.cell? ⟨(ad192.add ((x5_2).toNat * 4)).block, (ad192.add ((x5_2).toNat * 4)).off + 2, none⟩ = some (.int .i64 ((rd_T60 t189 x5_2).f1.f0)) ∧ w'.cell? ⟨(ad192.add ((x5_2).toNat * 4)).block, (ad192.add ((x5_2).toNat * 4)).off + 3, none⟩ = some (.int .i64 ((rd_T60 t189 x5_2).f1.f1))) wc.drew := ⟨hx194_0, hx194_1, hx194_2, hx194_3, hx195_0, hx195_1, hx195_2, hx195_3⟩
                                    obtain ⟨s0_, s1_, s2_, s3_, s4_, s5_, s6_, s7_⟩ := S_
                                    replace s0_ := fun q : Hd.HW wc.drew => q.cell s0_
                                    replace s1_ := fun q : Hd.HW wc.drew => q.cell s1_
                                    replace s2_ := fun q : Hd.HW wc.drew => q.cell s2_
                                    replace s3_ := fun q : Hd.HW wc.drew => q.cell s3_
                                    replace s4_ := fun q : Hd.HW wc.drew => q.cell s4_
                                    replace s5_ := fun q : Hd.HW wc.drew => q.cell s5_
                                    replace s6_ := fun q : Hd.HW wc.drew => q.cell s6_
                                    replace s7_ := fun q : Hd.HW wc.drew => q.cell s7_
                                    refine Hd.HW.region (by kernel_rfl) (by kernel_rfl) ?_
                                    repeat (go_big_quiet_step ((first | (go_at_call 127; with_reducible exact Hd.HW.c (spec_HowMeet.calls kj12 ((rd_T60 t189 x4_1).f0.f0) ((rd_T60 t189 x4_1).f0.f1) ((rd_T60 t189 x4_1).f1.f0) ((rd_T60 t189 x4_1).f1.f1) ((rd_T60 t189 x5_2).f0.f0) ((rd_T60 t189 x5_2).f0.f1) ((rd_T60 t189 x5_2).f1.f0) ((rd_T60 t189 x5_2).f1.f1) t196 _ A21.out)))))
                                    refine wpQuiet_nil ?_
                                    intro _ hq_
                                    obtain ⟨q_, rfl⟩ := hq_
                                    clear s0_ s1_ s2_ s3_ s4_ s5_ s6_ s7_
                                    replace HO_3 := Aside0.mk (Kd.R_below HO_3.out q_.b)
                                    replace HB := Aside0.mk (below_step HB.out q_.b)
                                    replace hx194_0 := q_.cell hx194_0
                                    replace hx194_1 := q_.cell hx194_1
                                    replace hx194_2 := q_.cell hx194_2
                                    replace hx194_3 := q_.cell hx194_3
                                    replace hx195_0 := q_.cell hx195_0
                                    replace hx195_1 := q_.cell hx195_1
                                    replace hx195_2 := q_.cell hx195_2
                                    replace hx195_3 := q_.cell hx195_3
                                    generalize q_.W = w24 at HO_3 HB hx194_0 hx194_1 hx194_2 hx194_3 hx195_0 hx195_1 hx195_2 hx195_3 ⊢
                                    try simp only [i64_w, i32_w]
                                    try go_wp2
                                    go_roundg kj12
                                    case measure => have := HK1.out; have := HK2.out; have := HJ12.out; omega
                                    case rel => exact ⟨(wrap64 (x5_2 + 1)), (by first | rfl | (simp; done) | (simp [*]; done)), H', ⟨by have := HK1.out; have := HK2.out; have := HJ12.out; omega⟩, ⟨by (with_reducible repeat (first | apply Kd.R_alloc | apply Kd.R_drewN | apply Kd.R_drew)); exact HO_3.out⟩, ⟨by repeat (first | (with_reducible first | exact HB.out | apply below_alloc | apply pw_below_drewN | apply below_drew1) | exact HB.out)⟩⟩
                                  · rw [if_neg c22] at H
                                    have c22b0 : (t196 == 1) = false := beq_eq_false_iff_ne.mpr c22
                                    have c22b1 : (t196 != 1) = true := bne_iff_ne.mpr c22
                                    obtain rfl := Option.some.inj H
                                    try go_wp2
                                    have n0_ := Aside0.mk (Kd.R_drew HO_3.out)
                                    have n1_ := Aside0.mk (below_drew1 HB.out)
                                    clear HO_3
                                    clear HB
                                    have HO_3 := n0_
                                    have HB := n1_
                                    clear n0_ n1_
                                    have p194 : 0 ≤ (x4_1 : Int) := of_decide_eq_true (by first | (with_reducible assumption) | assumption)
                                    have q194 : x4_1 < (t189.length : Int) := of_decide_eq_true (by first | (with_reducible assumption) | assumption)
                                    obtain ⟨ad194, e194, hx194_0, hx194_1, hx194_2, hx194_3⟩ := at_T60 (Kd.R_reads' HO_3.out).2.2 x4_1 p194 q194
                                    obtain rfl : ad192 = ad194 := (by injection e194)
                                    replace p194 := eq_true p194
                                    replace q194 := eq_true q194
                                    have p195 : 0 ≤ (x5_2 : Int) := of_decide_eq_true (by first | (with_reducible assumption) | assumption)
                                    have q195 : x5_2 < (t189.length : Int) := of_decide_eq_true (by first | (with_reducible assumption) | assumption)
                                    obtain ⟨ad195, e195, hx195_0, hx195_1, hx195_2, hx195_3⟩ := at_T60 (Kd.R_reads' HO_3.out).2.2 x5_2 p195 q195
                                    obtain rfl : ad192 = ad195 := (by injection e195)
                                    replace p195 := eq_true p195
                                    replace q195 := eq_true q195
                                    have S_ : (fun w' : World => w'.cell? (ad192.add ((x4_1).toNat * 4)) = some (.int .i64 ((rd_T60 t189 x4_1).f0.f0)) ∧ w'.cell? ⟨(ad192.add ((x4_1).toNat * 4)).block, (ad192.add ((x4_1).toNat * 4)).off + 1, none⟩ = some (.int .i64 ((rd_T60 t189 x4_1).f0.f1)) ∧ w'.cell? ⟨(ad192.add ((x4_1).toNat * 4)).block, (ad192.add ((x4_1).toNat * 4)).off + 2, none⟩ = some (.int .i64 ((rd_T60 t189 x4_1).f1.f0)) ∧ w'.cell? ⟨(ad192.add ((x4_1).toNat * 4)).block, (ad192.add ((x4_1).toNat * 4)).off + 3, none⟩ = some (.int .i64 ((rd_T60 t189 x4_1).f1.f1)) ∧ w'.cell? (ad192.add ((x5_2).toNat * 4)) = some (.int .i64 ((rd_T60 t189 x5_2).f0.f0)) ∧ w'.cell? ⟨(ad192.add ((x5_2).toNat * 4)).block, (ad192.add ((x5_2).toNat * 4)).off + 1, none⟩ = some (.int .i64 ((rd_T60 t189 x5_2).f0.f1)) ∧ w'.cell? ⟨(ad192.add ((x5_2).toNat * 4)).block, (ad192.add ((x5_2).toNat * 4)).off + 2, none⟩ = some (.int .i64 ((rd_T60 t189 x5_2).f1.f0)) ∧ w'.cell? ⟨(ad192.add ((x5_2).toNat * 4)).block, (ad192.add ((x5_2).toNat * 4)).off + 3, none⟩ = some (.int .i64 ((rd_T60 t189 x5_2).f1.f1))) wc.drew := ⟨hx194_0, hx194_1, hx194_2, hx194_3, hx195_0, hx195_1, hx195_2, hx195_3⟩
                                    obtain ⟨s0_, s1_, s2_, s3_, s4_, s5_, s6_, s7_⟩ := S_
                                    replace s0_ := fun q : Hd.HW wc.drew => q.cell s0_
                                    replace s1_ := fun q : Hd.HW wc.drew => q.cell s1_
                                    replace s2_ := fun q : Hd.HW wc.drew => q.cell s2_
                                    replace s3_ := fun q : Hd.HW wc.drew => q.cell s3_
                                    replace s4_ := fun q : Hd.HW wc.drew => q.cell s4_
                                    replace s5_ := fun q : Hd.HW wc.drew => q.cell s5_
                                    replace s6_ := fun q : Hd.HW wc.drew => q.cell s6_
                                    replace s7_ := fun q : Hd.HW wc.drew => q.cell s7_
                                    refine Hd.HW.region (by kernel_rfl) (by kernel_rfl) ?_
                                    repeat (go_big_quiet_step ((first | (go_at_call 127; with_reducible exact Hd.HW.c (spec_HowMeet.calls kj12 ((rd_T60 t189 x4_1).f0.f0) ((rd_T60 t189 x4_1).f0.f1) ((rd_T60 t189 x4_1).f1.f0) ((rd_T60 t189 x4_1).f1.f1) ((rd_T60 t189 x5_2).f0.f0) ((rd_T60 t189 x5_2).f0.f1) ((rd_T60 t189 x5_2).f1.f0) ((rd_T60 t189 x5_2).f1.f1) t196 _ A21.out)))))
                                    refine wpQuiet_nil ?_
                                    intro _ hq_
                                    obtain ⟨q_, rfl⟩ := hq_
                                    clear s0_ s1_ s2_ s3_ s4_ s5_ s6_ s7_
                                    replace HO_3 := Aside0.mk (Kd.R_below HO_3.out q_.b)
                                    replace HB := Aside0.mk (below_step HB.out q_.b)
                                    replace hx194_0 := q_.cell hx194_0
                                    replace hx194_1 := q_.cell hx194_1
                                    replace hx194_2 := q_.cell hx194_2
                                    replace hx194_3 := q_.cell hx194_3
                                    replace hx195_0 := q_.cell hx195_0
                                    replace hx195_1 := q_.cell hx195_1
                                    replace hx195_2 := q_.cell hx195_2
                                    replace hx195_3 := q_.cell hx195_3
                                    generalize q_.W = w26 at HO_3 HB hx194_0 hx194_1 hx194_2 hx194_3 hx195_0 hx195_1 hx195_2 hx195_3 ⊢
                                    try simp only [i64_w, i32_w]
                                    try go_wp2
                                    go_ret
                                    exact ⟨by first | rfl | (simp [errW_none, errW_some] <;> rfl) | (simp [*, errW_none, errW_some] <;> rfl), by repeat (first | (with_reducible first | exact HB.out | apply below_alloc | apply pw_below_drewN | apply below_drew1) | exact HB.out)⟩
                                · rw [if_neg c20] at H
                                  exact absurd H (by simp)
                              · rw [if_neg c19] at H
                                exact absurd H (by simp)
                            · rw [if_neg c18] at H
                              exact absurd H (by simp)
                          · rw [if_neg c17] at H
                            exact absurd H (by simp)
                        · replace c16 := Bool.eq_false_iff.mpr c16
                          subst c16
                          have H1 : (if 0 ≤ x4_1 then (if x4_1 < (t189.length : Int) then (if 0 ≤ x5_2 then (if x5_2 < (t189.length : Int) then ((spec_HowMeet.f kj12 ((rd_T60 t189 x4_1).f0.f0) ((rd_T60 t189 x4_1).f0.f1) ((rd_T60 t189 x4_1).f1.f0) ((rd_T60 t189 x4_1).f1.f1) ((rd_T60 t189 x5_2).f0.f0) ((rd_T60 t189 x5_2).f0.f1) ((rd_T60 t189 x5_2).f1.f0) ((rd_T60 t189 x5_2).f1.f1)).bind fun t199 => (if t199 = 0 then (spec_IsRing.l1 kj12 t189 x4_1 (wrap64 (x5_2 + 1))) else (some false))) else (none)) else (none)) else (none)) else (none)) = some r := by rw [if_neg (show ¬ (false = true) by decide)] at H; exact H
                          clear H
                          have H := H1
                          clear H1
                          by_cases c27 : 0 ≤ x4_1
                          · rw [if_pos c27] at H
                            have c27b0 : decide (0 ≤ x4_1) = true := decide_eq_true c27
                            clear c27
                            by_cases c28 : x4_1 < (t189.length : Int)
                            · rw [if_pos c28] at H
                              have c28b0 : decide (x4_1 < (t189.length : Int)) = true := decide_eq_true c28
                              clear c28
                              by_cases c29 : 0 ≤ x5_2
                              · rw [if_pos c29] at H
                                have c29b0 : decide (0 ≤ x5_2) = true := decide_eq_true c29
                                clear c29
                                by_cases c30 : x5_2 < (t189.length : Int)
                                · rw [if_pos c30] at H
                                  have c30b0 : decide (x5_2 < (t189.length : Int)) = true := decide_eq_true c30
                                  clear c30
                                  replace H := Option.bind_eq_some_iff.mp H
                                  obtain ⟨t199, A310, H⟩ := H
                                  replace H : (if t199 = 0 then (spec_IsRing.l1 kj12 t189 x4_1 (wrap64 (x5_2 + 1))) else (some false)) = some r := H
                                  have A31 := Aside0.mk A310
                                  clear A310
                                  by_cases c32 : t199 = 0
                                  · rw [if_pos c32] at H
                                    have c32b0 : (t199 == 0) = true := beq_iff_eq.mpr c32
                                    have c32b1 : (t199 != 0) = false := bne_eq_false_iff_eq.mpr c32
                                    clear c32
                                    have H' := Aside0.mk H
                                    clear H
                                    try go_wp2
                                    have n0_ := Aside0.mk (Kd.R_drew HO_3.out)
                                    have n1_ := Aside0.mk (below_drew1 HB.out)
                                    clear HO_3
                                    clear HB
                                    have HO_3 := n0_
                                    have HB := n1_
                                    clear n0_ n1_
                                    have p197 : 0 ≤ (x4_1 : Int) := of_decide_eq_true (by first | (with_reducible assumption) | assumption)
                                    have q197 : x4_1 < (t189.length : Int) := of_decide_eq_true (by first | (with_reducible assumption) | assumption)
                                    obtain ⟨ad197, e197, hx197_0, hx197_1, hx197_2, hx197_3⟩ := at_T60 (Kd.R_reads' HO_3.out).2.2 x4_1 p197 q197
                                    obtain rfl : ad192 = ad197 := (by injection e197)
                                    replace p197 := eq_true p197
                                    replace q197 := eq_true q197
                                    have p198 : 0 ≤ (x5_2 : Int) := of_decide_eq_true (by first | (with_reducible assumption) | assumption)
                                    have q198 : x5_2 < (t189.length : Int) := of_decide_eq_true (by first | (with_reducible assumption) | assumption)
                                    obtain ⟨ad198, e198, hx198_0, hx198_1, hx198_2, hx198_3⟩ := at_T60 (Kd.R_reads' HO_3.out).2.2 x5_2 p198 q198
                                    obtain rfl : ad192 = ad198 := (by injection e198)
                                    replace p198 := eq_true p198
                                    replace q198 := eq_true q198
                                    have S_ : (fun w' : World => w'.cell? (ad192.add ((x4_1).toNat * 4)) = some (.int .i64 ((rd_T60 t189 x4_1).f0.f0)) ∧ w'.cell? ⟨(ad192.add ((x4_1).toNat * 4)).block, (ad192.add ((x4_1).toNat * 4)).off + 1, none⟩ = some (.int .i64 ((rd_T60 t189 x4_1).f0.f1)) ∧ w'.cell? ⟨(ad192.add ((x4_1).toNat * 4)).block, (ad192.add ((x4_1).toNat * 4)).off + 2, none⟩ = some (.int .i64 ((rd_T60 t189 x4_1).f1.f0)) ∧ w'.cell? ⟨(ad192.add ((x4_1).toNat * 4)).block, (ad192.add ((x4_1).toNat * 4)).off + 3, none⟩ = some (.int .i64 ((rd_T60 t189 x4_1).f1.f1)) ∧ w'.cell? (ad192.add ((x5_2).toNat * 4)) = some (.int .i64 ((rd_T60 t189 x5_2).f0.f0)) ∧ w'.cell? ⟨(ad192.add ((x5_2).toNat * 4)).block, (ad192.add ((x5_2).toNat * 4)).off + 1, none⟩ = some (.int .i64 ((rd_T60 t189 x5_2).f0.f1)) ∧ w'.cell? ⟨(ad192.add ((x5_2).toNat * 4)).block, (ad192.add ((x5_2).toNat * 4)).off + 2, none⟩ = some (.int .i64 ((rd_T60 t189 x5_2).f1.f0)) ∧ w'.cell? ⟨(ad192.add ((x5_2).toNat * 4)).block, (ad192.add ((x5_2).toNat * 4)).off + 3, none⟩ = some (.int .i64 ((rd_T60 t189 x5_2).f1.f1))) wc.drew := ⟨hx197_0, hx197_1, hx197_2, hx197_3, hx198_0, hx198_1, hx198_2, hx198_3⟩
                                    obtain ⟨s0_, s1_, s2_, s3_, s4_, s5_, s6_, s7_⟩ := S_
                                    replace s0_ := fun q : Hd.HW wc.drew => q.cell s0_
                                    replace s1_ := fun q : Hd.HW wc.drew => q.cell s1_
                                    replace s2_ := fun q : Hd.HW wc.drew => q.cell s2_
                                    replace s3_ := fun q : Hd.HW wc.drew => q.cell s3_
                                    replace s4_ := fun q : Hd.HW wc.drew => q.cell s4_
                                    replace s5_ := fun q : Hd.HW wc.drew => q.cell s5_
                                    replace s6_ := fun q : Hd.HW wc.drew => q.cell s6_
                                    replace s7_ := fun q : Hd.HW wc.drew => q.cell s7_
                                    refine Hd.HW.region (by kernel_rfl) (by kernel_rfl) ?_
                                    repeat (go_big_quiet_step ((first | (go_at_call 127; with_reducible exact Hd.HW.c (spec_HowMeet.calls kj12 ((rd_T60 t189 x4_1).f0.f0) ((rd_T60 t189 x4_1).f0.f1) ((rd_T60 t189 x4_1).f1.f0) ((rd_T60 t189 x4_1).f1.f1) ((rd_T60 t189 x5_2).f0.f0) ((rd_T60 t189 x5_2).f0.f1) ((rd_T60 t189 x5_2).f1.f0) ((rd_T60 t189 x5_2).f1.f1) t199 _ A31.out)))))
                                    refine wpQuiet_nil ?_
                                    intro _ hq_
                                    obtain ⟨q_, rfl⟩ := hq_
                                    clear s0_ s1_ s2_ s3_ s4_ s5_ s6_ s7_
                                    replace HO_3 := Aside0.mk (Kd.R_below HO_3.out q_.b)
                                    replace HB := Aside0.mk (below_step HB.out q_.b)
                                    replace hx197_0 := q_.cell hx197_0
                                    replace hx197_1 := q_.cell hx197_1
                                    replace hx197_2 := q_.cell hx197_2
                                    replace hx197_3 := q_.cell hx197_3
                                    replace hx198_0 := q_.cell hx198_0
                                    replace hx198_1 := q_.cell hx198_1
                                    replace hx198_2 := q_.cell hx198_2
                                    replace hx198_3 := q_.cell hx198_3
                                    generalize q_.W = w34 at HO_3 HB hx197_0 hx197_1 hx197_2 hx197_3 hx198_0 hx198_1 hx198_2 hx198_3 ⊢
                                    try simp only [i64_w, i32_w]
                                    try go_wp2
                                    go_roundg kj12
                                    case measure => have := HK1.out; have := HK2.out; have := HJ12.out; omega
                                    case rel => exact ⟨(wrap64 (x5_2 + 1)), (by first | rfl | (simp; done) | (simp [*]; done)), H', ⟨by have := HK1.out; have := HK2.out; have := HJ12.out; omega⟩, ⟨by (with_reducible repeat (first | apply Kd.R_alloc | apply Kd.R_drewN | apply Kd.R_drew)); exact HO_3.out⟩, ⟨by repeat (first | (with_reducible first | exact HB.out | apply below_alloc | apply pw_below_drewN | apply below_drew1) | exact HB.out)⟩⟩
                                  · rw [if_neg c32] at H
                                    have c32b0 : (t199 == 0) = false := beq_eq_false_iff_ne.mpr c32
                                    have c32b1 : (t199 != 0) = true := bne_iff_ne.mpr c32
                                    obtain rfl := Option.some.inj H
                                    try go_wp2
                                    have n0_ := Aside0.mk (Kd.R_drew HO_3.out)
                                    have n1_ := Aside0.mk (below_drew1 HB.out)
                                    clear HO_3
                                    clear HB
                                    have HO_3 := n0_
                                    have HB := n1_
                                    clear n0_ n1_
                                    have p197 : 0 ≤ (x4_1 : Int) := of_decide_eq_true (by first | (with_reducible assumption) | assumption)
                                    have q197 : x4_1 < (t189.length : Int) := of_decide_eq_true (by first | (with_reducible assumption) | assumption)
                                    obtain ⟨ad197, e197, hx197_0, hx197_1, hx197_2, hx197_3⟩ := at_T60 (Kd.R_reads' HO_3.out).2.2 x4_1 p197 q197
                                    obtain rfl : ad192 = ad197 := (by injection e197)
                                    replace p197 := eq_true p197
                                    replace q197 := eq_true q197
                                    have p198 : 0 ≤ (x5_2 : Int) := of_decide_eq_true (by first | (with_reducible assumption) | assumption)
                                    have q198 : x5_2 < (t189.length : Int) := of_decide_eq_true (by first | (with_reducible assumption) | assumption)
                                    obtain ⟨ad198, e198, hx198_0, hx198_1, hx198_2, hx198_3⟩ := at_T60 (Kd.R_reads' HO_3.out).2.2 x5_2 p198 q198
                                    obtain rfl : ad192 = ad198 := (by injection e198)
                                    replace p198 := eq_true p198
                                    replace q198 := eq_true q198
                                    have S_ : (fun w' : World => w'.cell? (ad192.add ((x4_1).toNat * 4)) = some (.int .i64 ((rd_T60 t189 x4_1).f0.f0)) ∧ w'.cell? ⟨(ad192.add ((x4_1).toNat * 4)).block, (ad192.add ((x4_1).toNat * 4)).off + 1, none⟩ = some (.int .i64 ((rd_T60 t189 x4_1).f0.f1)) ∧ w'.cell? ⟨(ad192.add ((x4_1).toNat * 4)).block, (ad192.add ((x4_1).toNat * 4)).off + 2, none⟩ = some (.int .i64 ((rd_T60 t189 x4_1).f1.f0)) ∧ w'.cell? ⟨(ad192.add ((x4_1).toNat * 4)).block, (ad192.add ((x4_1).toNat * 4)).off + 3, none⟩ = some (.int .i64 ((rd_T60 t189 x4_1).f1.f1)) ∧ w'.cell? (ad192.add ((x5_2).toNat * 4)) = some (.int .i64 ((rd_T60 t189 x5_2).f0.f0)) ∧ w'.cell? ⟨(ad192.add ((x5_2).toNat * 4)).block, (ad192.add ((x5_2).toNat * 4)).off + 1, none⟩ = some (.int .i64 ((rd_T60 t189 x5_2).f0.f1)) ∧ w'.cell? ⟨(ad192.add ((x5_2).toNat * 4)).block, (ad192.add ((x5_2).toNat * 4)).off + 2, none⟩ = some (.int .i64 ((rd_T60 t189 x5_2).f1.f0)) ∧ w'.cell? ⟨(ad192.add ((x5_2).toNat * 4)).block, (ad192.add ((x5_2).toNat * 4)).off + 3, none⟩ = some (.int .i64 ((rd_T60 t189 x5_2).f1.f1))) wc.drew := ⟨hx197_0, hx197_1, hx197_2, hx197_3, hx198_0, hx198_1, hx198_2, hx198_3⟩
                                    obtain ⟨s0_, s1_, s2_, s3_, s4_, s5_, s6_, s7_⟩ := S_
                                    replace s0_ := fun q : Hd.HW wc.drew => q.cell s0_
                                    replace s1_ := fun q : Hd.HW wc.drew => q.cell s1_
                                    replace s2_ := fun q : Hd.HW wc.drew => q.cell s2_
                                    replace s3_ := fun q : Hd.HW wc.drew => q.cell s3_
                                    replace s4_ := fun q : Hd.HW wc.drew => q.cell s4_
                                    replace s5_ := fun q : Hd.HW wc.drew => q.cell s5_
                                    replace s6_ := fun q : Hd.HW wc.drew => q.cell s6_
                                    replace s7_ := fun q : Hd.HW wc.drew => q.cell s7_
                                    refine Hd.HW.region (by kernel_rfl) (by kernel_rfl) ?_
                                    repeat (go_big_quiet_step ((first | (go_at_call 127; with_reducible exact Hd.HW.c (spec_HowMeet.calls kj12 ((rd_T60 t189 x4_1).f0.f0) ((rd_T60 t189 x4_1).f0.f1) ((rd_T60 t189 x4_1).f1.f0) ((rd_T60 t189 x4_1).f1.f1) ((rd_T60 t189 x5_2).f0.f0) ((rd_T60 t189 x5_2).f0.f1) ((rd_T60 t189 x5_2).f1.f0) ((rd_T60 t189 x5_2).f1.f1) t199 _ A31.out)))))
                                    refine wpQuiet_nil ?_
                                    intro _ hq_
                                    obtain ⟨q_, rfl⟩ := hq_
                                    clear s0_ s1_ s2_ s3_ s4_ s5_ s6_ s7_
                                    replace HO_3 := Aside0.mk (Kd.R_below HO_3.out q_.b)
                                    replace HB := Aside0.mk (below_step HB.out q_.b)
                                    replace hx197_0 := q_.cell hx197_0
                                    replace hx197_1 := q_.cell hx197_1
                                    replace hx197_2 := q_.cell hx197_2
                                    replace hx197_3 := q_.cell hx197_3
                                    replace hx198_0 := q_.cell hx198_0
                                    replace hx198_1 := q_.cell hx198_1
                                    replace hx198_2 := q_.cell hx198_2
                                    replace hx198_3 := q_.cell hx198_3
                                    generalize q_.W = w36 at HO_3 HB hx197_0 hx197_1 hx197_2 hx197_3 hx198_0 hx198_1 hx198_2 hx198_3 ⊢
                                    try simp only [i64_w, i32_w]
                                    try go_wp2
                                    go_ret
                                    exact ⟨by first | rfl | (simp [errW_none, errW_some] <;> rfl) | (simp [*, errW_none, errW_some] <;> rfl), by repeat (first | (with_reducible first | exact HB.out | apply below_alloc | apply pw_below_drewN | apply below_drew1) | exact HB.out)⟩
                                · rw [if_neg c30] at H
                                  exact absurd H (by simp)
                              · rw [if_neg c29] at H
                                exact absurd H (by simp)
                            · rw [if_neg c28] at H
                              exact absurd H (by simp)
                          · rw [if_neg c27] at H
                            exact absurd H (by simp)
                  · rw [if_neg c12] at H
                    have c12b0 : decide (x5_2 < x4_1) = false := decide_eq_false c12
                    clear c12
                    have H' := Aside0.mk H
                    clear H
                    go_wp2
                    go_roundg k2
                    case measure => have := HK1.out; have := HK2.out; omega
                    case rel => exact ⟨(wrap64 (x4_1 + 1)), (by first | rfl | (simp; done) | (simp [*]; done)), H', ⟨by have := HK1.out; have := HK2.out; omega⟩, ⟨by (with_reducible repeat (first | apply Kd.R_alloc | apply Kd.R_drewN | apply Kd.R_drew)); exact HO_3.out⟩, ⟨by repeat (first | (with_reducible first | exact HB.out | apply below_alloc | apply pw_below_drewN | apply below_drew1) | exact HB.out)⟩⟩
            · replace c9 := Bool.eq_false_iff.mpr c9
              subst c9
              have H1 : (some false) = some r := by rw [if_neg (show ¬ (false = true) by decide)] at H; exact H
              clear H
              have H := H1
              clear H1
              obtain rfl := Option.some.inj H
              obtain ⟨Ao37, co37, eo37⟩ := Kd.R_slice HO_3.out
              subst eo37
              have p192 : 0 ≤ (x4_1 : Int) := of_decide_eq_true (by first | (with_reducible assumption) | assumption)
              have q192 : x4_1 < (t189.length : Int) := of_decide_eq_true (by first | (with_reducible assumption) | assumption)
              obtain ⟨ad192, e192, hx192_0, hx192_1, hx192_2, hx192_3⟩ := at_T60 (Kd.R_reads' HO_3.out).2.2 x4_1 p192 q192
              cases e192
              replace p192 := eq_true p192
              replace q192 := eq_true q192
              go_wp2_with (first | ((with_reducible refine gate_callee (f := 118) rfl ?_); refine goesL_ (some 23) rfl rfl Try.func118 (by kernel_rfl) rfl #[.agg #[.int .i64 ((rd_T60 t189 x4_1).f0.f0), .int .i64 ((rd_T60 t189 x4_1).f0.f1), .int .i64 ((rd_T60 t189 x4_1).f1.f0), .int .i64 ((rd_T60 t189 x4_1).f1.f1)]] rfl (by (try simp only [List.map_toArray, List.map_cons, List.map_nil]); first | done | rfl | (simp only [List.length_drop, List.length_take]; rfl)) ?_; (with_reducible refine (spec_IsSegment.calls ((rd_T60 t189 x4_1).f0.f0) ((rd_T60 t189 x4_1).f0.f1) ((rd_T60 t189 x4_1).f1.f0) ((rd_T60 t189 x4_1).f1.f1) false _ A8.out).mono ?_); rintro e w38 ⟨rfl, hb⟩; refine ⟨_, rfl, ?_⟩; have n0_ := Aside0.mk (Kd.R_below (by (with_reducible repeat (first | apply Kd.R_alloc | apply Kd.R_drewN | apply Kd.R_drew)); exact HO_3.out) hb); have n1_ := Aside0.mk (below_step (by repeat (first | (with_reducible first | exact HB.out | apply below_alloc | apply pw_below_drewN | apply below_drew1) | exact HB.out)) hb); clear HO_3; clear HB; have HO_3 := n0_; have HB := n1_; clear n0_ n1_; (try clear hb); (try clear hb2); (try clear hk); (try clear hi)))
              go_ret
              exact ⟨by first | rfl | (simp [errW_none, errW_some] <;> rfl) | (simp [*, errW_none, errW_some] <;> rfl), by repeat (first | (with_reducible first | exact HB.out | apply below_alloc | apply pw_below_drewN | apply below_drew1) | exact HB.out)⟩
          · rw [if_neg c7] at H
            exact absurd H (by simp)
        · rw [if_neg c6] at H
          have c6b0 : decide (x4_1 < (t189.length : Int)) = false := decide_eq_false c6
          clear c6
          obtain rfl := Option.some.inj H
          obtain ⟨Ao39, co39, eo39⟩ := Kd.R_slice HO_3.out
          subst eo39
          go_wp2
          go_ret
          exact ⟨by first | rfl | (simp [errW_none, errW_some] <;> rfl) | (simp [*, errW_none, errW_some] <;> rfl), by repeat (first | (with_reducible first | exact HB.out | apply below_alloc | apply pw_below_drewN | apply below_drew1) | exact HB.out)⟩
  · replace c3 := Bool.eq_false_iff.mpr c3
    subst c3
    have H1 : (some false) = some r := by rw [if_neg (show ¬ (false = true) by decide)] at H; exact H
    clear H
    have H := H1
    clear H1
    obtain rfl := Option.some.inj H
    go_enter Try.func98, Try.ntmps98
    go_wp2_with (first | ((with_reducible refine gate_callee (f := 88) rfl ?_); refine goesL_ (some 9) rfl rfl Try.func88 (by kernel_rfl) rfl #[.int .i64 (l0.length : Int), .int .i64 3, .int .i64 10] rfl (by (try simp only [List.map_toArray, List.map_cons, List.map_nil]); first | done | rfl | (simp only [List.length_drop, List.length_take]; rfl)) ?_; (with_reducible refine (spec_l1In.calls (l0.length : Int) 3 10 false _ A2.out).mono ?_); rintro e w' ⟨rfl, ⟨nd, rfl⟩⟩; refine ⟨_, rfl, ?_⟩))
    go_ret
    exact ⟨by first | rfl | (simp [errW_none, errW_some] <;> rfl) | (simp [*, errW_none, errW_some] <;> rfl), by repeat (first | (with_reducible first | exact HB.out | apply below_alloc | apply pw_below_drewN | apply below_drew1) | exact HB.out)⟩

/-! ### spec_CornerSize: function 48 -/
def spec_CornerSize.j0 : Nat → List (S27) → Int → Bool → Option (Int)
  | 0, _, _, _ => none
  | k + 1, x0, x1, x16 => if x16 = true then (some (-1)) else (if (x0.length : Int) = 0 then (none) else (if 0 ≤ (Int.tmod (wrap64 ((wrap64 (x1 + (x0.length : Int))) - 1)) (x0.length : Int)) then (if (Int.tmod (wrap64 ((wrap64 (x1 + (x0.length : Int))) - 1)) (x0.length : Int)) < (x0.length : Int) then (if 0 ≤ x1 then (if x1 < (x0.length : Int) then (if 0 ≤ (Int.tmod (wrap64 (x1 + 1)) (x0.length : Int)) then (if (Int.tmod (wrap64 (x1 + 1)) (x0.length : Int)) < (x0.length : Int) then ((spec_l4Cross.f ((rd_T27 x0 (Int.tmod (wrap64 ((wrap64 (x1 + (x0.length : Int))) - 1)) (x0.length : Int))).f0) ((rd_T27 x0 (Int.tmod (wrap64 ((wrap64 (x1 + (x0.length : Int))) - 1)) (x0.length : Int))).f1) ((rd_T27 x0 x1).f0) ((rd_T27 x0 x1).f1) ((rd_T27 x0 (Int.tmod (wrap64 (x1 + 1)) (x0.length : Int))).f0) ((rd_T27 x0 (Int.tmod (wrap64 (x1 + 1)) (x0.length : Int))).f1)).bind fun t205 => ((spec_Max.f t205 (wrap64 (-t205))).bind fun t206 => (some t206))) else (none)) else (none)) else (none)) else (none)) else (none)) else (none)))
def spec_CornerSize.f (k : Nat) (l0 : List (S27)) (a1 : Int) : Option (Int) := (spec_IsRing.f k l0).bind fun t200 => (if t200 = true then ((spec_l1In.f a1 0 (wrap64 ((l0.length : Int) - 1))).bind fun t201 => (spec_CornerSize.j0 k l0 a1 (!t201))) else (spec_CornerSize.j0 k l0 a1 true))
theorem spec_CornerSize.mono_l : ∀ k, (∀ y0 y1 y2, LeO (spec_CornerSize.j0 k y0 y1 y2) (spec_CornerSize.j0 (k + 1) y0 y1 y2))
  | 0 => fun _ _ _ r h => by simp [spec_CornerSize.j0] at h
  | k + 1 => by
    have ih0 := spec_CornerSize.mono_l k
    · intro y0 y1 y2
      unfold spec_CornerSize.j0
      repeat' first
      | (with_reducible exact ih0 _ _ _)
      | (with_reducible exact spec_IsRing.mono _ _)
      | (with_reducible exact LeO.refl _)
      | (with_reducible exact LeO.none _)
      | (with_reducible refine LeO.ite ?_ ?_)
      | (with_reducible refine LeO.bind ?_ (fun _ => ?_))
      | exact ih0 _ _ _
      | exact spec_IsRing.mono _ _
      | exact LeO.none _
      | refine LeO.ite ?_ ?_
      | refine LeO.bind ?_ (fun _ => ?_)
theorem spec_CornerSize.mono : ∀ a0 a1 k, LeO (spec_CornerSize.f k a0 a1) (spec_CornerSize.f (k + 1) a0 a1) := by
  intro a0 a1 k
  have ih0 := spec_CornerSize.mono_l k
  unfold spec_CornerSize.f
  repeat' first
      | (with_reducible exact ih0 _ _ _)
      | (with_reducible exact spec_IsRing.mono _ _)
      | (with_reducible exact LeO.refl _)
      | (with_reducible exact LeO.none _)
      | (with_reducible refine LeO.ite ?_ ?_)
      | (with_reducible refine LeO.bind ?_ (fun _ => ?_))
      | exact ih0 _ _ _
      | exact spec_IsRing.mono _ _
      | exact LeO.none _
      | refine LeO.ite ?_ ?_
      | refine LeO.bind ?_ (fun _ => ?_)
def spec_CornerSize.T3 : Bool × List (List Nat × List Nat) := (true, [([], []), ([], []), ([], []), ([2], [2]), ([1, 3], [1, 3]), ([4], [4]), ([], []), ([6], [6]), ([5, 7], [5, 7]), ([0, 8], [0, 8]), ([9], [9]), ([], []), ([], []), ([11, 12], [11, 12]), ([13], [13]), ([], []), ([], []), ([16], [16]), ([], []), ([18], [18]), ([17, 19], [17, 19]), ([15, 20], [15, 20]), ([21], [21]), ([10, 14, 22], [10, 14, 22]), ([23, 23, 0, 1, 2, 3, 4, 5, 6, 7, 8, 9, 10, 11, 12, 13, 14, 15, 16, 17, 18, 19, 20, 21, 22, 23], [23])])
def spec_CornerSize.B3 : List Nat := [0, 0, 0, 4, 14, 30, 0, 64, 254, 511, 1023, 0, 0, 6144, 14336, 0, 0, 65536, 0, 262144, 983040, 2064384, 4161536, 8388607, 16777215]
theorem spec_CornerSize.tab3 : rtab .any (opsOf Try.f48 3) = spec_CornerSize.T3 := by kernel_rfl
theorem spec_CornerSize.bits3 : waitsOk spec_CornerSize.T3.2 spec_CornerSize.B3 = true := by kernel_rfl
set_option maxHeartbeats 8000000 in
set_option maxRecDepth 100000 in
theorem spec_CornerSize.calls (k : Nat) (A0 : Option Addr) (c0 : Nat) (l0 : List (S27)) (a1 : Int) (r : Int) (w : World) (hr0 : Kd.C k27 w A0 l0.length l0) (hc0 : l0.length ≤ c0) (h : spec_CornerSize.f k l0 a1 = some r) :
    Calls Try.prog 48 #[.slice A0 l0.length c0, .int .i64 a1] w fun e w' => e = .returned (.int .i64 r) ∧ Below w.heap.size w w' := by
  have hu27 := Try.underlying27
  have HR0 := Aside0.mk hr0
  have HC0 := Aside0.mk hc0
  clear hr0 hc0
  have HB := Aside0.mk (Below.refl w.heap.size w)
  have H : ((spec_IsRing.f k l0).bind fun t200 => (if t200 = true then ((spec_l1In.f a1 0 (wrap64 ((l0.length : Int) - 1))).bind fun t201 => (spec_CornerSize.j0 k l0 a1 (!t201))) else (spec_CornerSize.j0 k l0 a1 true))) = some r := h
  clear h
  have HC3 := Aside0.mk H
  clear H
  go_enter Try.func48, Try.ntmps48
  go_upto_region 1 with (fail)
  go_cut [16] (fun v16 wc => ∃ (kq : Nat) (x16_2 : Bool), v16 = .bool x16_2 ∧ Aside0 (spec_CornerSize.j0 kq l0 a1 x16_2 = some r) ∧ Aside0 (kq ≤ k) ∧ Aside0 (Below w.heap.size w wc))
  case first =>
    have H := HC3.out
    clear HC3
    replace H := Option.bind_eq_some_iff.mp H
    obtain ⟨t200, A40, H⟩ := H
    replace H : (if t200 = true then ((spec_l1In.f a1 0 (wrap64 ((l0.length : Int) - 1))).bind fun t201 => (spec_CornerSize.j0 k l0 a1 (!t201))) else (spec_CornerSize.j0 k l0 a1 true)) = some r := H
    have A4 := Aside0.mk A40
    clear A40
    by_cases c5 : t200 = true
    · subst c5
      have H1 : ((spec_l1In.f a1 0 (wrap64 ((l0.length : Int) - 1))).bind fun t201 => (spec_CornerSize.j0 k l0 a1 (!t201))) = some r := by rw [if_pos rfl] at H; exact H
      clear H
      have H := H1
      clear H1
      replace H := Option.bind_eq_some_iff.mp H
      obtain ⟨t201, A60, H⟩ := H
      replace H : (spec_CornerSize.j0 k l0 a1 (!t201)) = some r := H
      have A6 := Aside0.mk A60
      clear A60
      have H' := Aside0.mk H
      clear H
      go_wp2_with (first | ((with_reducible refine gate_callee (f := 98) rfl ?_); refine goesL_ (some 7) rfl rfl Try.func98 (by kernel_rfl) rfl #[.slice A0 l0.length c0] rfl (by (try simp only [List.map_toArray, List.map_cons, List.map_nil]); first | done | rfl | (simp only [List.length_drop, List.length_take]; rfl)) ?_; (with_reducible refine (spec_IsRing.calls k _ _ l0 true _ ?side1 ?side2 A4.out).mono ?_); (case side1 => repeat (first | exact (Kd.C_below HR0.out HB.out) | (with_reducible refine Kd.C_alloc ?_ _) | (with_reducible refine Kd.C_drewN ?_ _) | (with_reducible refine Kd.C_drew ?_))); (case side2 => exact HC0.out); rintro e w7 ⟨rfl, hb⟩; refine ⟨_, rfl, ?_⟩; have n0_ := Aside0.mk (below_step (by repeat (first | (with_reducible first | exact HB.out | apply below_alloc | apply pw_below_drewN | apply below_drew1) | exact HB.out)) hb); clear HB; have HB := n0_; clear n0_; (try clear hb); (try clear hb2); (try clear hk); (try clear hi)) | (go_at_call 88; (with_reducible refine (spec_l1In.calls a1 0 (wrap64 ((l0.length : Int) - 1)) t201 _ A6.out).mono ?_); rintro e w' ⟨rfl, ⟨nd, rfl⟩⟩))
      go_meet
      case rel => exact ⟨_, (!t201), (by first | rfl | (simp; done) | (simp [*]; done)), H', ⟨by first | omega | exact Nat.le_refl _⟩, ⟨by repeat (first | (with_reducible first | exact HB.out | apply below_alloc | apply pw_below_drewN | apply below_drew1) | exact HB.out)⟩⟩
    · replace c5 := Bool.eq_false_iff.mpr c5
      subst c5
      have H1 : (spec_CornerSize.j0 k l0 a1 true) = some r := by rw [if_neg (show ¬ (false = true) by decide)] at H; exact H
      clear H
      have H := H1
      clear H1
      have H' := Aside0.mk H
      clear H
      go_wp2_with (first | ((with_reducible refine gate_callee (f := 98) rfl ?_); refine goesL_ (some 7) rfl rfl Try.func98 (by kernel_rfl) rfl #[.slice A0 l0.length c0] rfl (by (try simp only [List.map_toArray, List.map_cons, List.map_nil]); first | done | rfl | (simp only [List.length_drop, List.length_take]; rfl)) ?_; (with_reducible refine (spec_IsRing.calls k _ _ l0 false _ ?side1 ?side2 A4.out).mono ?_); (case side1 => repeat (first | exact (Kd.C_below HR0.out HB.out) | (with_reducible refine Kd.C_alloc ?_ _) | (with_reducible refine Kd.C_drewN ?_ _) | (with_reducible refine Kd.C_drew ?_))); (case side2 => exact HC0.out); rintro e w8 ⟨rfl, hb⟩; refine ⟨_, rfl, ?_⟩; have n0_ := Aside0.mk (below_step (by repeat (first | (with_reducible first | exact HB.out | apply below_alloc | apply pw_below_drewN | apply below_drew1) | exact HB.out)) hb); clear HB; have HB := n0_; clear n0_; (try clear hb); (try clear hb2); (try clear hk); (try clear hi)))
      go_meet
      case rel => exact ⟨_, (true), (by first | rfl | (simp; done) | (simp [*]; done)), H', ⟨by first | omega | exact Nat.le_refl _⟩, ⟨by repeat (first | (with_reducible first | exact HB.out | apply below_alloc | apply pw_below_drewN | apply below_drew1) | exact HB.out)⟩⟩
  case rest =>
    clear HC3
    try clear p2
    try clear c4
    try clear c5
    try clear p6
    obtain ⟨kq, x16_2, rfl, HA, HJ2, HB⟩ := hcut
    cases kq with
    | zero => exact absurd HA.out (by simp [spec_CornerSize.j0])
    | succ kj2 =>
      have H := HA.out
      clear HA
      simp only [spec_CornerSize.j0] at H
      by_cases c9 : x16_2 = true
      · subst c9
        have H1 : (some (-1)) = some r := by rw [if_pos rfl] at H; exact H
        clear H
        have H := H1
        clear H1
        obtain rfl := Option.some.inj H
        go_wp2
        go_ret
        exact ⟨by first | rfl | (simp [errW_none, errW_some] <;> rfl) | (simp [*, errW_none, errW_some] <;> rfl), by repeat (first | (with_reducible first | exact HB.out | apply below_alloc | apply pw_below_drewN | apply below_drew1) | exact HB.out)⟩
      · replace c9 := Bool.eq_false_iff.mpr c9
        subst c9
        have H1 : (if (l0.length : Int) = 0 then (none) else (if 0 ≤ (Int.tmod (wrap64 ((wrap64 (a1 + (l0.length : Int))) - 1)) (l0.length : Int)) then (if (Int.tmod (wrap64 ((wrap64 (a1 + (l0.length : Int))) - 1)) (l0.length : Int)) < (l0.length : Int) then (if 0 ≤ a1 then (if a1 < (l0.length : Int) then (if 0 ≤ (Int.tmod (wrap64 (a1 + 1)) (l0.length : Int)) then (if (Int.tmod (wrap64 (a1 + 1)) (l0.length : Int)) < (l0.length : Int) then ((spec_l4Cross.f ((rd_T27 l0 (Int.tmod (wrap64 ((wrap64 (a1 + (l0.length : Int))) - 1)) (l0.length : Int))).f0) ((rd_T27 l0 (Int.tmod (wrap64 ((wrap64 (a1 + (l0.length : Int))) - 1)) (l0.length : Int))).f1) ((rd_T27 l0 a1).f0) ((rd_T27 l0 a1).f1) ((rd_T27 l0 (Int.tmod (wrap64 (a1 + 1)) (l0.length : Int))).f0) ((rd_T27 l0 (Int.tmod (wrap64 (a1 + 1)) (l0.length : Int))).f1)).bind fun t205 => ((spec_Max.f t205 (wrap64 (-t205))).bind fun t206 => (some t206))) else (none)) else (none)) else (none)) else (none)) else (none)) else (none))) = some r := by rw [if_neg (show ¬ (false = true) by decide)] at H; exact H
        clear H
        have H := H1
        clear H1
        by_cases c10 : (l0.length : Int) = 0
        · rw [if_pos c10] at H
          exact absurd H (by simp)
        · rw [if_neg c10] at H
          have c10b0 : ((l0.length : Int) == 0) = false := beq_eq_false_iff_ne.mpr c10
          have c10b1 : ((l0.length : Int) != 0) = true := bne_iff_ne.mpr c10
          have c10b2 : ¬ (l0 = []) := fun h_ => c10 (by rw [h_]; rfl)
          obtain ⟨ji11, hji11⟩ : ∃ j_ : Int, (Int.tmod (wrap64 ((wrap64 (a1 + (l0.length : Int))) - 1)) (l0.length : Int)) = j_ := ⟨_, rfl⟩
          replace H : (if 0 ≤ (ji11) then (if (ji11) < (l0.length : Int) then (if 0 ≤ a1 then (if a1 < (l0.length : Int) then (if 0 ≤ (Int.tmod (wrap64 (a1 + 1)) (l0.length : Int)) then (if (Int.tmod (wrap64 (a1 + 1)) (l0.length : Int)) < (l0.length : Int) then ((spec_l4Cross.f ((rd_T27 l0 (ji11)).f0) ((rd_T27 l0 (ji11)).f1) ((rd_T27 l0 a1).f0) ((rd_T27 l0 a1).f1) ((rd_T27 l0 (Int.tmod (wrap64 (a1 + 1)) (l0.length : Int))).f0) ((rd_T27 l0 (Int.tmod (wrap64 (a1 + 1)) (l0.length : Int))).f1)).bind fun t205 => ((spec_Max.f t205 (wrap64 (-t205))).bind fun t206 => (some t206))) else (none)) else (none)) else (none)) else (none)) else (none)) else (none)) = some r := by first | (rw [hji11] at H; exact H) | (simp only [hji11] at H ⊢; exact H)
          by_cases c12 : 0 ≤ (ji11)
          · rw [if_pos c12] at H
            have c12b0 : decide (0 ≤ (ji11)) = true := decide_eq_true c12
            clear c12
            by_cases c13 : (ji11) < (l0.length : Int)
            · rw [if_pos c13] at H
              have c13b0 : decide ((ji11) < (l0.length : Int)) = true := decide_eq_true c13
              clear c13
              by_cases c14 : 0 ≤ a1
              · rw [if_pos c14] at H
                have c14b0 : decide (0 ≤ a1) = true := decide_eq_true c14
                clear c14
                by_cases c15 : a1 < (l0.length : Int)
                · rw [if_pos c15] at H
                  have c15b0 : decide (a1 < (l0.length : Int)) = true := decide_eq_true c15
                  clear c15
                  obtain ⟨ji16, hji16⟩ : ∃ j_ : Int, (Int.tmod (wrap64 (a1 + 1)) (l0.length : Int)) = j_ := ⟨_, rfl⟩
                  replace H : (if 0 ≤ (ji16) then (if (ji16) < (l0.length : Int) then ((spec_l4Cross.f ((rd_T27 l0 (ji11)).f0) ((rd_T27 l0 (ji11)).f1) ((rd_T27 l0 a1).f0) ((rd_T27 l0 a1).f1) ((rd_T27 l0 (ji16)).f0) ((rd_T27 l0 (ji16)).f1)).bind fun t205 => ((spec_Max.f t205 (wrap64 (-t205))).bind fun t206 => (some t206))) else (none)) else (none)) = some r := by first | (rw [hji16] at H; exact H) | (simp only [hji16] at H ⊢; exact H)
                  by_cases c17 : 0 ≤ (ji16)
                  · rw [if_pos c17] at H
                    have c17b0 : decide (0 ≤ (ji16)) = true := decide_eq_true c17
                    clear c17
                    by_cases c18 : (ji16) < (l0.length : Int)
                    · rw [if_pos c18] at H
                      have c18b0 : decide ((ji16) < (l0.length : Int)) = true := decide_eq_true c18
                      clear c18
                      replace H := Option.bind_eq_some_iff.mp H
                      obtain ⟨t205, A190, H⟩ := H
                      replace H : ((spec_Max.f t205 (wrap64 (-t205))).bind fun t206 => (some t206)) = some r := H
                      have A19 := Aside0.mk A190
                      clear A190
                      replace H := Option.bind_eq_some_iff.mp H
                      obtain ⟨t206, A200, H⟩ := H
                      replace H : (some t206) = some r := H
                      have A20 := Aside0.mk A200
                      clear A200
                      obtain rfl := Option.some.inj H
                      try go_wp2
                      have n0_ := Aside0.mk (below_drew1 HB.out)
                      clear HB
                      have HB := n0_
                      clear n0_
                      have p202 : 0 ≤ ((ji11) : Int) := of_decide_eq_true (by first | (with_reducible assumption) | assumption)
                      have q202 : (ji11) < (l0.length : Int) := of_decide_eq_true (by first | (with_reducible assumption) | assumption)
                      obtain ⟨ad202, e202, hx202_0, hx202_1⟩ := at_T27 HR0.out (ji11) p202 q202
                      have hw202_1 := hx202_1
                      have hw202_0 := hx202_0
                      cases e202
                      replace hx202_0 := (HB.out.cell (World.block_lt_of_cell? w _ hx202_0)).trans hx202_0
                      replace hx202_1 := (HB.out.cell (World.block_lt_of_cell? w _ hx202_1)).trans hx202_1
                      replace p202 := eq_true p202
                      replace q202 := eq_true q202
                      have p203 : 0 ≤ (a1 : Int) := of_decide_eq_true (by first | (with_reducible assumption) | assumption)
                      have q203 : a1 < (l0.length : Int) := of_decide_eq_true (by first | (with_reducible assumption) | assumption)
                      obtain ⟨ad203, e203, hx203_0, hx203_1⟩ := at_T27 HR0.out a1 p203 q203
                      have hw203_1 := hx203_1
                      have hw203_0 := hx203_0
                      obtain rfl : ad202 = ad203 := (by injection e203)
                      replace hx203_0 := (HB.out.cell (World.block_lt_of_cell? w _ hx203_0)).trans hx203_0
                      replace hx203_1 := (HB.out.cell (World.block_lt_of_cell? w _ hx203_1)).trans hx203_1
                      replace p203 := eq_true p203
                      replace q203 := eq_true q203
                      have p204 : 0 ≤ ((ji16) : Int) := of_decide_eq_true (by first | (with_reducible assumption) | assumption)
                      have q204 : (ji16) < (l0.length : Int) := of_decide_eq_true (by first | (with_reducible assumption) | assumption)
                      obtain ⟨ad204, e204, hx204_0, hx204_1⟩ := at_T27 HR0.out (ji16) p204 q204
                      have hw204_1 := hx204_1
                      have hw204_0 := hx204_0
                      obtain rfl : ad202 = ad204 := (by injection e204)
                      replace hx204_0 := (HB.out.cell (World.block_lt_of_cell? w _ hx204_0)).trans hx204_0
                      replace hx204_1 := (HB.out.cell (World.block_lt_of_cell? w _ hx204_1)).trans hx204_1
                      replace p204 := eq_true p204
                      replace q204 := eq_true q204
                      have S_ : (fun w' : World => w'.cell? (ad202.add (((ji11)).toNat * 2)) = some (.int .i64 ((rd_T27 l0 (ji11)).f0)) ∧ w'.cell? ⟨(ad202.add (((ji11)).toNat * 2)).block, (ad202.add (((ji11)).toNat * 2)).off + 1, none⟩ = some (.int .i64 ((rd_T27 l0 (ji11)).f1)) ∧ w'.cell? (ad202.add ((a1).toNat * 2)) = some (.int .i64 ((rd_T27 l0 a1).f0)) ∧ w'.cell? ⟨(ad202.add ((a1).toNat * 2)).block, (ad202.add ((a1).toNat * 2)).off + 1, none⟩ = some (.int .i64 ((rd_T27 l0 a1).f1)) ∧ w'.cell? (ad202.add (((ji16)).toNat * 2)) = some (.int .i64 ((rd_T27 l0 (ji16)).f0)) ∧ w'.cell? ⟨(ad202.add (((ji16)).toNat * 2)).block, (ad202.add (((ji16)).toNat * 2)).off + 1, none⟩ = some (.int .i64 ((rd_T27 l0 (ji16)).f1))) wc.drew := ⟨((HB.out.cell (World.block_lt_of_cell? w _ hw202_0)).trans hw202_0), ((HB.out.cell (World.block_lt_of_cell? w _ hw202_1)).trans hw202_1), ((HB.out.cell (World.block_lt_of_cell? w _ hw203_0)).trans hw203_0), ((HB.out.cell (World.block_lt_of_cell? w _ hw203_1)).trans hw203_1), ((HB.out.cell (World.block_lt_of_cell? w _ hw204_0)).trans hw204_0), ((HB.out.cell (World.block_lt_of_cell? w _ hw204_1)).trans hw204_1)⟩
                      obtain ⟨s0_, s1_, s2_, s3_, s4_, s5_⟩ := S_
                      replace s0_ := fun q : Hd.HW wc.drew => q.cell s0_
                      replace s1_ := fun q : Hd.HW wc.drew => q.cell s1_
                      replace s2_ := fun q : Hd.HW wc.drew => q.cell s2_
                      replace s3_ := fun q : Hd.HW wc.drew => q.cell s3_
                      replace s4_ := fun q : Hd.HW wc.drew => q.cell s4_
                      replace s5_ := fun q : Hd.HW wc.drew => q.cell s5_
                      refine Hd.HW.region (by kernel_rfl) (by kernel_rfl) ?_
                      repeat (go_big_quiet_step ((first | (go_at_call 99; with_reducible exact Hd.HW.c (spec_l4Cross.calls ((rd_T27 l0 (ji11)).f0) ((rd_T27 l0 (ji11)).f1) ((rd_T27 l0 a1).f0) ((rd_T27 l0 a1).f1) ((rd_T27 l0 (ji16)).f0) ((rd_T27 l0 (ji16)).f1) t205 _ A19.out)))))
                      refine wpQuiet_nil ?_
                      intro _ hq_
                      obtain ⟨q_, rfl⟩ := hq_
                      clear s0_ s1_ s2_ s3_ s4_ s5_
                      replace HB := Aside0.mk (below_step HB.out q_.b)
                      replace hx202_0 := q_.cell hx202_0
                      replace hx202_1 := q_.cell hx202_1
                      replace hx203_0 := q_.cell hx203_0
                      replace hx203_1 := q_.cell hx203_1
                      replace hx204_0 := q_.cell hx204_0
                      replace hx204_1 := q_.cell hx204_1
                      generalize q_.W = w22 at HB hx202_0 hx202_1 hx203_0 hx203_1 hx204_0 hx204_1 ⊢
                      try simp only [i64_w, i32_w]
                      try go_wp2_with (first | ((with_reducible refine gate_callee (f := 100) rfl ?_); refine goesL_ (some 44) rfl rfl Try.func100 (by kernel_rfl) rfl #[.int .i64 t205, .int .i64 (wrap64 (-t205))] rfl (by (try simp only [List.map_toArray, List.map_cons, List.map_nil]); first | done | rfl | (simp only [List.length_drop, List.length_take]; rfl)) ?_; (with_reducible refine (spec_Max.calls t205 (wrap64 (-t205)) t206 _ A20.out).mono ?_); rintro e w' ⟨rfl, ⟨nd, rfl⟩⟩; refine ⟨_, rfl, ?_⟩))
                      go_ret
                      exact ⟨by first | rfl | (simp [errW_none, errW_some] <;> rfl) | (simp only [← hji11, ← hji16]; first | rfl | (simp [errW_none, errW_some] <;> rfl)) | (simp [*, errW_none, errW_some] <;> rfl), by repeat (first | (with_reducible first | exact HB.out | apply below_alloc | apply pw_below_drewN | apply below_drew1) | exact HB.out)⟩
                    · rw [if_neg c18] at H
                      exact absurd H (by simp)
                  · rw [if_neg c17] at H
                    exact absurd H (by simp)
                · rw [if_neg c15] at H
                  exact absurd H (by simp)
              · rw [if_neg c14] at H
                exact absurd H (by simp)
            · rw [if_neg c13] at H
              exact absurd H (by simp)
          · rw [if_neg c12] at H
            exact absurd H (by simp)

end Go.Proofs.Ytchmbcembbbplab.MFnExactCornerSize
