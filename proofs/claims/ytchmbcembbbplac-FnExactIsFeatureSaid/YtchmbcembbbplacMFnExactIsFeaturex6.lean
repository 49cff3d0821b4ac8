-- Laid by this session's program pp.py, after the kit's print and texts of the session's own. Not trusted: Lean checks it.
import Derived.Test.YtchmbcembbbplacMFnExactIsFeaturex0
import Derived.Test.YtchmbcembbbplacMFnExactIsFeaturex2
import Derived.Test.YtchmbcembbbplacMFnExactIsFeaturex4
import Derived.Test.YtchmbcembbbplacMFnExactIsFeaturex5
namespace Go.Proofs.Ytchmbcembbbplac.MFnExactIsFeature
open Go.RowKit Go.Proofs.YtchmbcembbbplacW.PrintWords Go.Proofs.YtchmbcembbbplacW.PrintLast Go.Proofs.YtchmbcembbbplacW.PrintMore
attribute [local go_sem] max2_int min2_int max_two min_two max_three min_three max_four min_four   -- for this text's walks alone
set_option linter.unusedVariables false
set_option linter.unusedSimpArgs false

/-! ### spec_IsRing: function 82 -/
mutual
def spec_IsRing.l0 : Nat → List (S111) → Int → Option (Bool)
 | 0, _, _ => none
 | k + 1, x3, x4 => if x4 < (x3.length : Int) then (if 0 ≤ x4 then ((spec_IsSegment.f ((rd_T111 x3 x4).f0.f0) ((rd_T111 x3 x4).f0.f1) ((rd_T111 x3 x4).f1.f0) ((rd_T111 x3 x4).f1.f1)).bind fun t180 => (if t180 = true then (spec_IsRing.l1 k x3 x4 0) else (some false))) else (none)) else (some true)
def spec_IsRing.l1 : Nat → List (S111) → Int → Int → Option (Bool)
 | 0, _, _, _ => none
 | k + 1, x3, x4, x5 => if x5 < x4 then (if (wrap64 (x5 + 1)) = x4 then (spec_IsRing.j2 k x3 x4 x5 0 true) else (if x5 = 0 then (spec_IsRing.j2 k x3 x4 x5 0 ((wrap64 (x4 + 1)) == (x3.length : Int))) else (spec_IsRing.j2 k x3 x4 x5 0 false))) else (spec_IsRing.l0 k x3 (wrap64 (x4 + 1)))
def spec_IsRing.j2 : Nat → List (S111) → Int → Int → Int → Bool → Option (Bool)
 | 0, _, _, _, _, _ => none
 | k + 1, x3, x4, x5, x6, x44 => if x44 = true then (if 0 ≤ x4 then (if x4 < (x3.length : Int) then (if 0 ≤ x5 then (if x5 < (x3.length : Int) then ((spec_HowMeet.f k ((rd_T111 x3 x4).f0.f0) ((rd_T111 x3 x4).f0.f1) ((rd_T111 x3 x4).f1.f0) ((rd_T111 x3 x4).f1.f1) ((rd_T111 x3 x5).f0.f0) ((rd_T111 x3 x5).f0.f1) ((rd_T111 x3 x5).f1.f0) ((rd_T111 x3 x5).f1.f1)).bind fun t183 => (if t183 = 1 then (spec_IsRing.l1 k x3 x4 (wrap64 (x5 + 1))) else (some false))) else (none)) else (none)) else (none)) else (none)) else (if 0 ≤ x4 then (if x4 < (x3.length : Int) then (if 0 ≤ x5 then (if x5 < (x3.length : Int) then ((spec_HowMeet.f k ((rd_T111 x3 x4).f0.f0) ((rd_T111 x3 x4).f0.f1) ((rd_T111 x3 x4).f1.f0) ((rd_T111 x3 x4).f1.f1) ((rd_T111 x3 x5).f0.f0) ((rd_T111 x3 x5).f0.f1) ((rd_T111 x3 x5).f1.f0) ((rd_T111 x3 x5).f1.f1)).bind fun t186 => (if t186 = x6 then (spec_IsRing.l1 k x3 x4 (wrap64 (x5 + 1))) else (some false))) else (none)) else (none)) else (none)) else (none))
end
def spec_IsRing.f (k : Nat) (l0 : List (S49)) : Option (Bool) := (spec_l1In.f (l0.length : Int) 3 10).bind fun t175 => (if t175 = true then ((spec_l7Segments.f k l0).bind fun t176 => (spec_IsRing.l0 k t176 0)) else (some false))
theorem spec_IsRing.mono_l : ∀ k, (∀ y0 y1, LeO (spec_IsRing.l0 k y0 y1) (spec_IsRing.l0 (k + 1) y0 y1)) ∧ (∀ y0 y1 y2, LeO (spec_IsRing.l1 k y0 y1 y2) (spec_IsRing.l1 (k + 1) y0 y1 y2)) ∧ (∀ y0 y1 y2 y3 y4, LeO (spec_IsRing.j2 k y0 y1 y2 y3 y4) (spec_IsRing.j2 (k + 1) y0 y1 y2 y3 y4))
 | 0 => ⟨fun _ _ r h => by simp [spec_IsRing.l0] at h, fun _ _ _ r h => by simp [spec_IsRing.l1] at h, fun _ _ _ _ _ r h => by simp [spec_IsRing.j2] at h⟩
 | k + 1 => by
  obtain ⟨ih0, ih1, ih2⟩ := spec_IsRing.mono_l k
  refine ⟨?_, ?_, ?_⟩
  ·
   intro y0 y1
   unfold spec_IsRing.l0
   repeat' first
   | (with_reducible exact ih0 _ _)
   | (with_reducible exact ih1 _ _ _)
   | (with_reducible exact ih2 _ _ _ _ _)
   | (with_reducible exact spec_HowMeet.mono _ _ _ _ _ _ _ _ _)
   | (with_reducible exact spec_l7Segments.mono _ _)
   | (with_reducible exact LeO.refl _)
   | (with_reducible exact LeO.none _)
   | (with_reducible refine LeO.ite ?_ ?_)
   | (with_reducible refine LeO.bind ?_ (fun _ => ?_))
   | exact ih0 _ _
   | exact ih1 _ _ _
   | exact ih2 _ _ _ _ _
   | exact spec_HowMeet.mono _ _ _ _ _ _ _ _ _
   | exact spec_l7Segments.mono _ _
   | exact LeO.none _
   | refine LeO.ite ?_ ?_
   | refine LeO.bind ?_ (fun _ => ?_)
  ·
   intro y0 y1 y2
   unfold spec_IsRing.l1
   repeat' first
   | (with_reducible exact ih0 _ _)
   | (with_reducible exact ih1 _ _ _)
   | (with_reducible exact ih2 _ _ _ _ _)
   | (with_reducible exact spec_HowMeet.mono _ _ _ _ _ _ _ _ _)
   | (with_reducible exact spec_l7Segments.mono _ _)
   | (with_reducible exact LeO.refl _)
   | (with_reducible exact LeO.none _)
   | (with_reducible refine LeO.ite ?_ ?_)
   | (with_reducible refine LeO.bind ?_ (fun _ => ?_))
   | exact ih0 _ _
   | exact ih1 _ _ _
   | exact ih2 _ _ _ _ _
   | exact spec_HowMeet.mono _ _ _ _ _ _ _ _ _
   | exact spec_l7Segments.mono _ _
   | exact LeO.none _
   | refine LeO.ite ?_ ?_
   | refine LeO.bind ?_ (fun _ => ?_)
  ·
   intro y0 y1 y2 y3 y4
   unfold spec_IsRing.j2
   repeat' first
   | (with_reducible exact ih0 _ _)
   | (with_reducible exact ih1 _ _ _)
   | (with_reducible exact ih2 _ _ _ _ _)
   | (with_reducible exact spec_HowMeet.mono _ _ _ _ _ _ _ _ _)
   | (with_reducible exact spec_l7Segments.mono _ _)
   | (with_reducible exact LeO.refl _)
   | (with_reducible exact LeO.none _)
   | (with_reducible refine LeO.ite ?_ ?_)
   | (with_reducible refine LeO.bind ?_ (fun _ => ?_))
   | exact ih0 _ _
   | exact ih1 _ _ _
   | exact ih2 _ _ _ _ _
   | exact spec_HowMeet.mono _ _ _ _ _ _ _ _ _
   | exact spec_l7Segments.mono _ _
   | exact LeO.none _
   | refine LeO.ite ?_ ?_
   | refine LeO.bind ?_ (fun _ => ?_)
theorem spec_IsRing.mono : ∀ a0 k, LeO (spec_IsRing.f k a0) (spec_IsRing.f (k + 1) a0) := by
 intro a0 k
 obtain ⟨ih0, ih1, ih2⟩ := spec_IsRing.mono_l k
 unfold spec_IsRing.f
 repeat' first
   | (with_reducible exact ih0 _ _)
   | (with_reducible exact ih1 _ _ _)
   | (with_reducible exact ih2 _ _ _ _ _)
   | (with_reducible exact spec_HowMeet.mono _ _ _ _ _ _ _ _ _)
   | (with_reducible exact spec_l7Segments.mono _ _)
   | (with_reducible exact LeO.refl _)
   | (with_reducible exact LeO.none _)
   | (with_reducible refine LeO.ite ?_ ?_)
   | (with_reducible refine LeO.bind ?_ (fun _ => ?_))
   | exact ih0 _ _
   | exact ih1 _ _ _
   | exact ih2 _ _ _ _ _
   | exact spec_HowMeet.mono _ _ _ _ _ _ _ _ _
   | exact spec_l7Segments.mono _ _
   | exact LeO.none _
   | refine LeO.ite ?_ ?_
   | refine LeO.bind ?_ (fun _ => ?_)
def spec_IsRing.T15 : Bool × List (List Nat × List Nat) := (true, [([], []), ([], []), ([0, 1], [0, 1]), ([2], [2]), ([], []), ([], []), ([4, 5], [4, 5]), ([6], [6]), ([3, 7], [3, 7]), ([], []), ([8, 9], [8, 9])])
def spec_IsRing.B15 : List Nat := [0, 0, 3, 7, 0, 0, 48, 112, 255, 0, 1023]
theorem spec_IsRing.tab15 : rtab .any (opsOf Try.f82 15) = spec_IsRing.T15 := by kernel_rfl
theorem spec_IsRing.bits15 : waitsOk spec_IsRing.T15.2 spec_IsRing.B15 = true := by kernel_rfl
set_option maxHeartbeats 8000000 in
set_option maxRecDepth 100000 in
theorem spec_IsRing.calls (k : Nat) (A0 : Option Addr) (c0 : Nat) (l0 : List (S49)) (r : Bool) (w : World) (hr0 : Kd.C k49 w A0 l0.length l0) (hc0 : l0.length ≤ c0) (h : spec_IsRing.f k l0 = some r) :
  Calls Try.prog 82 #[.slice A0 l0.length c0] w fun e w' => e = .returned (.bool r) ∧ Below w.heap.size w w' := by
 have hu111 := Try.underlying111
 have HR0 := Aside0.mk hr0
 have HC0 := Aside0.mk hc0
 clear hr0 hc0
 have HB := Aside0.mk (Below.refl w.heap.size w)
 have H : ((spec_l1In.f (l0.length : Int) 3 10).bind fun t175 => (if t175 = true then ((spec_l7Segments.f k l0).bind fun t176 => (spec_IsRing.l0 k t176 0)) else (some false))) = some r := h
 clear h
 replace H := Option.bind_eq_some_iff.mp H
 obtain ⟨t175, A20, H⟩ := H
 replace H : (if t175 = true then ((spec_l7Segments.f k l0).bind fun t176 => (spec_IsRing.l0 k t176 0)) else (some false)) = some r := H
 have A2 := Aside0.mk A20
 clear A20
 by_cases c3 : t175 = true
 ·
  subst c3
  have H1 : ((spec_l7Segments.f k l0).bind fun t176 => (spec_IsRing.l0 k t176 0)) = some r := by rw [if_pos rfl] at H; exact H
  clear H
  have H := H1
  clear H1
  replace H := Option.bind_eq_some_iff.mp H
  obtain ⟨t176, A40, H⟩ := H
  replace H : (spec_IsRing.l0 k t176 0) = some r := H
  have A4 := Aside0.mk A40
  clear A40
  have H' := Aside0.mk H
  clear H
  go_enter Try.func82, Try.ntmps82
  go_wp2_with (first | ((with_reducible refine gate_callee (f := 83) rfl ?_); refine goesL_ (some 9) rfl rfl Try.func83 (by kernel_rfl) rfl #[.int .i64 (l0.length : Int), .int .i64 3, .int .i64 10] rfl Hd.m_ ?_; (with_reducible refine (spec_l1In.calls (l0.length : Int) 3 10 true _ A2.out).mono ?_); rintro e w' ⟨rfl, ⟨nd, rfl⟩⟩; refine ⟨_, rfl, ?_⟩) | ((with_reducible refine gate_callee (f := 136) rfl ?_); refine goesL_ (some 12) rfl rfl Try.func136 (by kernel_rfl) rfl #[.slice A0 l0.length c0] rfl Hd.m_ ?_; (with_reducible refine (spec_l7Segments.calls k _ _ l0 t176 _ ?side1 ?side2 A4.out).mono ?_); (case side1 => repeat (first | exact HR0.out | (with_reducible refine Kd.C_alloc ?_ _) | (with_reducible refine Kd.C_drewN ?_ _) | (with_reducible refine Kd.C_drew ?_))); (case side2 => exact HC0.out); rintro e w5 ⟨v177, rfl, ho0, hb⟩; refine ⟨_, rfl, ?_⟩; have HO178 := Aside0.mk (Kd.R_lower ho0 (below_size Hd.b_)); replace HB := Aside0.mk (below_step Hd.b_ hb); (try clear hb); (try clear hb2); (try clear hk); (try clear hi); (try clear ho0)))
  go_loopg [4] k (fun kq v4 w' => ∃ (x4_1 : Int), v4 = .int .i64 x4_1 ∧ Aside0 (spec_IsRing.l0 kq t176 x4_1 = some r) ∧ Aside0 (kq ≤ k) ∧ Aside0 (Kd.R k111 111 w' w.heap.size (fun _ => True) v177 t176) ∧ Aside0 (Below w.heap.size w w'))
  case atStart => exact ⟨(0), (by first | rfl | (simp; done) | (simp [*]; done)), H', ⟨Nat.le_refl _⟩, ⟨by (with_reducible repeat (first | apply Kd.R_alloc | apply Kd.R_drewN | apply Kd.R_drew)); exact HO178.out⟩, ⟨Hd.b_⟩⟩
  case round =>
   clear H'
   try clear c1
   try clear p2
   try clear c3
   obtain ⟨x4_1, rfl, HA, HK1, HO_3, HB⟩ := hrel
   cases gk with
   | zero => exact absurd HA.out (by simp [spec_IsRing.l0])
   | succ k1 =>
    have H := HA.out
    clear HA
    simp only [spec_IsRing.l0] at H
    by_cases c6 : x4_1 < (t176.length : Int)
    ·
     rw [if_pos c6] at H
     have c6b0 : decide (x4_1 < (t176.length : Int)) = true := decide_eq_true c6
     clear c6
     by_cases c7 : 0 ≤ x4_1
     ·
      rw [if_pos c7] at H
      have c7b0 : decide (0 ≤ x4_1) = true := decide_eq_true c7
      clear c7
      replace H := Option.bind_eq_some_iff.mp H
      obtain ⟨t180, A80, H⟩ := H
      replace H : (if t180 = true then (spec_IsRing.l1 k1 t176 x4_1 0) else (some false)) = some r := H
      have A8 := Aside0.mk A80
      clear A80
      by_cases c9 : t180 = true
      ·
       subst c9
       have H1 : (spec_IsRing.l1 k1 t176 x4_1 0) = some r := by rw [if_pos rfl] at H; exact H
       clear H
       have H := H1
       clear H1
       have H' := Aside0.mk H
       clear H
       obtain ⟨Ao10, co10, eo10⟩ := Kd.R_slice HO_3.out
       subst eo10
       have p179 : 0 ≤ (x4_1 : Int) := of_decide_eq_true Hd.a_
       have q179 : x4_1 < (t176.length : Int) := of_decide_eq_true Hd.a_
       obtain ⟨ad179, e179, hx179_0, hx179_1, hx179_2, hx179_3⟩ := at_T111 (Kd.R_reads' HO_3.out).2.2 x4_1 p179 q179
       cases e179
       replace p179 := eq_true p179
       replace q179 := eq_true q179
       go_wp2_with (first | ((with_reducible refine gate_callee (f := 137) rfl ?_); refine goesL_ (some 23) rfl rfl Try.func137 (by kernel_rfl) rfl #[.agg #[.int .i64 ((rd_T111 t176 x4_1).f0.f0), .int .i64 ((rd_T111 t176 x4_1).f0.f1), .int .i64 ((rd_T111 t176 x4_1).f1.f0), .int .i64 ((rd_T111 t176 x4_1).f1.f1)]] rfl Hd.m_ ?_; (with_reducible refine (spec_IsSegment.calls ((rd_T111 t176 x4_1).f0.f0) ((rd_T111 t176 x4_1).f0.f1) ((rd_T111 t176 x4_1).f1.f0) ((rd_T111 t176 x4_1).f1.f1) true _ A8.out).mono ?_); rintro e w11 ⟨rfl, hb⟩; refine ⟨_, rfl, ?_⟩; replace HO_3 := Aside0.mk (Kd.R_below (Hd.r_ HO_3) hb); replace HB := Aside0.mk (below_step Hd.b_ hb); (try clear hb); (try clear hb2); (try clear hk); (try clear hi)))
       go_loopg [5] k1 (fun kq v5 w' => ∃ (x5_2 : Int), v5 = .int .i64 x5_2 ∧ Aside0 (spec_IsRing.l1 kq t176 x4_1 x5_2 = some r) ∧ Aside0 (kq ≤ k1) ∧ Aside0 (Kd.R k111 111 w' w.heap.size (fun _ => True) (.slice (some ad179) t176.length co10) t176) ∧ Aside0 (Below w.heap.size w w'))
       case atStart => exact ⟨(0), (by first | rfl | (simp; done) | (simp [*]; done)), H', ⟨Nat.le_refl _⟩, ⟨by (with_reducible repeat (first | apply Kd.R_alloc | apply Kd.R_drewN | apply Kd.R_drew)); exact HO_3.out⟩, ⟨Hd.b_⟩⟩
       case round =>
        clear H'
        try clear c1
        try clear p1
        try clear q1
        try clear hx1
        try clear p2
        try clear c3
        try clear c6
        try clear c6b0
        try clear c7
        try clear c7b0
        try clear c8
        try clear c9
        try clear hx179_0
        try clear hx179_1
        try clear hx179_2
        try clear hx179_3
        try clear p179
        try clear p2
        try clear q179
        obtain ⟨x5_2, rfl, HA, HK2, HO_3, HB⟩ := hrel
        cases gk with
        | zero => exact absurd HA.out (by simp [spec_IsRing.l1])
        | succ k2 =>
         have H := HA.out
         clear HA
         simp only [spec_IsRing.l1] at H
         by_cases c12 : x5_2 < x4_1
         ·
          rw [if_pos c12] at H
          have c12b0 : decide (x5_2 < x4_1) = true := decide_eq_true c12
          clear c12
          have HC13 := Aside0.mk H
          clear H
          go_upto_region 13 with (fail)
          go_cut [44] (fun v44 wc => ∃ (kq : Nat) (x44_12 : Bool), v44 = .bool x44_12 ∧ Aside0 (spec_IsRing.j2 kq t176 x4_1 x5_2 0 x44_12 = some r) ∧ Aside0 (kq ≤ k2) ∧ Aside0 (Kd.R k111 111 wc w.heap.size (fun _ => True) (.slice (some ad179) t176.length co10) t176) ∧ Aside0 (Below w.heap.size w wc))
          case first =>
           have H := HC13.out
           clear HC13
           by_cases c14 : (wrap64 (x5_2 + 1)) = x4_1
           ·
            rw [if_pos c14] at H
            have c14b0 : ((wrap64 (x5_2 + 1)) == x4_1) = true := beq_iff_eq.mpr c14
            have c14b1 : ((wrap64 (x5_2 + 1)) != x4_1) = false := bne_eq_false_iff_eq.mpr c14
            clear c14
            (first | rw [c14b0] | (simp only [i64_w, i32_w]; rw [c14b0]) | skip)
            have H' := Aside0.mk H
            clear H
            go_wp2
            go_meet
            case rel => exact ⟨_, (true), (by first | rfl | (simp; done) | (simp [*]; done)), H', ⟨by have := HK1.out; have := HK2.out; first | omega | exact Nat.le_refl _⟩, ⟨by (with_reducible repeat (first | apply Kd.R_alloc | apply Kd.R_drewN | apply Kd.R_drew)); exact HO_3.out⟩, ⟨Hd.b_⟩⟩
           ·
            rw [if_neg c14] at H
            have c14b0 : ((wrap64 (x5_2 + 1)) == x4_1) = false := beq_eq_false_iff_ne.mpr c14
            have c14b1 : ((wrap64 (x5_2 + 1)) != x4_1) = true := bne_iff_ne.mpr c14
            (first | rw [c14b0] | (simp only [i64_w, i32_w]; rw [c14b0]) | skip)
            by_cases c15 : x5_2 = 0
            ·
             rw [if_pos c15] at H
             have c15b0 : (x5_2 == 0) = true := beq_iff_eq.mpr c15
             have c15b1 : (x5_2 != 0) = false := bne_eq_false_iff_eq.mpr c15
             clear c15
             have H' := Aside0.mk H
             clear H
             go_wp2
             go_meet
             case rel => exact ⟨_, (((wrap64 (x4_1 + 1)) == (t176.length : Int))), (by first | rfl | (simp; done) | (simp [*]; done)), H', ⟨by have := HK1.out; have := HK2.out; first | omega | exact Nat.le_refl _⟩, ⟨by (with_reducible repeat (first | apply Kd.R_alloc | apply Kd.R_drewN | apply Kd.R_drew)); exact HO_3.out⟩, ⟨Hd.b_⟩⟩
            ·
             rw [if_neg c15] at H
             have c15b0 : (x5_2 == 0) = false := beq_eq_false_iff_ne.mpr c15
             have c15b1 : (x5_2 != 0) = true := bne_iff_ne.mpr c15
             have H' := Aside0.mk H
             clear H
             go_wp2
             go_meet
             case rel => exact ⟨_, (false), (by first | rfl | (simp; done) | (simp [*]; done)), H', ⟨by have := HK1.out; have := HK2.out; first | omega | exact Nat.le_refl _⟩, ⟨by (with_reducible repeat (first | apply Kd.R_alloc | apply Kd.R_drewN | apply Kd.R_drew)); exact HO_3.out⟩, ⟨Hd.b_⟩⟩
          case rest =>
           clear HC13
           try clear c1
           try clear p1
           try clear q1
           try clear hx1
           try clear p2
           try clear c3
           try clear c6
           try clear c6b0
           try clear p6
           try clear c7
           try clear c7b0
           try clear c8
           try clear c9
           try clear c12
           try clear c12b0
           try clear c13
           try clear c14
           try clear c14b0
           try clear c14b1
           try clear c15
           try clear c15b0
           try clear c15b1
           try clear hx179_0
           try clear hx179_1
           try clear hx179_2
           try clear hx179_3
           try clear p1
           try clear p179
           try clear p2
           try clear q1
           try clear q179
           obtain ⟨kq, x44_12, rfl, HA, HJ12, HO_3, HB⟩ := hcut
           cases kq with
           | zero => exact absurd HA.out (by simp [spec_IsRing.j2])
           | succ kj12 =>
            have H := HA.out
            clear HA
            simp only [spec_IsRing.j2] at H
            by_cases c16 : x44_12 = true
            ·
             subst c16
             have H1 : (if 0 ≤ x4_1 then (if x4_1 < (t176.length : Int) then (if 0 ≤ x5_2 then (if x5_2 < (t176.length : Int) then ((spec_HowMeet.f kj12 ((rd_T111 t176 x4_1).f0.f0) ((rd_T111 t176 x4_1).f0.f1) ((rd_T111 t176 x4_1).f1.f0) ((rd_T111 t176 x4_1).f1.f1) ((rd_T111 t176 x5_2).f0.f0) ((rd_T111 t176 x5_2).f0.f1) ((rd_T111 t176 x5_2).f1.f0) ((rd_T111 t176 x5_2).f1.f1)).bind fun t183 => (if t183 = 1 then (spec_IsRing.l1 kj12 t176 x4_1 (wrap64 (x5_2 + 1))) else (some false))) else (none)) else (none)) else (none)) else (none)) = some r := by rw [if_pos rfl] at H; exact H
             clear H
             have H := H1
             clear H1
             by_cases c17 : 0 ≤ x4_1
             ·
              rw [if_pos c17] at H
              have c17b0 : decide (0 ≤ x4_1) = true := decide_eq_true c17
              clear c17
              by_cases c18 : x4_1 < (t176.length : Int)
              ·
               rw [if_pos c18] at H
               have c18b0 : decide (x4_1 < (t176.length : Int)) = true := decide_eq_true c18
               clear c18
               by_cases c19 : 0 ≤ x5_2
               ·
                rw [if_pos c19] at H
                have c19b0 : decide (0 ≤ x5_2) = true := decide_eq_true c19
                clear c19
                by_cases c20 : x5_2 < (t176.length : Int)
                ·
                 rw [if_pos c20] at H
                 have c20b0 : decide (x5_2 < (t176.length : Int)) = true := decide_eq_true c20
                 clear c20
                 replace H := Option.bind_eq_some_iff.mp H
                 obtain ⟨t183, A210, H⟩ := H
                 replace H : (if t183 = 1 then (spec_IsRing.l1 kj12 t176 x4_1 (wrap64 (x5_2 + 1))) else (some false)) = some r := H
                 have A21 := Aside0.mk A210
                 clear A210
                 by_cases c22 : t183 = 1
                 ·
                  rw [if_pos c22] at H
                  have c22b0 : (t183 == 1) = true := beq_iff_eq.mpr c22
                  have c22b1 : (t183 != 1) = false := bne_eq_false_iff_eq.mpr c22
                  clear c22
                  have H' := Aside0.mk H
                  clear H
                  try go_wp2
                  replace HO_3 := Aside0.mk (Kd.R_drew HO_3.out)
                  replace HB := Aside0.mk (below_drew1 HB.out)
                  have p181 : 0 ≤ (x4_1 : Int) := of_decide_eq_true Hd.a_
                  have q181 : x4_1 < (t176.length : Int) := of_decide_eq_true Hd.a_
                  obtain ⟨ad181, e181, hx181_0, hx181_1, hx181_2, hx181_3⟩ := at_T111 (Kd.R_reads' HO_3.out).2.2 x4_1 p181 q181
                  obtain rfl : ad179 = ad181 := (by injection e181)
                  replace p181 := eq_true p181
                  replace q181 := eq_true q181
                  have p182 : 0 ≤ (x5_2 : Int) := of_decide_eq_true Hd.a_
                  have q182 : x5_2 < (t176.length : Int) := of_decide_eq_true Hd.a_
                  obtain ⟨ad182, e182, hx182_0, hx182_1, hx182_2, hx182_3⟩ := at_T111 (Kd.R_reads' HO_3.out).2.2 x5_2 p182 q182
                  obtain rfl : ad179 = ad182 := (by injection e182)
                  replace p182 := eq_true p182
                  replace q182 := eq_true q182
                  have S_ : (fun w' : World => w'.cell? (ad179.add ((x4_1).toNat * 4)) = some (.int .i64 ((rd_T111 t176 x4_1).f0.f0)) ∧ w'.cell? ⟨(ad179.add ((x4_1).toNat * 4)).block, (ad179.add ((x4_1).toNat * 4)).off + 1, none⟩ = some (.int .i64 ((rd_T111 t176 x4_1).f0.f1)) ∧ w'.cell? ⟨(ad179.add ((x4_1).toNat * 4)).block, (ad179.add ((x4_1).toNat * 4)).off + 2, none⟩ = some (.int .i64 ((rd_T111 t176 x4_1).f1.f0)) ∧ w'.cell? ⟨(ad179.add ((x4_1).toNat * 4)).block, (ad179.add ((x4_1).toNat * 4)).off + 3, none⟩ = some (.int .i64 ((rd_T111 t176 x4_1).f1.f1)) ∧ w'.cell? (ad179.add ((x5_2).toNat * 4)) = some (.int .i64 ((rd_T111 t176 x5_2).f0.f0)) ∧ w'.cell? ⟨(ad179.add ((x5_2).toNat * 4)).block, (ad179.add ((x5_2).toNat * 4)).off + 1, none⟩ = some (.int .i64 ((rd_T111 t176 x5_2).f0.f1)) ∧ w'.cell? ⟨(ad179.add ((x5_2).toNat * 4)).block, (ad179.add ((x5_2).toNat * 4)).off + 2, none⟩ = some (.int .i64 ((rd_T111 t176 x5_2).f1.f0)) ∧ w'.cell? ⟨(ad179.add ((x5_2).toNat * 4)).block, (ad179.add ((x5_2).toNat * 4)).off + 3, none⟩ = some (.int .i64 ((rd_T111 t176 x5_2).f1.f1))) wc.drew := ⟨hx181_0, hx181_1, hx181_2, hx181_3, hx182_0, hx182_1, hx182_2, hx182_3⟩
                  obtain ⟨s0_, s1_, s2_, s3_, s4_, s5_, s6_, s7_⟩ := S_
                  replace s0_ := fun q : Hd.HW wc.drew => q.cell s0_
                  replace s1_ := fun q : Hd.HW wc.drew => q.cell s1_
                  replace s2_ := fun q : Hd.HW wc.drew => q.cell s2_
                  replace s3_ := fun q : Hd.HW wc.drew => q.cell s3_
                  replace s4_ := fun q : Hd.HW wc.drew => q.cell s4_
                  replace s5_ := fun q : Hd.HW wc.drew => q.cell s5_
                  replace s6_ := fun q : Hd.HW wc.drew => q.cell s6_
                  replace s7_ := fun q : Hd.HW wc.drew => q.cell s7_
                  refine Hd.HW.region (by kernel_rfl) (by kernel_rfl) ?_
                  repeat (go_big_quiet_step ((first | (go_at_call 129; with_reducible exact Hd.HW.c (spec_HowMeet.calls kj12 ((rd_T111 t176 x4_1).f0.f0) ((rd_T111 t176 x4_1).f0.f1) ((rd_T111 t176 x4_1).f1.f0) ((rd_T111 t176 x4_1).f1.f1) ((rd_T111 t176 x5_2).f0.f0) ((rd_T111 t176 x5_2).f0.f1) ((rd_T111 t176 x5_2).f1.f0) ((rd_T111 t176 x5_2).f1.f1) t183 _ A21.out)))))
                  refine wpQuiet_nil ?_
                  intro _ hq_
                  obtain ⟨q_, rfl⟩ := hq_
                  clear s0_ s1_ s2_ s3_ s4_ s5_ s6_ s7_
                  replace HO_3 := Aside0.mk (Kd.R_below HO_3.out q_.b)
                  replace HB := Aside0.mk (below_step HB.out q_.b)
                  replace hx181_0 := q_.cell hx181_0
                  replace hx181_1 := q_.cell hx181_1
                  replace hx181_2 := q_.cell hx181_2
                  replace hx181_3 := q_.cell hx181_3
                  replace hx182_0 := q_.cell hx182_0
                  replace hx182_1 := q_.cell hx182_1
                  replace hx182_2 := q_.cell hx182_2
                  replace hx182_3 := q_.cell hx182_3
                  generalize q_.W = w24 at HO_3 HB hx181_0 hx181_1 hx181_2 hx181_3 hx182_0 hx182_1 hx182_2 hx182_3 ⊢
                  try simp only [i64_w, i32_w]
                  try go_wp2
                  go_roundg kj12
                  case measure => have := HK1.out; have := HK2.out; have := HJ12.out; omega
                  case rel => exact ⟨(wrap64 (x5_2 + 1)), (by first | rfl | (simp; done) | (simp [*]; done)), H', ⟨by have := HK1.out; have := HK2.out; have := HJ12.out; omega⟩, ⟨by (with_reducible repeat (first | apply Kd.R_alloc | apply Kd.R_drewN | apply Kd.R_drew)); exact HO_3.out⟩, ⟨Hd.b_⟩⟩
                 ·
                  rw [if_neg c22] at H
                  have c22b0 : (t183 == 1) = false := beq_eq_false_iff_ne.mpr c22
                  have c22b1 : (t183 != 1) = true := bne_iff_ne.mpr c22
                  obtain rfl := Option.some.inj H
                  try go_wp2
                  replace HO_3 := Aside0.mk (Kd.R_drew HO_3.out)
                  replace HB := Aside0.mk (below_drew1 HB.out)
                  have p181 : 0 ≤ (x4_1 : Int) := of_decide_eq_true Hd.a_
                  have q181 : x4_1 < (t176.length : Int) := of_decide_eq_true Hd.a_
                  obtain ⟨ad181, e181, hx181_0, hx181_1, hx181_2, hx181_3⟩ := at_T111 (Kd.R_reads' HO_3.out).2.2 x4_1 p181 q181
                  obtain rfl : ad179 = ad181 := (by injection e181)
                  replace p181 := eq_true p181
                  replace q181 := eq_true q181
                  have p182 : 0 ≤ (x5_2 : Int) := of_decide_eq_true Hd.a_
                  have q182 : x5_2 < (t176.length : Int) := of_decide_eq_true Hd.a_
                  obtain ⟨ad182, e182, hx182_0, hx182_1, hx182_2, hx182_3⟩ := at_T111 (Kd.R_reads' HO_3.out).2.2 x5_2 p182 q182
                  obtain rfl : ad179 = ad182 := (by injection e182)
                  replace p182 := eq_true p182
                  replace q182 := eq_true q182
                  have S_ : (fun w' : World => w'.cell? (ad179.add ((x4_1).toNat * 4)) = some (.int .i64 ((rd_T111 t176 x4_1).f0.f0)) ∧ w'.cell? ⟨(ad179.add ((x4_1).toNat * 4)).block, (ad179.add ((x4_1).toNat * 4)).off + 1, none⟩ = some (.int .i64 ((rd_T111 t176 x4_1).f0.f1)) ∧ w'.cell? ⟨(ad179.add ((x4_1).toNat * 4)).block, (ad179.add ((x4_1).toNat * 4)).off + 2, none⟩ = some (.int .i64 ((rd_T111 t176 x4_1).f1.f0)) ∧ w'.cell? ⟨(ad179.add ((x4_1).toNat * 4)).block, (ad179.add ((x4_1).toNat * 4)).off + 3, none⟩ = some (.int .i64 ((rd_T111 t176 x4_1).f1.f1)) ∧ w'.cell? (ad179.add ((x5_2).toNat * 4)) = some (.int .i64 ((rd_T111 t176 x5_2).f0.f0)) ∧ w'.cell? ⟨(ad179.add ((x5_2).toNat * 4)).block, (ad179.add ((x5_2).toNat * 4)).off + 1, none⟩ = some (.int .i64 ((rd_T111 t176 x5_2).f0.f1)) ∧ w'.cell? ⟨(ad179.add ((x5_2).toNat * 4)).block, (ad179.add ((x5_2).toNat * 4)).off + 2, none⟩ = some (.int .i64 ((rd_T111 t176 x5_2).f1.f0)) ∧ w'.cell? ⟨(ad179.add ((x5_2).toNat * 4)).block, (ad179.add ((x5_2).toNat * 4)).off + 3, none⟩ = some (.int .i64 ((rd_T111 t176 x5_2).f1.f1))) wc.drew := ⟨hx181_0, hx181_1, hx181_2, hx181_3, hx182_0, hx182_1, hx182_2, hx182_3⟩
                  obtain ⟨s0_, s1_, s2_, s3_, s4_, s5_, s6_, s7_⟩ := S_
                  replace s0_ := fun q : Hd.HW wc.drew => q.cell s0_
                  replace s1_ := fun q : Hd.HW wc.drew => q.cell s1_
                  replace s2_ := fun q : Hd.HW wc.drew => q.cell s2_
                  replace s3_ := fun q : Hd.HW wc.drew => q.cell s3_
                  replace s4_ := fun q : Hd.HW wc.drew => q.cell s4_
                  replace s5_ := fun q : Hd.HW wc.drew => q.cell s5_
                  replace s6_ := fun q : Hd.HW wc.drew => q.cell s6_
                  replace s7_ := fun q : Hd.HW wc.drew => q.cell s7_
                  refine Hd.HW.region (by kernel_rfl) (by kernel_rfl) ?_
                  repeat (go_big_quiet_step ((first | (go_at_call 129; with_reducible exact Hd.HW.c (spec_HowMeet.calls kj12 ((rd_T111 t176 x4_1).f0.f0) ((rd_T111 t176 x4_1).f0.f1) ((rd_T111 t176 x4_1).f1.f0) ((rd_T111 t176 x4_1).f1.f1) ((rd_T111 t176 x5_2).f0.f0) ((rd_T111 t176 x5_2).f0.f1) ((rd_T111 t176 x5_2).f1.f0) ((rd_T111 t176 x5_2).f1.f1) t183 _ A21.out)))))
                  refine wpQuiet_nil ?_
                  intro _ hq_
                  obtain ⟨q_, rfl⟩ := hq_
                  clear s0_ s1_ s2_ s3_ s4_ s5_ s6_ s7_
                  replace HO_3 := Aside0.mk (Kd.R_below HO_3.out q_.b)
                  replace HB := Aside0.mk (below_step HB.out q_.b)
                  replace hx181_0 := q_.cell hx181_0
                  replace hx181_1 := q_.cell hx181_1
                  replace hx181_2 := q_.cell hx181_2
                  replace hx181_3 := q_.cell hx181_3
                  replace hx182_0 := q_.cell hx182_0
                  replace hx182_1 := q_.cell hx182_1
                  replace hx182_2 := q_.cell hx182_2
                  replace hx182_3 := q_.cell hx182_3
                  generalize q_.W = w26 at HO_3 HB hx181_0 hx181_1 hx181_2 hx181_3 hx182_0 hx182_1 hx182_2 hx182_3 ⊢
                  try simp only [i64_w, i32_w]
                  try go_wp2
                  go_ret
                  exact ⟨Hd.e_, Hd.b_⟩
                ·
                 rw [if_neg c20] at H
                 exact absurd H (by simp)
               ·
                rw [if_neg c19] at H
                exact absurd H (by simp)
              ·
               rw [if_neg c18] at H
               exact absurd H (by simp)
             ·
              rw [if_neg c17] at H
              exact absurd H (by simp)
            ·
             replace c16 := Bool.eq_false_iff.mpr c16
             subst c16
             have H1 : (if 0 ≤ x4_1 then (if x4_1 < (t176.length : Int) then (if 0 ≤ x5_2 then (if x5_2 < (t176.length : Int) then ((spec_HowMeet.f kj12 ((rd_T111 t176 x4_1).f0.f0) ((rd_T111 t176 x4_1).f0.f1) ((rd_T111 t176 x4_1).f1.f0) ((rd_T111 t176 x4_1).f1.f1) ((rd_T111 t176 x5_2).f0.f0) ((rd_T111 t176 x5_2).f0.f1) ((rd_T111 t176 x5_2).f1.f0) ((rd_T111 t176 x5_2).f1.f1)).bind fun t186 => (if t186 = 0 then (spec_IsRing.l1 kj12 t176 x4_1 (wrap64 (x5_2 + 1))) else (some false))) else (none)) else (none)) else (none)) else (none)) = some r := by rw [if_neg (show ¬ (false = true) by decide)] at H; exact H
             clear H
             have H := H1
             clear H1
             by_cases c27 : 0 ≤ x4_1
             ·
              rw [if_pos c27] at H
              have c27b0 : decide (0 ≤ x4_1) = true := decide_eq_true c27
              clear c27
              by_cases c28 : x4_1 < (t176.length : Int)
              ·
               rw [if_pos c28] at H
               have c28b0 : decide (x4_1 < (t176.length : Int)) = true := decide_eq_true c28
               clear c28
               by_cases c29 : 0 ≤ x5_2
               ·
                rw [if_pos c29] at H
                have c29b0 : decide (0 ≤ x5_2) = true := decide_eq_true c29
                clear c29
                by_cases c30 : x5_2 < (t176.length : Int)
                ·
                 rw [if_pos c30] at H
                 have c30b0 : decide (x5_2 < (t176.length : Int)) = true := decide_eq_true c30
                 clear c30
                 replace H := Option.bind_eq_some_iff.mp H
                 obtain ⟨t186, A310, H⟩ := H
                 replace H : (if t186 = 0 then (spec_IsRing.l1 kj12 t176 x4_1 (wrap64 (x5_2 + 1))) else (some false)) = some r := H
                 have A31 := Aside0.mk A310
                 clear A310
                 by_cases c32 : t186 = 0
                 ·
                  rw [if_pos c32] at H
                  have c32b0 : (t186 == 0) = true := beq_iff_eq.mpr c32
                  have c32b1 : (t186 != 0) = false := bne_eq_false_iff_eq.mpr c32
                  clear c32
                  have H' := Aside0.mk H
                  clear H
                  try go_wp2
                  replace HO_3 := Aside0.mk (Kd.R_drew HO_3.out)
                  replace HB := Aside0.mk (below_drew1 HB.out)
                  have p184 : 0 ≤ (x4_1 : Int) := of_decide_eq_true Hd.a_
                  have q184 : x4_1 < (t176.length : Int) := of_decide_eq_true Hd.a_
                  obtain ⟨ad184, e184, hx184_0, hx184_1, hx184_2, hx184_3⟩ := at_T111 (Kd.R_reads' HO_3.out).2.2 x4_1 p184 q184
                  obtain rfl : ad179 = ad184 := (by injection e184)
                  replace p184 := eq_true p184
                  replace q184 := eq_true q184
                  have p185 : 0 ≤ (x5_2 : Int) := of_decide_eq_true Hd.a_
                  have q185 : x5_2 < (t176.length : Int) := of_decide_eq_true Hd.a_
                  obtain ⟨ad185, e185, hx185_0, hx185_1, hx185_2, hx185_3⟩ := at_T111 (Kd.R_reads' HO_3.out).2.2 x5_2 p185 q185
                  obtain rfl : ad179 = ad185 := (by injection e185)
                  replace p185 := eq_true p185
                  replace q185 := eq_true q185
                  have S_ : (fun w' : World => w'.cell? (ad179.add ((x4_1).toNat * 4)) = some (.int .i64 ((rd_T111 t176 x4_1).f0.f0)) ∧ w'.cell? ⟨(ad179.add ((x4_1).toNat * 4)).block, (ad179.add ((x4_1).toNat * 4)).off + 1, none⟩ = some (.int .i64 ((rd_T111 t176 x4_1).f0.f1)) ∧ w'.cell? ⟨(ad179.add ((x4_1).toNat * 4)).block, (ad179.add ((x4_1).toNat * 4)).off + 2, none⟩ = some (.int .i64 ((rd_T111 t176 x4_1).f1.f0)) ∧ w'.cell? ⟨(ad179.add ((x4_1).toNat * 4)).block, (ad179.add ((x4_1).toNat * 4)).off + 3, none⟩ = some (.int .i64 ((rd_T111 t176 x4_1).f1.f1)) ∧ w'.cell? (ad179.add ((x5_2).toNat * 4)) = some (.int .i64 ((rd_T111 t176 x5_2).f0.f0)) ∧ w'.cell? ⟨(ad179.add ((x5_2).toNat * 4)).block, (ad179.add ((x5_2).toNat * 4)).off + 1, none⟩ = some (.int .i64 ((rd_T111 t176 x5_2).f0.f1)) ∧ w'.cell? ⟨(ad179.add ((x5_2).toNat * 4)).block, (ad179.add ((x5_2).toNat * 4)).off + 2, none⟩ = some (.int .i64 ((rd_T111 t176 x5_2).f1.f0)) ∧ w'.cell? ⟨(ad179.add ((x5_2).toNat * 4)).block, (ad179.add ((x5_2).toNat * 4)).off + 3, none⟩ = some (.int .i64 ((rd_T111 t176 x5_2).f1.f1))) wc.drew := ⟨hx184_0, hx184_1, hx184_2, hx184_3, hx185_0, hx185_1, hx185_2, hx185_3⟩
                  obtain ⟨s0_, s1_, s2_, s3_, s4_, s5_, s6_, s7_⟩ := S_
                  replace s0_ := fun q : Hd.HW wc.drew => q.cell s0_
                  replace s1_ := fun q : Hd.HW wc.drew => q.cell s1_
                  replace s2_ := fun q : Hd.HW wc.drew => q.cell s2_
                  replace s3_ := fun q : Hd.HW wc.drew => q.cell s3_
                  replace s4_ := fun q : Hd.HW wc.drew => q.cell s4_
                  replace s5_ := fun q : Hd.HW wc.drew => q.cell s5_
                  replace s6_ := fun q : Hd.HW wc.drew => q.cell s6_
                  replace s7_ := fun q : Hd.HW wc.drew => q.cell s7_
                  refine Hd.HW.region (by kernel_rfl) (by kernel_rfl) ?_
                  repeat (go_big_quiet_step ((first | (go_at_call 129; with_reducible exact Hd.HW.c (spec_HowMeet.calls kj12 ((rd_T111 t176 x4_1).f0.f0) ((rd_T111 t176 x4_1).f0.f1) ((rd_T111 t176 x4_1).f1.f0) ((rd_T111 t176 x4_1).f1.f1) ((rd_T111 t176 x5_2).f0.f0) ((rd_T111 t176 x5_2).f0.f1) ((rd_T111 t176 x5_2).f1.f0) ((rd_T111 t176 x5_2).f1.f1) t186 _ A31.out)))))
                  refine wpQuiet_nil ?_
                  intro _ hq_
                  obtain ⟨q_, rfl⟩ := hq_
                  clear s0_ s1_ s2_ s3_ s4_ s5_ s6_ s7_
                  replace HO_3 := Aside0.mk (Kd.R_below HO_3.out q_.b)
                  replace HB := Aside0.mk (below_step HB.out q_.b)
                  replace hx184_0 := q_.cell hx184_0
                  replace hx184_1 := q_.cell hx184_1
                  replace hx184_2 := q_.cell hx184_2
                  replace hx184_3 := q_.cell hx184_3
                  replace hx185_0 := q_.cell hx185_0
                  replace hx185_1 := q_.cell hx185_1
                  replace hx185_2 := q_.cell hx185_2
                  replace hx185_3 := q_.cell hx185_3
                  generalize q_.W = w34 at HO_3 HB hx184_0 hx184_1 hx184_2 hx184_3 hx185_0 hx185_1 hx185_2 hx185_3 ⊢
                  try simp only [i64_w, i32_w]
                  try go_wp2
                  go_roundg kj12
                  case measure => have := HK1.out; have := HK2.out; have := HJ12.out; omega
                  case rel => exact ⟨(wrap64 (x5_2 + 1)), (by first | rfl | (simp; done) | (simp [*]; done)), H', ⟨by have := HK1.out; have := HK2.out; have := HJ12.out; omega⟩, ⟨by (with_reducible repeat (first | apply Kd.R_alloc | apply Kd.R_drewN | apply Kd.R_drew)); exact HO_3.out⟩, ⟨Hd.b_⟩⟩
                 ·
                  rw [if_neg c32] at H
                  have c32b0 : (t186 == 0) = false := beq_eq_false_iff_ne.mpr c32
                  have c32b1 : (t186 != 0) = true := bne_iff_ne.mpr c32
                  obtain rfl := Option.some.inj H
                  try go_wp2
                  replace HO_3 := Aside0.mk (Kd.R_drew HO_3.out)
                  replace HB := Aside0.mk (below_drew1 HB.out)
                  have p184 : 0 ≤ (x4_1 : Int) := of_decide_eq_true Hd.a_
                  have q184 : x4_1 < (t176.length : Int) := of_decide_eq_true Hd.a_
                  obtain ⟨ad184, e184, hx184_0, hx184_1, hx184_2, hx184_3⟩ := at_T111 (Kd.R_reads' HO_3.out).2.2 x4_1 p184 q184
                  obtain rfl : ad179 = ad184 := (by injection e184)
                  replace p184 := eq_true p184
                  replace q184 := eq_true q184
                  have p185 : 0 ≤ (x5_2 : Int) := of_decide_eq_true Hd.a_
                  have q185 : x5_2 < (t176.length : Int) := of_decide_eq_true Hd.a_
                  obtain ⟨ad185, e185, hx185_0, hx185_1, hx185_2, hx185_3⟩ := at_T111 (Kd.R_reads' HO_3.out).2.2 x5_2 p185 q185
                  obtain rfl : ad179 = ad185 := (by injection e185)
                  replace p185 := eq_true p185
                  replace q185 := eq_true q185
                  have S_ : (fun w' : World => w'.cell? (ad179.add ((x4_1).toNat * 4)) = some (.int .i64 ((rd_T111 t176 x4_1).f0.f0)) ∧ w'.cell? ⟨(ad179.add ((x4_1).toNat * 4)).block, (ad179.add ((x4_1).toNat * 4)).off + 1, none⟩ = some (.int .i64 ((rd_T111 t176 x4_1).f0.f1)) ∧ w'.cell? ⟨(ad179.add ((x4_1).toNat * 4)).block, (ad179.add ((x4_1).toNat * 4)).off + 2, none⟩ = some (.int .i64 ((rd_T111 t176 x4_1).f1.f0)) ∧ w'.cell? ⟨(ad179.add ((x4_1).toNat * 4)).block, (ad179.add ((x4_1).toNat * 4)).off + 3, none⟩ = some (.int .i64 ((rd_T111 t176 x4_1).f1.f1)) ∧ w'.cell? (ad179.add ((x5_2).toNat * 4)) = some (.int .i64 ((rd_T111 t176 x5_2).f0.f0)) ∧ w'.cell? ⟨(ad179.add ((x5_2).toNat * 4)).block, (ad179.add ((x5_2).toNat * 4)).off + 1, none⟩ = some (.int .i64 ((rd_T111 t176 x5_2).f0.f1)) ∧ w'.cell? ⟨(ad179.add ((x5_2).toNat * 4)).block, (ad179.add ((x5_2).toNat * 4)).off + 2, none⟩ = some (.int .i64 ((rd_T111 t176 x5_2).f1.f0)) ∧ w'.cell? ⟨(ad179.add ((x5_2).toNat * 4)).block, (ad179.add ((x5_2).toNat * 4)).off + 3, none⟩ = some (.int .i64 ((rd_T111 t176 x5_2).f1.f1))) wc.drew := ⟨hx184_0, hx184_1, hx184_2, hx184_3, hx185_0, hx185_1, hx185_2, hx185_3⟩
                  obtain ⟨s0_, s1_, s2_, s3_, s4_, s5_, s6_, s7_⟩ := S_
                  replace s0_ := fun q : Hd.HW wc.drew => q.cell s0_
                  replace s1_ := fun q : Hd.HW wc.drew => q.cell s1_
                  replace s2_ := fun q : Hd.HW wc.drew => q.cell s2_
                  replace s3_ := fun q : Hd.HW wc.drew => q.cell s3_
                  replace s4_ := fun q : Hd.HW wc.drew => q.cell s4_
                  replace s5_ := fun q : Hd.HW wc.drew => q.cell s5_
                  replace s6_ := fun q : Hd.HW wc.drew => q.cell s6_
                  replace s7_ := fun q : Hd.HW wc.drew => q.cell s7_
                  refine Hd.HW.region (by kernel_rfl) (by kernel_rfl) ?_
                  repeat (go_big_quiet_step ((first | (go_at_call 129; with_reducible exact Hd.HW.c (spec_HowMeet.calls kj12 ((rd_T111 t176 x4_1).f0.f0) ((rd_T111 t176 x4_1).f0.f1) ((rd_T111 t176 x4_1).f1.f0) ((rd_T111 t176 x4_1).f1.f1) ((rd_T111 t176 x5_2).f0.f0) ((rd_T111 t176 x5_2).f0.f1) ((rd_T111 t176 x5_2).f1.f0) ((rd_T111 t176 x5_2).f1.f1) t186 _ A31.out)))))
                  refine wpQuiet_nil ?_
                  intro _ hq_
                  obtain ⟨q_, rfl⟩ := hq_
                  clear s0_ s1_ s2_ s3_ s4_ s5_ s6_ s7_
                  replace HO_3 := Aside0.mk (Kd.R_below HO_3.out q_.b)
                  replace HB := Aside0.mk (below_step HB.out q_.b)
                  replace hx184_0 := q_.cell hx184_0
                  replace hx184_1 := q_.cell hx184_1
                  replace hx184_2 := q_.cell hx184_2
                  replace hx184_3 := q_.cell hx184_3
                  replace hx185_0 := q_.cell hx185_0
                  replace hx185_1 := q_.cell hx185_1
                  replace hx185_2 := q_.cell hx185_2
                  replace hx185_3 := q_.cell hx185_3
                  generalize q_.W = w36 at HO_3 HB hx184_0 hx184_1 hx184_2 hx184_3 hx185_0 hx185_1 hx185_2 hx185_3 ⊢
                  try simp only [i64_w, i32_w]
                  try go_wp2
                  go_ret
                  exact ⟨Hd.e_, Hd.b_⟩
                ·
                 rw [if_neg c30] at H
                 exact absurd H (by simp)
               ·
                rw [if_neg c29] at H
                exact absurd H (by simp)
              ·
               rw [if_neg c28] at H
               exact absurd H (by simp)
             ·
              rw [if_neg c27] at H
              exact absurd H (by simp)
         ·
          rw [if_neg c12] at H
          have c12b0 : decide (x5_2 < x4_1) = false := decide_eq_false c12
          clear c12
          have H' := Aside0.mk H
          clear H
          go_wp2
          go_roundg k2
          case measure => have := HK1.out; have := HK2.out; omega
          case rel => exact ⟨(wrap64 (x4_1 + 1)), (by first | rfl | (simp; done) | (simp [*]; done)), H', ⟨by have := HK1.out; have := HK2.out; omega⟩, ⟨by (with_reducible repeat (first | apply Kd.R_alloc | apply Kd.R_drewN | apply Kd.R_drew)); exact HO_3.out⟩, ⟨Hd.b_⟩⟩
      ·
       replace c9 := Bool.eq_false_iff.mpr c9
       subst c9
       have H1 : (some false) = some r := by rw [if_neg (show ¬ (false = true) by decide)] at H; exact H
       clear H
       have H := H1
       clear H1
       obtain rfl := Option.some.inj H
       obtain ⟨Ao37, co37, eo37⟩ := Kd.R_slice HO_3.out
       subst eo37
       have p179 : 0 ≤ (x4_1 : Int) := of_decide_eq_true Hd.a_
       have q179 : x4_1 < (t176.length : Int) := of_decide_eq_true Hd.a_
       obtain ⟨ad179, e179, hx179_0, hx179_1, hx179_2, hx179_3⟩ := at_T111 (Kd.R_reads' HO_3.out).2.2 x4_1 p179 q179
       cases e179
       replace p179 := eq_true p179
       replace q179 := eq_true q179
       go_wp2_with (first | ((with_reducible refine gate_callee (f := 137) rfl ?_); refine goesL_ (some 23) rfl rfl Try.func137 (by kernel_rfl) rfl #[.agg #[.int .i64 ((rd_T111 t176 x4_1).f0.f0), .int .i64 ((rd_T111 t176 x4_1).f0.f1), .int .i64 ((rd_T111 t176 x4_1).f1.f0), .int .i64 ((rd_T111 t176 x4_1).f1.f1)]] rfl Hd.m_ ?_; (with_reducible refine (spec_IsSegment.calls ((rd_T111 t176 x4_1).f0.f0) ((rd_T111 t176 x4_1).f0.f1) ((rd_T111 t176 x4_1).f1.f0) ((rd_T111 t176 x4_1).f1.f1) false _ A8.out).mono ?_); rintro e w38 ⟨rfl, hb⟩; refine ⟨_, rfl, ?_⟩; replace HO_3 := Aside0.mk (Kd.R_below (Hd.r_ HO_3) hb); replace HB := Aside0.mk (below_step Hd.b_ hb); (try clear hb); (try clear hb2); (try clear hk); (try clear hi)))
       go_ret
       exact ⟨Hd.e_, Hd.b_⟩
     ·
      rw [if_neg c7] at H
      exact absurd H (by simp)
    ·
     rw [if_neg c6] at H
     have c6b0 : decide (x4_1 < (t176.length : Int)) = false := decide_eq_false c6
     clear c6
     obtain rfl := Option.some.inj H
     obtain ⟨Ao39, co39, eo39⟩ := Kd.R_slice HO_3.out
     subst eo39
     go_wp2
     go_ret
     exact ⟨Hd.e_, Hd.b_⟩
 ·
  replace c3 := Bool.eq_false_iff.mpr c3
  subst c3
  have H1 : (some false) = some r := by rw [if_neg (show ¬ (false = true) by decide)] at H; exact H
  clear H
  have H := H1
  clear H1
  obtain rfl := Option.some.inj H
  go_enter Try.func82, Try.ntmps82
  go_wp2_with (first | ((with_reducible refine gate_callee (f := 83) rfl ?_); refine goesL_ (some 9) rfl rfl Try.func83 (by kernel_rfl) rfl #[.int .i64 (l0.length : Int), .int .i64 3, .int .i64 10] rfl Hd.m_ ?_; (with_reducible refine (spec_l1In.calls (l0.length : Int) 3 10 false _ A2.out).mono ?_); rintro e w' ⟨rfl, ⟨nd, rfl⟩⟩; refine ⟨_, rfl, ?_⟩))
  go_ret
  exact ⟨Hd.e_, Hd.b_⟩

end Go.Proofs.Ytchmbcembbbplac.MFnExactIsFeature
