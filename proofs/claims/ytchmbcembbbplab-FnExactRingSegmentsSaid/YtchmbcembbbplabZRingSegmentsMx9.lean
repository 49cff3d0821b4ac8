-- Laid by this session's program pp.py, after the kit's print and texts of the session's own. Not trusted: Lean checks it.
import Derived.Test.YtchmbcembbbplabZRingSegmentsMx0
import Derived.Test.YtchmbcembbbplabZRingSegmentsMx2
import Derived.Test.YtchmbcembbbplabZRingSegmentsMx5
import Derived.Test.YtchmbcembbbplabZRingSegmentsMx6
import Derived.Test.YtchmbcembbbplabZRingSegmentsMx8
namespace Go.Proofs.Ytchmbcembbbplab.MFnExactRingSegments
open Go.RowKit Go.Proofs.YtchmbcembbbplabW.PrintWords Go.Proofs.YtchmbcembbbplabW.PrintLast Go.Proofs.YtchmbcembbbplabW.PrintMore
attribute [local go_sem] max2_int min2_int max_two min_two max_three min_three max_four min_four   -- for this text's walks alone
set_option linter.unusedVariables false
set_option linter.unusedSimpArgs false
mutual
def spec_IsRing.l0 : Nat → List (S60) → Int → Option (Bool)
 | 0, _, _ => none
 | k + 1, x3, x4 => if x4 < (x3.length : Int) then (if 0 ≤ x4 then ((spec_IsSegment.f ((rd_T60 x3 x4).f0.f0) ((rd_T60 x3 x4).f0.f1) ((rd_T60 x3 x4).f1.f0) ((rd_T60 x3 x4).f1.f1)).bind fun t284 => (if t284 = true then (spec_IsRing.l1 k x3 x4 0) else (some false))) else (none)) else (some true)
def spec_IsRing.l1 : Nat → List (S60) → Int → Int → Option (Bool)
 | 0, _, _, _ => none
 | k + 1, x3, x4, x5 => if x5 < x4 then (if (wrap64 (x5 + 1)) = x4 then (spec_IsRing.j2 k x3 x4 x5 0 true) else (if x5 = 0 then (spec_IsRing.j2 k x3 x4 x5 0 ((wrap64 (x4 + 1)) == (x3.length : Int))) else (spec_IsRing.j2 k x3 x4 x5 0 false))) else (spec_IsRing.l0 k x3 (wrap64 (x4 + 1)))
def spec_IsRing.j2 : Nat → List (S60) → Int → Int → Int → Bool → Option (Bool)
 | 0, _, _, _, _, _ => none
 | k + 1, x3, x4, x5, x6, x44 => if x44 = true then (if 0 ≤ x4 then (if x4 < (x3.length : Int) then (if 0 ≤ x5 then (if x5 < (x3.length : Int) then ((spec_HowMeet.f k ((rd_T60 x3 x4).f0.f0) ((rd_T60 x3 x4).f0.f1) ((rd_T60 x3 x4).f1.f0) ((rd_T60 x3 x4).f1.f1) ((rd_T60 x3 x5).f0.f0) ((rd_T60 x3 x5).f0.f1) ((rd_T60 x3 x5).f1.f0) ((rd_T60 x3 x5).f1.f1)).bind fun t287 => (if t287 = 1 then (spec_IsRing.l1 k x3 x4 (wrap64 (x5 + 1))) else (some false))) else (none)) else (none)) else (none)) else (none)) else (if 0 ≤ x4 then (if x4 < (x3.length : Int) then (if 0 ≤ x5 then (if x5 < (x3.length : Int) then ((spec_HowMeet.f k ((rd_T60 x3 x4).f0.f0) ((rd_T60 x3 x4).f0.f1) ((rd_T60 x3 x4).f1.f0) ((rd_T60 x3 x4).f1.f1) ((rd_T60 x3 x5).f0.f0) ((rd_T60 x3 x5).f0.f1) ((rd_T60 x3 x5).f1.f0) ((rd_T60 x3 x5).f1.f1)).bind fun t290 => (if t290 = x6 then (spec_IsRing.l1 k x3 x4 (wrap64 (x5 + 1))) else (some false))) else (none)) else (none)) else (none)) else (none))
end
def spec_IsRing.f (k : Nat) (l0 : List (S27)) : Option (Bool) := (spec_l1In.f (l0.length : Int) 3 10).bind fun t279 => (if t279 = true then ((spec_l7Segments.f k l0).bind fun t280 => (spec_IsRing.l0 k t280 0)) else (some false))
set_option maxHeartbeats 8000000 in
set_option maxRecDepth 100000 in
theorem spec_IsRing.calls (k : Nat) (A0 : Option Addr) (c0 : Nat) (l0 : List (S27)) (r : Bool) (w : World) (hr0 : Kd.C k27 w A0 l0.length l0) (hc0 : l0.length ≤ c0) (h : spec_IsRing.f k l0 = some r) :
  Calls Try.prog 98 #[.slice A0 l0.length c0] w fun e w' => e = .returned (.bool r) ∧ Below w.heap.size w w' := by
 have hu60 := Try.underlying60
 have HR0 := Aside0.mk hr0
 have HC0 := Aside0.mk hc0
 clear hr0 hc0
 have HB := Aside0.mk (Below.refl w.heap.size w)
 have H : ((spec_l1In.f (l0.length : Int) 3 10).bind fun t279 => (if t279 = true then ((spec_l7Segments.f k l0).bind fun t280 => (spec_IsRing.l0 k t280 0)) else (some false))) = some r := h
 clear h
 replace H := Option.bind_eq_some_iff.mp H
 obtain ⟨t279, A20, H⟩ := H
 replace H : (if t279 = true then ((spec_l7Segments.f k l0).bind fun t280 => (spec_IsRing.l0 k t280 0)) else (some false)) = some r := H
 have A2 := Aside0.mk A20
 clear A20
 by_cases c3 : t279 = true
 ·
  subst c3
  have H1 : ((spec_l7Segments.f k l0).bind fun t280 => (spec_IsRing.l0 k t280 0)) = some r := by rw [if_pos rfl] at H; exact H
  clear H
  have H := H1
  clear H1
  replace H := Option.bind_eq_some_iff.mp H
  obtain ⟨t280, A40, H⟩ := H
  replace H : (spec_IsRing.l0 k t280 0) = some r := H
  have A4 := Aside0.mk A40
  clear A40
  have H' := Aside0.mk H
  clear H
  go_enter Try.func98, Try.ntmps98
  go_wp2_with (first | ((with_reducible refine gate_callee (f := 88) rfl ?_); refine goesL_ (some 9) rfl rfl Try.func88 (by kernel_rfl) rfl #[.int .i64 (l0.length : Int), .int .i64 3, .int .i64 10] rfl Hd.m_ ?_; (with_reducible refine (spec_l1In.calls (l0.length : Int) 3 10 true _ A2.out).mono ?_); rintro e w' ⟨rfl, ⟨nd, rfl⟩⟩; refine ⟨_, rfl, ?_⟩) | ((with_reducible refine gate_callee (f := 112) rfl ?_); refine goesL_ (some 12) rfl rfl Try.func112 (by kernel_rfl) rfl #[.slice A0 l0.length c0] rfl Hd.m_ ?_; (with_reducible refine (spec_l7Segments.calls k _ _ l0 t280 _ ?side1 ?side2 A4.out).mono ?_); (case side1 => repeat (first | exact HR0.out | (with_reducible refine Kd.C_alloc ?_ _) | (with_reducible refine Kd.C_drewN ?_ _) | (with_reducible refine Kd.C_drew ?_))); (case side2 => exact HC0.out); rintro e w5 ⟨v281, rfl, ho0, hb⟩; refine ⟨_, rfl, ?_⟩; have HO282 := Aside0.mk (Kd.R_lower ho0 (below_size Hd.b_)); replace HB := Aside0.mk (below_step Hd.b_ hb); (try clear hb); (try clear hb2); (try clear hk); (try clear hi); (try clear ho0)))
  go_loopg [4] k (fun kq v4 w' => ∃ (x4_1 : Int), v4 = .int .i64 x4_1 ∧ Aside0 (spec_IsRing.l0 kq t280 x4_1 = some r) ∧ Aside0 (kq ≤ k) ∧ Aside0 (Kd.R k60 60 w' w.heap.size (fun _ => True) v281 t280) ∧ Aside0 (Below w.heap.size w w'))
  case atStart => exact ⟨(0), (by first | rfl | (simp; done) | (simp [*]; done)), H', ⟨Nat.le_refl _⟩, ⟨by (with_reducible repeat (first | apply Kd.R_alloc | apply Kd.R_drewN | apply Kd.R_drew)); exact HO282.out⟩, ⟨Hd.b_⟩⟩
  case round =>
   clear H'
   try clear c1
   try clear p2
   try clear c3
   obtain ⟨x4_1, rfl, HA, HK1, HO_3, HB⟩ := hrel
   cases gk with
   | zero => exact absurd HA.out (by simp [spec_IsRing.l0])
   | succ k1 =>
    have H := HA.out
    clear HA
    simp only [spec_IsRing.l0] at H
    by_cases c6 : x4_1 < (t280.length : Int)
    ·
     rw [if_pos c6] at H
     have c6b0 : decide (x4_1 < (t280.length : Int)) = true := decide_eq_true c6
     clear c6
     by_cases c7 : 0 ≤ x4_1
     ·
      rw [if_pos c7] at H
      have c7b0 : decide (0 ≤ x4_1) = true := decide_eq_true c7
      clear c7
      replace H := Option.bind_eq_some_iff.mp H
      obtain ⟨t284, A80, H⟩ := H
      replace H : (if t284 = true then (spec_IsRing.l1 k1 t280 x4_1 0) else (some false)) = some r := H
      have A8 := Aside0.mk A80
      clear A80
      by_cases c9 : t284 = true
      ·
       subst c9
       have H1 : (spec_IsRing.l1 k1 t280 x4_1 0) = some r := by rw [if_pos rfl] at H; exact H
       clear H
       have H := H1
       clear H1
       have H' := Aside0.mk H
       clear H
       obtain ⟨Ao10, co10, eo10⟩ := Kd.R_slice HO_3.out
       subst eo10
       have p283 : 0 ≤ (x4_1 : Int) := of_decide_eq_true Hd.a_
       have q283 : x4_1 < (t280.length : Int) := of_decide_eq_true Hd.a_
       obtain ⟨ad283, e283, hx283_0, hx283_1, hx283_2, hx283_3⟩ := at_T60 (Kd.R_reads' HO_3.out).2.2 x4_1 p283 q283
       cases e283
       replace p283 := eq_true p283
       replace q283 := eq_true q283
       go_wp2_with (first | ((with_reducible refine gate_callee (f := 118) rfl ?_); refine goesL_ (some 23) rfl rfl Try.func118 (by kernel_rfl) rfl #[.agg #[.int .i64 ((rd_T60 t280 x4_1).f0.f0), .int .i64 ((rd_T60 t280 x4_1).f0.f1), .int .i64 ((rd_T60 t280 x4_1).f1.f0), .int .i64 ((rd_T60 t280 x4_1).f1.f1)]] rfl Hd.m_ ?_; (with_reducible refine (spec_IsSegment.calls ((rd_T60 t280 x4_1).f0.f0) ((rd_T60 t280 x4_1).f0.f1) ((rd_T60 t280 x4_1).f1.f0) ((rd_T60 t280 x4_1).f1.f1) true _ A8.out).mono ?_); rintro e w11 ⟨rfl, hb⟩; refine ⟨_, rfl, ?_⟩; replace HO_3 := Aside0.mk (Kd.R_below (Hd.r_ HO_3) hb); replace HB := Aside0.mk (below_step Hd.b_ hb); (try clear hb); (try clear hb2); (try clear hk); (try clear hi)))
       go_loopg [5] k1 (fun kq v5 w' => ∃ (x5_2 : Int), v5 = .int .i64 x5_2 ∧ Aside0 (spec_IsRing.l1 kq t280 x4_1 x5_2 = some r) ∧ Aside0 (kq ≤ k1) ∧ Aside0 (Kd.R k60 60 w' w.heap.size (fun _ => True) (.slice (some ad283) t280.length co10) t280) ∧ Aside0 (Below w.heap.size w w'))
       case atStart => exact ⟨(0), (by first | rfl | (simp; done) | (simp [*]; done)), H', ⟨Nat.le_refl _⟩, ⟨by (with_reducible repeat (first | apply Kd.R_alloc | apply Kd.R_drewN | apply Kd.R_drew)); exact HO_3.out⟩, ⟨Hd.b_⟩⟩
       case round =>
        clear H'
        try clear c1
        try clear p2
        try clear q2
        try clear hx2
        try clear c3
        try clear c6
        try clear c6b0
        try clear c7
        try clear c7b0
        try clear c8
        try clear c9
        try clear c11
        try clear hx283_0
        try clear hx283_1
        try clear hx283_2
        try clear hx283_3
        try clear p2
        try clear p283
        try clear q283
        obtain ⟨x5_2, rfl, HA, HK2, HO_3, HB⟩ := hrel
        cases gk with
        | zero => exact absurd HA.out (by simp [spec_IsRing.l1])
        | succ k2 =>
         have H := HA.out
         clear HA
         simp only [spec_IsRing.l1] at H
         by_cases c12 : x5_2 < x4_1
         ·
          rw [if_pos c12] at H
          have c12b0 : decide (x5_2 < x4_1) = true := decide_eq_true c12
          clear c12
          have HC13 := Aside0.mk H
          clear H
          go_upto_region 13 with (fail)
          go_cut [44] (fun v44 wc => ∃ (kq : Nat) (x44_12 : Bool), v44 = .bool x44_12 ∧ Aside0 (spec_IsRing.j2 kq t280 x4_1 x5_2 0 x44_12 = some r) ∧ Aside0 (kq ≤ k2) ∧ Aside0 (Kd.R k60 60 wc w.heap.size (fun _ => True) (.slice (some ad283) t280.length co10) t280) ∧ Aside0 (Below w.heap.size w wc))
          case first =>
           have H := HC13.out
           clear HC13
           by_cases c14 : (wrap64 (x5_2 + 1)) = x4_1
           ·
            rw [if_pos c14] at H
            have c14b0 : ((wrap64 (x5_2 + 1)) == x4_1) = true := beq_iff_eq.mpr c14
            have c14b1 : ((wrap64 (x5_2 + 1)) != x4_1) = false := bne_eq_false_iff_eq.mpr c14
            clear c14
            (first | rw [c14b0] | (simp only [i64_w, i32_w]; rw [c14b0]) | skip)
            have H' := Aside0.mk H
            clear H
            go_wp2
            go_meet
            case rel => exact ⟨_, (true), (by first | rfl | (simp; done) | (simp [*]; done)), H', ⟨by have := HK1.out; have := HK2.out; first | omega | exact Nat.le_refl _⟩, ⟨by (with_reducible repeat (first | apply Kd.R_alloc | apply Kd.R_drewN | apply Kd.R_drew)); exact HO_3.out⟩, ⟨Hd.b_⟩⟩
           ·
            rw [if_neg c14] at H
            have c14b0 : ((wrap64 (x5_2 + 1)) == x4_1) = false := beq_eq_false_iff_ne.mpr c14
            have c14b1 : ((wrap64 (x5_2 + 1)) != x4_1) = true := bne_iff_ne.mpr c14
            (first | rw [c14b0] | (simp only [i64_w, i32_w]; rw [c14b0]) | skip)
            by_cases c15 : x5_2 = 0
            ·
             rw [if_pos c15] at H
             have c15b0 : (x5_2 == 0) = true := beq_iff_eq.mpr c15
             have c15b1 : (x5_2 != 0) = false := bne_eq_false_iff_eq.mpr c15
             clear c15
             have H' := Aside0.mk H
             clear H
             go_wp2
             go_meet
             case rel => exact ⟨_, (((wrap64 (x4_1 + 1)) == (t280.length : Int))), (by first | rfl | (simp; done) | (simp [*]; done)), H', ⟨by have := HK1.out; have := HK2.out; first | omega | exact Nat.le_refl _⟩, ⟨by (with_reducible repeat (first | apply Kd.R_alloc | apply Kd.R_drewN | apply Kd.R_drew)); exact HO_3.out⟩, ⟨Hd.b_⟩⟩
            ·
             rw [if_neg c15] at H
             have c15b0 : (x5_2 == 0) = false := beq_eq_false_iff_ne.mpr c15
             have c15b1 : (x5_2 != 0) = true := bne_iff_ne.mpr c15
             have H' := Aside0.mk H
             clear H
             go_wp2
             go_meet
             case rel => exact ⟨_, (false), (by first | rfl | (simp; done) | (simp [*]; done)), H', ⟨by have := HK1.out; have := HK2.out; first | omega | exact Nat.le_refl _⟩, ⟨by (with_reducible repeat (first | apply Kd.R_alloc | apply Kd.R_drewN | apply Kd.R_drew)); exact HO_3.out⟩, ⟨Hd.b_⟩⟩
          case rest =>
           clear HC13
           try clear c1
           try clear p2
           try clear q2
           try clear hx2
           try clear c3
           try clear c6
           try clear c6b0
           try clear p6
           try clear c7
           try clear c7b0
           try clear c8
           try clear c9
           try clear c11
           try clear c12
           try clear c12b0
           try clear c14
           try clear c14b0
           try clear c14b1
           try clear c15
           try clear c15b0
           try clear c15b1
           try clear hx283_0
           try clear hx283_1
           try clear hx283_2
           try clear hx283_3
           try clear p2
           try clear p283
           try clear q2
           try clear q283
           obtain ⟨kq, x44_12, rfl, HA, HJ12, HO_3, HB⟩ := hcut
           cases kq with
           | zero => exact absurd HA.out (by simp [spec_IsRing.j2])
           | succ kj12 =>
            have H := HA.out
            clear HA
            simp only [spec_IsRing.j2] at H
            by_cases c16 : x44_12 = true
            ·
             subst c16
             have H1 : (if 0 ≤ x4_1 then (if x4_1 < (t280.length : Int) then (if 0 ≤ x5_2 then (if x5_2 < (t280.length : Int) then ((spec_HowMeet.f kj12 ((rd_T60 t280 x4_1).f0.f0) ((rd_T60 t280 x4_1).f0.f1) ((rd_T60 t280 x4_1).f1.f0) ((rd_T60 t280 x4_1).f1.f1) ((rd_T60 t280 x5_2).f0.f0) ((rd_T60 t280 x5_2).f0.f1) ((rd_T60 t280 x5_2).f1.f0) ((rd_T60 t280 x5_2).f1.f1)).bind fun t287 => (if t287 = 1 then (spec_IsRing.l1 kj12 t280 x4_1 (wrap64 (x5_2 + 1))) else (some false))) else (none)) else (none)) else (none)) else (none)) = some r := by rw [if_pos rfl] at H; exact H
             clear H
             have H := H1
             clear H1
             by_cases c17 : 0 ≤ x4_1
             ·
              rw [if_pos c17] at H
              have c17b0 : decide (0 ≤ x4_1) = true := decide_eq_true c17
              clear c17
              by_cases c18 : x4_1 < (t280.length : Int)
              ·
               rw [if_pos c18] at H
               have c18b0 : decide (x4_1 < (t280.length : Int)) = true := decide_eq_true c18
               clear c18
               by_cases c19 : 0 ≤ x5_2
               ·
                rw [if_pos c19] at H
                have c19b0 : decide (0 ≤ x5_2) = true := decide_eq_true c19
                clear c19
                by_cases c20 : x5_2 < (t280.length : Int)
                ·
                 rw [if_pos c20] at H
                 have c20b0 : decide (x5_2 < (t280.length : Int)) = true := decide_eq_true c20
                 clear c20
                 replace H := Option.bind_eq_some_iff.mp H
                 obtain ⟨t287, A210, H⟩ := H
                 replace H : (if t287 = 1 then (spec_IsRing.l1 kj12 t280 x4_1 (wrap64 (x5_2 + 1))) else (some false)) = some r := H
                 have A21 := Aside0.mk A210
                 clear A210
                 by_cases c22 : t287 = 1
                 ·
                  rw [if_pos c22] at H
                  have c22b0 : (t287 == 1) = true := beq_iff_eq.mpr c22
                  have c22b1 : (t287 != 1) = false := bne_eq_false_iff_eq.mpr c22
                  clear c22
                  have H' := Aside0.mk H
                  clear H
                  try go_wp2
                  replace HO_3 := Aside0.mk (Kd.R_drew HO_3.out)
                  replace HB := Aside0.mk (below_drew1 HB.out)
                  have p285 : 0 ≤ (x4_1 : Int) := of_decide_eq_true Hd.a_
                  have q285 : x4_1 < (t280.length : Int) := of_decide_eq_true Hd.a_
                  obtain ⟨ad285, e285, hx285_0, hx285_1, hx285_2, hx285_3⟩ := at_T60 (Kd.R_reads' HO_3.out).2.2 x4_1 p285 q285
                  obtain rfl : ad283 = ad285 := (by injection e285)
                  replace p285 := eq_true p285
                  replace q285 := eq_true q285
                  have p286 : 0 ≤ (x5_2 : Int) := of_decide_eq_true Hd.a_
                  have q286 : x5_2 < (t280.length : Int) := of_decide_eq_true Hd.a_
                  obtain ⟨ad286, e286, hx286_0, hx286_1, hx286_2, hx286_3⟩ := at_T60 (Kd.R_reads' HO_3.out).2.2 x5_2 p286 q286
                  obtain rfl : ad283 = ad286 := (by injection e286)
                  replace p286 := eq_true p286
                  replace q286 := eq_true q286
                  have s0_ := Hd.HW.x (W0 := wc.drew) hx285_0
                  have s1_ := Hd.HW.x (W0 := wc.drew) hx285_1
                  have s2_ := Hd.HW.x (W0 := wc.drew) hx285_2
                  have s3_ := Hd.HW.x (W0 := wc.drew) hx285_3
                  have s4_ := Hd.HW.x (W0 := wc.drew) hx286_0
                  have s5_ := Hd.HW.x (W0 := wc.drew) hx286_1
                  have s6_ := Hd.HW.x (W0 := wc.drew) hx286_2
                  have s7_ := Hd.HW.x (W0 := wc.drew) hx286_3
                  refine Hd.HW.region (by kernel_rfl) (by kernel_rfl) ?_
                  repeat (go_big_quiet_step ((first | (go_at_call 127; with_reducible exact Hd.HW.c (spec_HowMeet.calls kj12 ((rd_T60 t280 x4_1).f0.f0) ((rd_T60 t280 x4_1).f0.f1) ((rd_T60 t280 x4_1).f1.f0) ((rd_T60 t280 x4_1).f1.f1) ((rd_T60 t280 x5_2).f0.f0) ((rd_T60 t280 x5_2).f0.f1) ((rd_T60 t280 x5_2).f1.f0) ((rd_T60 t280 x5_2).f1.f1) t287 _ A21.out)))))
                  refine wpQuiet_nil ?_
                  intro _ hq_
                  obtain ⟨q_, rfl⟩ := hq_
                  clear s0_ s1_ s2_ s3_ s4_ s5_ s6_ s7_
                  replace HO_3 := Aside0.mk (Kd.R_below HO_3.out q_.b)
                  replace HB := Aside0.mk (below_step HB.out q_.b)
                  replace hx285_0 := q_.cell hx285_0
                  replace hx285_1 := q_.cell hx285_1
                  replace hx285_2 := q_.cell hx285_2
                  replace hx285_3 := q_.cell hx285_3
                  replace hx286_0 := q_.cell hx286_0
                  replace hx286_1 := q_.cell hx286_1
                  replace hx286_2 := q_.cell hx286_2
                  replace hx286_3 := q_.cell hx286_3
                  generalize q_.W = w24 at HO_3 HB hx285_0 hx285_1 hx285_2 hx285_3 hx286_0 hx286_1 hx286_2 hx286_3 ⊢
                  try simp only [i64_w, i32_w]
                  try go_wp2
                  go_roundg kj12
                  case measure => have := HK1.out; have := HK2.out; have := HJ12.out; omega
                  case rel => exact ⟨(wrap64 (x5_2 + 1)), (by first | rfl | (simp; done) | (simp [*]; done)), H', ⟨by have := HK1.out; have := HK2.out; have := HJ12.out; omega⟩, ⟨by (with_reducible repeat (first | apply Kd.R_alloc | apply Kd.R_drewN | apply Kd.R_drew)); exact HO_3.out⟩, ⟨Hd.b_⟩⟩
                 ·
                  rw [if_neg c22] at H
                  have c22b0 : (t287 == 1) = false := beq_eq_false_iff_ne.mpr c22
                  have c22b1 : (t287 != 1) = true := bne_iff_ne.mpr c22
                  obtain rfl := Option.some.inj H
                  try go_wp2
                  replace HO_3 := Aside0.mk (Kd.R_drew HO_3.out)
                  replace HB := Aside0.mk (below_drew1 HB.out)
                  have p285 : 0 ≤ (x4_1 : Int) := of_decide_eq_true Hd.a_
                  have q285 : x4_1 < (t280.length : Int) := of_decide_eq_true Hd.a_
                  obtain ⟨ad285, e285, hx285_0, hx285_1, hx285_2, hx285_3⟩ := at_T60 (Kd.R_reads' HO_3.out).2.2 x4_1 p285 q285
                  obtain rfl : ad283 = ad285 := (by injection e285)
                  replace p285 := eq_true p285
                  replace q285 := eq_true q285
                  have p286 : 0 ≤ (x5_2 : Int) := of_decide_eq_true Hd.a_
                  have q286 : x5_2 < (t280.length : Int) := of_decide_eq_true Hd.a_
                  obtain ⟨ad286, e286, hx286_0, hx286_1, hx286_2, hx286_3⟩ := at_T60 (Kd.R_reads' HO_3.out).2.2 x5_2 p286 q286
                  obtain rfl : ad283 = ad286 := (by injection e286)
                  replace p286 := eq_true p286
                  replace q286 := eq_true q286
                  have s0_ := Hd.HW.x (W0 := wc.drew) hx285_0
                  have s1_ := Hd.HW.x (W0 := wc.drew) hx285_1
                  have s2_ := Hd.HW.x (W0 := wc.drew) hx285_2
                  have s3_ := Hd.HW.x (W0 := wc.drew) hx285_3
                  have s4_ := Hd.HW.x (W0 := wc.drew) hx286_0
                  have s5_ := Hd.HW.x (W0 := wc.drew) hx286_1
                  have s6_ := Hd.HW.x (W0 := wc.drew) hx286_2
                  have s7_ := Hd.HW.x (W0 := wc.drew) hx286_3
                  refine Hd.HW.region (by kernel_rfl) (by kernel_rfl) ?_
                  repeat (go_big_quiet_step ((first | (go_at_call 127; with_reducible exact Hd.HW.c (spec_HowMeet.calls kj12 ((rd_T60 t280 x4_1).f0.f0) ((rd_T60 t280 x4_1).f0.f1) ((rd_T60 t280 x4_1).f1.f0) ((rd_T60 t280 x4_1).f1.f1) ((rd_T60 t280 x5_2).f0.f0) ((rd_T60 t280 x5_2).f0.f1) ((rd_T60 t280 x5_2).f1.f0) ((rd_T60 t280 x5_2).f1.f1) t287 _ A21.out)))))
                  refine wpQuiet_nil ?_
                  intro _ hq_
                  obtain ⟨q_, rfl⟩ := hq_
                  clear s0_ s1_ s2_ s3_ s4_ s5_ s6_ s7_
                  replace HO_3 := Aside0.mk (Kd.R_below HO_3.out q_.b)
                  replace HB := Aside0.mk (below_step HB.out q_.b)
                  replace hx285_0 := q_.cell hx285_0
                  replace hx285_1 := q_.cell hx285_1
                  replace hx285_2 := q_.cell hx285_2
                  replace hx285_3 := q_.cell hx285_3
                  replace hx286_0 := q_.cell hx286_0
                  replace hx286_1 := q_.cell hx286_1
                  replace hx286_2 := q_.cell hx286_2
                  replace hx286_3 := q_.cell hx286_3
                  generalize q_.W = w26 at HO_3 HB hx285_0 hx285_1 hx285_2 hx285_3 hx286_0 hx286_1 hx286_2 hx286_3 ⊢
                  try simp only [i64_w, i32_w]
                  try go_wp2
                  go_ret
                  exact ⟨Hd.e_, Hd.b_⟩
                ·
                 rw [if_neg c20] at H
                 exact absurd H (by simp)
               ·
                rw [if_neg c19] at H
                exact absurd H (by simp)
              ·
               rw [if_neg c18] at H
               exact absurd H (by simp)
             ·
              rw [if_neg c17] at H
              exact absurd H (by simp)
            ·
             replace c16 := Bool.eq_false_iff.mpr c16
             subst c16
             have H1 : (if 0 ≤ x4_1 then (if x4_1 < (t280.length : Int) then (if 0 ≤ x5_2 then (if x5_2 < (t280.length : Int) then ((spec_HowMeet.f kj12 ((rd_T60 t280 x4_1).f0.f0) ((rd_T60 t280 x4_1).f0.f1) ((rd_T60 t280 x4_1).f1.f0) ((rd_T60 t280 x4_1).f1.f1) ((rd_T60 t280 x5_2).f0.f0) ((rd_T60 t280 x5_2).f0.f1) ((rd_T60 t280 x5_2).f1.f0) ((rd_T60 t280 x5_2).f1.f1)).bind fun t290 => (if t290 = 0 then (spec_IsRing.l1 kj12 t280 x4_1 (wrap64 (x5_2 + 1))) else (some false))) else (none)) else (none)) else (none)) else (none)) = some r := by rw [if_neg (show ¬ (false = true) by decide)] at H; exact H
             clear H
             have H := H1
             clear H1
             by_cases c27 : 0 ≤ x4_1
             ·
              rw [if_pos c27] at H
              have c27b0 : decide (0 ≤ x4_1) = true := decide_eq_true c27
              clear c27
              by_cases c28 : x4_1 < (t280.length : Int)
              ·
               rw [if_pos c28] at H
               have c28b0 : decide (x4_1 < (t280.length : Int)) = true := decide_eq_true c28
               clear c28
               by_cases c29 : 0 ≤ x5_2
               ·
                rw [if_pos c29] at H
                have c29b0 : decide (0 ≤ x5_2) = true := decide_eq_true c29
                clear c29
                by_cases c30 : x5_2 < (t280.length : Int)
                ·
                 rw [if_pos c30] at H
                 have c30b0 : decide (x5_2 < (t280.length : Int)) = true := decide_eq_true c30
                 clear c30
                 replace H := Option.bind_eq_some_iff.mp H
                 obtain ⟨t290, A310, H⟩ := H
                 replace H : (if t290 = 0 then (spec_IsRing.l1 kj12 t280 x4_1 (wrap64 (x5_2 + 1))) else (some false)) = some r := H
                 have A31 := Aside0.mk A310
                 clear A310
                 by_cases c32 : t290 = 0
                 ·
                  rw [if_pos c32] at H
                  have c32b0 : (t290 == 0) = true := beq_iff_eq.mpr c32
                  have c32b1 : (t290 != 0) = false := bne_eq_false_iff_eq.mpr c32
                  clear c32
                  have H' := Aside0.mk H
                  clear H
                  try go_wp2
                  replace HO_3 := Aside0.mk (Kd.R_drew HO_3.out)
                  replace HB := Aside0.mk (below_drew1 HB.out)
                  have p288 : 0 ≤ (x4_1 : Int) := of_decide_eq_true Hd.a_
                  have q288 : x4_1 < (t280.length : Int) := of_decide_eq_true Hd.a_
                  obtain ⟨ad288, e288, hx288_0, hx288_1, hx288_2, hx288_3⟩ := at_T60 (Kd.R_reads' HO_3.out).2.2 x4_1 p288 q288
                  obtain rfl : ad283 = ad288 := (by injection e288)
                  replace p288 := eq_true p288
                  replace q288 := eq_true q288
                  have p289 : 0 ≤ (x5_2 : Int) := of_decide_eq_true Hd.a_
                  have q289 : x5_2 < (t280.length : Int) := of_decide_eq_true Hd.a_
                  obtain ⟨ad289, e289, hx289_0, hx289_1, hx289_2, hx289_3⟩ := at_T60 (Kd.R_reads' HO_3.out).2.2 x5_2 p289 q289
                  obtain rfl : ad283 = ad289 := (by injection e289)
                  replace p289 := eq_true p289
                  replace q289 := eq_true q289
                  have s0_ := Hd.HW.x (W0 := wc.drew) hx288_0
                  have s1_ := Hd.HW.x (W0 := wc.drew) hx288_1
                  have s2_ := Hd.HW.x (W0 := wc.drew) hx288_2
                  have s3_ := Hd.HW.x (W0 := wc.drew) hx288_3
                  have s4_ := Hd.HW.x (W0 := wc.drew) hx289_0
                  have s5_ := Hd.HW.x (W0 := wc.drew) hx289_1
                  have s6_ := Hd.HW.x (W0 := wc.drew) hx289_2
                  have s7_ := Hd.HW.x (W0 := wc.drew) hx289_3
                  refine Hd.HW.region (by kernel_rfl) (by kernel_rfl) ?_
                  repeat (go_big_quiet_step ((first | (go_at_call 127; with_reducible exact Hd.HW.c (spec_HowMeet.calls kj12 ((rd_T60 t280 x4_1).f0.f0) ((rd_T60 t280 x4_1).f0.f1) ((rd_T60 t280 x4_1).f1.f0) ((rd_T60 t280 x4_1).f1.f1) ((rd_T60 t280 x5_2).f0.f0) ((rd_T60 t280 x5_2).f0.f1) ((rd_T60 t280 x5_2).f1.f0) ((rd_T60 t280 x5_2).f1.f1) t290 _ A31.out)))))
                  refine wpQuiet_nil ?_
                  intro _ hq_
                  obtain ⟨q_, rfl⟩ := hq_
                  clear s0_ s1_ s2_ s3_ s4_ s5_ s6_ s7_
                  replace HO_3 := Aside0.mk (Kd.R_below HO_3.out q_.b)
                  replace HB := Aside0.mk (below_step HB.out q_.b)
                  replace hx288_0 := q_.cell hx288_0
                  replace hx288_1 := q_.cell hx288_1
                  replace hx288_2 := q_.cell hx288_2
                  replace hx288_3 := q_.cell hx288_3
                  replace hx289_0 := q_.cell hx289_0
                  replace hx289_1 := q_.cell hx289_1
                  replace hx289_2 := q_.cell hx289_2
                  replace hx289_3 := q_.cell hx289_3
                  generalize q_.W = w34 at HO_3 HB hx288_0 hx288_1 hx288_2 hx288_3 hx289_0 hx289_1 hx289_2 hx289_3 ⊢
                  try simp only [i64_w, i32_w]
                  try go_wp2
                  go_roundg kj12
                  case measure => have := HK1.out; have := HK2.out; have := HJ12.out; omega
                  case rel => exact ⟨(wrap64 (x5_2 + 1)), (by first | rfl | (simp; done) | (simp [*]; done)), H', ⟨by have := HK1.out; have := HK2.out; have := HJ12.out; omega⟩, ⟨by (with_reducible repeat (first | apply Kd.R_alloc | apply Kd.R_drewN | apply Kd.R_drew)); exact HO_3.out⟩, ⟨Hd.b_⟩⟩
                 ·
                  rw [if_neg c32] at H
                  have c32b0 : (t290 == 0) = false := beq_eq_false_iff_ne.mpr c32
                  have c32b1 : (t290 != 0) = true := bne_iff_ne.mpr c32
                  obtain rfl := Option.some.inj H
                  try go_wp2
                  replace HO_3 := Aside0.mk (Kd.R_drew HO_3.out)
                  replace HB := Aside0.mk (below_drew1 HB.out)
                  have p288 : 0 ≤ (x4_1 : Int) := of_decide_eq_true Hd.a_
                  have q288 : x4_1 < (t280.length : Int) := of_decide_eq_true Hd.a_
                  obtain ⟨ad288, e288, hx288_0, hx288_1, hx288_2, hx288_3⟩ := at_T60 (Kd.R_reads' HO_3.out).2.2 x4_1 p288 q288
                  obtain rfl : ad283 = ad288 := (by injection e288)
                  replace p288 := eq_true p288
                  replace q288 := eq_true q288
                  have p289 : 0 ≤ (x5_2 : Int) := of_decide_eq_true Hd.a_
                  have q289 : x5_2 < (t280.length : Int) := of_decide_eq_true Hd.a_
                  obtain ⟨ad289, e289, hx289_0, hx289_1, hx289_2, hx289_3⟩ := at_T60 (Kd.R_reads' HO_3.out).2.2 x5_2 p289 q289
                  obtain rfl : ad283 = ad289 := (by injection e289)
                  replace p289 := eq_true p289
                  replace q289 := eq_true q289
                  have s0_ := Hd.HW.x (W0 := wc.drew) hx288_0
                  have s1_ := Hd.HW.x (W0 := wc.drew) hx288_1
                  have s2_ := Hd.HW.x (W0 := wc.drew) hx288_2
                  have s3_ := Hd.HW.x (W0 := wc.drew) hx288_3
                  have s4_ := Hd.HW.x (W0 := wc.drew) hx289_0
                  have s5_ := Hd.HW.x (W0 := wc.drew) hx289_1
                  have s6_ := Hd.HW.x (W0 := wc.drew) hx289_2
                  have s7_ := Hd.HW.x (W0 := wc.drew) hx289_3
                  refine Hd.HW.region (by kernel_rfl) (by kernel_rfl) ?_
                  repeat (go_big_quiet_step ((first | (go_at_call 127; with_reducible exact Hd.HW.c (spec_HowMeet.calls kj12 ((rd_T60 t280 x4_1).f0.f0) ((rd_T60 t280 x4_1).f0.f1) ((rd_T60 t280 x4_1).f1.f0) ((rd_T60 t280 x4_1).f1.f1) ((rd_T60 t280 x5_2).f0.f0) ((rd_T60 t280 x5_2).f0.f1) ((rd_T60 t280 x5_2).f1.f0) ((rd_T60 t280 x5_2).f1.f1) t290 _ A31.out)))))
                  refine wpQuiet_nil ?_
                  intro _ hq_
                  obtain ⟨q_, rfl⟩ := hq_
                  clear s0_ s1_ s2_ s3_ s4_ s5_ s6_ s7_
                  replace HO_3 := Aside0.mk (Kd.R_below HO_3.out q_.b)
                  replace HB := Aside0.mk (below_step HB.out q_.b)
                  replace hx288_0 := q_.cell hx288_0
                  replace hx288_1 := q_.cell hx288_1
                  replace hx288_2 := q_.cell hx288_2
                  replace hx288_3 := q_.cell hx288_3
                  replace hx289_0 := q_.cell hx289_0
                  replace hx289_1 := q_.cell hx289_1
                  replace hx289_2 := q_.cell hx289_2
                  replace hx289_3 := q_.cell hx289_3
                  generalize q_.W = w36 at HO_3 HB hx288_0 hx288_1 hx288_2 hx288_3 hx289_0 hx289_1 hx289_2 hx289_3 ⊢
                  try simp only [i64_w, i32_w]
                  try go_wp2
                  go_ret
                  exact ⟨Hd.e_, Hd.b_⟩
                ·
                 rw [if_neg c30] at H
                 exact absurd H (by simp)
               ·
                rw [if_neg c29] at H
                exact absurd H (by simp)
              ·
               rw [if_neg c28] at H
               exact absurd H (by simp)
             ·
              rw [if_neg c27] at H
              exact absurd H (by simp)
         ·
          rw [if_neg c12] at H
          have c12b0 : decide (x5_2 < x4_1) = false := decide_eq_false c12
          clear c12
          have H' := Aside0.mk H
          clear H
          go_wp2
          go_roundg k2
          case measure => have := HK1.out; have := HK2.out; omega
          case rel => exact ⟨(wrap64 (x4_1 + 1)), (by first | rfl | (simp; done) | (simp [*]; done)), H', ⟨by have := HK1.out; have := HK2.out; omega⟩, ⟨by (with_reducible repeat (first | apply Kd.R_alloc | apply Kd.R_drewN | apply Kd.R_drew)); exact HO_3.out⟩, ⟨Hd.b_⟩⟩
      ·
       replace c9 := Bool.eq_false_iff.mpr c9
       subst c9
       have H1 : (some false) = some r := by rw [if_neg (show ¬ (false = true) by decide)] at H; exact H
       clear H
       have H := H1
       clear H1
       obtain rfl := Option.some.inj H
       obtain ⟨Ao37, co37, eo37⟩ := Kd.R_slice HO_3.out
       subst eo37
       have p283 : 0 ≤ (x4_1 : Int) := of_decide_eq_true Hd.a_
       have q283 : x4_1 < (t280.length : Int) := of_decide_eq_true Hd.a_
       obtain ⟨ad283, e283, hx283_0, hx283_1, hx283_2, hx283_3⟩ := at_T60 (Kd.R_reads' HO_3.out).2.2 x4_1 p283 q283
       cases e283
       replace p283 := eq_true p283
       replace q283 := eq_true q283
       go_wp2_with (first | ((with_reducible refine gate_callee (f := 118) rfl ?_); refine goesL_ (some 23) rfl rfl Try.func118 (by kernel_rfl) rfl #[.agg #[.int .i64 ((rd_T60 t280 x4_1).f0.f0), .int .i64 ((rd_T60 t280 x4_1).f0.f1), .int .i64 ((rd_T60 t280 x4_1).f1.f0), .int .i64 ((rd_T60 t280 x4_1).f1.f1)]] rfl Hd.m_ ?_; (with_reducible refine (spec_IsSegment.calls ((rd_T60 t280 x4_1).f0.f0) ((rd_T60 t280 x4_1).f0.f1) ((rd_T60 t280 x4_1).f1.f0) ((rd_T60 t280 x4_1).f1.f1) false _ A8.out).mono ?_); rintro e w38 ⟨rfl, hb⟩; refine ⟨_, rfl, ?_⟩; replace HO_3 := Aside0.mk (Kd.R_below (Hd.r_ HO_3) hb); replace HB := Aside0.mk (below_step Hd.b_ hb); (try clear hb); (try clear hb2); (try clear hk); (try clear hi)))
       go_ret
       exact ⟨Hd.e_, Hd.b_⟩
     ·
      rw [if_neg c7] at H
      exact absurd H (by simp)
    ·
     rw [if_neg c6] at H
     have c6b0 : decide (x4_1 < (t280.length : Int)) = false := decide_eq_false c6
     clear c6
     obtain rfl := Option.some.inj H
     obtain ⟨Ao39, co39, eo39⟩ := Kd.R_slice HO_3.out
     subst eo39
     go_wp2
     go_ret
     exact ⟨Hd.e_, Hd.b_⟩
 ·
  replace c3 := Bool.eq_false_iff.mpr c3
  subst c3
  have H1 : (some false) = some r := by rw [if_neg (show ¬ (false = true) by decide)] at H; exact H
  clear H
  have H := H1
  clear H1
  obtain rfl := Option.some.inj H
  go_enter Try.func98, Try.ntmps98
  go_wp2_with (first | ((with_reducible refine gate_callee (f := 88) rfl ?_); refine goesL_ (some 9) rfl rfl Try.func88 (by kernel_rfl) rfl #[.int .i64 (l0.length : Int), .int .i64 3, .int .i64 10] rfl Hd.m_ ?_; (with_reducible refine (spec_l1In.calls (l0.length : Int) 3 10 false _ A2.out).mono ?_); rintro e w' ⟨rfl, ⟨nd, rfl⟩⟩; refine ⟨_, rfl, ?_⟩))
  go_ret
  exact ⟨Hd.e_, Hd.b_⟩
def spec_RingSegments.f (k : Nat) (l0 : List (S27)) : Option ((List (S60))) := (spec_IsRing.f k l0).bind fun t291 => (if t291 = true then ((spec_l7Segments.f k l0).bind fun t292 => (some t292)) else (some (([] : List (S60)))))
set_option maxHeartbeats 8000000 in
set_option maxRecDepth 100000 in
theorem spec_RingSegments.calls (k : Nat) (A0 : Option Addr) (c0 : Nat) (l0 : List (S27)) (r : List (S60)) (w : World) (hr0 : Kd.C k27 w A0 l0.length l0) (hc0 : l0.length ≤ c0) (h : spec_RingSegments.f k l0 = some r) :
  Calls Try.prog 67 #[.slice A0 l0.length c0] w fun e w' => ∃ v0_ : Value, e = .returned (v0_) ∧ Kd.R k60 60 w' w.heap.size (fun _ => True) v0_ r ∧ Below w.heap.size w w' := by
 have HR0 := Aside0.mk hr0
 have HC0 := Aside0.mk hc0
 clear hr0 hc0
 have HB := Aside0.mk (Below.refl w.heap.size w)
 have H : ((spec_IsRing.f k l0).bind fun t291 => (if t291 = true then ((spec_l7Segments.f k l0).bind fun t292 => (some t292)) else (some (([] : List (S60)))))) = some r := h
 clear h
 replace H := Option.bind_eq_some_iff.mp H
 obtain ⟨t291, A20, H⟩ := H
 replace H : (if t291 = true then ((spec_l7Segments.f k l0).bind fun t292 => (some t292)) else (some (([] : List (S60))))) = some r := H
 have A2 := Aside0.mk A20
 clear A20
 by_cases c3 : t291 = true
 ·
  subst c3
  have H1 : ((spec_l7Segments.f k l0).bind fun t292 => (some t292)) = some r := by rw [if_pos rfl] at H; exact H
  clear H
  have H := H1
  clear H1
  replace H := Option.bind_eq_some_iff.mp H
  obtain ⟨t292, A40, H⟩ := H
  replace H : (some t292) = some r := H
  have A4 := Aside0.mk A40
  clear A40
  obtain rfl := Option.some.inj H
  go_enter Try.func67, Try.ntmps67
  go_wp2_with (first | ((with_reducible refine gate_callee (f := 98) rfl ?_); refine goesL_ (some 4) rfl rfl Try.func98 (by kernel_rfl) rfl #[.slice A0 l0.length c0] rfl Hd.m_ ?_; (with_reducible refine (spec_IsRing.calls k _ _ l0 true _ ?side1 ?side2 A2.out).mono ?_); (case side1 => repeat (first | exact HR0.out | (with_reducible refine Kd.C_alloc ?_ _) | (with_reducible refine Kd.C_drewN ?_ _) | (with_reducible refine Kd.C_drew ?_))); (case side2 => exact HC0.out); rintro e w5 ⟨rfl, hb⟩; refine ⟨_, rfl, ?_⟩; replace HB := Aside0.mk (below_step Hd.b_ hb); (try clear hb); (try clear hb2); (try clear hk); (try clear hi)) | ((with_reducible refine gate_callee (f := 112) rfl ?_); refine goesL_ (some 8) rfl rfl Try.func112 (by kernel_rfl) rfl #[.slice A0 l0.length c0] rfl Hd.m_ ?_; (with_reducible refine (spec_l7Segments.calls k _ _ l0 t292 _ ?side1 ?side2 A4.out).mono ?_); (case side1 => repeat (first | exact (Kd.C_below HR0.out HB.out) | (with_reducible refine Kd.C_alloc ?_ _) | (with_reducible refine Kd.C_drewN ?_ _) | (with_reducible refine Kd.C_drew ?_))); (case side2 => exact HC0.out); rintro e w6 ⟨v293, rfl, ho0, hb⟩; refine ⟨_, rfl, ?_⟩; have HO294 := Aside0.mk (Kd.R_lower ho0 (below_size Hd.b_)); replace HB := Aside0.mk (below_step Hd.b_ hb); (try clear hb); (try clear hb2); (try clear hk); (try clear hi); (try clear ho0)))
  go_ret
  exact ⟨_, Hd.e_, by (with_reducible repeat (first | apply Kd.R_alloc | apply Kd.R_drewN | apply Kd.R_drew)); exact HO294.out, Hd.b_⟩
 ·
  replace c3 := Bool.eq_false_iff.mpr c3
  subst c3
  have H1 : (some (([] : List (S60)))) = some r := by rw [if_neg (show ¬ (false = true) by decide)] at H; exact H
  clear H
  have H := H1
  clear H1
  obtain ⟨y295, hy295⟩ : ∃ y_ : List (S60), y_ = (([] : List (S60))) := ⟨_, rfl⟩
  replace H : (some y295) = some r := by first | (rw [hy295]; with_reducible exact H) | (have H2_ := (Option.bind_some _ _).symm.trans H; rw [hy295]; with_reducible exact H2_) | (have H2_ := (Option.bind_some _ _).symm.trans H; with_reducible exact H2_) | with_reducible exact H | (rw [hy295]; exact H) | exact H
  have Ny295 := Aside0.mk hy295
  clear hy295
  obtain rfl := Option.some.inj H
  go_enter Try.func67, Try.ntmps67
  go_wp2_with (first | ((with_reducible refine gate_callee (f := 98) rfl ?_); refine goesL_ (some 4) rfl rfl Try.func98 (by kernel_rfl) rfl #[.slice A0 l0.length c0] rfl Hd.m_ ?_; (with_reducible refine (spec_IsRing.calls k _ _ l0 false _ ?side1 ?side2 A2.out).mono ?_); (case side1 => repeat (first | exact HR0.out | (with_reducible refine Kd.C_alloc ?_ _) | (with_reducible refine Kd.C_drewN ?_ _) | (with_reducible refine Kd.C_drew ?_))); (case side2 => exact HC0.out); rintro e w7 ⟨rfl, hb⟩; refine ⟨_, rfl, ?_⟩; replace HB := Aside0.mk (below_step Hd.b_ hb); (try clear hb); (try clear hb2); (try clear hk); (try clear hi)) | ((with_reducible refine gate_dst (N := 6) rfl ?_); refine Kd.R_lit k60 _ 60 ?hg (N := 6) ?hd (xs := ([] : List (S60))) (inner := []) (ok := fun _ => True) (okp := fun _ => True) ?hr ?hp (fun _ hk => hk) trivial (Below.refl _ _) (Nat.le_refl _) (by simp) ?_; (case hd => rfl); (case hg => rfl); (case hr => first | (go_simp; done) | (go_simp; rfl)); (case hp => exact (Reps.none _ _)); intro v296 w8 ho9 hb hg_ hnew_; clear hg_ hnew_; (first | rw [← Ny295.out] at ho9 | (simp only [Int.reduceToNat] at ho9; rw [← Ny295.out] at ho9)); have HO297 := Aside0.mk (Kd.R_lower ho9 (below_size Hd.b_)); replace HB := Aside0.mk (below_step Hd.b_ hb); clear hb ho9))
  go_ret
  exact ⟨_, Hd.e_, by (with_reducible repeat (first | apply Kd.R_alloc | apply Kd.R_drewN | apply Kd.R_drew)); exact HO297.out, Hd.b_⟩
def laws_eqSegment.f (a0_0 : Int) (a0_1 : Int) (a0_2 : Int) (a0_3 : Int) (a1_0 : Int) (a1_1 : Int) (a1_2 : Int) (a1_3 : Int) : Option (Bool) := (laws_eqPoint.f a0_0 a0_1 a1_0 a1_1).bind fun t300 => (if t300 = true then ((laws_eqPoint.f a0_2 a0_3 a1_2 a1_3).bind fun t301 => (if t301 = true then (some true) else (some false))) else (some false))
set_option maxHeartbeats 8000000 in
set_option maxRecDepth 100000 in
theorem laws_eqSegment.calls (a0_0 : Int) (a0_1 : Int) (a0_2 : Int) (a0_3 : Int) (a1_0 : Int) (a1_1 : Int) (a1_2 : Int) (a1_3 : Int) (r : Bool) (w : World) (h : laws_eqSegment.f a0_0 a0_1 a0_2 a0_3 a1_0 a1_1 a1_2 a1_3 = some r) :
  Calls Try.prog 114 #[.agg #[.int .i64 a0_0, .int .i64 a0_1, .int .i64 a0_2, .int .i64 a0_3], .agg #[.int .i64 a1_0, .int .i64 a1_1, .int .i64 a1_2, .int .i64 a1_3]] w fun e w' => e = .returned (.bool r) ∧ Below w.heap.size w w' := by
 have hu60 := Try.underlying60
 have hu27 := Try.underlying27
 have HB := Aside0.mk (Below.refl w.heap.size w)
 have H : ((laws_eqPoint.f a0_0 a0_1 a1_0 a1_1).bind fun t300 => (if t300 = true then ((laws_eqPoint.f a0_2 a0_3 a1_2 a1_3).bind fun t301 => (if t301 = true then (some true) else (some false))) else (some false))) = some r := h
 clear h
 replace H := Option.bind_eq_some_iff.mp H
 obtain ⟨t300, A30, H⟩ := H
 replace H : (if t300 = true then ((laws_eqPoint.f a0_2 a0_3 a1_2 a1_3).bind fun t301 => (if t301 = true then (some true) else (some false))) else (some false)) = some r := H
 have A3 := Aside0.mk A30
 clear A30
 by_cases c4 : t300 = true
 ·
  subst c4
  have H1 : ((laws_eqPoint.f a0_2 a0_3 a1_2 a1_3).bind fun t301 => (if t301 = true then (some true) else (some false))) = some r := by rw [if_pos rfl] at H; exact H
  clear H
  have H := H1
  clear H1
  replace H := Option.bind_eq_some_iff.mp H
  obtain ⟨t301, A50, H⟩ := H
  replace H : (if t301 = true then (some true) else (some false)) = some r := H
  have A5 := Aside0.mk A50
  clear A50
  by_cases c6 : t301 = true
  ·
   subst c6
   have H1 : (some true) = some r := by rw [if_pos rfl] at H; exact H
   clear H
   have H := H1
   clear H1
   obtain rfl := Option.some.inj H
   go_enter Try.func114, Try.ntmps114
   go_wp2_with (first | ((with_reducible refine gate_dst (N := 2) rfl ?_); refine Hd.box_ 2 (#[.int .i64 a0_0, .int .i64 a0_1, .int .i64 a0_2, .int .i64 a0_3]) 60 ?_; intro gb298 hg w7 hbox hb; have BK298 := Aside0.mk (hbox); have GW298 := Aside0.mk ((Hd.g_ hg Hd.b_ : w.heap.size ≤ gb298)); have GE298 := Aside0.mk ((Hd.g_ hg Hd.b_ : w.heap.size ≤ gb298)); replace HB := Aside0.mk (below_step Hd.b_ hb); clear hb hbox hg) | ((with_reducible refine gate_dst (N := 3) rfl ?_); refine Hd.box_ 3 (#[.int .i64 a1_0, .int .i64 a1_1, .int .i64 a1_2, .int .i64 a1_3]) 60 ?_; intro gb299 hg w8 hbox hb; have BK299 := Aside0.mk (hbox); have GW299 := Aside0.mk ((Hd.g_ hg Hd.b_ : w.heap.size ≤ gb299)); have GE299 := Aside0.mk ((Hd.g_ hg Hd.b_ : w.heap.size ≤ gb299)); replace HB := Aside0.mk (below_step Hd.b_ hb); have NB298_299 := Aside0.mk ((Hd.lt_ BK298 hg)); have NB299_298 := Aside0.mk ((Hd.gt_ BK298 hg)); replace BK298 := Aside0.mk (Hd.kb_ BK298 hb); clear hb hbox hg; have hnb9 := NB298_299.out; have hnc9 := NB299_298.out; obtain ⟨hcz10_0, hcz10_1, hcz10_2, hcz10_3⟩ := Hd.c4_ BK298.out; obtain ⟨hfz10_0, hfz10_1, hfz10_2, hfz10_3⟩ := Hd.f4_ BK298.out; obtain ⟨hcz11_0, hcz11_1, hcz11_2, hcz11_3⟩ := Hd.c4_ BK299.out; obtain ⟨hfz11_0, hfz11_1, hfz11_2, hfz11_3⟩ := Hd.f4_ BK299.out) | ((with_reducible refine gate_callee (f := 52) rfl ?_); refine goesL_ (some 9) rfl rfl Try.func52 (by kernel_rfl) rfl #[.agg #[.int .i64 a0_0, .int .i64 a0_1], .agg #[.int .i64 a1_0, .int .i64 a1_1]] rfl Hd.m_ ?_; (with_reducible refine (laws_eqPoint.calls a0_0 a0_1 a1_0 a1_1 true _ A3.out).mono ?_); rintro e w12 ⟨rfl, hb⟩; refine ⟨_, rfl, ?_⟩; replace BK298 := Aside0.mk (Hd.kb_ BK298 hb); replace BK299 := Aside0.mk (Hd.kb_ BK299 hb); replace HB := Aside0.mk (below_step Hd.b_ hb); (try clear hb); (try clear hb2); (try clear hk); (try clear hi); obtain ⟨hcz13_0, hcz13_1, hcz13_2, hcz13_3⟩ := Hd.c4_ BK298.out; obtain ⟨hfz13_0, hfz13_1, hfz13_2, hfz13_3⟩ := Hd.f4_ BK298.out; obtain ⟨hcz14_0, hcz14_1, hcz14_2, hcz14_3⟩ := Hd.c4_ BK299.out; obtain ⟨hfz14_0, hfz14_1, hfz14_2, hfz14_3⟩ := Hd.f4_ BK299.out) | ((with_reducible refine gate_callee (f := 52) rfl ?_); refine goesL_ (some 15) rfl rfl Try.func52 (by kernel_rfl) rfl #[.agg #[.int .i64 a0_2, .int .i64 a0_3], .agg #[.int .i64 a1_2, .int .i64 a1_3]] rfl Hd.m_ ?_; (with_reducible refine (laws_eqPoint.calls a0_2 a0_3 a1_2 a1_3 true _ A5.out).mono ?_); rintro e w15 ⟨rfl, hb⟩; refine ⟨_, rfl, ?_⟩; replace BK298 := Aside0.mk (Hd.kb_ BK298 hb); replace BK299 := Aside0.mk (Hd.kb_ BK299 hb); replace HB := Aside0.mk (below_step Hd.b_ hb); (try clear hb); (try clear hb2); (try clear hk); (try clear hi)))
   go_ret
   exact ⟨Hd.e_, Hd.b_⟩
  ·
   replace c6 := Bool.eq_false_iff.mpr c6
   subst c6
   have H1 : (some false) = some r := by rw [if_neg (show ¬ (false = true) by decide)] at H; exact H
   clear H
   have H := H1
   clear H1
   obtain rfl := Option.some.inj H
   go_enter Try.func114, Try.ntmps114
   go_wp2_with (first | ((with_reducible refine gate_dst (N := 2) rfl ?_); refine Hd.box_ 2 (#[.int .i64 a0_0, .int .i64 a0_1, .int .i64 a0_2, .int .i64 a0_3]) 60 ?_; intro gb298 hg w16 hbox hb; have BK298 := Aside0.mk (hbox); have GW298 := Aside0.mk ((Hd.g_ hg Hd.b_ : w.heap.size ≤ gb298)); have GE298 := Aside0.mk ((Hd.g_ hg Hd.b_ : w.heap.size ≤ gb298)); replace HB := Aside0.mk (below_step Hd.b_ hb); clear hb hbox hg) | ((with_reducible refine gate_dst (N := 3) rfl ?_); refine Hd.box_ 3 (#[.int .i64 a1_0, .int .i64 a1_1, .int .i64 a1_2, .int .i64 a1_3]) 60 ?_; intro gb299 hg w17 hbox hb; have BK299 := Aside0.mk (hbox); have GW299 := Aside0.mk ((Hd.g_ hg Hd.b_ : w.heap.size ≤ gb299)); have GE299 := Aside0.mk ((Hd.g_ hg Hd.b_ : w.heap.size ≤ gb299)); replace HB := Aside0.mk (below_step Hd.b_ hb); have NB298_299 := Aside0.mk ((Hd.lt_ BK298 hg)); have NB299_298 := Aside0.mk ((Hd.gt_ BK298 hg)); replace BK298 := Aside0.mk (Hd.kb_ BK298 hb); clear hb hbox hg; have hnb18 := NB298_299.out; have hnc18 := NB299_298.out; obtain ⟨hcz19_0, hcz19_1, hcz19_2, hcz19_3⟩ := Hd.c4_ BK298.out; obtain ⟨hfz19_0, hfz19_1, hfz19_2, hfz19_3⟩ := Hd.f4_ BK298.out; obtain ⟨hcz20_0, hcz20_1, hcz20_2, hcz20_3⟩ := Hd.c4_ BK299.out; obtain ⟨hfz20_0, hfz20_1, hfz20_2, hfz20_3⟩ := Hd.f4_ BK299.out) | ((with_reducible refine gate_callee (f := 52) rfl ?_); refine goesL_ (some 9) rfl rfl Try.func52 (by kernel_rfl) rfl #[.agg #[.int .i64 a0_0, .int .i64 a0_1], .agg #[.int .i64 a1_0, .int .i64 a1_1]] rfl Hd.m_ ?_; (with_reducible refine (laws_eqPoint.calls a0_0 a0_1 a1_0 a1_1 true _ A3.out).mono ?_); rintro e w21 ⟨rfl, hb⟩; refine ⟨_, rfl, ?_⟩; replace BK298 := Aside0.mk (Hd.kb_ BK298 hb); replace BK299 := Aside0.mk (Hd.kb_ BK299 hb); replace HB := Aside0.mk (below_step Hd.b_ hb); (try clear hb); (try clear hb2); (try clear hk); (try clear hi); obtain ⟨hcz22_0, hcz22_1, hcz22_2, hcz22_3⟩ := Hd.c4_ BK298.out; obtain ⟨hfz22_0, hfz22_1, hfz22_2, hfz22_3⟩ := Hd.f4_ BK298.out; obtain ⟨hcz23_0, hcz23_1, hcz23_2, hcz23_3⟩ := Hd.c4_ BK299.out; obtain ⟨hfz23_0, hfz23_1, hfz23_2, hfz23_3⟩ := Hd.f4_ BK299.out) | ((with_reducible refine gate_callee (f := 52) rfl ?_); refine goesL_ (some 15) rfl rfl Try.func52 (by kernel_rfl) rfl #[.agg #[.int .i64 a0_2, .int .i64 a0_3], .agg #[.int .i64 a1_2, .int .i64 a1_3]] rfl Hd.m_ ?_; (with_reducible refine (laws_eqPoint.calls a0_2 a0_3 a1_2 a1_3 false _ A5.out).mono ?_); rintro e w24 ⟨rfl, hb⟩; refine ⟨_, rfl, ?_⟩; replace BK298 := Aside0.mk (Hd.kb_ BK298 hb); replace BK299 := Aside0.mk (Hd.kb_ BK299 hb); replace HB := Aside0.mk (below_step Hd.b_ hb); (try clear hb); (try clear hb2); (try clear hk); (try clear hi)))
   go_ret
   exact ⟨Hd.e_, Hd.b_⟩
 ·
  replace c4 := Bool.eq_false_iff.mpr c4
  subst c4
  have H1 : (some false) = some r := by rw [if_neg (show ¬ (false = true) by decide)] at H; exact H
  clear H
  have H := H1
  clear H1
  obtain rfl := Option.some.inj H
  go_enter Try.func114, Try.ntmps114
  go_wp2_with (first | ((with_reducible refine gate_dst (N := 2) rfl ?_); refine Hd.box_ 2 (#[.int .i64 a0_0, .int .i64 a0_1, .int .i64 a0_2, .int .i64 a0_3]) 60 ?_; intro gb298 hg w25 hbox hb; have BK298 := Aside0.mk (hbox); have GW298 := Aside0.mk ((Hd.g_ hg Hd.b_ : w.heap.size ≤ gb298)); have GE298 := Aside0.mk ((Hd.g_ hg Hd.b_ : w.heap.size ≤ gb298)); replace HB := Aside0.mk (below_step Hd.b_ hb); clear hb hbox hg) | ((with_reducible refine gate_dst (N := 3) rfl ?_); refine Hd.box_ 3 (#[.int .i64 a1_0, .int .i64 a1_1, .int .i64 a1_2, .int .i64 a1_3]) 60 ?_; intro gb299 hg w26 hbox hb; have BK299 := Aside0.mk (hbox); have GW299 := Aside0.mk ((Hd.g_ hg Hd.b_ : w.heap.size ≤ gb299)); have GE299 := Aside0.mk ((Hd.g_ hg Hd.b_ : w.heap.size ≤ gb299)); replace HB := Aside0.mk (below_step Hd.b_ hb); have NB298_299 := Aside0.mk ((Hd.lt_ BK298 hg)); have NB299_298 := Aside0.mk ((Hd.gt_ BK298 hg)); replace BK298 := Aside0.mk (Hd.kb_ BK298 hb); clear hb hbox hg; have hnb27 := NB298_299.out; have hnc27 := NB299_298.out; obtain ⟨hcz28_0, hcz28_1, hcz28_2, hcz28_3⟩ := Hd.c4_ BK298.out; obtain ⟨hfz28_0, hfz28_1, hfz28_2, hfz28_3⟩ := Hd.f4_ BK298.out; obtain ⟨hcz29_0, hcz29_1, hcz29_2, hcz29_3⟩ := Hd.c4_ BK299.out; obtain ⟨hfz29_0, hfz29_1, hfz29_2, hfz29_3⟩ := Hd.f4_ BK299.out) | ((with_reducible refine gate_callee (f := 52) rfl ?_); refine goesL_ (some 9) rfl rfl Try.func52 (by kernel_rfl) rfl #[.agg #[.int .i64 a0_0, .int .i64 a0_1], .agg #[.int .i64 a1_0, .int .i64 a1_1]] rfl Hd.m_ ?_; (with_reducible refine (laws_eqPoint.calls a0_0 a0_1 a1_0 a1_1 false _ A3.out).mono ?_); rintro e w30 ⟨rfl, hb⟩; refine ⟨_, rfl, ?_⟩; replace BK298 := Aside0.mk (Hd.kb_ BK298 hb); replace BK299 := Aside0.mk (Hd.kb_ BK299 hb); replace HB := Aside0.mk (below_step Hd.b_ hb); (try clear hb); (try clear hb2); (try clear hk); (try clear hi)))
  go_ret
  exact ⟨Hd.e_, Hd.b_⟩
end Go.Proofs.Ytchmbcembbbplab.MFnExactRingSegments
