-- Laid by this session's program pp.py, after the kit's print and texts of the session's own. Not trusted: Lean checks it.
import Derived.Test.YtchmbcembbbplacZSafeRingMx0
import Derived.Test.YtchmbcembbbplacZSafeRingMx7
import Derived.Test.YtchmbcembbbplacZSafeRingMx9
namespace Go.Proofs.Ytchmbcembbbplac.MFnExactSafeRing
open Go.RowKit Go.Proofs.YtchmbcembbbplacW.PrintWords Go.Proofs.YtchmbcembbbplacW.PrintLast Go.Proofs.YtchmbcembbbplacW.PrintMore
attribute [local go_sem] max2_int min2_int max_two min_two max_three min_three max_four min_four   -- for this text's walks alone
set_option linter.unusedVariables false
set_option linter.unusedSimpArgs false
mutual
def spec_IsRing.l0 : Nat → List (S111) → Int → Option (Bool)
 | 0, _, _ => none
 | k + 1, x3, x4 => if x4 < (x3.length : Int) then (if 0 ≤ x4 then ((spec_IsSegment.f ((rd_T111 x3 x4).f0.f0) ((rd_T111 x3 x4).f0.f1) ((rd_T111 x3 x4).f1.f0) ((rd_T111 x3 x4).f1.f1)).bind fun t340 => (if t340 = true then (spec_IsRing.l1 k x3 x4 0) else (some false))) else (none)) else (some true)
def spec_IsRing.l1 : Nat → List (S111) → Int → Int → Option (Bool)
 | 0, _, _, _ => none
 | k + 1, x3, x4, x5 => if x5 < x4 then (if (wrap64 (x5 + 1)) = x4 then (spec_IsRing.j2 k x3 x4 x5 0 true) else (if x5 = 0 then (spec_IsRing.j2 k x3 x4 x5 0 ((wrap64 (x4 + 1)) == (x3.length : Int))) else (spec_IsRing.j2 k x3 x4 x5 0 false))) else (spec_IsRing.l0 k x3 (wrap64 (x4 + 1)))
def spec_IsRing.j2 : Nat → List (S111) → Int → Int → Int → Bool → Option (Bool)
 | 0, _, _, _, _, _ => none
 | k + 1, x3, x4, x5, x6, x44 => if x44 = true then (if 0 ≤ x4 then (if x4 < (x3.length : Int) then (if 0 ≤ x5 then (if x5 < (x3.length : Int) then ((spec_HowMeet.f k ((rd_T111 x3 x4).f0.f0) ((rd_T111 x3 x4).f0.f1) ((rd_T111 x3 x4).f1.f0) ((rd_T111 x3 x4).f1.f1) ((rd_T111 x3 x5).f0.f0) ((rd_T111 x3 x5).f0.f1) ((rd_T111 x3 x5).f1.f0) ((rd_T111 x3 x5).f1.f1)).bind fun t343 => (if t343 = 1 then (spec_IsRing.l1 k x3 x4 (wrap64 (x5 + 1))) else (some false))) else (none)) else (none)) else (none)) else (none)) else (if 0 ≤ x4 then (if x4 < (x3.length : Int) then (if 0 ≤ x5 then (if x5 < (x3.length : Int) then ((spec_HowMeet.f k ((rd_T111 x3 x4).f0.f0) ((rd_T111 x3 x4).f0.f1) ((rd_T111 x3 x4).f1.f0) ((rd_T111 x3 x4).f1.f1) ((rd_T111 x3 x5).f0.f0) ((rd_T111 x3 x5).f0.f1) ((rd_T111 x3 x5).f1.f0) ((rd_T111 x3 x5).f1.f1)).bind fun t346 => (if t346 = x6 then (spec_IsRing.l1 k x3 x4 (wrap64 (x5 + 1))) else (some false))) else (none)) else (none)) else (none)) else (none))
end
def spec_IsRing.f (k : Nat) (l0 : List (S49)) : Option (Bool) := (spec_l1In.f (l0.length : Int) 3 10).bind fun t335 => (if t335 = true then ((spec_l7Segments.f k l0).bind fun t336 => (spec_IsRing.l0 k t336 0)) else (some false))
set_option maxHeartbeats 8000000 in
set_option maxRecDepth 100000 in
theorem spec_IsRing.calls (k : Nat) (A0 : Option Addr) (c0 : Nat) (l0 : List (S49)) (r : Bool) (w : World) (hr0 : Kd.C k49 w A0 l0.length l0) (hc0 : l0.length ≤ c0) (h : spec_IsRing.f k l0 = some r) :
  Calls Try.prog 82 #[.slice A0 l0.length c0] w fun e w' => e = .returned (.bool r) ∧ Below w.heap.size w w' := by
 have hu111 := Try.underlying111
 have HR0 := Aside0.mk hr0
 have HC0 := Aside0.mk hc0
 clear hr0 hc0
 have HB := Aside0.mk (Below.refl w.heap.size w)
 have H : ((spec_l1In.f (l0.length : Int) 3 10).bind fun t335 => (if t335 = true then ((spec_l7Segments.f k l0).bind fun t336 => (spec_IsRing.l0 k t336 0)) else (some false))) = some r := h
 clear h
 replace H := Option.bind_eq_some_iff.mp H
 obtain ⟨t335, A20, H⟩ := H
 replace H : (if t335 = true then ((spec_l7Segments.f k l0).bind fun t336 => (spec_IsRing.l0 k t336 0)) else (some false)) = some r := H
 have A2 := Aside0.mk A20
 clear A20
 by_cases c3 : t335 = true
 ·
  subst c3
  have H1 : ((spec_l7Segments.f k l0).bind fun t336 => (spec_IsRing.l0 k t336 0)) = some r := by rw [if_pos rfl] at H; exact H
  clear H
  have H := H1
  clear H1
  replace H := Option.bind_eq_some_iff.mp H
  obtain ⟨t336, A40, H⟩ := H
  replace H : (spec_IsRing.l0 k t336 0) = some r := H
  have A4 := Aside0.mk A40
  clear A40
  have H' := Aside0.mk H
  clear H
  go_enter Try.func82, Try.ntmps82
  go_wp2_with (first | ((with_reducible refine gate_callee (f := 83) rfl ?_); refine goesL_ (some 9) rfl rfl Try.func83 (by kernel_rfl) rfl #[.int .i64 (l0.length : Int), .int .i64 3, .int .i64 10] rfl Hd.m_ ?_; (with_reducible refine (spec_l1In.calls (l0.length : Int) 3 10 true _ A2.out).mono ?_); rintro e w' ⟨rfl, ⟨nd, rfl⟩⟩; refine ⟨_, rfl, ?_⟩) | ((with_reducible refine gate_callee (f := 136) rfl ?_); refine goesL_ (some 12) rfl rfl Try.func136 (by kernel_rfl) rfl #[.slice A0 l0.length c0] rfl Hd.m_ ?_; (with_reducible refine (spec_l7Segments.calls k _ _ l0 t336 _ ?side1 ?side2 A4.out).mono ?_); (case side1 => repeat (first | exact HR0.out | (with_reducible refine Kd.C_alloc ?_ _) | (with_reducible refine Kd.C_drewN ?_ _) | (with_reducible refine Kd.C_drew ?_))); (case side2 => exact HC0.out); rintro e w5 ⟨v337, rfl, ho0, hb⟩; refine ⟨_, rfl, ?_⟩; have HO338 := Aside0.mk (Kd.R_lower ho0 (below_size Hd.b_)); replace HB := Aside0.mk (below_step Hd.b_ hb); (try clear hb); (try clear hb2); (try clear hk); (try clear hi); (try clear ho0)))
  go_loopg [4] k (fun kq v4 w' => ∃ (x4_1 : Int), v4 = .int .i64 x4_1 ∧ Aside0 (spec_IsRing.l0 kq t336 x4_1 = some r) ∧ Aside0 (kq ≤ k) ∧ Aside0 (Kd.R k111 111 w' w.heap.size (fun _ => True) v337 t336) ∧ Aside0 (Below w.heap.size w w'))
  case atStart => exact ⟨(0), (by first | rfl | (simp; done) | (simp [*]; done)), H', ⟨Nat.le_refl _⟩, ⟨by (with_reducible repeat (first | apply Kd.R_alloc | apply Kd.R_drewN | apply Kd.R_drew)); exact HO338.out⟩, ⟨Hd.b_⟩⟩
  case round =>
   clear H'
   try clear c1
   try clear p2
   try clear c3
   obtain ⟨x4_1, rfl, HA, HK1, HO_3, HB⟩ := hrel
   cases gk with
   | zero => exact absurd HA.out (by simp [spec_IsRing.l0])
   | succ k1 =>
    have H := HA.out
    clear HA
    simp only [spec_IsRing.l0] at H
    by_cases c6 : x4_1 < (t336.length : Int)
    ·
     rw [if_pos c6] at H
     have c6b0 : decide (x4_1 < (t336.length : Int)) = true := decide_eq_true c6
     clear c6
     by_cases c7 : 0 ≤ x4_1
     ·
      rw [if_pos c7] at H
      have c7b0 : decide (0 ≤ x4_1) = true := decide_eq_true c7
      clear c7
      replace H := Option.bind_eq_some_iff.mp H
      obtain ⟨t340, A80, H⟩ := H
      replace H : (if t340 = true then (spec_IsRing.l1 k1 t336 x4_1 0) else (some false)) = some r := H
      have A8 := Aside0.mk A80
      clear A80
      by_cases c9 : t340 = true
      ·
       subst c9
       have H1 : (spec_IsRing.l1 k1 t336 x4_1 0) = some r := by rw [if_pos rfl] at H; exact H
       clear H
       have H := H1
       clear H1
       have H' := Aside0.mk H
       clear H
       obtain ⟨Ao10, co10, eo10⟩ := Kd.R_slice HO_3.out
       subst eo10
       have p339 : 0 ≤ (x4_1 : Int) := of_decide_eq_true Hd.a_
       have q339 : x4_1 < (t336.length : Int) := of_decide_eq_true Hd.a_
       obtain ⟨ad339, e339, hx339_0, hx339_1, hx339_2, hx339_3⟩ := at_T111 (Kd.R_reads' HO_3.out).2.2 x4_1 p339 q339
       cases e339
       replace p339 := eq_true p339
       replace q339 := eq_true q339
       go_wp2_with (first | ((with_reducible refine gate_callee (f := 137) rfl ?_); refine goesL_ (some 23) rfl rfl Try.func137 (by kernel_rfl) rfl #[.agg #[.int .i64 ((rd_T111 t336 x4_1).f0.f0), .int .i64 ((rd_T111 t336 x4_1).f0.f1), .int .i64 ((rd_T111 t336 x4_1).f1.f0), .int .i64 ((rd_T111 t336 x4_1).f1.f1)]] rfl Hd.m_ ?_; (with_reducible refine (spec_IsSegment.calls ((rd_T111 t336 x4_1).f0.f0) ((rd_T111 t336 x4_1).f0.f1) ((rd_T111 t336 x4_1).f1.f0) ((rd_T111 t336 x4_1).f1.f1) true _ A8.out).mono ?_); rintro e w11 ⟨rfl, hb⟩; refine ⟨_, rfl, ?_⟩; replace HO_3 := Aside0.mk (Kd.R_below (Hd.r_ HO_3) hb); replace HB := Aside0.mk (below_step Hd.b_ hb); (try clear hb); (try clear hb2); (try clear hk); (try clear hi)))
       go_loopg [5] k1 (fun kq v5 w' => ∃ (x5_2 : Int), v5 = .int .i64 x5_2 ∧ Aside0 (spec_IsRing.l1 kq t336 x4_1 x5_2 = some r) ∧ Aside0 (kq ≤ k1) ∧ Aside0 (Kd.R k111 111 w' w.heap.size (fun _ => True) (.slice (some ad339) t336.length co10) t336) ∧ Aside0 (Below w.heap.size w w'))
       case atStart => exact ⟨(0), (by first | rfl | (simp; done) | (simp [*]; done)), H', ⟨Nat.le_refl _⟩, ⟨by (with_reducible repeat (first | apply Kd.R_alloc | apply Kd.R_drewN | apply Kd.R_drew)); exact HO_3.out⟩, ⟨Hd.b_⟩⟩
       case round =>
        clear H'
        try clear c1
        try clear p2
        try clear c3
        try clear p3
        try clear q3
        try clear hx3
        try clear c6
        try clear c6b0
        try clear c7
        try clear c7b0
        try clear c8
        try clear c9
        try clear hx339_0
        try clear hx339_1
        try clear hx339_2
        try clear hx339_3
        try clear p2
        try clear p339
        try clear q339
        obtain ⟨x5_2, rfl, HA, HK2, HO_3, HB⟩ := hrel
        cases gk with
        | zero => exact absurd HA.out (by simp [spec_IsRing.l1])
        | succ k2 =>
         have H := HA.out
         clear HA
         simp only [spec_IsRing.l1] at H
         by_cases c12 : x5_2 < x4_1
         ·
          rw [if_pos c12] at H
          have c12b0 : decide (x5_2 < x4_1) = true := decide_eq_true c12
          clear c12
          have HC13 := Aside0.mk H
          clear H
          go_upto_region 13 with (fail)
          go_cut [44] (fun v44 wc => ∃ (kq : Nat) (x44_12 : Bool), v44 = .bool x44_12 ∧ Aside0 (spec_IsRing.j2 kq t336 x4_1 x5_2 0 x44_12 = some r) ∧ Aside0 (kq ≤ k2) ∧ Aside0 (Kd.R k111 111 wc w.heap.size (fun _ => True) (.slice (some ad339) t336.length co10) t336) ∧ Aside0 (Below w.heap.size w wc))
          case first =>
           have H := HC13.out
           clear HC13
           by_cases c14 : (wrap64 (x5_2 + 1)) = x4_1
           ·
            rw [if_pos c14] at H
            have c14b0 : ((wrap64 (x5_2 + 1)) == x4_1) = true := beq_iff_eq.mpr c14
            have c14b1 : ((wrap64 (x5_2 + 1)) != x4_1) = false := bne_eq_false_iff_eq.mpr c14
            clear c14
            (first | rw [c14b0] | (simp only [i64_w, i32_w]; rw [c14b0]) | skip)
            have H' := Aside0.mk H
            clear H
            go_wp2
            go_meet
            case rel => exact ⟨_, (true), (by first | rfl | (simp; done) | (simp [*]; done)), H', ⟨by have := HK1.out; have := HK2.out; first | omega | exact Nat.le_refl _⟩, ⟨by (with_reducible repeat (first | apply Kd.R_alloc | apply Kd.R_drewN | apply Kd.R_drew)); exact HO_3.out⟩, ⟨Hd.b_⟩⟩
           ·
            rw [if_neg c14] at H
            have c14b0 : ((wrap64 (x5_2 + 1)) == x4_1) = false := beq_eq_false_iff_ne.mpr c14
            have c14b1 : ((wrap64 (x5_2 + 1)) != x4_1) = true := bne_iff_ne.mpr c14
            (first | rw [c14b0] | (simp only [i64_w, i32_w]; rw [c14b0]) | skip)
            by_cases c15 : x5_2 = 0
            ·
             rw [if_pos c15] at H
             have c15b0 : (x5_2 == 0) = true := beq_iff_eq.mpr c15
             have c15b1 : (x5_2 != 0) = false := bne_eq_false_iff_eq.mpr c15
             clear c15
             have H' := Aside0.mk H
             clear H
             go_wp2
             go_meet
             case rel => exact ⟨_, (((wrap64 (x4_1 + 1)) == (t336.length : Int))), (by first | rfl | (simp; done) | (simp [*]; done)), H', ⟨by have := HK1.out; have := HK2.out; first | omega | exact Nat.le_refl _⟩, ⟨by (with_reducible repeat (first | apply Kd.R_alloc | apply Kd.R_drewN | apply Kd.R_drew)); exact HO_3.out⟩, ⟨Hd.b_⟩⟩
            ·
             rw [if_neg c15] at H
             have c15b0 : (x5_2 == 0) = false := beq_eq_false_iff_ne.mpr c15
             have c15b1 : (x5_2 != 0) = true := bne_iff_ne.mpr c15
             have H' := Aside0.mk H
             clear H
             go_wp2
             go_meet
             case rel => exact ⟨_, (false), (by first | rfl | (simp; done) | (simp [*]; done)), H', ⟨by have := HK1.out; have := HK2.out; first | omega | exact Nat.le_refl _⟩, ⟨by (with_reducible repeat (first | apply Kd.R_alloc | apply Kd.R_drewN | apply Kd.R_drew)); exact HO_3.out⟩, ⟨Hd.b_⟩⟩
          case rest =>
           clear HC13
           try clear c1
           try clear p2
           try clear c3
           try clear p3
           try clear q3
           try clear hx3
           try clear c6
           try clear c6b0
           try clear p6
           try clear c7
           try clear c7b0
           try clear c8
           try clear c9
           try clear c12
           try clear c12b0
           try clear c13
           try clear c14
           try clear c14b0
           try clear c14b1
           try clear c15
           try clear c15b0
           try clear c15b1
           try clear hx339_0
           try clear hx339_1
           try clear hx339_2
           try clear hx339_3
           try clear p2
           try clear p3
           try clear p339
           try clear q3
           try clear q339
           obtain ⟨kq, x44_12, rfl, HA, HJ12, HO_3, HB⟩ := hcut
           cases kq with
           | zero => exact absurd HA.out (by simp [spec_IsRing.j2])
           | succ kj12 =>
            have H := HA.out
            clear HA
            simp only [spec_IsRing.j2] at H
            by_cases c16 : x44_12 = true
            ·
             subst c16
             have H1 : (if 0 ≤ x4_1 then (if x4_1 < (t336.length : Int) then (if 0 ≤ x5_2 then (if x5_2 < (t336.length : Int) then ((spec_HowMeet.f kj12 ((rd_T111 t336 x4_1).f0.f0) ((rd_T111 t336 x4_1).f0.f1) ((rd_T111 t336 x4_1).f1.f0) ((rd_T111 t336 x4_1).f1.f1) ((rd_T111 t336 x5_2).f0.f0) ((rd_T111 t336 x5_2).f0.f1) ((rd_T111 t336 x5_2).f1.f0) ((rd_T111 t336 x5_2).f1.f1)).bind fun t343 => (if t343 = 1 then (spec_IsRing.l1 kj12 t336 x4_1 (wrap64 (x5_2 + 1))) else (some false))) else (none)) else (none)) else (none)) else (none)) = some r := by rw [if_pos rfl] at H; exact H
             clear H
             have H := H1
             clear H1
             by_cases c17 : 0 ≤ x4_1
             ·
              rw [if_pos c17] at H
              have c17b0 : decide (0 ≤ x4_1) = true := decide_eq_true c17
              clear c17
              by_cases c18 : x4_1 < (t336.length : Int)
              ·
               rw [if_pos c18] at H
               have c18b0 : decide (x4_1 < (t336.length : Int)) = true := decide_eq_true c18
               clear c18
               by_cases c19 : 0 ≤ x5_2
               ·
                rw [if_pos c19] at H
                have c19b0 : decide (0 ≤ x5_2) = true := decide_eq_true c19
                clear c19
                by_cases c20 : x5_2 < (t336.length : Int)
                ·
                 rw [if_pos c20] at H
                 have c20b0 : decide (x5_2 < (t336.length : Int)) = true := decide_eq_true c20
                 clear c20
                 replace H := Option.bind_eq_some_iff.mp H
                 obtain ⟨t343, A210, H⟩ := H
                 replace H : (if t343 = 1 then (spec_IsRing.l1 kj12 t336 x4_1 (wrap64 (x5_2 + 1))) else (some false)) = some r := H
                 have A21 := Aside0.mk A210
                 clear A210
                 by_cases c22 : t343 = 1
                 ·
                  rw [if_pos c22] at H
                  have c22b0 : (t343 == 1) = true := beq_iff_eq.mpr c22
                  have c22b1 : (t343 != 1) = false := bne_eq_false_iff_eq.mpr c22
                  clear c22
                  have H' := Aside0.mk H
                  clear H
                  try go_wp2
                  replace HO_3 := Aside0.mk (Kd.R_drew HO_3.out)
                  replace HB := Aside0.mk (below_drew1 HB.out)
                  have p341 : 0 ≤ (x4_1 : Int) := of_decide_eq_true Hd.a_
                  have q341 : x4_1 < (t336.length : Int) := of_decide_eq_true Hd.a_
                  obtain ⟨ad341, e341, hx341_0, hx341_1, hx341_2, hx341_3⟩ := at_T111 (Kd.R_reads' HO_3.out).2.2 x4_1 p341 q341
                  obtain rfl : ad339 = ad341 := (by injection e341)
                  replace p341 := eq_true p341
                  replace q341 := eq_true q341
                  have p342 : 0 ≤ (x5_2 : Int) := of_decide_eq_true Hd.a_
                  have q342 : x5_2 < (t336.length : Int) := of_decide_eq_true Hd.a_
                  obtain ⟨ad342, e342, hx342_0, hx342_1, hx342_2, hx342_3⟩ := at_T111 (Kd.R_reads' HO_3.out).2.2 x5_2 p342 q342
                  obtain rfl : ad339 = ad342 := (by injection e342)
                  replace p342 := eq_true p342
                  replace q342 := eq_true q342
                  have s0_ := Hd.HW.x (W0 := wc.drew) hx341_0
                  have s1_ := Hd.HW.x (W0 := wc.drew) hx341_1
                  have s2_ := Hd.HW.x (W0 := wc.drew) hx341_2
                  have s3_ := Hd.HW.x (W0 := wc.drew) hx341_3
                  have s4_ := Hd.HW.x (W0 := wc.drew) hx342_0
                  have s5_ := Hd.HW.x (W0 := wc.drew) hx342_1
                  have s6_ := Hd.HW.x (W0 := wc.drew) hx342_2
                  have s7_ := Hd.HW.x (W0 := wc.drew) hx342_3
                  refine Hd.HW.region (by kernel_rfl) (by kernel_rfl) ?_
                  repeat (go_big_quiet_step ((first | (go_at_call 129; with_reducible exact Hd.HW.c (spec_HowMeet.calls kj12 ((rd_T111 t336 x4_1).f0.f0) ((rd_T111 t336 x4_1).f0.f1) ((rd_T111 t336 x4_1).f1.f0) ((rd_T111 t336 x4_1).f1.f1) ((rd_T111 t336 x5_2).f0.f0) ((rd_T111 t336 x5_2).f0.f1) ((rd_T111 t336 x5_2).f1.f0) ((rd_T111 t336 x5_2).f1.f1) t343 _ A21.out)))))
                  refine wpQuiet_nil ?_
                  intro _ hq_
                  obtain ⟨q_, rfl⟩ := hq_
                  clear s0_ s1_ s2_ s3_ s4_ s5_ s6_ s7_
                  replace HO_3 := Aside0.mk (Kd.R_below HO_3.out q_.b)
                  replace HB := Aside0.mk (below_step HB.out q_.b)
                  replace hx341_0 := q_.cell hx341_0
                  replace hx341_1 := q_.cell hx341_1
                  replace hx341_2 := q_.cell hx341_2
                  replace hx341_3 := q_.cell hx341_3
                  replace hx342_0 := q_.cell hx342_0
                  replace hx342_1 := q_.cell hx342_1
                  replace hx342_2 := q_.cell hx342_2
                  replace hx342_3 := q_.cell hx342_3
                  generalize q_.W = w24 at HO_3 HB hx341_0 hx341_1 hx341_2 hx341_3 hx342_0 hx342_1 hx342_2 hx342_3 ⊢
                  try simp only [i64_w, i32_w]
                  try go_wp2
                  go_roundg kj12
                  case measure => have := HK1.out; have := HK2.out; have := HJ12.out; omega
                  case rel => exact ⟨(wrap64 (x5_2 + 1)), (by first | rfl | (simp; done) | (simp [*]; done)), H', ⟨by have := HK1.out; have := HK2.out; have := HJ12.out; omega⟩, ⟨by (with_reducible repeat (first | apply Kd.R_alloc | apply Kd.R_drewN | apply Kd.R_drew)); exact HO_3.out⟩, ⟨Hd.b_⟩⟩
                 ·
                  rw [if_neg c22] at H
                  have c22b0 : (t343 == 1) = false := beq_eq_false_iff_ne.mpr c22
                  have c22b1 : (t343 != 1) = true := bne_iff_ne.mpr c22
                  obtain rfl := Option.some.inj H
                  try go_wp2
                  replace HO_3 := Aside0.mk (Kd.R_drew HO_3.out)
                  replace HB := Aside0.mk (below_drew1 HB.out)
                  have p341 : 0 ≤ (x4_1 : Int) := of_decide_eq_true Hd.a_
                  have q341 : x4_1 < (t336.length : Int) := of_decide_eq_true Hd.a_
                  obtain ⟨ad341, e341, hx341_0, hx341_1, hx341_2, hx341_3⟩ := at_T111 (Kd.R_reads' HO_3.out).2.2 x4_1 p341 q341
                  obtain rfl : ad339 = ad341 := (by injection e341)
                  replace p341 := eq_true p341
                  replace q341 := eq_true q341
                  have p342 : 0 ≤ (x5_2 : Int) := of_decide_eq_true Hd.a_
                  have q342 : x5_2 < (t336.length : Int) := of_decide_eq_true Hd.a_
                  obtain ⟨ad342, e342, hx342_0, hx342_1, hx342_2, hx342_3⟩ := at_T111 (Kd.R_reads' HO_3.out).2.2 x5_2 p342 q342
                  obtain rfl : ad339 = ad342 := (by injection e342)
                  replace p342 := eq_true p342
                  replace q342 := eq_true q342
                  have s0_ := Hd.HW.x (W0 := wc.drew) hx341_0
                  have s1_ := Hd.HW.x (W0 := wc.drew) hx341_1
                  have s2_ := Hd.HW.x (W0 := wc.drew) hx341_2
                  have s3_ := Hd.HW.x (W0 := wc.drew) hx341_3
                  have s4_ := Hd.HW.x (W0 := wc.drew) hx342_0
                  have s5_ := Hd.HW.x (W0 := wc.drew) hx342_1
                  have s6_ := Hd.HW.x (W0 := wc.drew) hx342_2
                  have s7_ := Hd.HW.x (W0 := wc.drew) hx342_3
                  refine Hd.HW.region (by kernel_rfl) (by kernel_rfl) ?_
                  repeat (go_big_quiet_step ((first | (go_at_call 129; with_reducible exact Hd.HW.c (spec_HowMeet.calls kj12 ((rd_T111 t336 x4_1).f0.f0) ((rd_T111 t336 x4_1).f0.f1) ((rd_T111 t336 x4_1).f1.f0) ((rd_T111 t336 x4_1).f1.f1) ((rd_T111 t336 x5_2).f0.f0) ((rd_T111 t336 x5_2).f0.f1) ((rd_T111 t336 x5_2).f1.f0) ((rd_T111 t336 x5_2).f1.f1) t343 _ A21.out)))))
                  refine wpQuiet_nil ?_
                  intro _ hq_
                  obtain ⟨q_, rfl⟩ := hq_
                  clear s0_ s1_ s2_ s3_ s4_ s5_ s6_ s7_
                  replace HO_3 := Aside0.mk (Kd.R_below HO_3.out q_.b)
                  replace HB := Aside0.mk (below_step HB.out q_.b)
                  replace hx341_0 := q_.cell hx341_0
                  replace hx341_1 := q_.cell hx341_1
                  replace hx341_2 := q_.cell hx341_2
                  replace hx341_3 := q_.cell hx341_3
                  replace hx342_0 := q_.cell hx342_0
                  replace hx342_1 := q_.cell hx342_1
                  replace hx342_2 := q_.cell hx342_2
                  replace hx342_3 := q_.cell hx342_3
                  generalize q_.W = w26 at HO_3 HB hx341_0 hx341_1 hx341_2 hx341_3 hx342_0 hx342_1 hx342_2 hx342_3 ⊢
                  try simp only [i64_w, i32_w]
                  try go_wp2
                  go_ret
                  exact ⟨Hd.e_, Hd.b_⟩
                ·
                 rw [if_neg c20] at H
                 exact absurd H (by simp)
               ·
                rw [if_neg c19] at H
                exact absurd H (by simp)
              ·
               rw [if_neg c18] at H
               exact absurd H (by simp)
             ·
              rw [if_neg c17] at H
              exact absurd H (by simp)
            ·
             replace c16 := Bool.eq_false_iff.mpr c16
             subst c16
             have H1 : (if 0 ≤ x4_1 then (if x4_1 < (t336.length : Int) then (if 0 ≤ x5_2 then (if x5_2 < (t336.length : Int) then ((spec_HowMeet.f kj12 ((rd_T111 t336 x4_1).f0.f0) ((rd_T111 t336 x4_1).f0.f1) ((rd_T111 t336 x4_1).f1.f0) ((rd_T111 t336 x4_1).f1.f1) ((rd_T111 t336 x5_2).f0.f0) ((rd_T111 t336 x5_2).f0.f1) ((rd_T111 t336 x5_2).f1.f0) ((rd_T111 t336 x5_2).f1.f1)).bind fun t346 => (if t346 = 0 then (spec_IsRing.l1 kj12 t336 x4_1 (wrap64 (x5_2 + 1))) else (some false))) else (none)) else (none)) else (none)) else (none)) = some r := by rw [if_neg (show ¬ (false = true) by decide)] at H; exact H
             clear H
             have H := H1
             clear H1
             by_cases c27 : 0 ≤ x4_1
             ·
              rw [if_pos c27] at H
              have c27b0 : decide (0 ≤ x4_1) = true := decide_eq_true c27
              clear c27
              by_cases c28 : x4_1 < (t336.length : Int)
              ·
               rw [if_pos c28] at H
               have c28b0 : decide (x4_1 < (t336.length : Int)) = true := decide_eq_true c28
               clear c28
               by_cases c29 : 0 ≤ x5_2
               ·
                rw [if_pos c29] at H
                have c29b0 : decide (0 ≤ x5_2) = true := decide_eq_true c29
                clear c29
                by_cases c30 : x5_2 < (t336.length : Int)
                ·
                 rw [if_pos c30] at H
                 have c30b0 : decide (x5_2 < (t336.length : Int)) = true := decide_eq_true c30
                 clear c30
                 replace H := Option.bind_eq_some_iff.mp H
                 obtain ⟨t346, A310, H⟩ := H
                 replace H : (if t346 = 0 then (spec_IsRing.l1 kj12 t336 x4_1 (wrap64 (x5_2 + 1))) else (some false)) = some r := H
                 have A31 := Aside0.mk A310
                 clear A310
                 by_cases c32 : t346 = 0
                 ·
                  rw [if_pos c32] at H
                  have c32b0 : (t346 == 0) = true := beq_iff_eq.mpr c32
                  have c32b1 : (t346 != 0) = false := bne_eq_false_iff_eq.mpr c32
                  clear c32
                  have H' := Aside0.mk H
                  clear H
                  try go_wp2
                  replace HO_3 := Aside0.mk (Kd.R_drew HO_3.out)
                  replace HB := Aside0.mk (below_drew1 HB.out)
                  have p344 : 0 ≤ (x4_1 : Int) := of_decide_eq_true Hd.a_
                  have q344 : x4_1 < (t336.length : Int) := of_decide_eq_true Hd.a_
                  obtain ⟨ad344, e344, hx344_0, hx344_1, hx344_2, hx344_3⟩ := at_T111 (Kd.R_reads' HO_3.out).2.2 x4_1 p344 q344
                  obtain rfl : ad339 = ad344 := (by injection e344)
                  replace p344 := eq_true p344
                  replace q344 := eq_true q344
                  have p345 : 0 ≤ (x5_2 : Int) := of_decide_eq_true Hd.a_
                  have q345 : x5_2 < (t336.length : Int) := of_decide_eq_true Hd.a_
                  obtain ⟨ad345, e345, hx345_0, hx345_1, hx345_2, hx345_3⟩ := at_T111 (Kd.R_reads' HO_3.out).2.2 x5_2 p345 q345
                  obtain rfl : ad339 = ad345 := (by injection e345)
                  replace p345 := eq_true p345
                  replace q345 := eq_true q345
                  have s0_ := Hd.HW.x (W0 := wc.drew) hx344_0
                  have s1_ := Hd.HW.x (W0 := wc.drew) hx344_1
                  have s2_ := Hd.HW.x (W0 := wc.drew) hx344_2
                  have s3_ := Hd.HW.x (W0 := wc.drew) hx344_3
                  have s4_ := Hd.HW.x (W0 := wc.drew) hx345_0
                  have s5_ := Hd.HW.x (W0 := wc.drew) hx345_1
                  have s6_ := Hd.HW.x (W0 := wc.drew) hx345_2
                  have s7_ := Hd.HW.x (W0 := wc.drew) hx345_3
                  refine Hd.HW.region (by kernel_rfl) (by kernel_rfl) ?_
                  repeat (go_big_quiet_step ((first | (go_at_call 129; with_reducible exact Hd.HW.c (spec_HowMeet.calls kj12 ((rd_T111 t336 x4_1).f0.f0) ((rd_T111 t336 x4_1).f0.f1) ((rd_T111 t336 x4_1).f1.f0) ((rd_T111 t336 x4_1).f1.f1) ((rd_T111 t336 x5_2).f0.f0) ((rd_T111 t336 x5_2).f0.f1) ((rd_T111 t336 x5_2).f1.f0) ((rd_T111 t336 x5_2).f1.f1) t346 _ A31.out)))))
                  refine wpQuiet_nil ?_
                  intro _ hq_
                  obtain ⟨q_, rfl⟩ := hq_
                  clear s0_ s1_ s2_ s3_ s4_ s5_ s6_ s7_
                  replace HO_3 := Aside0.mk (Kd.R_below HO_3.out q_.b)
                  replace HB := Aside0.mk (below_step HB.out q_.b)
                  replace hx344_0 := q_.cell hx344_0
                  replace hx344_1 := q_.cell hx344_1
                  replace hx344_2 := q_.cell hx344_2
                  replace hx344_3 := q_.cell hx344_3
                  replace hx345_0 := q_.cell hx345_0
                  replace hx345_1 := q_.cell hx345_1
                  replace hx345_2 := q_.cell hx345_2
                  replace hx345_3 := q_.cell hx345_3
                  generalize q_.W = w34 at HO_3 HB hx344_0 hx344_1 hx344_2 hx344_3 hx345_0 hx345_1 hx345_2 hx345_3 ⊢
                  try simp only [i64_w, i32_w]
                  try go_wp2
                  go_roundg kj12
                  case measure => have := HK1.out; have := HK2.out; have := HJ12.out; omega
                  case rel => exact ⟨(wrap64 (x5_2 + 1)), (by first | rfl | (simp; done) | (simp [*]; done)), H', ⟨by have := HK1.out; have := HK2.out; have := HJ12.out; omega⟩, ⟨by (with_reducible repeat (first | apply Kd.R_alloc | apply Kd.R_drewN | apply Kd.R_drew)); exact HO_3.out⟩, ⟨Hd.b_⟩⟩
                 ·
                  rw [if_neg c32] at H
                  have c32b0 : (t346 == 0) = false := beq_eq_false_iff_ne.mpr c32
                  have c32b1 : (t346 != 0) = true := bne_iff_ne.mpr c32
                  obtain rfl := Option.some.inj H
                  try go_wp2
                  replace HO_3 := Aside0.mk (Kd.R_drew HO_3.out)
                  replace HB := Aside0.mk (below_drew1 HB.out)
                  have p344 : 0 ≤ (x4_1 : Int) := of_decide_eq_true Hd.a_
                  have q344 : x4_1 < (t336.length : Int) := of_decide_eq_true Hd.a_
                  obtain ⟨ad344, e344, hx344_0, hx344_1, hx344_2, hx344_3⟩ := at_T111 (Kd.R_reads' HO_3.out).2.2 x4_1 p344 q344
                  obtain rfl : ad339 = ad344 := (by injection e344)
                  replace p344 := eq_true p344
                  replace q344 := eq_true q344
                  have p345 : 0 ≤ (x5_2 : Int) := of_decide_eq_true Hd.a_
                  have q345 : x5_2 < (t336.length : Int) := of_decide_eq_true Hd.a_
                  obtain ⟨ad345, e345, hx345_0, hx345_1, hx345_2, hx345_3⟩ := at_T111 (Kd.R_reads' HO_3.out).2.2 x5_2 p345 q345
                  obtain rfl : ad339 = ad345 := (by injection e345)
                  replace p345 := eq_true p345
                  replace q345 := eq_true q345
                  have s0_ := Hd.HW.x (W0 := wc.drew) hx344_0
                  have s1_ := Hd.HW.x (W0 := wc.drew) hx344_1
                  have s2_ := Hd.HW.x (W0 := wc.drew) hx344_2
                  have s3_ := Hd.HW.x (W0 := wc.drew) hx344_3
                  have s4_ := Hd.HW.x (W0 := wc.drew) hx345_0
                  have s5_ := Hd.HW.x (W0 := wc.drew) hx345_1
                  have s6_ := Hd.HW.x (W0 := wc.drew) hx345_2
                  have s7_ := Hd.HW.x (W0 := wc.drew) hx345_3
                  refine Hd.HW.region (by kernel_rfl) (by kernel_rfl) ?_
                  repeat (go_big_quiet_step ((first | (go_at_call 129; with_reducible exact Hd.HW.c (spec_HowMeet.calls kj12 ((rd_T111 t336 x4_1).f0.f0) ((rd_T111 t336 x4_1).f0.f1) ((rd_T111 t336 x4_1).f1.f0) ((rd_T111 t336 x4_1).f1.f1) ((rd_T111 t336 x5_2).f0.f0) ((rd_T111 t336 x5_2).f0.f1) ((rd_T111 t336 x5_2).f1.f0) ((rd_T111 t336 x5_2).f1.f1) t346 _ A31.out)))))
                  refine wpQuiet_nil ?_
                  intro _ hq_
                  obtain ⟨q_, rfl⟩ := hq_
                  clear s0_ s1_ s2_ s3_ s4_ s5_ s6_ s7_
                  replace HO_3 := Aside0.mk (Kd.R_below HO_3.out q_.b)
                  replace HB := Aside0.mk (below_step HB.out q_.b)
                  replace hx344_0 := q_.cell hx344_0
                  replace hx344_1 := q_.cell hx344_1
                  replace hx344_2 := q_.cell hx344_2
                  replace hx344_3 := q_.cell hx344_3
                  replace hx345_0 := q_.cell hx345_0
                  replace hx345_1 := q_.cell hx345_1
                  replace hx345_2 := q_.cell hx345_2
                  replace hx345_3 := q_.cell hx345_3
                  generalize q_.W = w36 at HO_3 HB hx344_0 hx344_1 hx344_2 hx344_3 hx345_0 hx345_1 hx345_2 hx345_3 ⊢
                  try simp only [i64_w, i32_w]
                  try go_wp2
                  go_ret
                  exact ⟨Hd.e_, Hd.b_⟩
                ·
                 rw [if_neg c30] at H
                 exact absurd H (by simp)
               ·
                rw [if_neg c29] at H
                exact absurd H (by simp)
              ·
               rw [if_neg c28] at H
               exact absurd H (by simp)
             ·
              rw [if_neg c27] at H
              exact absurd H (by simp)
         ·
          rw [if_neg c12] at H
          have c12b0 : decide (x5_2 < x4_1) = false := decide_eq_false c12
          clear c12
          have H' := Aside0.mk H
          clear H
          go_wp2
          go_roundg k2
          case measure => have := HK1.out; have := HK2.out; omega
          case rel => exact ⟨(wrap64 (x4_1 + 1)), (by first | rfl | (simp; done) | (simp [*]; done)), H', ⟨by have := HK1.out; have := HK2.out; omega⟩, ⟨by (with_reducible repeat (first | apply Kd.R_alloc | apply Kd.R_drewN | apply Kd.R_drew)); exact HO_3.out⟩, ⟨Hd.b_⟩⟩
      ·
       replace c9 := Bool.eq_false_iff.mpr c9
       subst c9
       have H1 : (some false) = some r := by rw [if_neg (show ¬ (false = true) by decide)] at H; exact H
       clear H
       have H := H1
       clear H1
       obtain rfl := Option.some.inj H
       obtain ⟨Ao37, co37, eo37⟩ := Kd.R_slice HO_3.out
       subst eo37
       have p339 : 0 ≤ (x4_1 : Int) := of_decide_eq_true Hd.a_
       have q339 : x4_1 < (t336.length : Int) := of_decide_eq_true Hd.a_
       obtain ⟨ad339, e339, hx339_0, hx339_1, hx339_2, hx339_3⟩ := at_T111 (Kd.R_reads' HO_3.out).2.2 x4_1 p339 q339
       cases e339
       replace p339 := eq_true p339
       replace q339 := eq_true q339
       go_wp2_with (first | ((with_reducible refine gate_callee (f := 137) rfl ?_); refine goesL_ (some 23) rfl rfl Try.func137 (by kernel_rfl) rfl #[.agg #[.int .i64 ((rd_T111 t336 x4_1).f0.f0), .int .i64 ((rd_T111 t336 x4_1).f0.f1), .int .i64 ((rd_T111 t336 x4_1).f1.f0), .int .i64 ((rd_T111 t336 x4_1).f1.f1)]] rfl Hd.m_ ?_; (with_reducible refine (spec_IsSegment.calls ((rd_T111 t336 x4_1).f0.f0) ((rd_T111 t336 x4_1).f0.f1) ((rd_T111 t336 x4_1).f1.f0) ((rd_T111 t336 x4_1).f1.f1) false _ A8.out).mono ?_); rintro e w38 ⟨rfl, hb⟩; refine ⟨_, rfl, ?_⟩; replace HO_3 := Aside0.mk (Kd.R_below (Hd.r_ HO_3) hb); replace HB := Aside0.mk (below_step Hd.b_ hb); (try clear hb); (try clear hb2); (try clear hk); (try clear hi)))
       go_ret
       exact ⟨Hd.e_, Hd.b_⟩
     ·
      rw [if_neg c7] at H
      exact absurd H (by simp)
    ·
     rw [if_neg c6] at H
     have c6b0 : decide (x4_1 < (t336.length : Int)) = false := decide_eq_false c6
     clear c6
     obtain rfl := Option.some.inj H
     obtain ⟨Ao39, co39, eo39⟩ := Kd.R_slice HO_3.out
     subst eo39
     go_wp2
     go_ret
     exact ⟨Hd.e_, Hd.b_⟩
 ·
  replace c3 := Bool.eq_false_iff.mpr c3
  subst c3
  have H1 : (some false) = some r := by rw [if_neg (show ¬ (false = true) by decide)] at H; exact H
  clear H
  have H := H1
  clear H1
  obtain rfl := Option.some.inj H
  go_enter Try.func82, Try.ntmps82
  go_wp2_with (first | ((with_reducible refine gate_callee (f := 83) rfl ?_); refine goesL_ (some 9) rfl rfl Try.func83 (by kernel_rfl) rfl #[.int .i64 (l0.length : Int), .int .i64 3, .int .i64 10] rfl Hd.m_ ?_; (with_reducible refine (spec_l1In.calls (l0.length : Int) 3 10 false _ A2.out).mono ?_); rintro e w' ⟨rfl, ⟨nd, rfl⟩⟩; refine ⟨_, rfl, ?_⟩))
  go_ret
  exact ⟨Hd.e_, Hd.b_⟩
def spec_TwiceArea.l0 : Nat → List (S49) → Int → List (S111) → Int → Option (Int)
 | 0, _, _, _, _ => none
 | k + 1, x0, x3, x4, x5 => if x5 < (x4.length : Int) then ((spec_IsRing.f k x0).bind fun t350 => (if t350 = true then (if 0 ≤ x5 then (spec_TwiceArea.l0 k x0 (wrap64 ((wrap64 (x3 + (wrap64 (((rd_T111 x4 x5).f0.f0) * ((rd_T111 x4 x5).f1.f1))))) - (wrap64 (((rd_T111 x4 x5).f0.f1) * ((rd_T111 x4 x5).f1.f0))))) x4 (wrap64 (x5 + 1))) else (none)) else (some x3))) else (some x3)
def spec_TwiceArea.f (k : Nat) (l0 : List (S49)) : Option (Int) := (spec_l7Segments.f k l0).bind fun t347 => (spec_TwiceArea.l0 k l0 0 t347 0)
set_option maxHeartbeats 8000000 in
set_option maxRecDepth 100000 in
theorem spec_TwiceArea.calls (k : Nat) (A0 : Option Addr) (c0 : Nat) (l0 : List (S49)) (r : Int) (w : World) (hr0 : Kd.C k49 w A0 l0.length l0) (hc0 : l0.length ≤ c0) (h : spec_TwiceArea.f k l0 = some r) :
  Calls Try.prog 138 #[.slice A0 l0.length c0] w fun e w' => e = .returned (.int .i64 r) ∧ Below w.heap.size w w' := by
 have HR0 := Aside0.mk hr0
 have HC0 := Aside0.mk hc0
 clear hr0 hc0
 have HB := Aside0.mk (Below.refl w.heap.size w)
 have H : ((spec_l7Segments.f k l0).bind fun t347 => (spec_TwiceArea.l0 k l0 0 t347 0)) = some r := h
 clear h
 replace H := Option.bind_eq_some_iff.mp H
 obtain ⟨t347, A20, H⟩ := H
 replace H : (spec_TwiceArea.l0 k l0 0 t347 0) = some r := H
 have A2 := Aside0.mk A20
 clear A20
 have H' := Aside0.mk H
 clear H
 go_enter Try.func138, Try.ntmps138
 go_wp2_with (first | (go_at_call 136; (with_reducible refine (spec_l7Segments.calls k _ _ l0 t347 _ ?side1 ?side2 A2.out).mono ?_); (case side1 => repeat (first | exact HR0.out | (with_reducible refine Kd.C_alloc ?_ _) | (with_reducible refine Kd.C_drewN ?_ _) | (with_reducible refine Kd.C_drew ?_))); (case side2 => exact HC0.out); rintro e w3 ⟨v348, rfl, ho0, hb⟩; have HO349 := Aside0.mk (Kd.R_lower ho0 (below_size Hd.b_)); replace HB := Aside0.mk (below_step Hd.b_ hb); (try clear hb); (try clear hb2); (try clear hk); (try clear hi); (try clear ho0)))
 repeat (go_quiet (first | (go_at_call 136; (with_reducible refine (spec_l7Segments.calls k _ _ l0 t347 _ ?side1 ?side2 A2.out).mono ?_); (case side1 => repeat (first | exact HR0.out | (with_reducible refine Kd.C_alloc ?_ _) | (with_reducible refine Kd.C_drewN ?_ _) | (with_reducible refine Kd.C_drew ?_))); (case side2 => exact HC0.out); rintro e w3 ⟨v348, rfl, ho0, hb⟩; have HO349 := Aside0.mk (Kd.R_lower ho0 (below_size Hd.b_)); replace HB := Aside0.mk (below_step Hd.b_ hb); (try clear hb); (try clear hb2); (try clear hk); (try clear hi); (try clear ho0))); try go_wp2_with (first | (go_at_call 136; (with_reducible refine (spec_l7Segments.calls k _ _ l0 t347 _ ?side1 ?side2 A2.out).mono ?_); (case side1 => repeat (first | exact HR0.out | (with_reducible refine Kd.C_alloc ?_ _) | (with_reducible refine Kd.C_drewN ?_ _) | (with_reducible refine Kd.C_drew ?_))); (case side2 => exact HC0.out); rintro e w3 ⟨v348, rfl, ho0, hb⟩; have HO349 := Aside0.mk (Kd.R_lower ho0 (below_size Hd.b_)); replace HB := Aside0.mk (below_step Hd.b_ hb); (try clear hb); (try clear hb2); (try clear hk); (try clear hi); (try clear ho0))))
 go_loopg [3, 5] k (fun kq v3 v5 w' => ∃ (x3_1 : Int) (x5_1 : Int), v3 = .int .i64 x3_1 ∧ v5 = .int .i64 x5_1 ∧ Aside0 (spec_TwiceArea.l0 kq l0 x3_1 t347 x5_1 = some r) ∧ Aside0 (kq ≤ k) ∧ Aside0 (Kd.R k111 111 w' w.heap.size (fun _ => True) v348 t347) ∧ Aside0 (Below w.heap.size w w'))
 case atStart => exact ⟨(0), (0), (by first | rfl | (simp; done) | (simp [*]; done)), (by first | rfl | (simp; done) | (simp [*]; done)), H', ⟨Nat.le_refl _⟩, ⟨by (with_reducible repeat (first | apply Kd.R_alloc | apply Kd.R_drewN | apply Kd.R_drew)); exact HO349.out⟩, ⟨Hd.b_⟩⟩
 case round =>
  clear H'
  try clear c1
  try clear p2
  obtain ⟨x3_1, x5_1, rfl, rfl, HA, HK1, HO_4, HB⟩ := hrel
  cases gk with
  | zero => exact absurd HA.out (by simp [spec_TwiceArea.l0])
  | succ k1 =>
   have H := HA.out
   clear HA
   simp only [spec_TwiceArea.l0] at H
   by_cases c4 : x5_1 < (t347.length : Int)
   ·
    rw [if_pos c4] at H
    have c4b0 : decide (x5_1 < (t347.length : Int)) = true := decide_eq_true c4
    clear c4
    replace H := Option.bind_eq_some_iff.mp H
    obtain ⟨t350, A50, H⟩ := H
    replace H : (if t350 = true then (if 0 ≤ x5_1 then (spec_TwiceArea.l0 k1 l0 (wrap64 ((wrap64 (x3_1 + (wrap64 (((rd_T111 t347 x5_1).f0.f0) * ((rd_T111 t347 x5_1).f1.f1))))) - (wrap64 (((rd_T111 t347 x5_1).f0.f1) * ((rd_T111 t347 x5_1).f1.f0))))) t347 (wrap64 (x5_1 + 1))) else (none)) else (some x3_1)) = some r := H
    have A5 := Aside0.mk A50
    clear A50
    by_cases c6 : t350 = true
    ·
     subst c6
     have H1 : (if 0 ≤ x5_1 then (spec_TwiceArea.l0 k1 l0 (wrap64 ((wrap64 (x3_1 + (wrap64 (((rd_T111 t347 x5_1).f0.f0) * ((rd_T111 t347 x5_1).f1.f1))))) - (wrap64 (((rd_T111 t347 x5_1).f0.f1) * ((rd_T111 t347 x5_1).f1.f0))))) t347 (wrap64 (x5_1 + 1))) else (none)) = some r := by rw [if_pos rfl] at H; exact H
     clear H
     have H := H1
     clear H1
     by_cases c7 : 0 ≤ x5_1
     ·
      rw [if_pos c7] at H
      have c7b0 : decide (0 ≤ x5_1) = true := decide_eq_true c7
      clear c7
      have H' := Aside0.mk H
      clear H
      obtain ⟨Ao8, co8, eo8⟩ := Kd.R_slice HO_4.out
      subst eo8
      go_wp2_with (first | (go_at_call 82; (with_reducible refine (spec_IsRing.calls k1 _ _ l0 true _ ?side1 ?side2 A5.out).mono ?_); (case side1 => repeat (first | exact (Kd.C_below HR0.out HB.out) | (with_reducible refine Kd.C_alloc ?_ _) | (with_reducible refine Kd.C_drewN ?_ _) | (with_reducible refine Kd.C_drew ?_))); (case side2 => exact HC0.out); rintro e w9 ⟨rfl, hb⟩; replace HO_4 := Aside0.mk (Kd.R_below (Hd.r_ HO_4) hb); replace HB := Aside0.mk (below_step Hd.b_ hb); (try clear hb); (try clear hb2); (try clear hk); (try clear hi); have p351 : 0 ≤ (x5_1 : Int) := of_decide_eq_true Hd.a_; have q351 : x5_1 < (t347.length : Int) := of_decide_eq_true Hd.a_; obtain ⟨ad351, e351, hx351_0, hx351_1, hx351_2, hx351_3⟩ := at_T111 (Kd.R_reads' HO_4.out).2.2 x5_1 p351 q351; cases e351; replace p351 := eq_true p351; replace q351 := eq_true q351; have p352 : 0 ≤ (x5_1 : Int) := of_decide_eq_true Hd.a_; have q352 : x5_1 < (t347.length : Int) := of_decide_eq_true Hd.a_; obtain ⟨ad352, e352, hx352_0, hx352_1, hx352_2, hx352_3⟩ := at_T111 (Kd.R_reads' HO_4.out).2.2 x5_1 p352 q352; obtain rfl : ad351 = ad352 := (by injection e352); replace p352 := eq_true p352; replace q352 := eq_true q352; have p353 : 0 ≤ (x5_1 : Int) := of_decide_eq_true Hd.a_; have q353 : x5_1 < (t347.length : Int) := of_decide_eq_true Hd.a_; obtain ⟨ad353, e353, hx353_0, hx353_1, hx353_2, hx353_3⟩ := at_T111 (Kd.R_reads' HO_4.out).2.2 x5_1 p353 q353; obtain rfl : ad351 = ad353 := (by injection e353); replace p353 := eq_true p353; replace q353 := eq_true q353; have p354 : 0 ≤ (x5_1 : Int) := of_decide_eq_true Hd.a_; have q354 : x5_1 < (t347.length : Int) := of_decide_eq_true Hd.a_; obtain ⟨ad354, e354, hx354_0, hx354_1, hx354_2, hx354_3⟩ := at_T111 (Kd.R_reads' HO_4.out).2.2 x5_1 p354 q354; obtain rfl : ad351 = ad354 := (by injection e354); replace p354 := eq_true p354; replace q354 := eq_true q354))
      repeat (go_quiet (first | (go_at_call 82; (with_reducible refine (spec_IsRing.calls k1 _ _ l0 true _ ?side1 ?side2 A5.out).mono ?_); (case side1 => repeat (first | exact (Kd.C_below HR0.out HB.out) | (with_reducible refine Kd.C_alloc ?_ _) | (with_reducible refine Kd.C_drewN ?_ _) | (with_reducible refine Kd.C_drew ?_))); (case side2 => exact HC0.out); rintro e w9 ⟨rfl, hb⟩; replace HO_4 := Aside0.mk (Kd.R_below (Hd.r_ HO_4) hb); replace HB := Aside0.mk (below_step Hd.b_ hb); (try clear hb); (try clear hb2); (try clear hk); (try clear hi); have p351 : 0 ≤ (x5_1 : Int) := of_decide_eq_true Hd.a_; have q351 : x5_1 < (t347.length : Int) := of_decide_eq_true Hd.a_; obtain ⟨ad351, e351, hx351_0, hx351_1, hx351_2, hx351_3⟩ := at_T111 (Kd.R_reads' HO_4.out).2.2 x5_1 p351 q351; cases e351; replace p351 := eq_true p351; replace q351 := eq_true q351; have p352 : 0 ≤ (x5_1 : Int) := of_decide_eq_true Hd.a_; have q352 : x5_1 < (t347.length : Int) := of_decide_eq_true Hd.a_; obtain ⟨ad352, e352, hx352_0, hx352_1, hx352_2, hx352_3⟩ := at_T111 (Kd.R_reads' HO_4.out).2.2 x5_1 p352 q352; obtain rfl : ad351 = ad352 := (by injection e352); replace p352 := eq_true p352; replace q352 := eq_true q352; have p353 : 0 ≤ (x5_1 : Int) := of_decide_eq_true Hd.a_; have q353 : x5_1 < (t347.length : Int) := of_decide_eq_true Hd.a_; obtain ⟨ad353, e353, hx353_0, hx353_1, hx353_2, hx353_3⟩ := at_T111 (Kd.R_reads' HO_4.out).2.2 x5_1 p353 q353; obtain rfl : ad351 = ad353 := (by injection e353); replace p353 := eq_true p353; replace q353 := eq_true q353; have p354 : 0 ≤ (x5_1 : Int) := of_decide_eq_true Hd.a_; have q354 : x5_1 < (t347.length : Int) := of_decide_eq_true Hd.a_; obtain ⟨ad354, e354, hx354_0, hx354_1, hx354_2, hx354_3⟩ := at_T111 (Kd.R_reads' HO_4.out).2.2 x5_1 p354 q354; obtain rfl : ad351 = ad354 := (by injection e354); replace p354 := eq_true p354; replace q354 := eq_true q354)); try go_wp2_with (first | (go_at_call 82; (with_reducible refine (spec_IsRing.calls k1 _ _ l0 true _ ?side1 ?side2 A5.out).mono ?_); (case side1 => repeat (first | exact (Kd.C_below HR0.out HB.out) | (with_reducible refine Kd.C_alloc ?_ _) | (with_reducible refine Kd.C_drewN ?_ _) | (with_reducible refine Kd.C_drew ?_))); (case side2 => exact HC0.out); rintro e w9 ⟨rfl, hb⟩; replace HO_4 := Aside0.mk (Kd.R_below (Hd.r_ HO_4) hb); replace HB := Aside0.mk (below_step Hd.b_ hb); (try clear hb); (try clear hb2); (try clear hk); (try clear hi); have p351 : 0 ≤ (x5_1 : Int) := of_decide_eq_true Hd.a_; have q351 : x5_1 < (t347.length : Int) := of_decide_eq_true Hd.a_; obtain ⟨ad351, e351, hx351_0, hx351_1, hx351_2, hx351_3⟩ := at_T111 (Kd.R_reads' HO_4.out).2.2 x5_1 p351 q351; cases e351; replace p351 := eq_true p351; replace q351 := eq_true q351; have p352 : 0 ≤ (x5_1 : Int) := of_decide_eq_true Hd.a_; have q352 : x5_1 < (t347.length : Int) := of_decide_eq_true Hd.a_; obtain ⟨ad352, e352, hx352_0, hx352_1, hx352_2, hx352_3⟩ := at_T111 (Kd.R_reads' HO_4.out).2.2 x5_1 p352 q352; obtain rfl : ad351 = ad352 := (by injection e352); replace p352 := eq_true p352; replace q352 := eq_true q352; have p353 : 0 ≤ (x5_1 : Int) := of_decide_eq_true Hd.a_; have q353 : x5_1 < (t347.length : Int) := of_decide_eq_true Hd.a_; obtain ⟨ad353, e353, hx353_0, hx353_1, hx353_2, hx353_3⟩ := at_T111 (Kd.R_reads' HO_4.out).2.2 x5_1 p353 q353; obtain rfl : ad351 = ad353 := (by injection e353); replace p353 := eq_true p353; replace q353 := eq_true q353; have p354 : 0 ≤ (x5_1 : Int) := of_decide_eq_true Hd.a_; have q354 : x5_1 < (t347.length : Int) := of_decide_eq_true Hd.a_; obtain ⟨ad354, e354, hx354_0, hx354_1, hx354_2, hx354_3⟩ := at_T111 (Kd.R_reads' HO_4.out).2.2 x5_1 p354 q354; obtain rfl : ad351 = ad354 := (by injection e354); replace p354 := eq_true p354; replace q354 := eq_true q354)))
      go_roundg k1
      case measure => have := HK1.out; omega
      case rel => exact ⟨(wrap64 ((wrap64 (x3_1 + (wrap64 (((rd_T111 t347 x5_1).f0.f0) * ((rd_T111 t347 x5_1).f1.f1))))) - (wrap64 (((rd_T111 t347 x5_1).f0.f1) * ((rd_T111 t347 x5_1).f1.f0))))), (wrap64 (x5_1 + 1)), (by first | rfl | (simp; done) | (simp [*]; done)), (by first | rfl | (simp; done) | (simp [*]; done)), H', ⟨by have := HK1.out; omega⟩, ⟨by (with_reducible repeat (first | apply Kd.R_alloc | apply Kd.R_drewN | apply Kd.R_drew)); exact HO_4.out⟩, ⟨Hd.b_⟩⟩
     ·
      rw [if_neg c7] at H
      exact absurd H (by simp)
    ·
     replace c6 := Bool.eq_false_iff.mpr c6
     subst c6
     have H1 : (some x3_1) = some r := by rw [if_neg (show ¬ (false = true) by decide)] at H; exact H
     clear H
     have H := H1
     clear H1
     obtain rfl := Option.some.inj H
     obtain ⟨Ao10, co10, eo10⟩ := Kd.R_slice HO_4.out
     subst eo10
     go_wp2_with (first | (go_at_call 82; (with_reducible refine (spec_IsRing.calls k1 _ _ l0 false _ ?side1 ?side2 A5.out).mono ?_); (case side1 => repeat (first | exact (Kd.C_below HR0.out HB.out) | (with_reducible refine Kd.C_alloc ?_ _) | (with_reducible refine Kd.C_drewN ?_ _) | (with_reducible refine Kd.C_drew ?_))); (case side2 => exact HC0.out); rintro e w11 ⟨rfl, hb⟩; replace HO_4 := Aside0.mk (Kd.R_below (Hd.r_ HO_4) hb); replace HB := Aside0.mk (below_step Hd.b_ hb); (try clear hb); (try clear hb2); (try clear hk); (try clear hi)))
     repeat (go_quiet (first | (go_at_call 82; (with_reducible refine (spec_IsRing.calls k1 _ _ l0 false _ ?side1 ?side2 A5.out).mono ?_); (case side1 => repeat (first | exact (Kd.C_below HR0.out HB.out) | (with_reducible refine Kd.C_alloc ?_ _) | (with_reducible refine Kd.C_drewN ?_ _) | (with_reducible refine Kd.C_drew ?_))); (case side2 => exact HC0.out); rintro e w11 ⟨rfl, hb⟩; replace HO_4 := Aside0.mk (Kd.R_below (Hd.r_ HO_4) hb); replace HB := Aside0.mk (below_step Hd.b_ hb); (try clear hb); (try clear hb2); (try clear hk); (try clear hi))); try go_wp2_with (first | (go_at_call 82; (with_reducible refine (spec_IsRing.calls k1 _ _ l0 false _ ?side1 ?side2 A5.out).mono ?_); (case side1 => repeat (first | exact (Kd.C_below HR0.out HB.out) | (with_reducible refine Kd.C_alloc ?_ _) | (with_reducible refine Kd.C_drewN ?_ _) | (with_reducible refine Kd.C_drew ?_))); (case side2 => exact HC0.out); rintro e w11 ⟨rfl, hb⟩; replace HO_4 := Aside0.mk (Kd.R_below (Hd.r_ HO_4) hb); replace HB := Aside0.mk (below_step Hd.b_ hb); (try clear hb); (try clear hb2); (try clear hk); (try clear hi))))
     go_ret
     exact ⟨Hd.e_, Hd.b_⟩
   ·
    rw [if_neg c4] at H
    have c4b0 : decide (x5_1 < (t347.length : Int)) = false := decide_eq_false c4
    clear c4
    obtain rfl := Option.some.inj H
    obtain ⟨Ao12, co12, eo12⟩ := Kd.R_slice HO_4.out
    subst eo12
    go_wp2
    repeat (go_quiet (fail); try go_wp2)
    go_ret
    exact ⟨Hd.e_, Hd.b_⟩
def spec_SameTurn.f (k : Nat) (l0 : List (S49)) (l1 : List (S49)) : Option (Bool) := (spec_TwiceArea.f k l0).bind fun t355 => ((spec_TwiceArea.f k l1).bind fun t356 => (if t355 > 0 then (if t356 > 0 then (some true) else (if t355 < 0 then (some (decide (t356 < 0))) else (some false))) else (if t355 < 0 then (some (decide (t356 < 0))) else (some false))))
set_option maxHeartbeats 8000000 in
set_option maxRecDepth 100000 in
theorem spec_SameTurn.calls (k : Nat) (A0 : Option Addr) (c0 : Nat) (l0 : List (S49)) (A1 : Option Addr) (c1 : Nat) (l1 : List (S49)) (r : Bool) (w : World) (hr0 : Kd.C k49 w A0 l0.length l0) (hc0 : l0.length ≤ c0) (hr1 : Kd.C k49 w A1 l1.length l1) (hc1 : l1.length ≤ c1) (h : spec_SameTurn.f k l0 l1 = some r) :
  Calls Try.prog 84 #[.slice A0 l0.length c0, .slice A1 l1.length c1] w fun e w' => e = .returned (.bool r) ∧ Below w.heap.size w w' := by
 have HR0 := Aside0.mk hr0
 have HC0 := Aside0.mk hc0
 clear hr0 hc0
 have HR1 := Aside0.mk hr1
 have HC1 := Aside0.mk hc1
 clear hr1 hc1
 have HB := Aside0.mk (Below.refl w.heap.size w)
 have H : ((spec_TwiceArea.f k l0).bind fun t355 => ((spec_TwiceArea.f k l1).bind fun t356 => (if t355 > 0 then (if t356 > 0 then (some true) else (if t355 < 0 then (some (decide (t356 < 0))) else (some false))) else (if t355 < 0 then (some (decide (t356 < 0))) else (some false))))) = some r := h
 clear h
 replace H := Option.bind_eq_some_iff.mp H
 obtain ⟨t355, A30, H⟩ := H
 replace H : ((spec_TwiceArea.f k l1).bind fun t356 => (if t355 > 0 then (if t356 > 0 then (some true) else (if t355 < 0 then (some (decide (t356 < 0))) else (some false))) else (if t355 < 0 then (some (decide (t356 < 0))) else (some false)))) = some r := H
 have A3 := Aside0.mk A30
 clear A30
 replace H := Option.bind_eq_some_iff.mp H
 obtain ⟨t356, A40, H⟩ := H
 replace H : (if t355 > 0 then (if t356 > 0 then (some true) else (if t355 < 0 then (some (decide (t356 < 0))) else (some false))) else (if t355 < 0 then (some (decide (t356 < 0))) else (some false))) = some r := H
 have A4 := Aside0.mk A40
 clear A40
 by_cases c5 : t355 > 0
 ·
  rw [if_pos c5] at H
  have c5b0 : decide (0 < t355) = true := decide_eq_true c5
  clear c5
  by_cases c6 : t356 > 0
  ·
   rw [if_pos c6] at H
   have c6b0 : decide (0 < t356) = true := decide_eq_true c6
   clear c6
   obtain rfl := Option.some.inj H
   go_enter Try.func84, Try.ntmps84
   go_wp2_with (first | ((with_reducible refine gate_callee (f := 138) rfl ?_); refine goesL_ (some 8) rfl rfl Try.func138 (by kernel_rfl) rfl #[.slice A0 l0.length c0] rfl Hd.m_ ?_; (with_reducible refine (spec_TwiceArea.calls k _ _ l0 t355 _ ?side1 ?side2 A3.out).mono ?_); (case side1 => repeat (first | exact HR0.out | (with_reducible refine Kd.C_alloc ?_ _) | (with_reducible refine Kd.C_drewN ?_ _) | (with_reducible refine Kd.C_drew ?_))); (case side2 => exact HC0.out); rintro e w7 ⟨rfl, hb⟩; refine ⟨_, rfl, ?_⟩; replace HB := Aside0.mk (below_step Hd.b_ hb); (try clear hb); (try clear hb2); (try clear hk); (try clear hi)) | ((with_reducible refine gate_callee (f := 138) rfl ?_); refine goesL_ (some 10) rfl rfl Try.func138 (by kernel_rfl) rfl #[.slice A1 l1.length c1] rfl Hd.m_ ?_; (with_reducible refine (spec_TwiceArea.calls k _ _ l1 t356 _ ?side1 ?side2 A4.out).mono ?_); (case side1 => repeat (first | exact (Kd.C_below HR1.out HB.out) | (with_reducible refine Kd.C_alloc ?_ _) | (with_reducible refine Kd.C_drewN ?_ _) | (with_reducible refine Kd.C_drew ?_))); (case side2 => exact HC1.out); rintro e w8 ⟨rfl, hb⟩; refine ⟨_, rfl, ?_⟩; replace HB := Aside0.mk (below_step Hd.b_ hb); (try clear hb); (try clear hb2); (try clear hk); (try clear hi)))
   go_ret
   exact ⟨Hd.e_, Hd.b_⟩
  ·
   rw [if_neg c6] at H
   have c6b0 : decide (0 < t356) = false := decide_eq_false c6
   clear c6
   by_cases c9 : t355 < 0
   ·
    rw [if_pos c9] at H
    have c9b0 : decide (t355 < 0) = true := decide_eq_true c9
    clear c9
    obtain rfl := Option.some.inj H
    go_enter Try.func84, Try.ntmps84
    go_wp2_with (first | ((with_reducible refine gate_callee (f := 138) rfl ?_); refine goesL_ (some 8) rfl rfl Try.func138 (by kernel_rfl) rfl #[.slice A0 l0.length c0] rfl Hd.m_ ?_; (with_reducible refine (spec_TwiceArea.calls k _ _ l0 t355 _ ?side1 ?side2 A3.out).mono ?_); (case side1 => repeat (first | exact HR0.out | (with_reducible refine Kd.C_alloc ?_ _) | (with_reducible refine Kd.C_drewN ?_ _) | (with_reducible refine Kd.C_drew ?_))); (case side2 => exact HC0.out); rintro e w10 ⟨rfl, hb⟩; refine ⟨_, rfl, ?_⟩; replace HB := Aside0.mk (below_step Hd.b_ hb); (try clear hb); (try clear hb2); (try clear hk); (try clear hi)) | ((with_reducible refine gate_callee (f := 138) rfl ?_); refine goesL_ (some 10) rfl rfl Try.func138 (by kernel_rfl) rfl #[.slice A1 l1.length c1] rfl Hd.m_ ?_; (with_reducible refine (spec_TwiceArea.calls k _ _ l1 t356 _ ?side1 ?side2 A4.out).mono ?_); (case side1 => repeat (first | exact (Kd.C_below HR1.out HB.out) | (with_reducible refine Kd.C_alloc ?_ _) | (with_reducible refine Kd.C_drewN ?_ _) | (with_reducible refine Kd.C_drew ?_))); (case side2 => exact HC1.out); rintro e w11 ⟨rfl, hb⟩; refine ⟨_, rfl, ?_⟩; replace HB := Aside0.mk (below_step Hd.b_ hb); (try clear hb); (try clear hb2); (try clear hk); (try clear hi)))
    go_ret
    exact ⟨Hd.e_, Hd.b_⟩
   ·
    rw [if_neg c9] at H
    have c9b0 : decide (t355 < 0) = false := decide_eq_false c9
    clear c9
    obtain rfl := Option.some.inj H
    go_enter Try.func84, Try.ntmps84
    go_wp2_with (first | ((with_reducible refine gate_callee (f := 138) rfl ?_); refine goesL_ (some 8) rfl rfl Try.func138 (by kernel_rfl) rfl #[.slice A0 l0.length c0] rfl Hd.m_ ?_; (with_reducible refine (spec_TwiceArea.calls k _ _ l0 t355 _ ?side1 ?side2 A3.out).mono ?_); (case side1 => repeat (first | exact HR0.out | (with_reducible refine Kd.C_alloc ?_ _) | (with_reducible refine Kd.C_drewN ?_ _) | (with_reducible refine Kd.C_drew ?_))); (case side2 => exact HC0.out); rintro e w12 ⟨rfl, hb⟩; refine ⟨_, rfl, ?_⟩; replace HB := Aside0.mk (below_step Hd.b_ hb); (try clear hb); (try clear hb2); (try clear hk); (try clear hi)) | ((with_reducible refine gate_callee (f := 138) rfl ?_); refine goesL_ (some 10) rfl rfl Try.func138 (by kernel_rfl) rfl #[.slice A1 l1.length c1] rfl Hd.m_ ?_; (with_reducible refine (spec_TwiceArea.calls k _ _ l1 t356 _ ?side1 ?side2 A4.out).mono ?_); (case side1 => repeat (first | exact (Kd.C_below HR1.out HB.out) | (with_reducible refine Kd.C_alloc ?_ _) | (with_reducible refine Kd.C_drewN ?_ _) | (with_reducible refine Kd.C_drew ?_))); (case side2 => exact HC1.out); rintro e w13 ⟨rfl, hb⟩; refine ⟨_, rfl, ?_⟩; replace HB := Aside0.mk (below_step Hd.b_ hb); (try clear hb); (try clear hb2); (try clear hk); (try clear hi)))
    go_ret
    exact ⟨Hd.e_, Hd.b_⟩
 ·
  rw [if_neg c5] at H
  have c5b0 : decide (0 < t355) = false := decide_eq_false c5
  clear c5
  by_cases c14 : t355 < 0
  ·
   rw [if_pos c14] at H
   have c14b0 : decide (t355 < 0) = true := decide_eq_true c14
   clear c14
   obtain rfl := Option.some.inj H
   go_enter Try.func84, Try.ntmps84
   go_wp2_with (first | ((with_reducible refine gate_callee (f := 138) rfl ?_); refine goesL_ (some 8) rfl rfl Try.func138 (by kernel_rfl) rfl #[.slice A0 l0.length c0] rfl Hd.m_ ?_; (with_reducible refine (spec_TwiceArea.calls k _ _ l0 t355 _ ?side1 ?side2 A3.out).mono ?_); (case side1 => repeat (first | exact HR0.out | (with_reducible refine Kd.C_alloc ?_ _) | (with_reducible refine Kd.C_drewN ?_ _) | (with_reducible refine Kd.C_drew ?_))); (case side2 => exact HC0.out); rintro e w15 ⟨rfl, hb⟩; refine ⟨_, rfl, ?_⟩; replace HB := Aside0.mk (below_step Hd.b_ hb); (try clear hb); (try clear hb2); (try clear hk); (try clear hi)) | ((with_reducible refine gate_callee (f := 138) rfl ?_); refine goesL_ (some 10) rfl rfl Try.func138 (by kernel_rfl) rfl #[.slice A1 l1.length c1] rfl Hd.m_ ?_; (with_reducible refine (spec_TwiceArea.calls k _ _ l1 t356 _ ?side1 ?side2 A4.out).mono ?_); (case side1 => repeat (first | exact (Kd.C_below HR1.out HB.out) | (with_reducible refine Kd.C_alloc ?_ _) | (with_reducible refine Kd.C_drewN ?_ _) | (with_reducible refine Kd.C_drew ?_))); (case side2 => exact HC1.out); rintro e w16 ⟨rfl, hb⟩; refine ⟨_, rfl, ?_⟩; replace HB := Aside0.mk (below_step Hd.b_ hb); (try clear hb); (try clear hb2); (try clear hk); (try clear hi)))
   go_ret
   exact ⟨Hd.e_, Hd.b_⟩
  ·
   rw [if_neg c14] at H
   have c14b0 : decide (t355 < 0) = false := decide_eq_false c14
   clear c14
   obtain rfl := Option.some.inj H
   go_enter Try.func84, Try.ntmps84
   go_wp2_with (first | ((with_reducible refine gate_callee (f := 138) rfl ?_); refine goesL_ (some 8) rfl rfl Try.func138 (by kernel_rfl) rfl #[.slice A0 l0.length c0] rfl Hd.m_ ?_; (with_reducible refine (spec_TwiceArea.calls k _ _ l0 t355 _ ?side1 ?side2 A3.out).mono ?_); (case side1 => repeat (first | exact HR0.out | (with_reducible refine Kd.C_alloc ?_ _) | (with_reducible refine Kd.C_drewN ?_ _) | (with_reducible refine Kd.C_drew ?_))); (case side2 => exact HC0.out); rintro e w17 ⟨rfl, hb⟩; refine ⟨_, rfl, ?_⟩; replace HB := Aside0.mk (below_step Hd.b_ hb); (try clear hb); (try clear hb2); (try clear hk); (try clear hi)) | ((with_reducible refine gate_callee (f := 138) rfl ?_); refine goesL_ (some 10) rfl rfl Try.func138 (by kernel_rfl) rfl #[.slice A1 l1.length c1] rfl Hd.m_ ?_; (with_reducible refine (spec_TwiceArea.calls k _ _ l1 t356 _ ?side1 ?side2 A4.out).mono ?_); (case side1 => repeat (first | exact (Kd.C_below HR1.out HB.out) | (with_reducible refine Kd.C_alloc ?_ _) | (with_reducible refine Kd.C_drewN ?_ _) | (with_reducible refine Kd.C_drew ?_))); (case side2 => exact HC1.out); rintro e w18 ⟨rfl, hb⟩; refine ⟨_, rfl, ?_⟩; replace HB := Aside0.mk (below_step Hd.b_ hb); (try clear hb); (try clear hb2); (try clear hk); (try clear hi)))
   go_ret
   exact ⟨Hd.e_, Hd.b_⟩
end Go.Proofs.Ytchmbcembbbplac.MFnExactSafeRing
