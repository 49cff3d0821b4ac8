-- Laid by this session's program pp.py, after the kit's print and texts of the session's own. Not trusted: Lean checks it.
import Derived.Test.YtchmbcembbbplacZIsSourceMx0
import Derived.Test.YtchmbcembbbplacZIsSourceMx1
import Derived.Test.YtchmbcembbbplacZIsSourceMx2
import Derived.Test.YtchmbcembbbplacZIsSourceMx4
namespace Go.Proofs.Ytchmbcembbbplac.MFnExactIsSource
open Go.RowKit Go.Proofs.YtchmbcembbbplacW.PrintWords Go.Proofs.YtchmbcembbbplacW.PrintLast Go.Proofs.YtchmbcembbbplacW.PrintMore
attribute [local go_sem] max2_int min2_int max_two min_two max_three min_three max_four min_four   -- for this text's walks alone
set_option linter.unusedVariables false
set_option linter.unusedSimpArgs false
attribute [local go_sem high] eqA49
mutual
def spec_IsRing.l0 : Nat → List (S111) → Int → Option (Bool)
 | 0, _, _ => none
 | k + 1, x3, x4 => if x4 < (x3.length : Int) then (if 0 ≤ x4 then ((spec_IsSegment.f ((rd_T111 x3 x4).f0.f0) ((rd_T111 x3 x4).f0.f1) ((rd_T111 x3 x4).f1.f0) ((rd_T111 x3 x4).f1.f1)).bind fun t182 => (if t182 = true then (spec_IsRing.l1 k x3 x4 0) else (some false))) else (none)) else (some true)
def spec_IsRing.l1 : Nat → List (S111) → Int → Int → Option (Bool)
 | 0, _, _, _ => none
 | k + 1, x3, x4, x5 => if x5 < x4 then (if (wrap64 (x5 + 1)) = x4 then (spec_IsRing.j2 k x3 x4 x5 0 true) else (if x5 = 0 then (spec_IsRing.j2 k x3 x4 x5 0 ((wrap64 (x4 + 1)) == (x3.length : Int))) else (spec_IsRing.j2 k x3 x4 x5 0 false))) else (spec_IsRing.l0 k x3 (wrap64 (x4 + 1)))
def spec_IsRing.j2 : Nat → List (S111) → Int → Int → Int → Bool → Option (Bool)
 | 0, _, _, _, _, _ => none
 | k + 1, x3, x4, x5, x6, x44 => if x44 = true then (if 0 ≤ x4 then (if x4 < (x3.length : Int) then (if 0 ≤ x5 then (if x5 < (x3.length : Int) then ((spec_HowMeet.f k ((rd_T111 x3 x4).f0.f0) ((rd_T111 x3 x4).f0.f1) ((rd_T111 x3 x4).f1.f0) ((rd_T111 x3 x4).f1.f1) ((rd_T111 x3 x5).f0.f0) ((rd_T111 x3 x5).f0.f1) ((rd_T111 x3 x5).f1.f0) ((rd_T111 x3 x5).f1.f1)).bind fun t185 => (if t185 = 1 then (spec_IsRing.l1 k x3 x4 (wrap64 (x5 + 1))) else (some false))) else (none)) else (none)) else (none)) else (none)) else (if 0 ≤ x4 then (if x4 < (x3.length : Int) then (if 0 ≤ x5 then (if x5 < (x3.length : Int) then ((spec_HowMeet.f k ((rd_T111 x3 x4).f0.f0) ((rd_T111 x3 x4).f0.f1) ((rd_T111 x3 x4).f1.f0) ((rd_T111 x3 x4).f1.f1) ((rd_T111 x3 x5).f0.f0) ((rd_T111 x3 x5).f0.f1) ((rd_T111 x3 x5).f1.f0) ((rd_T111 x3 x5).f1.f1)).bind fun t188 => (if t188 = x6 then (spec_IsRing.l1 k x3 x4 (wrap64 (x5 + 1))) else (some false))) else (none)) else (none)) else (none)) else (none))
end
def spec_IsRing.f (k : Nat) (l0 : List (S49)) : Option (Bool) := (spec_l1In.f (l0.length : Int) 3 10).bind fun t177 => (if t177 = true then ((spec_l7Segments.f k l0).bind fun t178 => (spec_IsRing.l0 k t178 0)) else (some false))
set_option maxHeartbeats 8000000 in
set_option maxRecDepth 100000 in
theorem spec_IsRing.calls (k : Nat) (A0 : Option Addr) (c0 : Nat) (l0 : List (S49)) (r : Bool) (w : World) (hr0 : Kd.C k49 w A0 l0.length l0) (hc0 : l0.length ≤ c0) (h : spec_IsRing.f k l0 = some r) :
  Calls Try.prog 82 #[.slice A0 l0.length c0] w fun e w' => e = .returned (.bool r) ∧ Below w.heap.size w w' := by
 have hu111 := Try.underlying111
 have HR0 := Aside0.mk hr0
 have HC0 := Aside0.mk hc0
 clear hr0 hc0
 have HB := Aside0.mk (Below.refl w.heap.size w)
 have H : ((spec_l1In.f (l0.length : Int) 3 10).bind fun t177 => (if t177 = true then ((spec_l7Segments.f k l0).bind fun t178 => (spec_IsRing.l0 k t178 0)) else (some false))) = some r := h
 clear h
 replace H := Option.bind_eq_some_iff.mp H
 obtain ⟨t177, A20, H⟩ := H
 replace H : (if t177 = true then ((spec_l7Segments.f k l0).bind fun t178 => (spec_IsRing.l0 k t178 0)) else (some false)) = some r := H
 have A2 := Aside0.mk A20
 clear A20
 by_cases c3 : t177 = true
 ·
  subst c3
  have H1 : ((spec_l7Segments.f k l0).bind fun t178 => (spec_IsRing.l0 k t178 0)) = some r := by rw [if_pos rfl] at H; exact H
  clear H
  have H := H1
  clear H1
  replace H := Option.bind_eq_some_iff.mp H
  obtain ⟨t178, A40, H⟩ := H
  replace H : (spec_IsRing.l0 k t178 0) = some r := H
  have A4 := Aside0.mk A40
  clear A40
  have H' := Aside0.mk H
  clear H
  go_enter Try.func82, Try.ntmps82
  go_wp2_with (first | ((with_reducible refine gate_callee (f := 83) rfl ?_); refine goesL_ (some 9) rfl rfl Try.func83 (by kernel_rfl) rfl #[.int .i64 (l0.length : Int), .int .i64 3, .int .i64 10] rfl Hd.m_ ?_; (with_reducible refine (spec_l1In.calls (l0.length : Int) 3 10 true _ A2.out).mono ?_); rintro e w' ⟨rfl, ⟨nd, rfl⟩⟩; refine ⟨_, rfl, ?_⟩) | ((with_reducible refine gate_callee (f := 136) rfl ?_); refine goesL_ (some 12) rfl rfl Try.func136 (by kernel_rfl) rfl #[.slice A0 l0.length c0] rfl Hd.m_ ?_; (with_reducible refine (spec_l7Segments.calls k _ _ l0 t178 _ ?side1 ?side2 A4.out).mono ?_); (case side1 => repeat (first | exact HR0.out | (with_reducible refine Kd.C_alloc ?_ _) | (with_reducible refine Kd.C_drewN ?_ _) | (with_reducible refine Kd.C_drew ?_))); (case side2 => exact HC0.out); rintro e w5 ⟨v179, rfl, ho0, hb⟩; refine ⟨_, rfl, ?_⟩; have HO180 := Aside0.mk (Kd.R_lower ho0 (below_size Hd.b_)); replace HB := Aside0.mk (below_step Hd.b_ hb); (try clear hb); (try clear hb2); (try clear hk); (try clear hi); (try clear ho0)))
  go_loopg [4] k (fun kq v4 w' => ∃ (x4_1 : Int), v4 = .int .i64 x4_1 ∧ Aside0 (spec_IsRing.l0 kq t178 x4_1 = some r) ∧ Aside0 (kq ≤ k) ∧ Aside0 (Kd.R k111 111 w' w.heap.size (fun _ => True) v179 t178) ∧ Aside0 (Below w.heap.size w w'))
  case atStart => exact ⟨(0), (by first | rfl | (simp; done) | (simp [*]; done)), H', ⟨Nat.le_refl _⟩, ⟨by (with_reducible repeat (first | apply Kd.R_alloc | apply Kd.R_drewN | apply Kd.R_drew)); exact HO180.out⟩, ⟨Hd.b_⟩⟩
  case round =>
   clear H'
   try clear c1
   try clear p2
   try clear c3
   obtain ⟨x4_1, rfl, HA, HK1, HO_3, HB⟩ := hrel
   cases gk with
   | zero => exact absurd HA.out (by simp [spec_IsRing.l0])
   | succ k1 =>
    have H := HA.out
    clear HA
    simp only [spec_IsRing.l0] at H
    by_cases c6 : x4_1 < (t178.length : Int)
    ·
     rw [if_pos c6] at H
     have c6b0 : decide (x4_1 < (t178.length : Int)) = true := decide_eq_true c6
     clear c6
     by_cases c7 : 0 ≤ x4_1
     ·
      rw [if_pos c7] at H
      have c7b0 : decide (0 ≤ x4_1) = true := decide_eq_true c7
      clear c7
      replace H := Option.bind_eq_some_iff.mp H
      obtain ⟨t182, A80, H⟩ := H
      replace H : (if t182 = true then (spec_IsRing.l1 k1 t178 x4_1 0) else (some false)) = some r := H
      have A8 := Aside0.mk A80
      clear A80
      by_cases c9 : t182 = true
      ·
       subst c9
       have H1 : (spec_IsRing.l1 k1 t178 x4_1 0) = some r := by rw [if_pos rfl] at H; exact H
       clear H
       have H := H1
       clear H1
       have H' := Aside0.mk H
       clear H
       obtain ⟨Ao10, co10, eo10⟩ := Kd.R_slice HO_3.out
       subst eo10
       have p181 : 0 ≤ (x4_1 : Int) := of_decide_eq_true Hd.a_
       have q181 : x4_1 < (t178.length : Int) := of_decide_eq_true Hd.a_
       obtain ⟨ad181, e181, hx181_0, hx181_1, hx181_2, hx181_3⟩ := at_T111 (Kd.R_reads' HO_3.out).2.2 x4_1 p181 q181
       cases e181
       replace p181 := eq_true p181
       replace q181 := eq_true q181
       go_wp2_with (first | ((with_reducible refine gate_callee (f := 137) rfl ?_); refine goesL_ (some 23) rfl rfl Try.func137 (by kernel_rfl) rfl #[.agg #[.int .i64 ((rd_T111 t178 x4_1).f0.f0), .int .i64 ((rd_T111 t178 x4_1).f0.f1), .int .i64 ((rd_T111 t178 x4_1).f1.f0), .int .i64 ((rd_T111 t178 x4_1).f1.f1)]] rfl Hd.m_ ?_; (with_reducible refine (spec_IsSegment.calls ((rd_T111 t178 x4_1).f0.f0) ((rd_T111 t178 x4_1).f0.f1) ((rd_T111 t178 x4_1).f1.f0) ((rd_T111 t178 x4_1).f1.f1) true _ A8.out).mono ?_); rintro e w11 ⟨rfl, hb⟩; refine ⟨_, rfl, ?_⟩; replace HO_3 := Aside0.mk (Kd.R_below (Hd.r_ HO_3) hb); replace HB := Aside0.mk (below_step Hd.b_ hb); (try clear hb); (try clear hb2); (try clear hk); (try clear hi)))
       go_loopg [5] k1 (fun kq v5 w' => ∃ (x5_2 : Int), v5 = .int .i64 x5_2 ∧ Aside0 (spec_IsRing.l1 kq t178 x4_1 x5_2 = some r) ∧ Aside0 (kq ≤ k1) ∧ Aside0 (Kd.R k111 111 w' w.heap.size (fun _ => True) (.slice (some ad181) t178.length co10) t178) ∧ Aside0 (Below w.heap.size w w'))
       case atStart => exact ⟨(0), (by first | rfl | (simp; done) | (simp [*]; done)), H', ⟨Nat.le_refl _⟩, ⟨by (with_reducible repeat (first | apply Kd.R_alloc | apply Kd.R_drewN | apply Kd.R_drew)); exact HO_3.out⟩, ⟨Hd.b_⟩⟩
       case round =>
        clear H'
        try clear c1
        try clear p1
        try clear q1
        try clear hx1
        try clear p2
        try clear c3
        try clear c6
        try clear c6b0
        try clear c7
        try clear c7b0
        try clear c8
        try clear c9
        try clear hx181_0
        try clear hx181_1
        try clear hx181_2
        try clear hx181_3
        try clear p181
        try clear p2
        try clear q181
        obtain ⟨x5_2, rfl, HA, HK2, HO_3, HB⟩ := hrel
        cases gk with
        | zero => exact absurd HA.out (by simp [spec_IsRing.l1])
        | succ k2 =>
         have H := HA.out
         clear HA
         simp only [spec_IsRing.l1] at H
         by_cases c12 : x5_2 < x4_1
         ·
          rw [if_pos c12] at H
          have c12b0 : decide (x5_2 < x4_1) = true := decide_eq_true c12
          clear c12
          have HC13 := Aside0.mk H
          clear H
          go_upto_region 13 with (fail)
          go_cut [44] (fun v44 wc => ∃ (kq : Nat) (x44_12 : Bool), v44 = .bool x44_12 ∧ Aside0 (spec_IsRing.j2 kq t178 x4_1 x5_2 0 x44_12 = some r) ∧ Aside0 (kq ≤ k2) ∧ Aside0 (Kd.R k111 111 wc w.heap.size (fun _ => True) (.slice (some ad181) t178.length co10) t178) ∧ Aside0 (Below w.heap.size w wc))
          case first =>
           have H := HC13.out
           clear HC13
           by_cases c14 : (wrap64 (x5_2 + 1)) = x4_1
           ·
            rw [if_pos c14] at H
            have c14b0 : ((wrap64 (x5_2 + 1)) == x4_1) = true := beq_iff_eq.mpr c14
            have c14b1 : ((wrap64 (x5_2 + 1)) != x4_1) = false := bne_eq_false_iff_eq.mpr c14
            clear c14
            (first | rw [c14b0] | (simp only [i64_w, i32_w]; rw [c14b0]) | skip)
            have H' := Aside0.mk H
            clear H
            go_wp2
            go_meet
            case rel => exact ⟨_, (true), (by first | rfl | (simp; done) | (simp [*]; done)), H', ⟨by have := HK1.out; have := HK2.out; first | omega | exact Nat.le_refl _⟩, ⟨by (with_reducible repeat (first | apply Kd.R_alloc | apply Kd.R_drewN | apply Kd.R_drew)); exact HO_3.out⟩, ⟨Hd.b_⟩⟩
           ·
            rw [if_neg c14] at H
            have c14b0 : ((wrap64 (x5_2 + 1)) == x4_1) = false := beq_eq_false_iff_ne.mpr c14
            have c14b1 : ((wrap64 (x5_2 + 1)) != x4_1) = true := bne_iff_ne.mpr c14
            (first | rw [c14b0] | (simp only [i64_w, i32_w]; rw [c14b0]) | skip)
            by_cases c15 : x5_2 = 0
            ·
             rw [if_pos c15] at H
             have c15b0 : (x5_2 == 0) = true := beq_iff_eq.mpr c15
             have c15b1 : (x5_2 != 0) = false := bne_eq_false_iff_eq.mpr c15
             clear c15
             have H' := Aside0.mk H
             clear H
             go_wp2
             go_meet
             case rel => exact ⟨_, (((wrap64 (x4_1 + 1)) == (t178.length : Int))), (by first | rfl | (simp; done) | (simp [*]; done)), H', ⟨by have := HK1.out; have := HK2.out; first | omega | exact Nat.le_refl _⟩, ⟨by (with_reducible repeat (first | apply Kd.R_alloc | apply Kd.R_drewN | apply Kd.R_drew)); exact HO_3.out⟩, ⟨Hd.b_⟩⟩
            ·
             rw [if_neg c15] at H
             have c15b0 : (x5_2 == 0) = false := beq_eq_false_iff_ne.mpr c15
             have c15b1 : (x5_2 != 0) = true := bne_iff_ne.mpr c15
             have H' := Aside0.mk H
             clear H
             go_wp2
             go_meet
             case rel => exact ⟨_, (false), (by first | rfl | (simp; done) | (simp [*]; done)), H', ⟨by have := HK1.out; have := HK2.out; first | omega | exact Nat.le_refl _⟩, ⟨by (with_reducible repeat (first | apply Kd.R_alloc | apply Kd.R_drewN | apply Kd.R_drew)); exact HO_3.out⟩, ⟨Hd.b_⟩⟩
          case rest =>
           clear HC13
           try clear c1
           try clear p1
           try clear q1
           try clear hx1
           try clear p2
           try clear c3
           try clear c6
           try clear c6b0
           try clear p6
           try clear c7
           try clear c7b0
           try clear c8
           try clear c9
           try clear c12
           try clear c12b0
           try clear c13
           try clear c14
           try clear c14b0
           try clear c14b1
           try clear c15
           try clear c15b0
           try clear c15b1
           try clear hx181_0
           try clear hx181_1
           try clear hx181_2
           try clear hx181_3
           try clear p1
           try clear p181
           try clear p2
           try clear q1
           try clear q181
           obtain ⟨kq, x44_12, rfl, HA, HJ12, HO_3, HB⟩ := hcut
           cases kq with
           | zero => exact absurd HA.out (by simp [spec_IsRing.j2])
           | succ kj12 =>
            have H := HA.out
            clear HA
            simp only [spec_IsRing.j2] at H
            by_cases c16 : x44_12 = true
            ·
             subst c16
             have H1 : (if 0 ≤ x4_1 then (if x4_1 < (t178.length : Int) then (if 0 ≤ x5_2 then (if x5_2 < (t178.length : Int) then ((spec_HowMeet.f kj12 ((rd_T111 t178 x4_1).f0.f0) ((rd_T111 t178 x4_1).f0.f1) ((rd_T111 t178 x4_1).f1.f0) ((rd_T111 t178 x4_1).f1.f1) ((rd_T111 t178 x5_2).f0.f0) ((rd_T111 t178 x5_2).f0.f1) ((rd_T111 t178 x5_2).f1.f0) ((rd_T111 t178 x5_2).f1.f1)).bind fun t185 => (if t185 = 1 then (spec_IsRing.l1 kj12 t178 x4_1 (wrap64 (x5_2 + 1))) else (some false))) else (none)) else (none)) else (none)) else (none)) = some r := by rw [if_pos rfl] at H; exact H
             clear H
             have H := H1
             clear H1
             by_cases c17 : 0 ≤ x4_1
             ·
              rw [if_pos c17] at H
              have c17b0 : decide (0 ≤ x4_1) = true := decide_eq_true c17
              clear c17
              by_cases c18 : x4_1 < (t178.length : Int)
              ·
               rw [if_pos c18] at H
               have c18b0 : decide (x4_1 < (t178.length : Int)) = true := decide_eq_true c18
               clear c18
               by_cases c19 : 0 ≤ x5_2
               ·
                rw [if_pos c19] at H
                have c19b0 : decide (0 ≤ x5_2) = true := decide_eq_true c19
                clear c19
                by_cases c20 : x5_2 < (t178.length : Int)
                ·
                 rw [if_pos c20] at H
                 have c20b0 : decide (x5_2 < (t178.length : Int)) = true := decide_eq_true c20
                 clear c20
                 replace H := Option.bind_eq_some_iff.mp H
                 obtain ⟨t185, A210, H⟩ := H
                 replace H : (if t185 = 1 then (spec_IsRing.l1 kj12 t178 x4_1 (wrap64 (x5_2 + 1))) else (some false)) = some r := H
                 have A21 := Aside0.mk A210
                 clear A210
                 by_cases c22 : t185 = 1
                 ·
                  rw [if_pos c22] at H
                  have c22b0 : (t185 == 1) = true := beq_iff_eq.mpr c22
                  have c22b1 : (t185 != 1) = false := bne_eq_false_iff_eq.mpr c22
                  clear c22
                  have H' := Aside0.mk H
                  clear H
                  try go_wp2
                  replace HO_3 := Aside0.mk (Kd.R_drew HO_3.out)
                  replace HB := Aside0.mk (below_drew1 HB.out)
                  have p183 : 0 ≤ (x4_1 : Int) := of_decide_eq_true Hd.a_
                  have q183 : x4_1 < (t178.length : Int) := of_decide_eq_true Hd.a_
                  obtain ⟨ad183, e183, hx183_0, hx183_1, hx183_2, hx183_3⟩ := at_T111 (Kd.R_reads' HO_3.out).2.2 x4_1 p183 q183
                  obtain rfl : ad181 = ad183 := (by injection e183)
                  replace p183 := eq_true p183
                  replace q183 := eq_true q183
                  have p184 : 0 ≤ (x5_2 : Int) := of_decide_eq_true Hd.a_
                  have q184 : x5_2 < (t178.length : Int) := of_decide_eq_true Hd.a_
                  obtain ⟨ad184, e184, hx184_0, hx184_1, hx184_2, hx184_3⟩ := at_T111 (Kd.R_reads' HO_3.out).2.2 x5_2 p184 q184
                  obtain rfl : ad181 = ad184 := (by injection e184)
                  replace p184 := eq_true p184
                  replace q184 := eq_true q184
                  have s0_ := Hd.HW.x (W0 := wc.drew) hx183_0
                  have s1_ := Hd.HW.x (W0 := wc.drew) hx183_1
                  have s2_ := Hd.HW.x (W0 := wc.drew) hx183_2
                  have s3_ := Hd.HW.x (W0 := wc.drew) hx183_3
                  have s4_ := Hd.HW.x (W0 := wc.drew) hx184_0
                  have s5_ := Hd.HW.x (W0 := wc.drew) hx184_1
                  have s6_ := Hd.HW.x (W0 := wc.drew) hx184_2
                  have s7_ := Hd.HW.x (W0 := wc.drew) hx184_3
                  refine Hd.HW.region (by kernel_rfl) (by kernel_rfl) ?_
                  repeat (go_big_quiet_step ((first | (go_at_call 129; with_reducible exact Hd.HW.c (spec_HowMeet.calls kj12 ((rd_T111 t178 x4_1).f0.f0) ((rd_T111 t178 x4_1).f0.f1) ((rd_T111 t178 x4_1).f1.f0) ((rd_T111 t178 x4_1).f1.f1) ((rd_T111 t178 x5_2).f0.f0) ((rd_T111 t178 x5_2).f0.f1) ((rd_T111 t178 x5_2).f1.f0) ((rd_T111 t178 x5_2).f1.f1) t185 _ A21.out)))))
                  refine wpQuiet_nil ?_
                  intro _ hq_
                  obtain ⟨q_, rfl⟩ := hq_
                  clear s0_ s1_ s2_ s3_ s4_ s5_ s6_ s7_
                  replace HO_3 := Aside0.mk (Kd.R_below HO_3.out q_.b)
                  replace HB := Aside0.mk (below_step HB.out q_.b)
                  replace hx183_0 := q_.cell hx183_0
                  replace hx183_1 := q_.cell hx183_1
                  replace hx183_2 := q_.cell hx183_2
                  replace hx183_3 := q_.cell hx183_3
                  replace hx184_0 := q_.cell hx184_0
                  replace hx184_1 := q_.cell hx184_1
                  replace hx184_2 := q_.cell hx184_2
                  replace hx184_3 := q_.cell hx184_3
                  generalize q_.W = w24 at HO_3 HB hx183_0 hx183_1 hx183_2 hx183_3 hx184_0 hx184_1 hx184_2 hx184_3 ⊢
                  try simp only [i64_w, i32_w]
                  try go_wp2
                  go_roundg kj12
                  case measure => have := HK1.out; have := HK2.out; have := HJ12.out; omega
                  case rel => exact ⟨(wrap64 (x5_2 + 1)), (by first | rfl | (simp; done) | (simp [*]; done)), H', ⟨by have := HK1.out; have := HK2.out; have := HJ12.out; omega⟩, ⟨by (with_reducible repeat (first | apply Kd.R_alloc | apply Kd.R_drewN | apply Kd.R_drew)); exact HO_3.out⟩, ⟨Hd.b_⟩⟩
                 ·
                  rw [if_neg c22] at H
                  have c22b0 : (t185 == 1) = false := beq_eq_false_iff_ne.mpr c22
                  have c22b1 : (t185 != 1) = true := bne_iff_ne.mpr c22
                  obtain rfl := Option.some.inj H
                  try go_wp2
                  replace HO_3 := Aside0.mk (Kd.R_drew HO_3.out)
                  replace HB := Aside0.mk (below_drew1 HB.out)
                  have p183 : 0 ≤ (x4_1 : Int) := of_decide_eq_true Hd.a_
                  have q183 : x4_1 < (t178.length : Int) := of_decide_eq_true Hd.a_
                  obtain ⟨ad183, e183, hx183_0, hx183_1, hx183_2, hx183_3⟩ := at_T111 (Kd.R_reads' HO_3.out).2.2 x4_1 p183 q183
                  obtain rfl : ad181 = ad183 := (by injection e183)
                  replace p183 := eq_true p183
                  replace q183 := eq_true q183
                  have p184 : 0 ≤ (x5_2 : Int) := of_decide_eq_true Hd.a_
                  have q184 : x5_2 < (t178.length : Int) := of_decide_eq_true Hd.a_
                  obtain ⟨ad184, e184, hx184_0, hx184_1, hx184_2, hx184_3⟩ := at_T111 (Kd.R_reads' HO_3.out).2.2 x5_2 p184 q184
                  obtain rfl : ad181 = ad184 := (by injection e184)
                  replace p184 := eq_true p184
                  replace q184 := eq_true q184
                  have s0_ := Hd.HW.x (W0 := wc.drew) hx183_0
                  have s1_ := Hd.HW.x (W0 := wc.drew) hx183_1
                  have s2_ := Hd.HW.x (W0 := wc.drew) hx183_2
                  have s3_ := Hd.HW.x (W0 := wc.drew) hx183_3
                  have s4_ := Hd.HW.x (W0 := wc.drew) hx184_0
                  have s5_ := Hd.HW.x (W0 := wc.drew) hx184_1
                  have s6_ := Hd.HW.x (W0 := wc.drew) hx184_2
                  have s7_ := Hd.HW.x (W0 := wc.drew) hx184_3
                  refine Hd.HW.region (by kernel_rfl) (by kernel_rfl) ?_
                  repeat (go_big_quiet_step ((first | (go_at_call 129; with_reducible exact Hd.HW.c (spec_HowMeet.calls kj12 ((rd_T111 t178 x4_1).f0.f0) ((rd_T111 t178 x4_1).f0.f1) ((rd_T111 t178 x4_1).f1.f0) ((rd_T111 t178 x4_1).f1.f1) ((rd_T111 t178 x5_2).f0.f0) ((rd_T111 t178 x5_2).f0.f1) ((rd_T111 t178 x5_2).f1.f0) ((rd_T111 t178 x5_2).f1.f1) t185 _ A21.out)))))
                  refine wpQuiet_nil ?_
                  intro _ hq_
                  obtain ⟨q_, rfl⟩ := hq_
                  clear s0_ s1_ s2_ s3_ s4_ s5_ s6_ s7_
                  replace HO_3 := Aside0.mk (Kd.R_below HO_3.out q_.b)
                  replace HB := Aside0.mk (below_step HB.out q_.b)
                  replace hx183_0 := q_.cell hx183_0
                  replace hx183_1 := q_.cell hx183_1
                  replace hx183_2 := q_.cell hx183_2
                  replace hx183_3 := q_.cell hx183_3
                  replace hx184_0 := q_.cell hx184_0
                  replace hx184_1 := q_.cell hx184_1
                  replace hx184_2 := q_.cell hx184_2
                  replace hx184_3 := q_.cell hx184_3
                  generalize q_.W = w26 at HO_3 HB hx183_0 hx183_1 hx183_2 hx183_3 hx184_0 hx184_1 hx184_2 hx184_3 ⊢
                  try simp only [i64_w, i32_w]
                  try go_wp2
                  go_ret
                  exact ⟨Hd.e_, Hd.b_⟩
                ·
                 rw [if_neg c20] at H
                 exact absurd H (by simp)
               ·
                rw [if_neg c19] at H
                exact absurd H (by simp)
              ·
               rw [if_neg c18] at H
               exact absurd H (by simp)
             ·
              rw [if_neg c17] at H
              exact absurd H (by simp)
            ·
             replace c16 := Bool.eq_false_iff.mpr c16
             subst c16
             have H1 : (if 0 ≤ x4_1 then (if x4_1 < (t178.length : Int) then (if 0 ≤ x5_2 then (if x5_2 < (t178.length : Int) then ((spec_HowMeet.f kj12 ((rd_T111 t178 x4_1).f0.f0) ((rd_T111 t178 x4_1).f0.f1) ((rd_T111 t178 x4_1).f1.f0) ((rd_T111 t178 x4_1).f1.f1) ((rd_T111 t178 x5_2).f0.f0) ((rd_T111 t178 x5_2).f0.f1) ((rd_T111 t178 x5_2).f1.f0) ((rd_T111 t178 x5_2).f1.f1)).bind fun t188 => (if t188 = 0 then (spec_IsRing.l1 kj12 t178 x4_1 (wrap64 (x5_2 + 1))) else (some false))) else (none)) else (none)) else (none)) else (none)) = some r := by rw [if_neg (show ¬ (false = true) by decide)] at H; exact H
             clear H
             have H := H1
             clear H1
             by_cases c27 : 0 ≤ x4_1
             ·
              rw [if_pos c27] at H
              have c27b0 : decide (0 ≤ x4_1) = true := decide_eq_true c27
              clear c27
              by_cases c28 : x4_1 < (t178.length : Int)
              ·
               rw [if_pos c28] at H
               have c28b0 : decide (x4_1 < (t178.length : Int)) = true := decide_eq_true c28
               clear c28
               by_cases c29 : 0 ≤ x5_2
               ·
                rw [if_pos c29] at H
                have c29b0 : decide (0 ≤ x5_2) = true := decide_eq_true c29
                clear c29
                by_cases c30 : x5_2 < (t178.length : Int)
                ·
                 rw [if_pos c30] at H
                 have c30b0 : decide (x5_2 < (t178.length : Int)) = true := decide_eq_true c30
                 clear c30
                 replace H := Option.bind_eq_some_iff.mp H
                 obtain ⟨t188, A310, H⟩ := H
                 replace H : (if t188 = 0 then (spec_IsRing.l1 kj12 t178 x4_1 (wrap64 (x5_2 + 1))) else (some false)) = some r := H
                 have A31 := Aside0.mk A310
                 clear A310
                 by_cases c32 : t188 = 0
                 ·
                  rw [if_pos c32] at H
                  have c32b0 : (t188 == 0) = true := beq_iff_eq.mpr c32
                  have c32b1 : (t188 != 0) = false := bne_eq_false_iff_eq.mpr c32
                  clear c32
                  have H' := Aside0.mk H
                  clear H
                  try go_wp2
                  replace HO_3 := Aside0.mk (Kd.R_drew HO_3.out)
                  replace HB := Aside0.mk (below_drew1 HB.out)
                  have p186 : 0 ≤ (x4_1 : Int) := of_decide_eq_true Hd.a_
                  have q186 : x4_1 < (t178.length : Int) := of_decide_eq_true Hd.a_
                  obtain ⟨ad186, e186, hx186_0, hx186_1, hx186_2, hx186_3⟩ := at_T111 (Kd.R_reads' HO_3.out).2.2 x4_1 p186 q186
                  obtain rfl : ad181 = ad186 := (by injection e186)
                  replace p186 := eq_true p186
                  replace q186 := eq_true q186
                  have p187 : 0 ≤ (x5_2 : Int) := of_decide_eq_true Hd.a_
                  have q187 : x5_2 < (t178.length : Int) := of_decide_eq_true Hd.a_
                  obtain ⟨ad187, e187, hx187_0, hx187_1, hx187_2, hx187_3⟩ := at_T111 (Kd.R_reads' HO_3.out).2.2 x5_2 p187 q187
                  obtain rfl : ad181 = ad187 := (by injection e187)
                  replace p187 := eq_true p187
                  replace q187 := eq_true q187
                  have s0_ := Hd.HW.x (W0 := wc.drew) hx186_0
                  have s1_ := Hd.HW.x (W0 := wc.drew) hx186_1
                  have s2_ := Hd.HW.x (W0 := wc.drew) hx186_2
                  have s3_ := Hd.HW.x (W0 := wc.drew) hx186_3
                  have s4_ := Hd.HW.x (W0 := wc.drew) hx187_0
                  have s5_ := Hd.HW.x (W0 := wc.drew) hx187_1
                  have s6_ := Hd.HW.x (W0 := wc.drew) hx187_2
                  have s7_ := Hd.HW.x (W0 := wc.drew) hx187_3
                  refine Hd.HW.region (by kernel_rfl) (by kernel_rfl) ?_
                  repeat (go_big_quiet_step ((first | (go_at_call 129; with_reducible exact Hd.HW.c (spec_HowMeet.calls kj12 ((rd_T111 t178 x4_1).f0.f0) ((rd_T111 t178 x4_1).f0.f1) ((rd_T111 t178 x4_1).f1.f0) ((rd_T111 t178 x4_1).f1.f1) ((rd_T111 t178 x5_2).f0.f0) ((rd_T111 t178 x5_2).f0.f1) ((rd_T111 t178 x5_2).f1.f0) ((rd_T111 t178 x5_2).f1.f1) t188 _ A31.out)))))
                  refine wpQuiet_nil ?_
                  intro _ hq_
                  obtain ⟨q_, rfl⟩ := hq_
                  clear s0_ s1_ s2_ s3_ s4_ s5_ s6_ s7_
                  replace HO_3 := Aside0.mk (Kd.R_below HO_3.out q_.b)
                  replace HB := Aside0.mk (below_step HB.out q_.b)
                  replace hx186_0 := q_.cell hx186_0
                  replace hx186_1 := q_.cell hx186_1
                  replace hx186_2 := q_.cell hx186_2
                  replace hx186_3 := q_.cell hx186_3
                  replace hx187_0 := q_.cell hx187_0
                  replace hx187_1 := q_.cell hx187_1
                  replace hx187_2 := q_.cell hx187_2
                  replace hx187_3 := q_.cell hx187_3
                  generalize q_.W = w34 at HO_3 HB hx186_0 hx186_1 hx186_2 hx186_3 hx187_0 hx187_1 hx187_2 hx187_3 ⊢
                  try simp only [i64_w, i32_w]
                  try go_wp2
                  go_roundg kj12
                  case measure => have := HK1.out; have := HK2.out; have := HJ12.out; omega
                  case rel => exact ⟨(wrap64 (x5_2 + 1)), (by first | rfl | (simp; done) | (simp [*]; done)), H', ⟨by have := HK1.out; have := HK2.out; have := HJ12.out; omega⟩, ⟨by (with_reducible repeat (first | apply Kd.R_alloc | apply Kd.R_drewN | apply Kd.R_drew)); exact HO_3.out⟩, ⟨Hd.b_⟩⟩
                 ·
                  rw [if_neg c32] at H
                  have c32b0 : (t188 == 0) = false := beq_eq_false_iff_ne.mpr c32
                  have c32b1 : (t188 != 0) = true := bne_iff_ne.mpr c32
                  obtain rfl := Option.some.inj H
                  try go_wp2
                  replace HO_3 := Aside0.mk (Kd.R_drew HO_3.out)
                  replace HB := Aside0.mk (below_drew1 HB.out)
                  have p186 : 0 ≤ (x4_1 : Int) := of_decide_eq_true Hd.a_
                  have q186 : x4_1 < (t178.length : Int) := of_decide_eq_true Hd.a_
                  obtain ⟨ad186, e186, hx186_0, hx186_1, hx186_2, hx186_3⟩ := at_T111 (Kd.R_reads' HO_3.out).2.2 x4_1 p186 q186
                  obtain rfl : ad181 = ad186 := (by injection e186)
                  replace p186 := eq_true p186
                  replace q186 := eq_true q186
                  have p187 : 0 ≤ (x5_2 : Int) := of_decide_eq_true Hd.a_
                  have q187 : x5_2 < (t178.length : Int) := of_decide_eq_true Hd.a_
                  obtain ⟨ad187, e187, hx187_0, hx187_1, hx187_2, hx187_3⟩ := at_T111 (Kd.R_reads' HO_3.out).2.2 x5_2 p187 q187
                  obtain rfl : ad181 = ad187 := (by injection e187)
                  replace p187 := eq_true p187
                  replace q187 := eq_true q187
                  have s0_ := Hd.HW.x (W0 := wc.drew) hx186_0
                  have s1_ := Hd.HW.x (W0 := wc.drew) hx186_1
                  have s2_ := Hd.HW.x (W0 := wc.drew) hx186_2
                  have s3_ := Hd.HW.x (W0 := wc.drew) hx186_3
                  have s4_ := Hd.HW.x (W0 := wc.drew) hx187_0
                  have s5_ := Hd.HW.x (W0 := wc.drew) hx187_1
                  have s6_ := Hd.HW.x (W0 := wc.drew) hx187_2
                  have s7_ := Hd.HW.x (W0 := wc.drew) hx187_3
                  refine Hd.HW.region (by kernel_rfl) (by kernel_rfl) ?_
                  repeat (go_big_quiet_step ((first | (go_at_call 129; with_reducible exact Hd.HW.c (spec_HowMeet.calls kj12 ((rd_T111 t178 x4_1).f0.f0) ((rd_T111 t178 x4_1).f0.f1) ((rd_T111 t178 x4_1).f1.f0) ((rd_T111 t178 x4_1).f1.f1) ((rd_T111 t178 x5_2).f0.f0) ((rd_T111 t178 x5_2).f0.f1) ((rd_T111 t178 x5_2).f1.f0) ((rd_T111 t178 x5_2).f1.f1) t188 _ A31.out)))))
                  refine wpQuiet_nil ?_
                  intro _ hq_
                  obtain ⟨q_, rfl⟩ := hq_
                  clear s0_ s1_ s2_ s3_ s4_ s5_ s6_ s7_
                  replace HO_3 := Aside0.mk (Kd.R_below HO_3.out q_.b)
                  replace HB := Aside0.mk (below_step HB.out q_.b)
                  replace hx186_0 := q_.cell hx186_0
                  replace hx186_1 := q_.cell hx186_1
                  replace hx186_2 := q_.cell hx186_2
                  replace hx186_3 := q_.cell hx186_3
                  replace hx187_0 := q_.cell hx187_0
                  replace hx187_1 := q_.cell hx187_1
                  replace hx187_2 := q_.cell hx187_2
                  replace hx187_3 := q_.cell hx187_3
                  generalize q_.W = w36 at HO_3 HB hx186_0 hx186_1 hx186_2 hx186_3 hx187_0 hx187_1 hx187_2 hx187_3 ⊢
                  try simp only [i64_w, i32_w]
                  try go_wp2
                  go_ret
                  exact ⟨Hd.e_, Hd.b_⟩
                ·
                 rw [if_neg c30] at H
                 exact absurd H (by simp)
               ·
                rw [if_neg c29] at H
                exact absurd H (by simp)
              ·
               rw [if_neg c28] at H
               exact absurd H (by simp)
             ·
              rw [if_neg c27] at H
              exact absurd H (by simp)
         ·
          rw [if_neg c12] at H
          have c12b0 : decide (x5_2 < x4_1) = false := decide_eq_false c12
          clear c12
          have H' := Aside0.mk H
          clear H
          go_wp2
          go_roundg k2
          case measure => have := HK1.out; have := HK2.out; omega
          case rel => exact ⟨(wrap64 (x4_1 + 1)), (by first | rfl | (simp; done) | (simp [*]; done)), H', ⟨by have := HK1.out; have := HK2.out; omega⟩, ⟨by (with_reducible repeat (first | apply Kd.R_alloc | apply Kd.R_drewN | apply Kd.R_drew)); exact HO_3.out⟩, ⟨Hd.b_⟩⟩
      ·
       replace c9 := Bool.eq_false_iff.mpr c9
       subst c9
       have H1 : (some false) = some r := by rw [if_neg (show ¬ (false = true) by decide)] at H; exact H
       clear H
       have H := H1
       clear H1
       obtain rfl := Option.some.inj H
       obtain ⟨Ao37, co37, eo37⟩ := Kd.R_slice HO_3.out
       subst eo37
       have p181 : 0 ≤ (x4_1 : Int) := of_decide_eq_true Hd.a_
       have q181 : x4_1 < (t178.length : Int) := of_decide_eq_true Hd.a_
       obtain ⟨ad181, e181, hx181_0, hx181_1, hx181_2, hx181_3⟩ := at_T111 (Kd.R_reads' HO_3.out).2.2 x4_1 p181 q181
       cases e181
       replace p181 := eq_true p181
       replace q181 := eq_true q181
       go_wp2_with (first | ((with_reducible refine gate_callee (f := 137) rfl ?_); refine goesL_ (some 23) rfl rfl Try.func137 (by kernel_rfl) rfl #[.agg #[.int .i64 ((rd_T111 t178 x4_1).f0.f0), .int .i64 ((rd_T111 t178 x4_1).f0.f1), .int .i64 ((rd_T111 t178 x4_1).f1.f0), .int .i64 ((rd_T111 t178 x4_1).f1.f1)]] rfl Hd.m_ ?_; (with_reducible refine (spec_IsSegment.calls ((rd_T111 t178 x4_1).f0.f0) ((rd_T111 t178 x4_1).f0.f1) ((rd_T111 t178 x4_1).f1.f0) ((rd_T111 t178 x4_1).f1.f1) false _ A8.out).mono ?_); rintro e w38 ⟨rfl, hb⟩; refine ⟨_, rfl, ?_⟩; replace HO_3 := Aside0.mk (Kd.R_below (Hd.r_ HO_3) hb); replace HB := Aside0.mk (below_step Hd.b_ hb); (try clear hb); (try clear hb2); (try clear hk); (try clear hi)))
       go_ret
       exact ⟨Hd.e_, Hd.b_⟩
     ·
      rw [if_neg c7] at H
      exact absurd H (by simp)
    ·
     rw [if_neg c6] at H
     have c6b0 : decide (x4_1 < (t178.length : Int)) = false := decide_eq_false c6
     clear c6
     obtain rfl := Option.some.inj H
     obtain ⟨Ao39, co39, eo39⟩ := Kd.R_slice HO_3.out
     subst eo39
     go_wp2
     go_ret
     exact ⟨Hd.e_, Hd.b_⟩
 ·
  replace c3 := Bool.eq_false_iff.mpr c3
  subst c3
  have H1 : (some false) = some r := by rw [if_neg (show ¬ (false = true) by decide)] at H; exact H
  clear H
  have H := H1
  clear H1
  obtain rfl := Option.some.inj H
  go_enter Try.func82, Try.ntmps82
  go_wp2_with (first | ((with_reducible refine gate_callee (f := 83) rfl ?_); refine goesL_ (some 9) rfl rfl Try.func83 (by kernel_rfl) rfl #[.int .i64 (l0.length : Int), .int .i64 3, .int .i64 10] rfl Hd.m_ ?_; (with_reducible refine (spec_l1In.calls (l0.length : Int) 3 10 false _ A2.out).mono ?_); rintro e w' ⟨rfl, ⟨nd, rfl⟩⟩; refine ⟨_, rfl, ?_⟩))
  go_ret
  exact ⟨Hd.e_, Hd.b_⟩
def spec_IsLine.l0 : Nat → List (S49) → Int → Option (Bool)
 | 0, _, _ => none
 | k + 1, x0, x3 => if x3 < (x0.length : Int) then (if 0 ≤ x3 then ((spec_IsPoint.f ((rd_T49 x0 x3).f0) ((rd_T49 x0 x3).f1)).bind fun t190 => (if t190 = true then (if x3 > 0 then (if 0 ≤ (wrap64 (x3 - 1)) then (if (wrap64 (x3 - 1)) < (x0.length : Int) then (if (((rd_T49 x0 (wrap64 (x3 - 1))).f0) == ((rd_T49 x0 x3).f0) && (((rd_T49 x0 (wrap64 (x3 - 1))).f1) == ((rd_T49 x0 x3).f1))) = true then (some false) else (spec_IsLine.l0 k x0 (wrap64 (x3 + 1)))) else (none)) else (none)) else (spec_IsLine.l0 k x0 (wrap64 (x3 + 1)))) else (some false))) else (none)) else ((spec_l1In.f (x0.length : Int) 2 10).bind fun t193 => (some t193))
def spec_IsLine.f (k : Nat) (l0 : List (S49)) : Option (Bool) := spec_IsLine.l0 k l0 0
set_option maxHeartbeats 8000000 in
set_option maxRecDepth 100000 in
theorem spec_IsLine.calls (k : Nat) (A0 : Option Addr) (c0 : Nat) (l0 : List (S49)) (r : Bool) (w : World) (hr0 : Kd.C k49 w A0 l0.length l0) (hc0 : l0.length ≤ c0) (h : spec_IsLine.f k l0 = some r) :
  Calls Try.prog 154 #[.slice A0 l0.length c0] w fun e w' => e = .returned (.bool r) ∧ Below w.heap.size w w' := by
 have hu49 := Try.underlying49
 have HR0 := Aside0.mk hr0
 have HC0 := Aside0.mk hc0
 clear hr0 hc0
 have HB := Aside0.mk (Below.refl w.heap.size w)
 have H : (spec_IsLine.l0 k l0 0) = some r := h
 clear h
 have H' := Aside0.mk H
 clear H
 go_enter Try.func154, Try.ntmps154
 go_wp2
 go_loopg [3] k (fun kq v3 w' => ∃ (x3_1 : Int), v3 = .int .i64 x3_1 ∧ Aside0 (spec_IsLine.l0 kq l0 x3_1 = some r) ∧ Aside0 (kq ≤ k) ∧ Aside0 (Below w.heap.size w w'))
 case atStart => exact ⟨(0), (by first | rfl | (simp; done) | (simp [*]; done)), H', ⟨Nat.le_refl _⟩, ⟨Hd.b_⟩⟩
 case round =>
  clear H'
  try clear c1
  obtain ⟨x3_1, rfl, HA, HK1, HB⟩ := hrel
  cases gk with
  | zero => exact absurd HA.out (by simp [spec_IsLine.l0])
  | succ k1 =>
   have H := HA.out
   clear HA
   simp only [spec_IsLine.l0] at H
   by_cases c2 : x3_1 < (l0.length : Int)
   ·
    rw [if_pos c2] at H
    have c2b0 : decide (x3_1 < (l0.length : Int)) = true := decide_eq_true c2
    clear c2
    by_cases c3 : 0 ≤ x3_1
    ·
     rw [if_pos c3] at H
     have c3b0 : decide (0 ≤ x3_1) = true := decide_eq_true c3
     clear c3
     replace H := Option.bind_eq_some_iff.mp H
     obtain ⟨t190, A40, H⟩ := H
     replace H : (if t190 = true then (if x3_1 > 0 then (if 0 ≤ (wrap64 (x3_1 - 1)) then (if (wrap64 (x3_1 - 1)) < (l0.length : Int) then (if (((rd_T49 l0 (wrap64 (x3_1 - 1))).f0) == ((rd_T49 l0 x3_1).f0) && (((rd_T49 l0 (wrap64 (x3_1 - 1))).f1) == ((rd_T49 l0 x3_1).f1))) = true then (some false) else (spec_IsLine.l0 k1 l0 (wrap64 (x3_1 + 1)))) else (none)) else (none)) else (spec_IsLine.l0 k1 l0 (wrap64 (x3_1 + 1)))) else (some false)) = some r := H
     have A4 := Aside0.mk A40
     clear A40
     by_cases c5 : t190 = true
     ·
      subst c5
      have H1 : (if x3_1 > 0 then (if 0 ≤ (wrap64 (x3_1 - 1)) then (if (wrap64 (x3_1 - 1)) < (l0.length : Int) then (if (((rd_T49 l0 (wrap64 (x3_1 - 1))).f0) == ((rd_T49 l0 x3_1).f0) && (((rd_T49 l0 (wrap64 (x3_1 - 1))).f1) == ((rd_T49 l0 x3_1).f1))) = true then (some false) else (spec_IsLine.l0 k1 l0 (wrap64 (x3_1 + 1)))) else (none)) else (none)) else (spec_IsLine.l0 k1 l0 (wrap64 (x3_1 + 1)))) = some r := by rw [if_pos rfl] at H; exact H
      clear H
      have H := H1
      clear H1
      by_cases c6 : x3_1 > 0
      ·
       rw [if_pos c6] at H
       have c6b0 : decide (0 < x3_1) = true := decide_eq_true c6
       clear c6
       obtain ⟨ji7, hji7⟩ : ∃ j_ : Int, (wrap64 (x3_1 - 1)) = j_ := ⟨_, rfl⟩
       replace H : (if 0 ≤ (ji7) then (if (ji7) < (l0.length : Int) then (if (((rd_T49 l0 (ji7)).f0) == ((rd_T49 l0 x3_1).f0) && (((rd_T49 l0 (ji7)).f1) == ((rd_T49 l0 x3_1).f1))) = true then (some false) else (spec_IsLine.l0 k1 l0 (wrap64 (x3_1 + 1)))) else (none)) else (none)) = some r := by first | (rw [hji7] at H; exact H) | (simp only [hji7] at H ⊢; exact H)
       (try rw [hji7] at A4)
       have hji7w : (IntKind.i64.wrap (x3_1 - 1)) = ji7 := (i64_w _).trans hji7
       by_cases c8 : 0 ≤ (ji7)
       ·
        rw [if_pos c8] at H
        have c8b0 : decide (0 ≤ (ji7)) = true := decide_eq_true c8
        clear c8
        by_cases c9 : (ji7) < (l0.length : Int)
        ·
         rw [if_pos c9] at H
         have c9b0 : decide ((ji7) < (l0.length : Int)) = true := decide_eq_true c9
         clear c9
         by_cases c10 : (((rd_T49 l0 (ji7)).f0) == ((rd_T49 l0 x3_1).f0) && (((rd_T49 l0 (ji7)).f1) == ((rd_T49 l0 x3_1).f1))) = true
         ·
          rw [if_pos c10] at H
          have c10b0 : (((rd_T49 l0 (ji7)).f0) == ((rd_T49 l0 x3_1).f0) && (((rd_T49 l0 (ji7)).f1) == ((rd_T49 l0 x3_1).f1))) = true := c10
          (try (have c10b1 : decide (((rd_T49 l0 (ji7)).f0) = ((rd_T49 l0 x3_1).f0) && (((rd_T49 l0 (ji7)).f1) == ((rd_T49 l0 x3_1).f1))) = true := by simpa using c10))
          (try (have c10b2 : (((rd_T49 l0 (ji7)).f0) == ((rd_T49 l0 x3_1).f0) && (((rd_T49 l0 (ji7)).f1) == ((rd_T49 l0 x3_1).f1))) = true := by simpa using c10))
          clear c10
          obtain rfl := Option.some.inj H
          try go_wp2
          replace HB := Aside0.mk (below_drew1 HB.out)
          have p189 : 0 ≤ (x3_1 : Int) := of_decide_eq_true Hd.a_
          have q189 : x3_1 < (l0.length : Int) := of_decide_eq_true Hd.a_
          obtain ⟨ad189, e189, hx189_0, hx189_1⟩ := at_T49 HR0.out x3_1 p189 q189
          have hw189_1 := hx189_1
          have hw189_0 := hx189_0
          cases e189
          replace hx189_0 := (HB.out.cell (World.block_lt_of_cell? w _ hx189_0)).trans hx189_0
          replace hx189_1 := (HB.out.cell (World.block_lt_of_cell? w _ hx189_1)).trans hx189_1
          replace p189 := eq_true p189
          replace q189 := eq_true q189
          have p191 : 0 ≤ ((ji7) : Int) := of_decide_eq_true Hd.a_
          have q191 : (ji7) < (l0.length : Int) := of_decide_eq_true Hd.a_
          obtain ⟨ad191, e191, hx191_0, hx191_1⟩ := at_T49 HR0.out (ji7) p191 q191
          have hw191_1 := hx191_1
          have hw191_0 := hx191_0
          obtain rfl : ad189 = ad191 := (by injection e191)
          replace hx191_0 := (HB.out.cell (World.block_lt_of_cell? w _ hx191_0)).trans hx191_0
          replace hx191_1 := (HB.out.cell (World.block_lt_of_cell? w _ hx191_1)).trans hx191_1
          replace p191 := eq_true p191
          replace q191 := eq_true q191
          have p192 : 0 ≤ (x3_1 : Int) := of_decide_eq_true Hd.a_
          have q192 : x3_1 < (l0.length : Int) := of_decide_eq_true Hd.a_
          obtain ⟨ad192, e192, hx192_0, hx192_1⟩ := at_T49 HR0.out x3_1 p192 q192
          have hw192_1 := hx192_1
          have hw192_0 := hx192_0
          obtain rfl : ad189 = ad192 := (by injection e192)
          replace hx192_0 := (HB.out.cell (World.block_lt_of_cell? w _ hx192_0)).trans hx192_0
          replace hx192_1 := (HB.out.cell (World.block_lt_of_cell? w _ hx192_1)).trans hx192_1
          replace p192 := eq_true p192
          replace q192 := eq_true q192
          have s0_ := Hd.HW.x (W0 := wr.drew) ((HB.out.cell (World.block_lt_of_cell? w _ hw189_0)).trans hw189_0)
          have s1_ := Hd.HW.x (W0 := wr.drew) ((HB.out.cell (World.block_lt_of_cell? w _ hw189_1)).trans hw189_1)
          have s2_ := Hd.HW.x (W0 := wr.drew) ((HB.out.cell (World.block_lt_of_cell? w _ hw191_0)).trans hw191_0)
          have s3_ := Hd.HW.x (W0 := wr.drew) ((HB.out.cell (World.block_lt_of_cell? w _ hw191_1)).trans hw191_1)
          have s4_ := Hd.HW.x (W0 := wr.drew) ((HB.out.cell (World.block_lt_of_cell? w _ hw192_0)).trans hw192_0)
          have s5_ := Hd.HW.x (W0 := wr.drew) ((HB.out.cell (World.block_lt_of_cell? w _ hw192_1)).trans hw192_1)
          refine Hd.HW.region (by kernel_rfl) (by kernel_rfl) ?_
          repeat (go_big_quiet_step ((first | (go_at_call 125; with_reducible exact Hd.HW.c (spec_IsPoint.calls ((rd_T49 l0 x3_1).f0) ((rd_T49 l0 x3_1).f1) true _ A4.out)))))
          refine wpQuiet_nil ?_
          intro _ hq_
          obtain ⟨q_, rfl⟩ := hq_
          clear s0_ s1_ s2_ s3_ s4_ s5_
          replace HB := Aside0.mk (below_step HB.out q_.b)
          replace hx189_0 := q_.cell hx189_0
          replace hx189_1 := q_.cell hx189_1
          replace hx191_0 := q_.cell hx191_0
          replace hx191_1 := q_.cell hx191_1
          replace hx192_0 := q_.cell hx192_0
          replace hx192_1 := q_.cell hx192_1
          generalize q_.W = w12 at HB hx189_0 hx189_1 hx191_0 hx191_1 hx192_0 hx192_1 ⊢
          try simp only [i64_w, i32_w]
          try go_wp2
          go_ret
          exact ⟨by first | rfl | (simp [errW_none, errW_some] <;> rfl) | (simp only [← hji7]; first | rfl | (simp [errW_none, errW_some] <;> rfl)) | (simp [*, errW_none, errW_some] <;> rfl), Hd.b_⟩
         ·
          rw [if_neg c10] at H
          have c10b0 : (((rd_T49 l0 (ji7)).f0) == ((rd_T49 l0 x3_1).f0) && (((rd_T49 l0 (ji7)).f1) == ((rd_T49 l0 x3_1).f1))) = false := by simpa using c10
          (try (have c10b1 : decide (((rd_T49 l0 (ji7)).f0) = ((rd_T49 l0 x3_1).f0) && (((rd_T49 l0 (ji7)).f1) == ((rd_T49 l0 x3_1).f1))) = false := by simpa using c10))
          (try (have c10b2 : (((rd_T49 l0 (ji7)).f0) == ((rd_T49 l0 x3_1).f0) && (((rd_T49 l0 (ji7)).f1) == ((rd_T49 l0 x3_1).f1))) = false := by simpa using c10))
          (try (have c10b3 : ¬ (((rd_T49 l0 (ji7)).f0) = ((rd_T49 l0 x3_1).f0) && (((rd_T49 l0 (ji7)).f1) == ((rd_T49 l0 x3_1).f1))) := by simpa using c10))
          clear c10
          have H' := Aside0.mk H
          clear H
          try go_wp2
          replace HB := Aside0.mk (below_drew1 HB.out)
          have p189 : 0 ≤ (x3_1 : Int) := of_decide_eq_true Hd.a_
          have q189 : x3_1 < (l0.length : Int) := of_decide_eq_true Hd.a_
          obtain ⟨ad189, e189, hx189_0, hx189_1⟩ := at_T49 HR0.out x3_1 p189 q189
          have hw189_1 := hx189_1
          have hw189_0 := hx189_0
          cases e189
          replace hx189_0 := (HB.out.cell (World.block_lt_of_cell? w _ hx189_0)).trans hx189_0
          replace hx189_1 := (HB.out.cell (World.block_lt_of_cell? w _ hx189_1)).trans hx189_1
          replace p189 := eq_true p189
          replace q189 := eq_true q189
          have p191 : 0 ≤ ((ji7) : Int) := of_decide_eq_true Hd.a_
          have q191 : (ji7) < (l0.length : Int) := of_decide_eq_true Hd.a_
          obtain ⟨ad191, e191, hx191_0, hx191_1⟩ := at_T49 HR0.out (ji7) p191 q191
          have hw191_1 := hx191_1
          have hw191_0 := hx191_0
          obtain rfl : ad189 = ad191 := (by injection e191)
          replace hx191_0 := (HB.out.cell (World.block_lt_of_cell? w _ hx191_0)).trans hx191_0
          replace hx191_1 := (HB.out.cell (World.block_lt_of_cell? w _ hx191_1)).trans hx191_1
          replace p191 := eq_true p191
          replace q191 := eq_true q191
          have p192 : 0 ≤ (x3_1 : Int) := of_decide_eq_true Hd.a_
          have q192 : x3_1 < (l0.length : Int) := of_decide_eq_true Hd.a_
          obtain ⟨ad192, e192, hx192_0, hx192_1⟩ := at_T49 HR0.out x3_1 p192 q192
          have hw192_1 := hx192_1
          have hw192_0 := hx192_0
          obtain rfl : ad189 = ad192 := (by injection e192)
          replace hx192_0 := (HB.out.cell (World.block_lt_of_cell? w _ hx192_0)).trans hx192_0
          replace hx192_1 := (HB.out.cell (World.block_lt_of_cell? w _ hx192_1)).trans hx192_1
          replace p192 := eq_true p192
          replace q192 := eq_true q192
          have s0_ := Hd.HW.x (W0 := wr.drew) ((HB.out.cell (World.block_lt_of_cell? w _ hw189_0)).trans hw189_0)
          have s1_ := Hd.HW.x (W0 := wr.drew) ((HB.out.cell (World.block_lt_of_cell? w _ hw189_1)).trans hw189_1)
          have s2_ := Hd.HW.x (W0 := wr.drew) ((HB.out.cell (World.block_lt_of_cell? w _ hw191_0)).trans hw191_0)
          have s3_ := Hd.HW.x (W0 := wr.drew) ((HB.out.cell (World.block_lt_of_cell? w _ hw191_1)).trans hw191_1)
          have s4_ := Hd.HW.x (W0 := wr.drew) ((HB.out.cell (World.block_lt_of_cell? w _ hw192_0)).trans hw192_0)
          have s5_ := Hd.HW.x (W0 := wr.drew) ((HB.out.cell (World.block_lt_of_cell? w _ hw192_1)).trans hw192_1)
          refine Hd.HW.region (by kernel_rfl) (by kernel_rfl) ?_
          repeat (go_big_quiet_step ((first | (go_at_call 125; with_reducible exact Hd.HW.c (spec_IsPoint.calls ((rd_T49 l0 x3_1).f0) ((rd_T49 l0 x3_1).f1) true _ A4.out)))))
          refine wpQuiet_nil ?_
          intro _ hq_
          obtain ⟨q_, rfl⟩ := hq_
          clear s0_ s1_ s2_ s3_ s4_ s5_
          replace HB := Aside0.mk (below_step HB.out q_.b)
          replace hx189_0 := q_.cell hx189_0
          replace hx189_1 := q_.cell hx189_1
          replace hx191_0 := q_.cell hx191_0
          replace hx191_1 := q_.cell hx191_1
          replace hx192_0 := q_.cell hx192_0
          replace hx192_1 := q_.cell hx192_1
          generalize q_.W = w14 at HB hx189_0 hx189_1 hx191_0 hx191_1 hx192_0 hx192_1 ⊢
          try simp only [i64_w, i32_w]
          try go_wp2
          go_roundg k1
          case measure => have := HK1.out; omega
          case rel => exact ⟨(wrap64 (x3_1 + 1)), (by first | rfl | (simp; done) | (simp [*]; done)), H', ⟨by have := HK1.out; omega⟩, ⟨Hd.b_⟩⟩
        ·
         rw [if_neg c9] at H
         exact absurd H (by simp)
       ·
        rw [if_neg c8] at H
        exact absurd H (by simp)
      ·
       rw [if_neg c6] at H
       have c6b0 : decide (0 < x3_1) = false := decide_eq_false c6
       clear c6
       have H' := Aside0.mk H
       clear H
       try go_wp2
       replace HB := Aside0.mk (below_drew1 HB.out)
       have p189 : 0 ≤ (x3_1 : Int) := of_decide_eq_true Hd.a_
       have q189 : x3_1 < (l0.length : Int) := of_decide_eq_true Hd.a_
       obtain ⟨ad189, e189, hx189_0, hx189_1⟩ := at_T49 HR0.out x3_1 p189 q189
       have hw189_1 := hx189_1
       have hw189_0 := hx189_0
       cases e189
       replace hx189_0 := (HB.out.cell (World.block_lt_of_cell? w _ hx189_0)).trans hx189_0
       replace hx189_1 := (HB.out.cell (World.block_lt_of_cell? w _ hx189_1)).trans hx189_1
       replace p189 := eq_true p189
       replace q189 := eq_true q189
       have s0_ := Hd.HW.x (W0 := wr.drew) ((HB.out.cell (World.block_lt_of_cell? w _ hw189_0)).trans hw189_0)
       have s1_ := Hd.HW.x (W0 := wr.drew) ((HB.out.cell (World.block_lt_of_cell? w _ hw189_1)).trans hw189_1)
       refine Hd.HW.region (by kernel_rfl) (by kernel_rfl) ?_
       repeat (go_big_quiet_step ((first | (go_at_call 125; with_reducible exact Hd.HW.c (spec_IsPoint.calls ((rd_T49 l0 x3_1).f0) ((rd_T49 l0 x3_1).f1) true _ A4.out)))))
       refine wpQuiet_nil ?_
       intro _ hq_
       obtain ⟨q_, rfl⟩ := hq_
       clear s0_ s1_
       replace HB := Aside0.mk (below_step HB.out q_.b)
       replace hx189_0 := q_.cell hx189_0
       replace hx189_1 := q_.cell hx189_1
       generalize q_.W = w16 at HB hx189_0 hx189_1 ⊢
       try simp only [i64_w, i32_w]
       try go_wp2
       go_roundg k1
       case measure => have := HK1.out; omega
       case rel => exact ⟨(wrap64 (x3_1 + 1)), (by first | rfl | (simp; done) | (simp [*]; done)), H', ⟨by have := HK1.out; omega⟩, ⟨Hd.b_⟩⟩
     ·
      replace c5 := Bool.eq_false_iff.mpr c5
      subst c5
      have H1 : (some false) = some r := by rw [if_neg (show ¬ (false = true) by decide)] at H; exact H
      clear H
      have H := H1
      clear H1
      obtain rfl := Option.some.inj H
      try go_wp2
      replace HB := Aside0.mk (below_drew1 HB.out)
      have p189 : 0 ≤ (x3_1 : Int) := of_decide_eq_true Hd.a_
      have q189 : x3_1 < (l0.length : Int) := of_decide_eq_true Hd.a_
      obtain ⟨ad189, e189, hx189_0, hx189_1⟩ := at_T49 HR0.out x3_1 p189 q189
      have hw189_1 := hx189_1
      have hw189_0 := hx189_0
      cases e189
      replace hx189_0 := (HB.out.cell (World.block_lt_of_cell? w _ hx189_0)).trans hx189_0
      replace hx189_1 := (HB.out.cell (World.block_lt_of_cell? w _ hx189_1)).trans hx189_1
      replace p189 := eq_true p189
      replace q189 := eq_true q189
      have s0_ := Hd.HW.x (W0 := wr.drew) ((HB.out.cell (World.block_lt_of_cell? w _ hw189_0)).trans hw189_0)
      have s1_ := Hd.HW.x (W0 := wr.drew) ((HB.out.cell (World.block_lt_of_cell? w _ hw189_1)).trans hw189_1)
      refine Hd.HW.region (by kernel_rfl) (by kernel_rfl) ?_
      repeat (go_big_quiet_step ((first | (go_at_call 125; with_reducible exact Hd.HW.c (spec_IsPoint.calls ((rd_T49 l0 x3_1).f0) ((rd_T49 l0 x3_1).f1) false _ A4.out)))))
      refine wpQuiet_nil ?_
      intro _ hq_
      obtain ⟨q_, rfl⟩ := hq_
      clear s0_ s1_
      replace HB := Aside0.mk (below_step HB.out q_.b)
      replace hx189_0 := q_.cell hx189_0
      replace hx189_1 := q_.cell hx189_1
      generalize q_.W = w18 at HB hx189_0 hx189_1 ⊢
      try simp only [i64_w, i32_w]
      try go_wp2
      go_ret
      exact ⟨Hd.e_, Hd.b_⟩
    ·
     rw [if_neg c3] at H
     exact absurd H (by simp)
   ·
    rw [if_neg c2] at H
    have c2b0 : decide (x3_1 < (l0.length : Int)) = false := decide_eq_false c2
    clear c2
    replace H := Option.bind_eq_some_iff.mp H
    obtain ⟨t193, A190, H⟩ := H
    replace H : (some t193) = some r := H
    have A19 := Aside0.mk A190
    clear A190
    obtain rfl := Option.some.inj H
    go_wp2_with (first | ((with_reducible refine gate_callee (f := 83) rfl ?_); refine goesL_ (some 34) rfl rfl Try.func83 (by kernel_rfl) rfl #[.int .i64 (l0.length : Int), .int .i64 2, .int .i64 10] rfl Hd.m_ ?_; (with_reducible refine (spec_l1In.calls (l0.length : Int) 2 10 t193 _ A19.out).mono ?_); rintro e w' ⟨rfl, ⟨nd, rfl⟩⟩; refine ⟨_, rfl, ?_⟩))
    go_ret
    exact ⟨Hd.e_, Hd.b_⟩
end Go.Proofs.Ytchmbcembbbplac.MFnExactIsSource
