-- Laid by this session's program pp.py, after the kit's print and texts of the session's own. Not trusted: Lean checks it.
import Derived.Test.YtchmbcembbbpladZMeetsOfMx0
import Derived.Test.YtchmbcembbbpladZMeetsOfMx10
import Derived.Test.YtchmbcembbbpladZMeetsOfMx11
import Derived.Test.YtchmbcembbbpladZMeetsOfMx13
import Derived.Test.YtchmbcembbbpladZMeetsOfMx14
namespace Go.Proofs.Ytchmbcembbbplad.MFnExactMeetsOf
open Go.RowKit Go.Proofs.YtchmbcembbbpladW.PrintWords Go.Proofs.YtchmbcembbbpladW.PrintLast Go.Proofs.YtchmbcembbbpladW.PrintMore
attribute [local go_sem] max2_int min2_int max_two min_two max_three min_three max_four min_four   -- for this text's walks alone
set_option linter.unusedVariables false
set_option linter.unusedSimpArgs false
mutual
def spec_IsRing.l0 : Nat → List (S100) → Int → Option (Bool)
 | 0,_,_ => none
 | k + 1,x3,x4 => if x4 < (x3.length : Int) then (if 0 ≤ x4 then ((spec_IsSegment.f ((rd_T100 x3 x4).f0.f0) ((rd_T100 x3 x4).f0.f1) ((rd_T100 x3 x4).f1.f0) ((rd_T100 x3 x4).f1.f1)).bind fun t420 => (if t420 = true then (spec_IsRing.l1 k x3 x4 0) else (some false))) else (none)) else (some true)
def spec_IsRing.l1 : Nat → List (S100) → Int → Int → Option (Bool)
 | 0,_,_,_ => none
 | k + 1,x3,x4,x5 => if x5 < x4 then (if (wrap64 (x5 + 1)) = x4 then (spec_IsRing.j2 k x3 x4 x5 0 true) else (if x5 = 0 then (spec_IsRing.j2 k x3 x4 x5 0 ((wrap64 (x4 + 1)) == (x3.length : Int))) else (spec_IsRing.j2 k x3 x4 x5 0 false))) else (spec_IsRing.l0 k x3 (wrap64 (x4 + 1)))
def spec_IsRing.j2 : Nat → List (S100) → Int → Int → Int → Bool → Option (Bool)
 | 0,_,_,_,_,_ => none
 | k + 1,x3,x4,x5,x6,x44 => if x44 = true then (if 0 ≤ x4 then (if x4 < (x3.length : Int) then (if 0 ≤ x5 then (if x5 < (x3.length : Int) then ((spec_HowMeet.f k ((rd_T100 x3 x4).f0.f0) ((rd_T100 x3 x4).f0.f1) ((rd_T100 x3 x4).f1.f0) ((rd_T100 x3 x4).f1.f1) ((rd_T100 x3 x5).f0.f0) ((rd_T100 x3 x5).f0.f1) ((rd_T100 x3 x5).f1.f0) ((rd_T100 x3 x5).f1.f1)).bind fun t423 => (if t423 = 1 then (spec_IsRing.l1 k x3 x4 (wrap64 (x5 + 1))) else (some false))) else (none)) else (none)) else (none)) else (none)) else (if 0 ≤ x4 then (if x4 < (x3.length : Int) then (if 0 ≤ x5 then (if x5 < (x3.length : Int) then ((spec_HowMeet.f k ((rd_T100 x3 x4).f0.f0) ((rd_T100 x3 x4).f0.f1) ((rd_T100 x3 x4).f1.f0) ((rd_T100 x3 x4).f1.f1) ((rd_T100 x3 x5).f0.f0) ((rd_T100 x3 x5).f0.f1) ((rd_T100 x3 x5).f1.f0) ((rd_T100 x3 x5).f1.f1)).bind fun t426 => (if t426 = x6 then (spec_IsRing.l1 k x3 x4 (wrap64 (x5 + 1))) else (some false))) else (none)) else (none)) else (none)) else (none))
end
def spec_IsRing.f (k : Nat) (l0 : List (S63)) : Option (Bool):=(spec_l1In.f (l0.length : Int) 3 10).bind fun t415 => (if t415 = true then ((spec_l7Segments.f k l0).bind fun t416 => (spec_IsRing.l0 k t416 0)) else (some false))
set_option maxHeartbeats 8000000 in
set_option maxRecDepth 100000 in
theorem spec_IsRing.calls (k : Nat) (A0 : Option Addr) (c0 : Nat) (l0 : List (S63)) (r : Bool) (w : World) (hr0 : Kd.C k63 w A0 l0.length l0) (hc0 : l0.length ≤ c0) (h : spec_IsRing.f k l0 = some r) :
  Calls Try.prog 99 #[.slice A0 l0.length c0] w fun e w' => e = .returned (.bool r) ∧ Below w.heap.size w w':=by
 have hu100:=Try.underlying100
 have HR0:=Aside0.mk hr0
 have HC0:=Aside0.mk hc0
 clear hr0 hc0
 have HB:=Aside0.mk (Below.refl w.heap.size w)
 have H : ((spec_l1In.f (l0.length : Int) 3 10).bind fun t415 => (if t415 = true then ((spec_l7Segments.f k l0).bind fun t416 => (spec_IsRing.l0 k t416 0)) else (some false))) = some r:=h
 clear h
 replace H:=Option.bind_eq_some_iff.mp H
 obtain ⟨t415,A20,H⟩:=H
 replace H : (if t415 = true then ((spec_l7Segments.f k l0).bind fun t416 => (spec_IsRing.l0 k t416 0)) else (some false)) = some r:=H
 have A2:=Aside0.mk A20
 clear A20
 by_cases c3 : t415 = true
 ·
  subst c3
  have H1 : ((spec_l7Segments.f k l0).bind fun t416 => (spec_IsRing.l0 k t416 0)) = some r:=by rw [if_pos rfl] at H;exact H
  clear H
  have H:=H1
  clear H1
  replace H:=Option.bind_eq_some_iff.mp H
  obtain ⟨t416,A40,H⟩:=H
  replace H : (spec_IsRing.l0 k t416 0) = some r:=H
  have A4:=Aside0.mk A40
  clear A40
  have H':=Aside0.mk H
  clear H
  go_enter Try.func99,Try.ntmps99
  go_wp2_with (first | ((with_reducible refine gate_callee (f:=61) rfl ?_);refine goesL_ (some 9) rfl rfl Try.func61 (by kernel_rfl) rfl #[.int .i64 (l0.length : Int),.int .i64 3,.int .i64 10] rfl Hd.m_ ?_;(with_reducible refine (spec_l1In.calls (l0.length : Int) 3 10 true _ A2.out).mono ?_);rintro e w' ⟨rfl,⟨nd,rfl⟩⟩;refine ⟨_,rfl,?_⟩) | ((with_reducible refine gate_callee (f:=135) rfl ?_);refine goesL_ (some 12) rfl rfl Try.func135 (by kernel_rfl) rfl #[.slice A0 l0.length c0] rfl Hd.m_ ?_;(with_reducible refine (spec_l7Segments.calls k _ _ l0 t416 _ ?side1 ?side2 A4.out).mono ?_);(case side1 => repeat (first | exact HR0.out | (with_reducible refine Kd.C_alloc ?_ _) | (with_reducible refine Kd.C_drewN ?_ _) | (with_reducible refine Kd.C_drew ?_)));(case side2 => exact HC0.out);rintro e w5 ⟨v417,rfl,ho0,hb⟩;refine ⟨_,rfl,?_⟩;have HO418:=Aside0.mk (Kd.R_lower ho0 (below_size Hd.b_));replace HB:=Aside0.mk (below_step Hd.b_ hb);(try clear hb);(try clear hb2);(try clear hk);(try clear hi);(try clear ho0)))
  go_loopg [4] k (fun kq v4 w' => ∃ (x4_1 : Int),v4 = .int .i64 x4_1 ∧ Aside0 (spec_IsRing.l0 kq t416 x4_1 = some r) ∧ Aside0 (kq ≤ k) ∧ Aside0 (Kd.R k100 100 w' w.heap.size (fun _ => True) v417 t416) ∧ Aside0 (Below w.heap.size w w'))
  case atStart => exact ⟨(0),(by first | rfl | (simp;done) | (simp [*];done)),H',⟨Nat.le_refl _⟩,⟨by (with_reducible repeat (first | apply Kd.R_alloc | apply Kd.R_drewN | apply Kd.R_drew));exact HO418.out⟩,⟨Hd.b_⟩⟩
  case round =>
   clear H'
   try clear c1
   try clear p2
   try clear c3
   obtain ⟨x4_1,rfl,HA,HK1,HO_3,HB⟩:=hrel
   cases gk with
   | zero => exact absurd HA.out (by simp [spec_IsRing.l0])
   | succ k1 =>
    have H:=HA.out
    clear HA
    simp only [spec_IsRing.l0] at H
    by_cases c6 : x4_1 < (t416.length : Int)
    ·
     rw [if_pos c6] at H
     have c6b0 : decide (x4_1 < (t416.length : Int)) = true:=decide_eq_true c6
     clear c6
     by_cases c7 : 0 ≤ x4_1
     ·
      rw [if_pos c7] at H
      have c7b0 : decide (0 ≤ x4_1) = true:=decide_eq_true c7
      clear c7
      replace H:=Option.bind_eq_some_iff.mp H
      obtain ⟨t420,A80,H⟩:=H
      replace H : (if t420 = true then (spec_IsRing.l1 k1 t416 x4_1 0) else (some false)) = some r:=H
      have A8:=Aside0.mk A80
      clear A80
      by_cases c9 : t420 = true
      ·
       subst c9
       have H1 : (spec_IsRing.l1 k1 t416 x4_1 0) = some r:=by rw [if_pos rfl] at H;exact H
       clear H
       have H:=H1
       clear H1
       have H':=Aside0.mk H
       clear H
       obtain ⟨Ao10,co10,eo10⟩:=Kd.R_slice HO_3.out
       subst eo10
       have p419 : 0 ≤ (x4_1 : Int):=of_decide_eq_true Hd.a_
       have q419 : x4_1 < (t416.length : Int):=of_decide_eq_true Hd.a_
       obtain ⟨ad419,e419,hx419_0,hx419_1,hx419_2,hx419_3⟩:=at_T100 (Kd.R_reads' HO_3.out).2.2 x4_1 p419 q419
       cases e419
       replace p419:=eq_true p419
       replace q419:=eq_true q419
       go_wp2_with (first | ((with_reducible refine gate_callee (f:=115) rfl ?_);refine goesL_ (some 23) rfl rfl Try.func115 (by kernel_rfl) rfl #[.agg #[.int .i64 ((rd_T100 t416 x4_1).f0.f0),.int .i64 ((rd_T100 t416 x4_1).f0.f1),.int .i64 ((rd_T100 t416 x4_1).f1.f0),.int .i64 ((rd_T100 t416 x4_1).f1.f1)]] rfl Hd.m_ ?_;(with_reducible refine (spec_IsSegment.calls ((rd_T100 t416 x4_1).f0.f0) ((rd_T100 t416 x4_1).f0.f1) ((rd_T100 t416 x4_1).f1.f0) ((rd_T100 t416 x4_1).f1.f1) true _ A8.out).mono ?_);rintro e w11 ⟨rfl,hb⟩;refine ⟨_,rfl,?_⟩;replace HO_3:=Aside0.mk (Kd.R_below (Hd.r_ HO_3) hb);replace HB:=Aside0.mk (below_step Hd.b_ hb);(try clear hb);(try clear hb2);(try clear hk);(try clear hi)))
       go_loopg [5] k1 (fun kq v5 w' => ∃ (x5_2 : Int),v5 = .int .i64 x5_2 ∧ Aside0 (spec_IsRing.l1 kq t416 x4_1 x5_2 = some r) ∧ Aside0 (kq ≤ k1) ∧ Aside0 (Kd.R k100 100 w' w.heap.size (fun _ => True) (.slice (some ad419) t416.length co10) t416) ∧ Aside0 (Below w.heap.size w w'))
       case atStart => exact ⟨(0),(by first | rfl | (simp;done) | (simp [*];done)),H',⟨Nat.le_refl _⟩,⟨by (with_reducible repeat (first | apply Kd.R_alloc | apply Kd.R_drewN | apply Kd.R_drew));exact HO_3.out⟩,⟨Hd.b_⟩⟩
       case round =>
        clear H'
        try clear c1
        try clear p2
        try clear c3
        try clear p4
        try clear q4
        try clear hx4
        try clear c6
        try clear c6b0
        try clear c7
        try clear c7b0
        try clear c9
        try clear c11
        try clear hx419_0
        try clear hx419_1
        try clear hx419_2
        try clear hx419_3
        try clear p2
        try clear p419
        try clear q419
        obtain ⟨x5_2,rfl,HA,HK2,HO_3,HB⟩:=hrel
        cases gk with
        | zero => exact absurd HA.out (by simp [spec_IsRing.l1])
        | succ k2 =>
         have H:=HA.out
         clear HA
         simp only [spec_IsRing.l1] at H
         by_cases c12 : x5_2 < x4_1
         ·
          rw [if_pos c12] at H
          have c12b0 : decide (x5_2 < x4_1) = true:=decide_eq_true c12
          clear c12
          have HC13:=Aside0.mk H
          clear H
          go_upto_region 13 with (fail)
          go_cut [44] (fun v44 wc => ∃ (kq : Nat) (x44_12 : Bool),v44 = .bool x44_12 ∧ Aside0 (spec_IsRing.j2 kq t416 x4_1 x5_2 0 x44_12 = some r) ∧ Aside0 (kq ≤ k2) ∧ Aside0 (Kd.R k100 100 wc w.heap.size (fun _ => True) (.slice (some ad419) t416.length co10) t416) ∧ Aside0 (Below w.heap.size w wc))
          case first =>
           have H:=HC13.out
           clear HC13
           by_cases c14 : (wrap64 (x5_2 + 1)) = x4_1
           ·
            rw [if_pos c14] at H
            have c14b0 : ((wrap64 (x5_2 + 1)) == x4_1) = true:=beq_iff_eq.mpr c14
            have c14b1 : ((wrap64 (x5_2 + 1)) != x4_1) = false:=bne_eq_false_iff_eq.mpr c14
            clear c14
            (first | rw [c14b0] | (simp only [i64_w,i32_w];rw [c14b0]) | skip)
            have H':=Aside0.mk H
            clear H
            go_wp2
            go_meet
            case rel => exact ⟨_,(true),(by first | rfl | (simp;done) | (simp [*];done)),H',⟨by have:=HK1.out;have:=HK2.out;first | omega | exact Nat.le_refl _⟩,⟨by (with_reducible repeat (first | apply Kd.R_alloc | apply Kd.R_drewN | apply Kd.R_drew));exact HO_3.out⟩,⟨Hd.b_⟩⟩
           ·
            rw [if_neg c14] at H
            have c14b0 : ((wrap64 (x5_2 + 1)) == x4_1) = false:=beq_eq_false_iff_ne.mpr c14
            have c14b1 : ((wrap64 (x5_2 + 1)) != x4_1) = true:=bne_iff_ne.mpr c14
            (first | rw [c14b0] | (simp only [i64_w,i32_w];rw [c14b0]) | skip)
            by_cases c15 : x5_2 = 0
            ·
             rw [if_pos c15] at H
             have c15b0 : (x5_2 == 0) = true:=beq_iff_eq.mpr c15
             have c15b1 : (x5_2 != 0) = false:=bne_eq_false_iff_eq.mpr c15
             clear c15
             have H':=Aside0.mk H
             clear H
             go_wp2
             go_meet
             case rel => exact ⟨_,(((wrap64 (x4_1 + 1)) == (t416.length : Int))),(by first | rfl | (simp;done) | (simp [*];done)),H',⟨by have:=HK1.out;have:=HK2.out;first | omega | exact Nat.le_refl _⟩,⟨by (with_reducible repeat (first | apply Kd.R_alloc | apply Kd.R_drewN | apply Kd.R_drew));exact HO_3.out⟩,⟨Hd.b_⟩⟩
            ·
             rw [if_neg c15] at H
             have c15b0 : (x5_2 == 0) = false:=beq_eq_false_iff_ne.mpr c15
             have c15b1 : (x5_2 != 0) = true:=bne_iff_ne.mpr c15
             have H':=Aside0.mk H
             clear H
             go_wp2
             go_meet
             case rel => exact ⟨_,(false),(by first | rfl | (simp;done) | (simp [*];done)),H',⟨by have:=HK1.out;have:=HK2.out;first | omega | exact Nat.le_refl _⟩,⟨by (with_reducible repeat (first | apply Kd.R_alloc | apply Kd.R_drewN | apply Kd.R_drew));exact HO_3.out⟩,⟨Hd.b_⟩⟩
          case rest =>
           clear HC13
           try clear c1
           try clear p2
           try clear c3
           try clear p4
           try clear q4
           try clear hx4
           try clear c6
           try clear c6b0
           try clear p6
           try clear c7
           try clear c7b0
           try clear c9
           try clear c11
           try clear c12
           try clear c12b0
           try clear c13
           try clear c14
           try clear c14b0
           try clear c14b1
           try clear c15
           try clear c15b0
           try clear c15b1
           try clear hx419_0
           try clear hx419_1
           try clear hx419_2
           try clear hx419_3
           try clear p2
           try clear p4
           try clear p419
           try clear q4
           try clear q419
           obtain ⟨kq,x44_12,rfl,HA,HJ12,HO_3,HB⟩:=hcut
           cases kq with
           | zero => exact absurd HA.out (by simp [spec_IsRing.j2])
           | succ kj12 =>
            have H:=HA.out
            clear HA
            simp only [spec_IsRing.j2] at H
            by_cases c16 : x44_12 = true
            ·
             subst c16
             have H1 : (if 0 ≤ x4_1 then (if x4_1 < (t416.length : Int) then (if 0 ≤ x5_2 then (if x5_2 < (t416.length : Int) then ((spec_HowMeet.f kj12 ((rd_T100 t416 x4_1).f0.f0) ((rd_T100 t416 x4_1).f0.f1) ((rd_T100 t416 x4_1).f1.f0) ((rd_T100 t416 x4_1).f1.f1) ((rd_T100 t416 x5_2).f0.f0) ((rd_T100 t416 x5_2).f0.f1) ((rd_T100 t416 x5_2).f1.f0) ((rd_T100 t416 x5_2).f1.f1)).bind fun t423 => (if t423 = 1 then (spec_IsRing.l1 kj12 t416 x4_1 (wrap64 (x5_2 + 1))) else (some false))) else (none)) else (none)) else (none)) else (none)) = some r:=by rw [if_pos rfl] at H;exact H
             clear H
             have H:=H1
             clear H1
             by_cases c17 : 0 ≤ x4_1
             ·
              rw [if_pos c17] at H
              have c17b0 : decide (0 ≤ x4_1) = true:=decide_eq_true c17
              clear c17
              by_cases c18 : x4_1 < (t416.length : Int)
              ·
               rw [if_pos c18] at H
               have c18b0 : decide (x4_1 < (t416.length : Int)) = true:=decide_eq_true c18
               clear c18
               by_cases c19 : 0 ≤ x5_2
               ·
                rw [if_pos c19] at H
                have c19b0 : decide (0 ≤ x5_2) = true:=decide_eq_true c19
                clear c19
                by_cases c20 : x5_2 < (t416.length : Int)
                ·
                 rw [if_pos c20] at H
                 have c20b0 : decide (x5_2 < (t416.length : Int)) = true:=decide_eq_true c20
                 clear c20
                 replace H:=Option.bind_eq_some_iff.mp H
                 obtain ⟨t423,A210,H⟩:=H
                 replace H : (if t423 = 1 then (spec_IsRing.l1 kj12 t416 x4_1 (wrap64 (x5_2 + 1))) else (some false)) = some r:=H
                 have A21:=Aside0.mk A210
                 clear A210
                 by_cases c22 : t423 = 1
                 ·
                  rw [if_pos c22] at H
                  have c22b0 : (t423 == 1) = true:=beq_iff_eq.mpr c22
                  have c22b1 : (t423 != 1) = false:=bne_eq_false_iff_eq.mpr c22
                  clear c22
                  have H':=Aside0.mk H
                  clear H
                  try go_wp2
                  replace HO_3:=Aside0.mk (Kd.R_drew HO_3.out)
                  replace HB:=Aside0.mk (below_drew1 HB.out)
                  have p421 : 0 ≤ (x4_1 : Int):=of_decide_eq_true Hd.a_
                  have q421 : x4_1 < (t416.length : Int):=of_decide_eq_true Hd.a_
                  obtain ⟨ad421,e421,hx421_0,hx421_1,hx421_2,hx421_3⟩:=at_T100 (Kd.R_reads' HO_3.out).2.2 x4_1 p421 q421
                  obtain rfl : ad419 = ad421:=(by injection e421)
                  replace p421:=eq_true p421
                  replace q421:=eq_true q421
                  have p422 : 0 ≤ (x5_2 : Int):=of_decide_eq_true Hd.a_
                  have q422 : x5_2 < (t416.length : Int):=of_decide_eq_true Hd.a_
                  obtain ⟨ad422,e422,hx422_0,hx422_1,hx422_2,hx422_3⟩:=at_T100 (Kd.R_reads' HO_3.out).2.2 x5_2 p422 q422
                  obtain rfl : ad419 = ad422:=(by injection e422)
                  replace p422:=eq_true p422
                  replace q422:=eq_true q422
                  have s0_:=Hd.HW.x (W0:=wc.drew) hx421_0
                  have s1_:=Hd.HW.x (W0:=wc.drew) hx421_1
                  have s2_:=Hd.HW.x (W0:=wc.drew) hx421_2
                  have s3_:=Hd.HW.x (W0:=wc.drew) hx421_3
                  have s4_:=Hd.HW.x (W0:=wc.drew) hx422_0
                  have s5_:=Hd.HW.x (W0:=wc.drew) hx422_1
                  have s6_:=Hd.HW.x (W0:=wc.drew) hx422_2
                  have s7_:=Hd.HW.x (W0:=wc.drew) hx422_3
                  refine Hd.HW.region (by kernel_rfl) (by kernel_rfl) ?_
                  repeat (go_big_quiet_step ((first | (go_at_call 87;with_reducible exact Hd.HW.c (spec_HowMeet.calls kj12 ((rd_T100 t416 x4_1).f0.f0) ((rd_T100 t416 x4_1).f0.f1) ((rd_T100 t416 x4_1).f1.f0) ((rd_T100 t416 x4_1).f1.f1) ((rd_T100 t416 x5_2).f0.f0) ((rd_T100 t416 x5_2).f0.f1) ((rd_T100 t416 x5_2).f1.f0) ((rd_T100 t416 x5_2).f1.f1) t423 _ A21.out)))))
                  refine wpQuiet_nil ?_
                  intro _ hq_
                  obtain ⟨q_,rfl⟩:=hq_
                  clear s0_ s1_ s2_ s3_ s4_ s5_ s6_ s7_
                  replace HO_3:=Aside0.mk (Kd.R_below HO_3.out q_.b)
                  replace HB:=Aside0.mk (below_step HB.out q_.b)
                  replace hx421_0:=q_.cell hx421_0
                  replace hx421_1:=q_.cell hx421_1
                  replace hx421_2:=q_.cell hx421_2
                  replace hx421_3:=q_.cell hx421_3
                  replace hx422_0:=q_.cell hx422_0
                  replace hx422_1:=q_.cell hx422_1
                  replace hx422_2:=q_.cell hx422_2
                  replace hx422_3:=q_.cell hx422_3
                  generalize q_.W = w24 at HO_3 HB hx421_0 hx421_1 hx421_2 hx421_3 hx422_0 hx422_1 hx422_2 hx422_3 ⊢
                  try simp only [i64_w,i32_w]
                  try go_wp2
                  go_roundg kj12
                  case measure => have:=HK1.out;have:=HK2.out;have:=HJ12.out;omega
                  case rel => exact ⟨(wrap64 (x5_2 + 1)),(by first | rfl | (simp;done) | (simp [*];done)),H',⟨by have:=HK1.out;have:=HK2.out;have:=HJ12.out;omega⟩,⟨by (with_reducible repeat (first | apply Kd.R_alloc | apply Kd.R_drewN | apply Kd.R_drew));exact HO_3.out⟩,⟨Hd.b_⟩⟩
                 ·
                  rw [if_neg c22] at H
                  have c22b0 : (t423 == 1) = false:=beq_eq_false_iff_ne.mpr c22
                  have c22b1 : (t423 != 1) = true:=bne_iff_ne.mpr c22
                  obtain rfl:=Option.some.inj H
                  try go_wp2
                  replace HO_3:=Aside0.mk (Kd.R_drew HO_3.out)
                  replace HB:=Aside0.mk (below_drew1 HB.out)
                  have p421 : 0 ≤ (x4_1 : Int):=of_decide_eq_true Hd.a_
                  have q421 : x4_1 < (t416.length : Int):=of_decide_eq_true Hd.a_
                  obtain ⟨ad421,e421,hx421_0,hx421_1,hx421_2,hx421_3⟩:=at_T100 (Kd.R_reads' HO_3.out).2.2 x4_1 p421 q421
                  obtain rfl : ad419 = ad421:=(by injection e421)
                  replace p421:=eq_true p421
                  replace q421:=eq_true q421
                  have p422 : 0 ≤ (x5_2 : Int):=of_decide_eq_true Hd.a_
                  have q422 : x5_2 < (t416.length : Int):=of_decide_eq_true Hd.a_
                  obtain ⟨ad422,e422,hx422_0,hx422_1,hx422_2,hx422_3⟩:=at_T100 (Kd.R_reads' HO_3.out).2.2 x5_2 p422 q422
                  obtain rfl : ad419 = ad422:=(by injection e422)
                  replace p422:=eq_true p422
                  replace q422:=eq_true q422
                  have s0_:=Hd.HW.x (W0:=wc.drew) hx421_0
                  have s1_:=Hd.HW.x (W0:=wc.drew) hx421_1
                  have s2_:=Hd.HW.x (W0:=wc.drew) hx421_2
                  have s3_:=Hd.HW.x (W0:=wc.drew) hx421_3
                  have s4_:=Hd.HW.x (W0:=wc.drew) hx422_0
                  have s5_:=Hd.HW.x (W0:=wc.drew) hx422_1
                  have s6_:=Hd.HW.x (W0:=wc.drew) hx422_2
                  have s7_:=Hd.HW.x (W0:=wc.drew) hx422_3
                  refine Hd.HW.region (by kernel_rfl) (by kernel_rfl) ?_
                  repeat (go_big_quiet_step ((first | (go_at_call 87;with_reducible exact Hd.HW.c (spec_HowMeet.calls kj12 ((rd_T100 t416 x4_1).f0.f0) ((rd_T100 t416 x4_1).f0.f1) ((rd_T100 t416 x4_1).f1.f0) ((rd_T100 t416 x4_1).f1.f1) ((rd_T100 t416 x5_2).f0.f0) ((rd_T100 t416 x5_2).f0.f1) ((rd_T100 t416 x5_2).f1.f0) ((rd_T100 t416 x5_2).f1.f1) t423 _ A21.out)))))
                  refine wpQuiet_nil ?_
                  intro _ hq_
                  obtain ⟨q_,rfl⟩:=hq_
                  clear s0_ s1_ s2_ s3_ s4_ s5_ s6_ s7_
                  replace HO_3:=Aside0.mk (Kd.R_below HO_3.out q_.b)
                  replace HB:=Aside0.mk (below_step HB.out q_.b)
                  replace hx421_0:=q_.cell hx421_0
                  replace hx421_1:=q_.cell hx421_1
                  replace hx421_2:=q_.cell hx421_2
                  replace hx421_3:=q_.cell hx421_3
                  replace hx422_0:=q_.cell hx422_0
                  replace hx422_1:=q_.cell hx422_1
                  replace hx422_2:=q_.cell hx422_2
                  replace hx422_3:=q_.cell hx422_3
                  generalize q_.W = w26 at HO_3 HB hx421_0 hx421_1 hx421_2 hx421_3 hx422_0 hx422_1 hx422_2 hx422_3 ⊢
                  try simp only [i64_w,i32_w]
                  try go_wp2
                  go_ret
                  exact ⟨Hd.e_,Hd.b_⟩
                ·
                 rw [if_neg c20] at H
                 exact absurd H (by simp)
               ·
                rw [if_neg c19] at H
                exact absurd H (by simp)
              ·
               rw [if_neg c18] at H
               exact absurd H (by simp)
             ·
              rw [if_neg c17] at H
              exact absurd H (by simp)
            ·
             replace c16:=Bool.eq_false_iff.mpr c16
             subst c16
             have H1 : (if 0 ≤ x4_1 then (if x4_1 < (t416.length : Int) then (if 0 ≤ x5_2 then (if x5_2 < (t416.length : Int) then ((spec_HowMeet.f kj12 ((rd_T100 t416 x4_1).f0.f0) ((rd_T100 t416 x4_1).f0.f1) ((rd_T100 t416 x4_1).f1.f0) ((rd_T100 t416 x4_1).f1.f1) ((rd_T100 t416 x5_2).f0.f0) ((rd_T100 t416 x5_2).f0.f1) ((rd_T100 t416 x5_2).f1.f0) ((rd_T100 t416 x5_2).f1.f1)).bind fun t426 => (if t426 = 0 then (spec_IsRing.l1 kj12 t416 x4_1 (wrap64 (x5_2 + 1))) else (some false))) else (none)) else (none)) else (none)) else (none)) = some r:=by rw [if_neg (show ¬ (false = true) by decide)] at H;exact H
             clear H
             have H:=H1
             clear H1
             by_cases c27 : 0 ≤ x4_1
             ·
              rw [if_pos c27] at H
              have c27b0 : decide (0 ≤ x4_1) = true:=decide_eq_true c27
              clear c27
              by_cases c28 : x4_1 < (t416.length : Int)
              ·
               rw [if_pos c28] at H
               have c28b0 : decide (x4_1 < (t416.length : Int)) = true:=decide_eq_true c28
               clear c28
               by_cases c29 : 0 ≤ x5_2
               ·
                rw [if_pos c29] at H
                have c29b0 : decide (0 ≤ x5_2) = true:=decide_eq_true c29
                clear c29
                by_cases c30 : x5_2 < (t416.length : Int)
                ·
                 rw [if_pos c30] at H
                 have c30b0 : decide (x5_2 < (t416.length : Int)) = true:=decide_eq_true c30
                 clear c30
                 replace H:=Option.bind_eq_some_iff.mp H
                 obtain ⟨t426,A310,H⟩:=H
                 replace H : (if t426 = 0 then (spec_IsRing.l1 kj12 t416 x4_1 (wrap64 (x5_2 + 1))) else (some false)) = some r:=H
                 have A31:=Aside0.mk A310
                 clear A310
                 by_cases c32 : t426 = 0
                 ·
                  rw [if_pos c32] at H
                  have c32b0 : (t426 == 0) = true:=beq_iff_eq.mpr c32
                  have c32b1 : (t426 != 0) = false:=bne_eq_false_iff_eq.mpr c32
                  clear c32
                  have H':=Aside0.mk H
                  clear H
                  try go_wp2
                  replace HO_3:=Aside0.mk (Kd.R_drew HO_3.out)
                  replace HB:=Aside0.mk (below_drew1 HB.out)
                  have p424 : 0 ≤ (x4_1 : Int):=of_decide_eq_true Hd.a_
                  have q424 : x4_1 < (t416.length : Int):=of_decide_eq_true Hd.a_
                  obtain ⟨ad424,e424,hx424_0,hx424_1,hx424_2,hx424_3⟩:=at_T100 (Kd.R_reads' HO_3.out).2.2 x4_1 p424 q424
                  obtain rfl : ad419 = ad424:=(by injection e424)
                  replace p424:=eq_true p424
                  replace q424:=eq_true q424
                  have p425 : 0 ≤ (x5_2 : Int):=of_decide_eq_true Hd.a_
                  have q425 : x5_2 < (t416.length : Int):=of_decide_eq_true Hd.a_
                  obtain ⟨ad425,e425,hx425_0,hx425_1,hx425_2,hx425_3⟩:=at_T100 (Kd.R_reads' HO_3.out).2.2 x5_2 p425 q425
                  obtain rfl : ad419 = ad425:=(by injection e425)
                  replace p425:=eq_true p425
                  replace q425:=eq_true q425
                  have s0_:=Hd.HW.x (W0:=wc.drew) hx424_0
                  have s1_:=Hd.HW.x (W0:=wc.drew) hx424_1
                  have s2_:=Hd.HW.x (W0:=wc.drew) hx424_2
                  have s3_:=Hd.HW.x (W0:=wc.drew) hx424_3
                  have s4_:=Hd.HW.x (W0:=wc.drew) hx425_0
                  have s5_:=Hd.HW.x (W0:=wc.drew) hx425_1
                  have s6_:=Hd.HW.x (W0:=wc.drew) hx425_2
                  have s7_:=Hd.HW.x (W0:=wc.drew) hx425_3
                  refine Hd.HW.region (by kernel_rfl) (by kernel_rfl) ?_
                  repeat (go_big_quiet_step ((first | (go_at_call 87;with_reducible exact Hd.HW.c (spec_HowMeet.calls kj12 ((rd_T100 t416 x4_1).f0.f0) ((rd_T100 t416 x4_1).f0.f1) ((rd_T100 t416 x4_1).f1.f0) ((rd_T100 t416 x4_1).f1.f1) ((rd_T100 t416 x5_2).f0.f0) ((rd_T100 t416 x5_2).f0.f1) ((rd_T100 t416 x5_2).f1.f0) ((rd_T100 t416 x5_2).f1.f1) t426 _ A31.out)))))
                  refine wpQuiet_nil ?_
                  intro _ hq_
                  obtain ⟨q_,rfl⟩:=hq_
                  clear s0_ s1_ s2_ s3_ s4_ s5_ s6_ s7_
                  replace HO_3:=Aside0.mk (Kd.R_below HO_3.out q_.b)
                  replace HB:=Aside0.mk (below_step HB.out q_.b)
                  replace hx424_0:=q_.cell hx424_0
                  replace hx424_1:=q_.cell hx424_1
                  replace hx424_2:=q_.cell hx424_2
                  replace hx424_3:=q_.cell hx424_3
                  replace hx425_0:=q_.cell hx425_0
                  replace hx425_1:=q_.cell hx425_1
                  replace hx425_2:=q_.cell hx425_2
                  replace hx425_3:=q_.cell hx425_3
                  generalize q_.W = w34 at HO_3 HB hx424_0 hx424_1 hx424_2 hx424_3 hx425_0 hx425_1 hx425_2 hx425_3 ⊢
                  try simp only [i64_w,i32_w]
                  try go_wp2
                  go_roundg kj12
                  case measure => have:=HK1.out;have:=HK2.out;have:=HJ12.out;omega
                  case rel => exact ⟨(wrap64 (x5_2 + 1)),(by first | rfl | (simp;done) | (simp [*];done)),H',⟨by have:=HK1.out;have:=HK2.out;have:=HJ12.out;omega⟩,⟨by (with_reducible repeat (first | apply Kd.R_alloc | apply Kd.R_drewN | apply Kd.R_drew));exact HO_3.out⟩,⟨Hd.b_⟩⟩
                 ·
                  rw [if_neg c32] at H
                  have c32b0 : (t426 == 0) = false:=beq_eq_false_iff_ne.mpr c32
                  have c32b1 : (t426 != 0) = true:=bne_iff_ne.mpr c32
                  obtain rfl:=Option.some.inj H
                  try go_wp2
                  replace HO_3:=Aside0.mk (Kd.R_drew HO_3.out)
                  replace HB:=Aside0.mk (below_drew1 HB.out)
                  have p424 : 0 ≤ (x4_1 : Int):=of_decide_eq_true Hd.a_
                  have q424 : x4_1 < (t416.length : Int):=of_decide_eq_true Hd.a_
                  obtain ⟨ad424,e424,hx424_0,hx424_1,hx424_2,hx424_3⟩:=at_T100 (Kd.R_reads' HO_3.out).2.2 x4_1 p424 q424
                  obtain rfl : ad419 = ad424:=(by injection e424)
                  replace p424:=eq_true p424
                  replace q424:=eq_true q424
                  have p425 : 0 ≤ (x5_2 : Int):=of_decide_eq_true Hd.a_
                  have q425 : x5_2 < (t416.length : Int):=of_decide_eq_true Hd.a_
                  obtain ⟨ad425,e425,hx425_0,hx425_1,hx425_2,hx425_3⟩:=at_T100 (Kd.R_reads' HO_3.out).2.2 x5_2 p425 q425
                  obtain rfl : ad419 = ad425:=(by injection e425)
                  replace p425:=eq_true p425
                  replace q425:=eq_true q425
                  have s0_:=Hd.HW.x (W0:=wc.drew) hx424_0
                  have s1_:=Hd.HW.x (W0:=wc.drew) hx424_1
                  have s2_:=Hd.HW.x (W0:=wc.drew) hx424_2
                  have s3_:=Hd.HW.x (W0:=wc.drew) hx424_3
                  have s4_:=Hd.HW.x (W0:=wc.drew) hx425_0
                  have s5_:=Hd.HW.x (W0:=wc.drew) hx425_1
                  have s6_:=Hd.HW.x (W0:=wc.drew) hx425_2
                  have s7_:=Hd.HW.x (W0:=wc.drew) hx425_3
                  refine Hd.HW.region (by kernel_rfl) (by kernel_rfl) ?_
                  repeat (go_big_quiet_step ((first | (go_at_call 87;with_reducible exact Hd.HW.c (spec_HowMeet.calls kj12 ((rd_T100 t416 x4_1).f0.f0) ((rd_T100 t416 x4_1).f0.f1) ((rd_T100 t416 x4_1).f1.f0) ((rd_T100 t416 x4_1).f1.f1) ((rd_T100 t416 x5_2).f0.f0) ((rd_T100 t416 x5_2).f0.f1) ((rd_T100 t416 x5_2).f1.f0) ((rd_T100 t416 x5_2).f1.f1) t426 _ A31.out)))))
                  refine wpQuiet_nil ?_
                  intro _ hq_
                  obtain ⟨q_,rfl⟩:=hq_
                  clear s0_ s1_ s2_ s3_ s4_ s5_ s6_ s7_
                  replace HO_3:=Aside0.mk (Kd.R_below HO_3.out q_.b)
                  replace HB:=Aside0.mk (below_step HB.out q_.b)
                  replace hx424_0:=q_.cell hx424_0
                  replace hx424_1:=q_.cell hx424_1
                  replace hx424_2:=q_.cell hx424_2
                  replace hx424_3:=q_.cell hx424_3
                  replace hx425_0:=q_.cell hx425_0
                  replace hx425_1:=q_.cell hx425_1
                  replace hx425_2:=q_.cell hx425_2
                  replace hx425_3:=q_.cell hx425_3
                  generalize q_.W = w36 at HO_3 HB hx424_0 hx424_1 hx424_2 hx424_3 hx425_0 hx425_1 hx425_2 hx425_3 ⊢
                  try simp only [i64_w,i32_w]
                  try go_wp2
                  go_ret
                  exact ⟨Hd.e_,Hd.b_⟩
                ·
                 rw [if_neg c30] at H
                 exact absurd H (by simp)
               ·
                rw [if_neg c29] at H
                exact absurd H (by simp)
              ·
               rw [if_neg c28] at H
               exact absurd H (by simp)
             ·
              rw [if_neg c27] at H
              exact absurd H (by simp)
         ·
          rw [if_neg c12] at H
          have c12b0 : decide (x5_2 < x4_1) = false:=decide_eq_false c12
          clear c12
          have H':=Aside0.mk H
          clear H
          go_wp2
          go_roundg k2
          case measure => have:=HK1.out;have:=HK2.out;omega
          case rel => exact ⟨(wrap64 (x4_1 + 1)),(by first | rfl | (simp;done) | (simp [*];done)),H',⟨by have:=HK1.out;have:=HK2.out;omega⟩,⟨by (with_reducible repeat (first | apply Kd.R_alloc | apply Kd.R_drewN | apply Kd.R_drew));exact HO_3.out⟩,⟨Hd.b_⟩⟩
      ·
       replace c9:=Bool.eq_false_iff.mpr c9
       subst c9
       have H1 : (some false) = some r:=by rw [if_neg (show ¬ (false = true) by decide)] at H;exact H
       clear H
       have H:=H1
       clear H1
       obtain rfl:=Option.some.inj H
       obtain ⟨Ao37,co37,eo37⟩:=Kd.R_slice HO_3.out
       subst eo37
       have p419 : 0 ≤ (x4_1 : Int):=of_decide_eq_true Hd.a_
       have q419 : x4_1 < (t416.length : Int):=of_decide_eq_true Hd.a_
       obtain ⟨ad419,e419,hx419_0,hx419_1,hx419_2,hx419_3⟩:=at_T100 (Kd.R_reads' HO_3.out).2.2 x4_1 p419 q419
       cases e419
       replace p419:=eq_true p419
       replace q419:=eq_true q419
       go_wp2_with (first | ((with_reducible refine gate_callee (f:=115) rfl ?_);refine goesL_ (some 23) rfl rfl Try.func115 (by kernel_rfl) rfl #[.agg #[.int .i64 ((rd_T100 t416 x4_1).f0.f0),.int .i64 ((rd_T100 t416 x4_1).f0.f1),.int .i64 ((rd_T100 t416 x4_1).f1.f0),.int .i64 ((rd_T100 t416 x4_1).f1.f1)]] rfl Hd.m_ ?_;(with_reducible refine (spec_IsSegment.calls ((rd_T100 t416 x4_1).f0.f0) ((rd_T100 t416 x4_1).f0.f1) ((rd_T100 t416 x4_1).f1.f0) ((rd_T100 t416 x4_1).f1.f1) false _ A8.out).mono ?_);rintro e w38 ⟨rfl,hb⟩;refine ⟨_,rfl,?_⟩;replace HO_3:=Aside0.mk (Kd.R_below (Hd.r_ HO_3) hb);replace HB:=Aside0.mk (below_step Hd.b_ hb);(try clear hb);(try clear hb2);(try clear hk);(try clear hi)))
       go_ret
       exact ⟨Hd.e_,Hd.b_⟩
     ·
      rw [if_neg c7] at H
      exact absurd H (by simp)
    ·
     rw [if_neg c6] at H
     have c6b0 : decide (x4_1 < (t416.length : Int)) = false:=decide_eq_false c6
     clear c6
     obtain rfl:=Option.some.inj H
     obtain ⟨Ao39,co39,eo39⟩:=Kd.R_slice HO_3.out
     subst eo39
     go_wp2
     go_ret
     exact ⟨Hd.e_,Hd.b_⟩
 ·
  replace c3:=Bool.eq_false_iff.mpr c3
  subst c3
  have H1 : (some false) = some r:=by rw [if_neg (show ¬ (false = true) by decide)] at H;exact H
  clear H
  have H:=H1
  clear H1
  obtain rfl:=Option.some.inj H
  go_enter Try.func99,Try.ntmps99
  go_wp2_with (first | ((with_reducible refine gate_callee (f:=61) rfl ?_);refine goesL_ (some 9) rfl rfl Try.func61 (by kernel_rfl) rfl #[.int .i64 (l0.length : Int),.int .i64 3,.int .i64 10] rfl Hd.m_ ?_;(with_reducible refine (spec_l1In.calls (l0.length : Int) 3 10 false _ A2.out).mono ?_);rintro e w' ⟨rfl,⟨nd,rfl⟩⟩;refine ⟨_,rfl,?_⟩))
  go_ret
  exact ⟨Hd.e_,Hd.b_⟩
def spec_IsFeature.j0 : Nat → Bool → Int → Int → Int → ByteArray → List (S63) → Option (Bool)
 | 0,_,_,_,_,_,_ => none
 | k + 1,x23,x428000,x428001,x428002,x428003,x428004 => if x23 = true then (some false) else (if x428001 = 1 then (if (x428004.length : Int) = 1 then (if 0 < (x428004.length : Int) then ((spec_IsPoint.f ((rd_T63 x428004 0).f0) ((rd_T63 x428004 0).f1)).bind fun t432 => (some t432)) else (none)) else (some false)) else (if x428001 = 2 then ((spec_IsSimple.f k x428004).bind fun t433 => (some t433)) else (if x428001 = 3 then ((spec_IsRing.f k x428004).bind fun t434 => (some t434)) else (some false))))
def spec_IsFeature.f (k : Nat) (a0_0 : Int) (a0_1 : Int) (a0_2 : Int) (a0_3 : ByteArray) (l0_4 : List (S63)) : Option (Bool):=(spec_l1In.f a0_0 1 99).bind fun t428 => (if t428 = true then ((spec_l1In.f a0_2 0 9).bind fun t429 => (if t429 = true then (if a0_3.toList = ([] : List UInt8) then (spec_IsFeature.j0 k false a0_0 a0_1 a0_2 a0_3 l0_4) else ((spec_IsName.f k a0_3).bind fun t430 => (spec_IsFeature.j0 k (!t430) a0_0 a0_1 a0_2 a0_3 l0_4))) else (spec_IsFeature.j0 k true a0_0 a0_1 a0_2 a0_3 l0_4))) else (spec_IsFeature.j0 k true a0_0 a0_1 a0_2 a0_3 l0_4))
set_option maxHeartbeats 8000000 in
set_option maxRecDepth 100000 in
theorem spec_IsFeature.calls (k : Nat) (a0_0 : Int) (a0_1 : Int) (a0_2 : Int) (a0_3 : ByteArray) (A0_4 : Option Addr) (c0_4 : Nat) (l0_4 : List (S63)) (r : Bool) (w : World) (hr0_4 : Kd.C k63 w A0_4 l0_4.length l0_4) (hc0_4 : l0_4.length ≤ c0_4) (h : spec_IsFeature.f k a0_0 a0_1 a0_2 a0_3 l0_4 = some r) :
  Calls Try.prog 68 #[.agg #[.int .i64 a0_0,.int .i64 a0_1,.int .i64 a0_2,.string a0_3,.slice A0_4 l0_4.length c0_4]] w fun e w' => e = .returned (.bool r) ∧ Below w.heap.size w w':=by
 have hu37:=Try.underlying37
 have hu63:=Try.underlying63
 have HR0_4:=Aside0.mk hr0_4
 have HC0_4:=Aside0.mk hc0_4
 clear hr0_4 hc0_4
 have HB:=Aside0.mk (Below.refl w.heap.size w)
 have H : ((spec_l1In.f a0_0 1 99).bind fun t428 => (if t428 = true then ((spec_l1In.f a0_2 0 9).bind fun t429 => (if t429 = true then (if a0_3.toList = ([] : List UInt8) then (spec_IsFeature.j0 k false a0_0 a0_1 a0_2 a0_3 l0_4) else ((spec_IsName.f k a0_3).bind fun t430 => (spec_IsFeature.j0 k (!t430) a0_0 a0_1 a0_2 a0_3 l0_4))) else (spec_IsFeature.j0 k true a0_0 a0_1 a0_2 a0_3 l0_4))) else (spec_IsFeature.j0 k true a0_0 a0_1 a0_2 a0_3 l0_4))) = some r:=h
 clear h
 have HC2:=Aside0.mk H
 clear H
 go_enter Try.func68,Try.ntmps68
 go_upto_region 1 with (first | ((with_reducible refine gate_dst (N:=1) rfl ?_);refine Hd.box_ 1 (#[.int .i64 a0_0,.int .i64 a0_1,.int .i64 a0_2,.string a0_3,.slice A0_4 l0_4.length c0_4]) 37 ?_;intro gb427 hg w3 hbox hb;have BK427:=Aside0.mk (hbox);have GW427:=Aside0.mk ((Hd.g_ hg Hd.b_ : w.heap.size ≤ gb427));have GE427:=Aside0.mk ((Hd.g_ hg Hd.b_ : w.heap.size ≤ gb427));replace HB:=Aside0.mk (below_step Hd.b_ hb);clear hb hbox hg))
 (try simp only [Act.put,List.setIfInBounds_toArray,List.set_cons_zero,List.set_cons_succ])
 go_cut [23] (fun v23 wc => ∃ (kq : Nat) (x23_1 : Bool),v23 = .bool x23_1 ∧ Aside0 (spec_IsFeature.j0 kq x23_1 a0_0 a0_1 a0_2 a0_3 l0_4 = some r) ∧ Aside0 (kq ≤ k) ∧ Aside0 (wc.heap[gb427]? = some (.cells #[.int .i64 a0_0,.int .i64 a0_1,.int .i64 a0_2,.string a0_3,(.slice A0_4 l0_4.length c0_4)] 37 (0,0))) ∧ Aside0 (Below w.heap.size w wc))
 case first =>
  have H:=HC2.out
  clear HC2
  replace H:=Option.bind_eq_some_iff.mp H
  obtain ⟨t428,A40,H⟩:=H
  replace H : (if t428 = true then ((spec_l1In.f a0_2 0 9).bind fun t429 => (if t429 = true then (if a0_3.toList = ([] : List UInt8) then (spec_IsFeature.j0 k false a0_0 a0_1 a0_2 a0_3 l0_4) else ((spec_IsName.f k a0_3).bind fun t430 => (spec_IsFeature.j0 k (!t430) a0_0 a0_1 a0_2 a0_3 l0_4))) else (spec_IsFeature.j0 k true a0_0 a0_1 a0_2 a0_3 l0_4))) else (spec_IsFeature.j0 k true a0_0 a0_1 a0_2 a0_3 l0_4)) = some r:=H
  have A4:=Aside0.mk A40
  clear A40
  by_cases c5 : t428 = true
  ·
   subst c5
   have H1 : ((spec_l1In.f a0_2 0 9).bind fun t429 => (if t429 = true then (if a0_3.toList = ([] : List UInt8) then (spec_IsFeature.j0 k false a0_0 a0_1 a0_2 a0_3 l0_4) else ((spec_IsName.f k a0_3).bind fun t430 => (spec_IsFeature.j0 k (!t430) a0_0 a0_1 a0_2 a0_3 l0_4))) else (spec_IsFeature.j0 k true a0_0 a0_1 a0_2 a0_3 l0_4))) = some r:=by rw [if_pos rfl] at H;exact H
   clear H
   have H:=H1
   clear H1
   replace H:=Option.bind_eq_some_iff.mp H
   obtain ⟨t429,A60,H⟩:=H
   replace H : (if t429 = true then (if a0_3.toList = ([] : List UInt8) then (spec_IsFeature.j0 k false a0_0 a0_1 a0_2 a0_3 l0_4) else ((spec_IsName.f k a0_3).bind fun t430 => (spec_IsFeature.j0 k (!t430) a0_0 a0_1 a0_2 a0_3 l0_4))) else (spec_IsFeature.j0 k true a0_0 a0_1 a0_2 a0_3 l0_4)) = some r:=H
   have A6:=Aside0.mk A60
   clear A60
   by_cases c7 : t429 = true
   ·
    subst c7
    have H1 : (if a0_3.toList = ([] : List UInt8) then (spec_IsFeature.j0 k false a0_0 a0_1 a0_2 a0_3 l0_4) else ((spec_IsName.f k a0_3).bind fun t430 => (spec_IsFeature.j0 k (!t430) a0_0 a0_1 a0_2 a0_3 l0_4))) = some r:=by rw [if_pos rfl] at H;exact H
    clear H
    have H:=H1
    clear H1
    by_cases c8 : a0_3.toList = ([] : List UInt8)
    ·
     rw [if_pos c8] at H
     have c8b0 : (a0_3.toList == ([] : List UInt8)) = true:=beq_iff_eq.mpr c8
     have c8b1 : (a0_3.toList != ([] : List UInt8)) = false:=bne_eq_false_iff_eq.mpr c8
     clear c8
     (first | rw [c8b0] | (simp only [i64_w,i32_w];rw [c8b0]) | skip)
     have H':=Aside0.mk H
     clear H
     obtain ⟨hcz9_0,hcz9_1,hcz9_2,hcz9_3,hcz9_4⟩:=Hd.c5_ BK427.out
     obtain ⟨hfz9_0,hfz9_1,hfz9_2,hfz9_3,hfz9_4⟩:=Hd.f5_ BK427.out
     go_wp2_with (first | ((with_reducible refine gate_callee (f:=61) rfl ?_);refine goesL_ (some 5) rfl rfl Try.func61 (by kernel_rfl) rfl #[.int .i64 a0_0,.int .i64 1,.int .i64 99] rfl Hd.m_ ?_;(with_reducible refine (spec_l1In.calls a0_0 1 99 true _ A4.out).mono ?_);rintro e w' ⟨rfl,⟨nd,rfl⟩⟩;refine ⟨_,rfl,?_⟩) | (go_at_call 61;(with_reducible refine (spec_l1In.calls a0_2 0 9 true _ A6.out).mono ?_);rintro e w' ⟨rfl,⟨nd,rfl⟩⟩))
     go_meet
     case rel => exact ⟨_,(false),(by first | rfl | (simp;done) | (simp [*];done)),H',⟨by first | omega | exact Nat.le_refl _⟩,⟨by (with_reducible repeat (first | refine blk_drewN ?_ _ | refine blk_drew ?_ | refine blk_alloc ?_ _));exact BK427.out⟩,⟨Hd.b_⟩⟩
    ·
     rw [if_neg c8] at H
     have c8b0 : (a0_3.toList == ([] : List UInt8)) = false:=beq_eq_false_iff_ne.mpr c8
     have c8b1 : (a0_3.toList != ([] : List UInt8)) = true:=bne_iff_ne.mpr c8
     (first | rw [c8b0] | (simp only [i64_w,i32_w];rw [c8b0]) | skip)
     replace H:=Option.bind_eq_some_iff.mp H
     obtain ⟨t430,A100,H⟩:=H
     replace H : (spec_IsFeature.j0 k (!t430) a0_0 a0_1 a0_2 a0_3 l0_4) = some r:=H
     have A10:=Aside0.mk A100
     clear A100
     have H':=Aside0.mk H
     clear H
     obtain ⟨hcz11_0,hcz11_1,hcz11_2,hcz11_3,hcz11_4⟩:=Hd.c5_ BK427.out
     obtain ⟨hfz11_0,hfz11_1,hfz11_2,hfz11_3,hfz11_4⟩:=Hd.f5_ BK427.out
     go_wp2_with (first | ((with_reducible refine gate_callee (f:=61) rfl ?_);refine goesL_ (some 5) rfl rfl Try.func61 (by kernel_rfl) rfl #[.int .i64 a0_0,.int .i64 1,.int .i64 99] rfl Hd.m_ ?_;(with_reducible refine (spec_l1In.calls a0_0 1 99 true _ A4.out).mono ?_);rintro e w' ⟨rfl,⟨nd,rfl⟩⟩;refine ⟨_,rfl,?_⟩) | (go_at_call 61;(with_reducible refine (spec_l1In.calls a0_2 0 9 true _ A6.out).mono ?_);rintro e w' ⟨rfl,⟨nd,rfl⟩⟩) | (go_at_call 97;(with_reducible refine (spec_IsName.calls k a0_3 t430 _ A10.out).mono ?_);rintro e w' ⟨rfl,⟨nd,rfl⟩⟩))
     go_meet
     case rel => exact ⟨_,(!t430),(by first | rfl | (simp;done) | (simp [*];done)),H',⟨by first | omega | exact Nat.le_refl _⟩,⟨by (with_reducible repeat (first | refine blk_drewN ?_ _ | refine blk_drew ?_ | refine blk_alloc ?_ _));exact BK427.out⟩,⟨Hd.b_⟩⟩
   ·
    replace c7:=Bool.eq_false_iff.mpr c7
    subst c7
    have H1 : (spec_IsFeature.j0 k true a0_0 a0_1 a0_2 a0_3 l0_4) = some r:=by rw [if_neg (show ¬ (false = true) by decide)] at H;exact H
    clear H
    have H:=H1
    clear H1
    have H':=Aside0.mk H
    clear H
    obtain ⟨hcz12_0,hcz12_1,hcz12_2,hcz12_3,hcz12_4⟩:=Hd.c5_ BK427.out
    obtain ⟨hfz12_0,hfz12_1,hfz12_2,hfz12_3,hfz12_4⟩:=Hd.f5_ BK427.out
    go_wp2_with (first | ((with_reducible refine gate_callee (f:=61) rfl ?_);refine goesL_ (some 5) rfl rfl Try.func61 (by kernel_rfl) rfl #[.int .i64 a0_0,.int .i64 1,.int .i64 99] rfl Hd.m_ ?_;(with_reducible refine (spec_l1In.calls a0_0 1 99 true _ A4.out).mono ?_);rintro e w' ⟨rfl,⟨nd,rfl⟩⟩;refine ⟨_,rfl,?_⟩) | (go_at_call 61;(with_reducible refine (spec_l1In.calls a0_2 0 9 false _ A6.out).mono ?_);rintro e w' ⟨rfl,⟨nd,rfl⟩⟩))
    go_meet
    case rel => exact ⟨_,(true),(by first | rfl | (simp;done) | (simp [*];done)),H',⟨by first | omega | exact Nat.le_refl _⟩,⟨by (with_reducible repeat (first | refine blk_drewN ?_ _ | refine blk_drew ?_ | refine blk_alloc ?_ _));exact BK427.out⟩,⟨Hd.b_⟩⟩
  ·
   replace c5:=Bool.eq_false_iff.mpr c5
   subst c5
   have H1 : (spec_IsFeature.j0 k true a0_0 a0_1 a0_2 a0_3 l0_4) = some r:=by rw [if_neg (show ¬ (false = true) by decide)] at H;exact H
   clear H
   have H:=H1
   clear H1
   have H':=Aside0.mk H
   clear H
   obtain ⟨hcz13_0,hcz13_1,hcz13_2,hcz13_3,hcz13_4⟩:=Hd.c5_ BK427.out
   obtain ⟨hfz13_0,hfz13_1,hfz13_2,hfz13_3,hfz13_4⟩:=Hd.f5_ BK427.out
   go_wp2_with (first | ((with_reducible refine gate_callee (f:=61) rfl ?_);refine goesL_ (some 5) rfl rfl Try.func61 (by kernel_rfl) rfl #[.int .i64 a0_0,.int .i64 1,.int .i64 99] rfl Hd.m_ ?_;(with_reducible refine (spec_l1In.calls a0_0 1 99 false _ A4.out).mono ?_);rintro e w' ⟨rfl,⟨nd,rfl⟩⟩;refine ⟨_,rfl,?_⟩))
   go_meet
   case rel => exact ⟨_,(true),(by first | rfl | (simp;done) | (simp [*];done)),H',⟨by first | omega | exact Nat.le_refl _⟩,⟨by (with_reducible repeat (first | refine blk_drewN ?_ _ | refine blk_drew ?_ | refine blk_alloc ?_ _));exact BK427.out⟩,⟨Hd.b_⟩⟩
 case rest =>
  clear HC2
  try clear p2
  try clear c5
  try clear c6
  try clear c7
  try clear c8
  try clear c8b0
  try clear c8b1
  try clear hcz11_0
  try clear hcz11_1
  try clear hcz11_2
  try clear hcz11_3
  try clear hcz11_4
  try clear hcz12_0
  try clear hcz12_1
  try clear hcz12_2
  try clear hcz12_3
  try clear hcz12_4
  try clear hcz13_0
  try clear hcz13_1
  try clear hcz13_2
  try clear hcz13_3
  try clear hcz13_4
  try clear hcz9_0
  try clear hcz9_1
  try clear hcz9_2
  try clear hcz9_3
  try clear hcz9_4
  try clear hfz11_0
  try clear hfz11_1
  try clear hfz11_2
  try clear hfz11_3
  try clear hfz11_4
  try clear hfz12_0
  try clear hfz12_1
  try clear hfz12_2
  try clear hfz12_3
  try clear hfz12_4
  try clear hfz13_0
  try clear hfz13_1
  try clear hfz13_2
  try clear hfz13_3
  try clear hfz13_4
  try clear hfz9_0
  try clear hfz9_1
  try clear hfz9_2
  try clear hfz9_3
  try clear hfz9_4
  obtain ⟨kq,x23_1,rfl,HA,HJ1,BK427,HB⟩:=hcut
  cases kq with
  | zero => exact absurd HA.out (by simp [spec_IsFeature.j0])
  | succ kj1 =>
   have H:=HA.out
   clear HA
   simp only [spec_IsFeature.j0] at H
   by_cases c14 : x23_1 = true
   ·
    subst c14
    have H1 : (some false) = some r:=by rw [if_pos rfl] at H;exact H
    clear H
    have H:=H1
    clear H1
    obtain rfl:=Option.some.inj H
    go_wp2
    go_ret
    exact ⟨Hd.e_,Hd.b_⟩
   ·
    replace c14:=Bool.eq_false_iff.mpr c14
    subst c14
    have H1 : (if a0_1 = 1 then (if (l0_4.length : Int) = 1 then (if 0 < (l0_4.length : Int) then ((spec_IsPoint.f ((rd_T63 l0_4 0).f0) ((rd_T63 l0_4 0).f1)).bind fun t432 => (some t432)) else (none)) else (some false)) else (if a0_1 = 2 then ((spec_IsSimple.f kj1 l0_4).bind fun t433 => (some t433)) else (if a0_1 = 3 then ((spec_IsRing.f kj1 l0_4).bind fun t434 => (some t434)) else (some false)))) = some r:=by rw [if_neg (show ¬ (false = true) by decide)] at H;exact H
    clear H
    have H:=H1
    clear H1
    by_cases c15 : a0_1 = 1
    ·
     rw [if_pos c15] at H
     have c15b0 : (a0_1 == 1) = true:=beq_iff_eq.mpr c15
     have c15b1 : (a0_1 != 1) = false:=bne_eq_false_iff_eq.mpr c15
     clear c15
     by_cases c16 : (l0_4.length : Int) = 1
     ·
      rw [if_pos c16] at H
      have c16b0 : ((l0_4.length : Int) == 1) = true:=beq_iff_eq.mpr c16
      have c16b1 : ((l0_4.length : Int) != 1) = false:=bne_eq_false_iff_eq.mpr c16
      clear c16
      by_cases c17 : 0 < (l0_4.length : Int)
      ·
       rw [if_pos c17] at H
       have c17b0 : decide (0 < (l0_4.length : Int)) = true:=decide_eq_true c17
       have c17b1 : decide (0 < l0_4.length) = true:=decide_eq_true (by omega)
       clear c17
       replace H:=Option.bind_eq_some_iff.mp H
       obtain ⟨t432,A180,H⟩:=H
       replace H : (some t432) = some r:=H
       have A18:=Aside0.mk A180
       clear A180
       obtain rfl:=Option.some.inj H
       obtain ⟨hcz19_0,hcz19_1,hcz19_2,hcz19_3,hcz19_4⟩:=Hd.c5_ BK427.out
       obtain ⟨hfz19_0,hfz19_1,hfz19_2,hfz19_3,hfz19_4⟩:=Hd.f5_ BK427.out
       have p431 : 0 ≤ (0 : Int):=(by omega)
       have q431 : 0 < (l0_4.length : Int):=of_decide_eq_true Hd.a_
       obtain ⟨ad431,e431,hx431_0,hx431_1⟩:=at_T63 HR0_4.out 0 p431 q431
       cases e431
       have qi431 : (0 < l0_4.length) = True:=eq_true (by omega)
       (try rw [show ((0 : Int)).toNat = 0 from rfl] at hx431_0)
       (try rw [show 0 * 2 = 0 from rfl] at hx431_0)
       (try rw [Addr.add_zero'] at hx431_0)
       (try rw [show ((0 : Int)).toNat = 0 from rfl] at hx431_1)
       (try rw [show 0 * 2 = 0 from rfl] at hx431_1)
       (try rw [Addr.add_zero'] at hx431_1)
       replace hx431_0:=(HB.out.cell (World.block_lt_of_cell? w _ hx431_0)).trans hx431_0
       replace hx431_1:=(HB.out.cell (World.block_lt_of_cell? w _ hx431_1)).trans hx431_1
       replace p431:=eq_true p431
       replace q431:=eq_true q431
       go_wp2_with (first | (go_at_call 88;(with_reducible refine (spec_IsPoint.calls ((rd_T63 l0_4 0).f0) ((rd_T63 l0_4 0).f1) t432 _ A18.out).mono ?_);rintro e w20 ⟨rfl,hb⟩;replace BK427:=Aside0.mk (Hd.kb_ BK427 hb);replace HB:=Aside0.mk (below_step Hd.b_ hb);(try clear hb);(try clear hb2);(try clear hk);(try clear hi)))
       go_ret
       exact ⟨Hd.e_,Hd.b_⟩
      ·
       rw [if_neg c17] at H
       exact absurd H (by simp)
     ·
      rw [if_neg c16] at H
      have c16b0 : ((l0_4.length : Int) == 1) = false:=beq_eq_false_iff_ne.mpr c16
      have c16b1 : ((l0_4.length : Int) != 1) = true:=bne_iff_ne.mpr c16
      obtain rfl:=Option.some.inj H
      obtain ⟨hcz21_0,hcz21_1,hcz21_2,hcz21_3,hcz21_4⟩:=Hd.c5_ BK427.out
      obtain ⟨hfz21_0,hfz21_1,hfz21_2,hfz21_3,hfz21_4⟩:=Hd.f5_ BK427.out
      go_wp2
      go_ret
      exact ⟨Hd.e_,Hd.b_⟩
    ·
     rw [if_neg c15] at H
     have c15b0 : (a0_1 == 1) = false:=beq_eq_false_iff_ne.mpr c15
     have c15b1 : (a0_1 != 1) = true:=bne_iff_ne.mpr c15
     by_cases c22 : a0_1 = 2
     ·
      rw [if_pos c22] at H
      have c22b0 : (a0_1 == 2) = true:=beq_iff_eq.mpr c22
      have c22b1 : (a0_1 != 2) = false:=bne_eq_false_iff_eq.mpr c22
      clear c22
      replace H:=Option.bind_eq_some_iff.mp H
      obtain ⟨t433,A230,H⟩:=H
      replace H : (some t433) = some r:=H
      have A23:=Aside0.mk A230
      clear A230
      obtain rfl:=Option.some.inj H
      obtain ⟨hcz24_0,hcz24_1,hcz24_2,hcz24_3,hcz24_4⟩:=Hd.c5_ BK427.out
      obtain ⟨hfz24_0,hfz24_1,hfz24_2,hfz24_3,hfz24_4⟩:=Hd.f5_ BK427.out
      go_wp2_with (first | ((with_reducible refine gate_callee (f:=98) rfl ?_);refine goesL_ (some 43) rfl rfl Try.func98 (by kernel_rfl) rfl #[.slice A0_4 l0_4.length c0_4] rfl Hd.m_ ?_;(with_reducible refine (spec_IsSimple.calls kj1 _ _ l0_4 t433 _ ?side1 ?side2 A23.out).mono ?_);(case side1 => repeat (first | exact (Kd.C_below HR0_4.out HB.out) | (with_reducible refine Kd.C_alloc ?_ _) | (with_reducible refine Kd.C_drewN ?_ _) | (with_reducible refine Kd.C_drew ?_)));(case side2 => exact HC0_4.out);rintro e w25 ⟨rfl,hb⟩;refine ⟨_,rfl,?_⟩;replace BK427:=Aside0.mk (Hd.kb_ BK427 hb);replace HB:=Aside0.mk (below_step Hd.b_ hb);(try clear hb);(try clear hb2);(try clear hk);(try clear hi)))
      go_ret
      exact ⟨Hd.e_,Hd.b_⟩
     ·
      rw [if_neg c22] at H
      have c22b0 : (a0_1 == 2) = false:=beq_eq_false_iff_ne.mpr c22
      have c22b1 : (a0_1 != 2) = true:=bne_iff_ne.mpr c22
      by_cases c26 : a0_1 = 3
      ·
       rw [if_pos c26] at H
       have c26b0 : (a0_1 == 3) = true:=beq_iff_eq.mpr c26
       have c26b1 : (a0_1 != 3) = false:=bne_eq_false_iff_eq.mpr c26
       clear c26
       replace H:=Option.bind_eq_some_iff.mp H
       obtain ⟨t434,A270,H⟩:=H
       replace H : (some t434) = some r:=H
       have A27:=Aside0.mk A270
       clear A270
       obtain rfl:=Option.some.inj H
       obtain ⟨hcz28_0,hcz28_1,hcz28_2,hcz28_3,hcz28_4⟩:=Hd.c5_ BK427.out
       obtain ⟨hfz28_0,hfz28_1,hfz28_2,hfz28_3,hfz28_4⟩:=Hd.f5_ BK427.out
       go_wp2_with (first | ((with_reducible refine gate_callee (f:=99) rfl ?_);refine goesL_ (some 48) rfl rfl Try.func99 (by kernel_rfl) rfl #[.slice A0_4 l0_4.length c0_4] rfl Hd.m_ ?_;(with_reducible refine (spec_IsRing.calls kj1 _ _ l0_4 t434 _ ?side1 ?side2 A27.out).mono ?_);(case side1 => repeat (first | exact (Kd.C_below HR0_4.out HB.out) | (with_reducible refine Kd.C_alloc ?_ _) | (with_reducible refine Kd.C_drewN ?_ _) | (with_reducible refine Kd.C_drew ?_)));(case side2 => exact HC0_4.out);rintro e w29 ⟨rfl,hb⟩;refine ⟨_,rfl,?_⟩;replace BK427:=Aside0.mk (Hd.kb_ BK427 hb);replace HB:=Aside0.mk (below_step Hd.b_ hb);(try clear hb);(try clear hb2);(try clear hk);(try clear hi)))
       go_ret
       exact ⟨Hd.e_,Hd.b_⟩
      ·
       rw [if_neg c26] at H
       have c26b0 : (a0_1 == 3) = false:=beq_eq_false_iff_ne.mpr c26
       have c26b1 : (a0_1 != 3) = true:=bne_iff_ne.mpr c26
       obtain rfl:=Option.some.inj H
       obtain ⟨hcz30_0,hcz30_1,hcz30_2,hcz30_3,hcz30_4⟩:=Hd.c5_ BK427.out
       obtain ⟨hfz30_0,hfz30_1,hfz30_2,hfz30_3,hfz30_4⟩:=Hd.f5_ BK427.out
       go_wp2
       go_ret
       exact ⟨Hd.e_,Hd.b_⟩
end Go.Proofs.Ytchmbcembbbplad.MFnExactMeetsOf
