-- Laid by this session's program pp.py, after the kit's print and texts of the session's own. Not trusted: Lean checks it.
import Derived.Test.YtchmbcembbbplacZCanDropMx0
import Derived.Test.YtchmbcembbbplacZCanDropMx2
import Derived.Test.YtchmbcembbbplacZCanDropMx7
import Derived.Test.YtchmbcembbbplacZCanDropMx9
import Derived.Test.YtchmbcembbbplacZCanDropMx10
namespace Go.Proofs.Ytchmbcembbbplac.MFnExactCanDrop
open Go.RowKit Go.Proofs.YtchmbcembbbplacW.PrintWords Go.Proofs.YtchmbcembbbplacW.PrintLast Go.Proofs.YtchmbcembbbplacW.PrintMore
attribute [local go_sem] max2_int min2_int max_two min_two max_three min_three max_four min_four   -- for this text's walks alone
set_option linter.unusedVariables false
set_option linter.unusedSimpArgs false
mutual
def spec_IsSimple.l0 : Nat → List (S49) → List (S111) → Int → Option (Bool)
 | 0, _, _, _ => none
 | k + 1, x0, x3, x4 => if x4 < (x3.length : Int) then (spec_IsSimple.l1 k x0 x3 x4 0) else ((spec_IsLine.f k x0).bind fun t376 => (some t376))
def spec_IsSimple.l1 : Nat → List (S49) → List (S111) → Int → Int → Option (Bool)
 | 0, _, _, _, _ => none
 | k + 1, x0, x3, x4, x5 => if x5 < x4 then (if (wrap64 (x5 + 1)) = x4 then (if 0 ≤ x4 then (if x4 < (x3.length : Int) then (if 0 ≤ x5 then (if x5 < (x3.length : Int) then ((spec_HowMeet.f k ((rd_T111 x3 x4).f0.f0) ((rd_T111 x3 x4).f0.f1) ((rd_T111 x3 x4).f1.f0) ((rd_T111 x3 x4).f1.f1) ((rd_T111 x3 x5).f0.f0) ((rd_T111 x3 x5).f0.f1) ((rd_T111 x3 x5).f1.f0) ((rd_T111 x3 x5).f1.f1)).bind fun t379 => (if t379 = 1 then (spec_IsSimple.l1 k x0 x3 x4 (wrap64 (x5 + 1))) else (some false))) else (none)) else (none)) else (none)) else (none)) else (if 0 ≤ x4 then (if x4 < (x3.length : Int) then (if 0 ≤ x5 then (if x5 < (x3.length : Int) then ((spec_HowMeet.f k ((rd_T111 x3 x4).f0.f0) ((rd_T111 x3 x4).f0.f1) ((rd_T111 x3 x4).f1.f0) ((rd_T111 x3 x4).f1.f1) ((rd_T111 x3 x5).f0.f0) ((rd_T111 x3 x5).f0.f1) ((rd_T111 x3 x5).f1.f0) ((rd_T111 x3 x5).f1.f1)).bind fun t382 => (if t382 = 0 then (spec_IsSimple.l1 k x0 x3 x4 (wrap64 (x5 + 1))) else (some false))) else (none)) else (none)) else (none)) else (none))) else (spec_IsSimple.l0 k x0 x3 (wrap64 (x4 + 1)))
end
def spec_IsSimple.f (k : Nat) (l0 : List (S49)) : Option (Bool) := (spec_SegmentsOf.f k l0).bind fun t373 => (spec_IsSimple.l0 k l0 t373 0)
set_option maxHeartbeats 8000000 in
set_option maxRecDepth 100000 in
theorem spec_IsSimple.calls (k : Nat) (A0 : Option Addr) (c0 : Nat) (l0 : List (S49)) (r : Bool) (w : World) (hr0 : Kd.C k49 w A0 l0.length l0) (hc0 : l0.length ≤ c0) (h : spec_IsSimple.f k l0 = some r) :
  Calls Try.prog 123 #[.slice A0 l0.length c0] w fun e w' => e = .returned (.bool r) ∧ Below w.heap.size w w' := by
 have hu111 := Try.underlying111
 have HR0 := Aside0.mk hr0
 have HC0 := Aside0.mk hc0
 clear hr0 hc0
 have HB := Aside0.mk (Below.refl w.heap.size w)
 have H : ((spec_SegmentsOf.f k l0).bind fun t373 => (spec_IsSimple.l0 k l0 t373 0)) = some r := h
 clear h
 replace H := Option.bind_eq_some_iff.mp H
 obtain ⟨t373, A20, H⟩ := H
 replace H : (spec_IsSimple.l0 k l0 t373 0) = some r := H
 have A2 := Aside0.mk A20
 clear A20
 have H' := Aside0.mk H
 clear H
 go_enter Try.func123, Try.ntmps123
 go_wp2_with (first | ((with_reducible refine gate_callee (f := 132) rfl ?_); refine goesL_ (some 8) rfl rfl Try.func132 (by kernel_rfl) rfl #[.slice A0 l0.length c0] rfl Hd.m_ ?_; (with_reducible refine (spec_SegmentsOf.calls k _ _ l0 t373 _ ?side1 ?side2 A2.out).mono ?_); (case side1 => repeat (first | exact HR0.out | (with_reducible refine Kd.C_alloc ?_ _) | (with_reducible refine Kd.C_drewN ?_ _) | (with_reducible refine Kd.C_drew ?_))); (case side2 => exact HC0.out); rintro e w3 ⟨v374, rfl, ho0, hb⟩; refine ⟨_, rfl, ?_⟩; have HO375 := Aside0.mk (Kd.R_lower ho0 (below_size Hd.b_)); replace HB := Aside0.mk (below_step Hd.b_ hb); (try clear hb); (try clear hb2); (try clear hk); (try clear hi); (try clear ho0)))
 go_loopg [4] k (fun kq v4 w' => ∃ (x4_1 : Int), v4 = .int .i64 x4_1 ∧ Aside0 (spec_IsSimple.l0 kq l0 t373 x4_1 = some r) ∧ Aside0 (kq ≤ k) ∧ Aside0 (Kd.R k111 111 w' w.heap.size (fun _ => True) v374 t373) ∧ Aside0 (Below w.heap.size w w'))
 case atStart => exact ⟨(0), (by first | rfl | (simp; done) | (simp [*]; done)), H', ⟨Nat.le_refl _⟩, ⟨by (with_reducible repeat (first | apply Kd.R_alloc | apply Kd.R_drewN | apply Kd.R_drew)); exact HO375.out⟩, ⟨Hd.b_⟩⟩
 case round =>
  clear H'
  try clear c1
  try clear p2
  obtain ⟨x4_1, rfl, HA, HK1, HO_3, HB⟩ := hrel
  cases gk with
  | zero => exact absurd HA.out (by simp [spec_IsSimple.l0])
  | succ k1 =>
   have H := HA.out
   clear HA
   simp only [spec_IsSimple.l0] at H
   by_cases c4 : x4_1 < (t373.length : Int)
   ·
    rw [if_pos c4] at H
    have c4b0 : decide (x4_1 < (t373.length : Int)) = true := decide_eq_true c4
    clear c4
    have H' := Aside0.mk H
    clear H
    obtain ⟨Ao5, co5, eo5⟩ := Kd.R_slice HO_3.out
    subst eo5
    go_wp2
    go_loopg [5] k1 (fun kq v5 w' => ∃ (x5_2 : Int), v5 = .int .i64 x5_2 ∧ Aside0 (spec_IsSimple.l1 kq l0 t373 x4_1 x5_2 = some r) ∧ Aside0 (kq ≤ k1) ∧ Aside0 (Kd.R k111 111 w' w.heap.size (fun _ => True) (.slice Ao5 t373.length co5) t373) ∧ Aside0 (Below w.heap.size w w'))
    case atStart => exact ⟨(0), (by first | rfl | (simp; done) | (simp [*]; done)), H', ⟨Nat.le_refl _⟩, ⟨by (with_reducible repeat (first | apply Kd.R_alloc | apply Kd.R_drewN | apply Kd.R_drew)); exact HO_3.out⟩, ⟨Hd.b_⟩⟩
    case round =>
     clear H'
     try clear c1
     try clear p2
     try clear c4
     try clear c4b0
     try clear p2
     obtain ⟨x5_2, rfl, HA, HK2, HO_3, HB⟩ := hrel
     cases gk with
     | zero => exact absurd HA.out (by simp [spec_IsSimple.l1])
     | succ k2 =>
      have H := HA.out
      clear HA
      simp only [spec_IsSimple.l1] at H
      by_cases c6 : x5_2 < x4_1
      ·
       rw [if_pos c6] at H
       have c6b0 : decide (x5_2 < x4_1) = true := decide_eq_true c6
       clear c6
       by_cases c7 : (wrap64 (x5_2 + 1)) = x4_1
       ·
        rw [if_pos c7] at H
        have c7b0 : ((wrap64 (x5_2 + 1)) == x4_1) = true := beq_iff_eq.mpr c7
        have c7b1 : ((wrap64 (x5_2 + 1)) != x4_1) = false := bne_eq_false_iff_eq.mpr c7
        clear c7
        by_cases c8 : 0 ≤ x4_1
        ·
         rw [if_pos c8] at H
         have c8b0 : decide (0 ≤ x4_1) = true := decide_eq_true c8
         clear c8
         by_cases c9 : x4_1 < (t373.length : Int)
         ·
          rw [if_pos c9] at H
          have c9b0 : decide (x4_1 < (t373.length : Int)) = true := decide_eq_true c9
          clear c9
          by_cases c10 : 0 ≤ x5_2
          ·
           rw [if_pos c10] at H
           have c10b0 : decide (0 ≤ x5_2) = true := decide_eq_true c10
           clear c10
           by_cases c11 : x5_2 < (t373.length : Int)
           ·
            rw [if_pos c11] at H
            have c11b0 : decide (x5_2 < (t373.length : Int)) = true := decide_eq_true c11
            clear c11
            replace H := Option.bind_eq_some_iff.mp H
            obtain ⟨t379, A120, H⟩ := H
            replace H : (if t379 = 1 then (spec_IsSimple.l1 k2 l0 t373 x4_1 (wrap64 (x5_2 + 1))) else (some false)) = some r := H
            have A12 := Aside0.mk A120
            clear A120
            by_cases c13 : t379 = 1
            ·
             rw [if_pos c13] at H
             have c13b0 : (t379 == 1) = true := beq_iff_eq.mpr c13
             have c13b1 : (t379 != 1) = false := bne_eq_false_iff_eq.mpr c13
             clear c13
             have H' := Aside0.mk H
             clear H
             try go_wp2
             replace HO_3 := Aside0.mk (Kd.R_drew HO_3.out)
             replace HB := Aside0.mk (below_drew1 HB.out)
             have p377 : 0 ≤ (x4_1 : Int) := of_decide_eq_true Hd.a_
             have q377 : x4_1 < (t373.length : Int) := of_decide_eq_true Hd.a_
             obtain ⟨ad377, e377, hx377_0, hx377_1, hx377_2, hx377_3⟩ := at_T111 (Kd.R_reads' HO_3.out).2.2 x4_1 p377 q377
             cases e377
             replace p377 := eq_true p377
             replace q377 := eq_true q377
             have p378 : 0 ≤ (x5_2 : Int) := of_decide_eq_true Hd.a_
             have q378 : x5_2 < (t373.length : Int) := of_decide_eq_true Hd.a_
             obtain ⟨ad378, e378, hx378_0, hx378_1, hx378_2, hx378_3⟩ := at_T111 (Kd.R_reads' HO_3.out).2.2 x5_2 p378 q378
             obtain rfl : ad377 = ad378 := (by injection e378)
             replace p378 := eq_true p378
             replace q378 := eq_true q378
             have s0_ := Hd.HW.x (W0 := wr.drew) hx377_0
             have s1_ := Hd.HW.x (W0 := wr.drew) hx377_1
             have s2_ := Hd.HW.x (W0 := wr.drew) hx377_2
             have s3_ := Hd.HW.x (W0 := wr.drew) hx377_3
             have s4_ := Hd.HW.x (W0 := wr.drew) hx378_0
             have s5_ := Hd.HW.x (W0 := wr.drew) hx378_1
             have s6_ := Hd.HW.x (W0 := wr.drew) hx378_2
             have s7_ := Hd.HW.x (W0 := wr.drew) hx378_3
             refine Hd.HW.region (by kernel_rfl) (by kernel_rfl) ?_
             repeat (go_big_quiet_step ((first | (go_at_call 129; with_reducible exact Hd.HW.c (spec_HowMeet.calls k2 ((rd_T111 t373 x4_1).f0.f0) ((rd_T111 t373 x4_1).f0.f1) ((rd_T111 t373 x4_1).f1.f0) ((rd_T111 t373 x4_1).f1.f1) ((rd_T111 t373 x5_2).f0.f0) ((rd_T111 t373 x5_2).f0.f1) ((rd_T111 t373 x5_2).f1.f0) ((rd_T111 t373 x5_2).f1.f1) t379 _ A12.out)))))
             refine wpQuiet_nil ?_
             intro _ hq_
             obtain ⟨q_, rfl⟩ := hq_
             clear s0_ s1_ s2_ s3_ s4_ s5_ s6_ s7_
             replace HO_3 := Aside0.mk (Kd.R_below HO_3.out q_.b)
             replace HB := Aside0.mk (below_step HB.out q_.b)
             replace hx377_0 := q_.cell hx377_0
             replace hx377_1 := q_.cell hx377_1
             replace hx377_2 := q_.cell hx377_2
             replace hx377_3 := q_.cell hx377_3
             replace hx378_0 := q_.cell hx378_0
             replace hx378_1 := q_.cell hx378_1
             replace hx378_2 := q_.cell hx378_2
             replace hx378_3 := q_.cell hx378_3
             generalize q_.W = w15 at HO_3 HB hx377_0 hx377_1 hx377_2 hx377_3 hx378_0 hx378_1 hx378_2 hx378_3 ⊢
             try simp only [i64_w, i32_w]
             try go_wp2
             go_roundg k2
             case measure => have := HK1.out; have := HK2.out; omega
             case rel => exact ⟨(wrap64 (x5_2 + 1)), (by first | rfl | (simp; done) | (simp [*]; done)), H', ⟨by have := HK1.out; have := HK2.out; omega⟩, ⟨by (with_reducible repeat (first | apply Kd.R_alloc | apply Kd.R_drewN | apply Kd.R_drew)); exact HO_3.out⟩, ⟨Hd.b_⟩⟩
            ·
             rw [if_neg c13] at H
             have c13b0 : (t379 == 1) = false := beq_eq_false_iff_ne.mpr c13
             have c13b1 : (t379 != 1) = true := bne_iff_ne.mpr c13
             obtain rfl := Option.some.inj H
             try go_wp2
             replace HO_3 := Aside0.mk (Kd.R_drew HO_3.out)
             replace HB := Aside0.mk (below_drew1 HB.out)
             have p377 : 0 ≤ (x4_1 : Int) := of_decide_eq_true Hd.a_
             have q377 : x4_1 < (t373.length : Int) := of_decide_eq_true Hd.a_
             obtain ⟨ad377, e377, hx377_0, hx377_1, hx377_2, hx377_3⟩ := at_T111 (Kd.R_reads' HO_3.out).2.2 x4_1 p377 q377
             cases e377
             replace p377 := eq_true p377
             replace q377 := eq_true q377
             have p378 : 0 ≤ (x5_2 : Int) := of_decide_eq_true Hd.a_
             have q378 : x5_2 < (t373.length : Int) := of_decide_eq_true Hd.a_
             obtain ⟨ad378, e378, hx378_0, hx378_1, hx378_2, hx378_3⟩ := at_T111 (Kd.R_reads' HO_3.out).2.2 x5_2 p378 q378
             obtain rfl : ad377 = ad378 := (by injection e378)
             replace p378 := eq_true p378
             replace q378 := eq_true q378
             have s0_ := Hd.HW.x (W0 := wr.drew) hx377_0
             have s1_ := Hd.HW.x (W0 := wr.drew) hx377_1
             have s2_ := Hd.HW.x (W0 := wr.drew) hx377_2
             have s3_ := Hd.HW.x (W0 := wr.drew) hx377_3
             have s4_ := Hd.HW.x (W0 := wr.drew) hx378_0
             have s5_ := Hd.HW.x (W0 := wr.drew) hx378_1
             have s6_ := Hd.HW.x (W0 := wr.drew) hx378_2
             have s7_ := Hd.HW.x (W0 := wr.drew) hx378_3
             refine Hd.HW.region (by kernel_rfl) (by kernel_rfl) ?_
             repeat (go_big_quiet_step ((first | (go_at_call 129; with_reducible exact Hd.HW.c (spec_HowMeet.calls k2 ((rd_T111 t373 x4_1).f0.f0) ((rd_T111 t373 x4_1).f0.f1) ((rd_T111 t373 x4_1).f1.f0) ((rd_T111 t373 x4_1).f1.f1) ((rd_T111 t373 x5_2).f0.f0) ((rd_T111 t373 x5_2).f0.f1) ((rd_T111 t373 x5_2).f1.f0) ((rd_T111 t373 x5_2).f1.f1) t379 _ A12.out)))))
             refine wpQuiet_nil ?_
             intro _ hq_
             obtain ⟨q_, rfl⟩ := hq_
             clear s0_ s1_ s2_ s3_ s4_ s5_ s6_ s7_
             replace HO_3 := Aside0.mk (Kd.R_below HO_3.out q_.b)
             replace HB := Aside0.mk (below_step HB.out q_.b)
             replace hx377_0 := q_.cell hx377_0
             replace hx377_1 := q_.cell hx377_1
             replace hx377_2 := q_.cell hx377_2
             replace hx377_3 := q_.cell hx377_3
             replace hx378_0 := q_.cell hx378_0
             replace hx378_1 := q_.cell hx378_1
             replace hx378_2 := q_.cell hx378_2
             replace hx378_3 := q_.cell hx378_3
             generalize q_.W = w17 at HO_3 HB hx377_0 hx377_1 hx377_2 hx377_3 hx378_0 hx378_1 hx378_2 hx378_3 ⊢
             try simp only [i64_w, i32_w]
             try go_wp2
             go_ret
             exact ⟨Hd.e_, Hd.b_⟩
           ·
            rw [if_neg c11] at H
            exact absurd H (by simp)
          ·
           rw [if_neg c10] at H
           exact absurd H (by simp)
         ·
          rw [if_neg c9] at H
          exact absurd H (by simp)
        ·
         rw [if_neg c8] at H
         exact absurd H (by simp)
       ·
        rw [if_neg c7] at H
        have c7b0 : ((wrap64 (x5_2 + 1)) == x4_1) = false := beq_eq_false_iff_ne.mpr c7
        have c7b1 : ((wrap64 (x5_2 + 1)) != x4_1) = true := bne_iff_ne.mpr c7
        by_cases c18 : 0 ≤ x4_1
        ·
         rw [if_pos c18] at H
         have c18b0 : decide (0 ≤ x4_1) = true := decide_eq_true c18
         clear c18
         by_cases c19 : x4_1 < (t373.length : Int)
         ·
          rw [if_pos c19] at H
          have c19b0 : decide (x4_1 < (t373.length : Int)) = true := decide_eq_true c19
          clear c19
          by_cases c20 : 0 ≤ x5_2
          ·
           rw [if_pos c20] at H
           have c20b0 : decide (0 ≤ x5_2) = true := decide_eq_true c20
           clear c20
           by_cases c21 : x5_2 < (t373.length : Int)
           ·
            rw [if_pos c21] at H
            have c21b0 : decide (x5_2 < (t373.length : Int)) = true := decide_eq_true c21
            clear c21
            replace H := Option.bind_eq_some_iff.mp H
            obtain ⟨t382, A220, H⟩ := H
            replace H : (if t382 = 0 then (spec_IsSimple.l1 k2 l0 t373 x4_1 (wrap64 (x5_2 + 1))) else (some false)) = some r := H
            have A22 := Aside0.mk A220
            clear A220
            by_cases c23 : t382 = 0
            ·
             rw [if_pos c23] at H
             have c23b0 : (t382 == 0) = true := beq_iff_eq.mpr c23
             have c23b1 : (t382 != 0) = false := bne_eq_false_iff_eq.mpr c23
             clear c23
             have H' := Aside0.mk H
             clear H
             try go_wp2
             replace HO_3 := Aside0.mk (Kd.R_drew HO_3.out)
             replace HB := Aside0.mk (below_drew1 HB.out)
             have p380 : 0 ≤ (x4_1 : Int) := of_decide_eq_true Hd.a_
             have q380 : x4_1 < (t373.length : Int) := of_decide_eq_true Hd.a_
             obtain ⟨ad380, e380, hx380_0, hx380_1, hx380_2, hx380_3⟩ := at_T111 (Kd.R_reads' HO_3.out).2.2 x4_1 p380 q380
             cases e380
             replace p380 := eq_true p380
             replace q380 := eq_true q380
             have p381 : 0 ≤ (x5_2 : Int) := of_decide_eq_true Hd.a_
             have q381 : x5_2 < (t373.length : Int) := of_decide_eq_true Hd.a_
             obtain ⟨ad381, e381, hx381_0, hx381_1, hx381_2, hx381_3⟩ := at_T111 (Kd.R_reads' HO_3.out).2.2 x5_2 p381 q381
             obtain rfl : ad380 = ad381 := (by injection e381)
             replace p381 := eq_true p381
             replace q381 := eq_true q381
             have s0_ := Hd.HW.x (W0 := wr.drew) hx380_0
             have s1_ := Hd.HW.x (W0 := wr.drew) hx380_1
             have s2_ := Hd.HW.x (W0 := wr.drew) hx380_2
             have s3_ := Hd.HW.x (W0 := wr.drew) hx380_3
             have s4_ := Hd.HW.x (W0 := wr.drew) hx381_0
             have s5_ := Hd.HW.x (W0 := wr.drew) hx381_1
             have s6_ := Hd.HW.x (W0 := wr.drew) hx381_2
             have s7_ := Hd.HW.x (W0 := wr.drew) hx381_3
             refine Hd.HW.region (by kernel_rfl) (by kernel_rfl) ?_
             repeat (go_big_quiet_step ((first | (go_at_call 129; with_reducible exact Hd.HW.c (spec_HowMeet.calls k2 ((rd_T111 t373 x4_1).f0.f0) ((rd_T111 t373 x4_1).f0.f1) ((rd_T111 t373 x4_1).f1.f0) ((rd_T111 t373 x4_1).f1.f1) ((rd_T111 t373 x5_2).f0.f0) ((rd_T111 t373 x5_2).f0.f1) ((rd_T111 t373 x5_2).f1.f0) ((rd_T111 t373 x5_2).f1.f1) t382 _ A22.out)))))
             refine wpQuiet_nil ?_
             intro _ hq_
             obtain ⟨q_, rfl⟩ := hq_
             clear s0_ s1_ s2_ s3_ s4_ s5_ s6_ s7_
             replace HO_3 := Aside0.mk (Kd.R_below HO_3.out q_.b)
             replace HB := Aside0.mk (below_step HB.out q_.b)
             replace hx380_0 := q_.cell hx380_0
             replace hx380_1 := q_.cell hx380_1
             replace hx380_2 := q_.cell hx380_2
             replace hx380_3 := q_.cell hx380_3
             replace hx381_0 := q_.cell hx381_0
             replace hx381_1 := q_.cell hx381_1
             replace hx381_2 := q_.cell hx381_2
             replace hx381_3 := q_.cell hx381_3
             generalize q_.W = w25 at HO_3 HB hx380_0 hx380_1 hx380_2 hx380_3 hx381_0 hx381_1 hx381_2 hx381_3 ⊢
             try simp only [i64_w, i32_w]
             try go_wp2
             go_roundg k2
             case measure => have := HK1.out; have := HK2.out; omega
             case rel => exact ⟨(wrap64 (x5_2 + 1)), (by first | rfl | (simp; done) | (simp [*]; done)), H', ⟨by have := HK1.out; have := HK2.out; omega⟩, ⟨by (with_reducible repeat (first | apply Kd.R_alloc | apply Kd.R_drewN | apply Kd.R_drew)); exact HO_3.out⟩, ⟨Hd.b_⟩⟩
            ·
             rw [if_neg c23] at H
             have c23b0 : (t382 == 0) = false := beq_eq_false_iff_ne.mpr c23
             have c23b1 : (t382 != 0) = true := bne_iff_ne.mpr c23
             obtain rfl := Option.some.inj H
             try go_wp2
             replace HO_3 := Aside0.mk (Kd.R_drew HO_3.out)
             replace HB := Aside0.mk (below_drew1 HB.out)
             have p380 : 0 ≤ (x4_1 : Int) := of_decide_eq_true Hd.a_
             have q380 : x4_1 < (t373.length : Int) := of_decide_eq_true Hd.a_
             obtain ⟨ad380, e380, hx380_0, hx380_1, hx380_2, hx380_3⟩ := at_T111 (Kd.R_reads' HO_3.out).2.2 x4_1 p380 q380
             cases e380
             replace p380 := eq_true p380
             replace q380 := eq_true q380
             have p381 : 0 ≤ (x5_2 : Int) := of_decide_eq_true Hd.a_
             have q381 : x5_2 < (t373.length : Int) := of_decide_eq_true Hd.a_
             obtain ⟨ad381, e381, hx381_0, hx381_1, hx381_2, hx381_3⟩ := at_T111 (Kd.R_reads' HO_3.out).2.2 x5_2 p381 q381
             obtain rfl : ad380 = ad381 := (by injection e381)
             replace p381 := eq_true p381
             replace q381 := eq_true q381
             have s0_ := Hd.HW.x (W0 := wr.drew) hx380_0
             have s1_ := Hd.HW.x (W0 := wr.drew) hx380_1
             have s2_ := Hd.HW.x (W0 := wr.drew) hx380_2
             have s3_ := Hd.HW.x (W0 := wr.drew) hx380_3
             have s4_ := Hd.HW.x (W0 := wr.drew) hx381_0
             have s5_ := Hd.HW.x (W0 := wr.drew) hx381_1
             have s6_ := Hd.HW.x (W0 := wr.drew) hx381_2
             have s7_ := Hd.HW.x (W0 := wr.drew) hx381_3
             refine Hd.HW.region (by kernel_rfl) (by kernel_rfl) ?_
             repeat (go_big_quiet_step ((first | (go_at_call 129; with_reducible exact Hd.HW.c (spec_HowMeet.calls k2 ((rd_T111 t373 x4_1).f0.f0) ((rd_T111 t373 x4_1).f0.f1) ((rd_T111 t373 x4_1).f1.f0) ((rd_T111 t373 x4_1).f1.f1) ((rd_T111 t373 x5_2).f0.f0) ((rd_T111 t373 x5_2).f0.f1) ((rd_T111 t373 x5_2).f1.f0) ((rd_T111 t373 x5_2).f1.f1) t382 _ A22.out)))))
             refine wpQuiet_nil ?_
             intro _ hq_
             obtain ⟨q_, rfl⟩ := hq_
             clear s0_ s1_ s2_ s3_ s4_ s5_ s6_ s7_
             replace HO_3 := Aside0.mk (Kd.R_below HO_3.out q_.b)
             replace HB := Aside0.mk (below_step HB.out q_.b)
             replace hx380_0 := q_.cell hx380_0
             replace hx380_1 := q_.cell hx380_1
             replace hx380_2 := q_.cell hx380_2
             replace hx380_3 := q_.cell hx380_3
             replace hx381_0 := q_.cell hx381_0
             replace hx381_1 := q_.cell hx381_1
             replace hx381_2 := q_.cell hx381_2
             replace hx381_3 := q_.cell hx381_3
             generalize q_.W = w27 at HO_3 HB hx380_0 hx380_1 hx380_2 hx380_3 hx381_0 hx381_1 hx381_2 hx381_3 ⊢
             try simp only [i64_w, i32_w]
             try go_wp2
             go_ret
             exact ⟨Hd.e_, Hd.b_⟩
           ·
            rw [if_neg c21] at H
            exact absurd H (by simp)
          ·
           rw [if_neg c20] at H
           exact absurd H (by simp)
         ·
          rw [if_neg c19] at H
          exact absurd H (by simp)
        ·
         rw [if_neg c18] at H
         exact absurd H (by simp)
      ·
       rw [if_neg c6] at H
       have c6b0 : decide (x5_2 < x4_1) = false := decide_eq_false c6
       clear c6
       have H' := Aside0.mk H
       clear H
       go_wp2
       go_roundg k2
       case measure => have := HK1.out; have := HK2.out; omega
       case rel => exact ⟨(wrap64 (x4_1 + 1)), (by first | rfl | (simp; done) | (simp [*]; done)), H', ⟨by have := HK1.out; have := HK2.out; omega⟩, ⟨by (with_reducible repeat (first | apply Kd.R_alloc | apply Kd.R_drewN | apply Kd.R_drew)); exact HO_3.out⟩, ⟨Hd.b_⟩⟩
   ·
    rw [if_neg c4] at H
    have c4b0 : decide (x4_1 < (t373.length : Int)) = false := decide_eq_false c4
    clear c4
    replace H := Option.bind_eq_some_iff.mp H
    obtain ⟨t376, A280, H⟩ := H
    replace H : (some t376) = some r := H
    have A28 := Aside0.mk A280
    clear A280
    obtain rfl := Option.some.inj H
    obtain ⟨Ao29, co29, eo29⟩ := Kd.R_slice HO_3.out
    subst eo29
    go_wp2_with (first | ((with_reducible refine gate_callee (f := 154) rfl ?_); refine goesL_ (some 36) rfl rfl Try.func154 (by kernel_rfl) rfl #[.slice A0 l0.length c0] rfl Hd.m_ ?_; (with_reducible refine (spec_IsLine.calls k1 _ _ l0 t376 _ ?side1 ?side2 A28.out).mono ?_); (case side1 => repeat (first | exact (Kd.C_below HR0.out HB.out) | (with_reducible refine Kd.C_alloc ?_ _) | (with_reducible refine Kd.C_drewN ?_ _) | (with_reducible refine Kd.C_drew ?_))); (case side2 => exact HC0.out); rintro e w30 ⟨rfl, hb⟩; refine ⟨_, rfl, ?_⟩; replace HO_3 := Aside0.mk (Kd.R_below (Hd.r_ HO_3) hb); replace HB := Aside0.mk (below_step Hd.b_ hb); (try clear hb); (try clear hb2); (try clear hk); (try clear hi)))
    go_ret
    exact ⟨Hd.e_, Hd.b_⟩
mutual
def spec_CanDrop.j0 : Nat → List (S49) → List (List (S49)) → List (S49) → Bool → Option (Bool)
 | 0, _, _, _, _ => none
 | k + 1, x0, x2, x7, x22 => if x22 = true then (some false) else (spec_CanDrop.l0 k x0 x2 x7 0)
def spec_CanDrop.l0 : Nat → List (S49) → List (List (S49)) → List (S49) → Int → Option (Bool)
 | 0, _, _, _, _ => none
 | k + 1, x0, x2, x7, x9 => if x9 < (x2.length : Int) then (if 0 ≤ x9 then ((spec_LinesMeet.f k x7 (rd_L4 x2 x9)).bind fun t389 => ((spec_LinesMeet.f k x0 (rd_L4 x2 x9)).bind fun t391 => (if t389 > t391 then (some false) else (spec_CanDrop.l0 k x0 x2 x7 (wrap64 (x9 + 1)))))) else (none)) else (some true)
end
def spec_CanDrop.f (k : Nat) (l0 : List (S49)) (a1 : Int) (l2 : List (List (S49))) : Option (Bool) := (spec_DropPoint.f k l0 a1).bind fun bt383 => (if bt383.2 = true then ((spec_IsSimple.f k bt383.1).bind fun t387 => (spec_CanDrop.j0 k l0 l2 bt383.1 (!t387))) else (spec_CanDrop.j0 k l0 l2 bt383.1 true))
def spec_CanDrop.T7 : Bool × List (List Nat × List Nat) := (true, [([], []), ([], []), ([], []), ([1, 2], [1, 2]), ([3], [3]), ([0, 4], [0, 4]), ([], []), ([], []), ([], []), ([7, 8], [7, 8]), ([9], [9]), ([6, 10, 5], [6, 10]), ([5, 11], [5, 11])])
def spec_CanDrop.B7 : List Nat := [0, 0, 0, 6, 14, 31, 0, 0, 0, 384, 896, 2047, 4095]
theorem spec_CanDrop.tab7 : rtab .any (opsOf Try.f57 7) = spec_CanDrop.T7 := by kernel_rfl
theorem spec_CanDrop.bits7 : waitsOk spec_CanDrop.T7.2 spec_CanDrop.B7 = true := by kernel_rfl
set_option maxHeartbeats 8000000 in
set_option maxRecDepth 100000 in
theorem spec_CanDrop.calls (k : Nat) (A0 : Option Addr) (c0 : Nat) (l0 : List (S49)) (a1 : Int) (A2 : Option Addr) (c2 : Nat) (l2 : List (List (S49))) (r : Bool) (w : World) (hr0 : Kd.C k49 w A0 l0.length l0) (hc0 : l0.length ≤ c0) (hr2 : Kd.C (Kd.slice 49 k49) w A2 l2.length l2) (hc2 : l2.length ≤ c2) (h : spec_CanDrop.f k l0 a1 l2 = some r) :
  Calls Try.prog 57 #[.slice A0 l0.length c0, .int .i64 a1, .slice A2 l2.length c2] w fun e w' => e = .returned (.bool r) ∧ Below w.heap.size w w' := by
 have HR0 := Aside0.mk hr0
 have HC0 := Aside0.mk hc0
 clear hr0 hc0
 have HR2 := Aside0.mk hr2
 have HC2 := Aside0.mk hc2
 clear hr2 hc2
 have HB := Aside0.mk (Below.refl w.heap.size w)
 have H : ((spec_DropPoint.f k l0 a1).bind fun bt383 => (if bt383.2 = true then ((spec_IsSimple.f k bt383.1).bind fun t387 => (spec_CanDrop.j0 k l0 l2 bt383.1 (!t387))) else (spec_CanDrop.j0 k l0 l2 bt383.1 true))) = some r := h
 clear h
 replace H := Option.bind_eq_some_iff.mp H
 obtain ⟨⟨t383, t384⟩, A40, H⟩ := H
 replace H : (if t384 = true then ((spec_IsSimple.f k t383).bind fun t387 => (spec_CanDrop.j0 k l0 l2 t383 (!t387))) else (spec_CanDrop.j0 k l0 l2 t383 true)) = some r := H
 have A4 := Aside0.mk A40
 clear A40
 have HC5 := Aside0.mk H
 clear H
 go_enter Try.func57, Try.ntmps57
 go_upto_region 2 with (first | ((with_reducible refine gate_callee (f := 122) rfl ?_); refine goesL_ (some 13) rfl rfl Try.func122 (by kernel_rfl) rfl #[.slice A0 l0.length c0, .int .i64 a1] rfl Hd.m_ ?_; (with_reducible refine (spec_DropPoint.calls k _ _ l0 a1 t383 t384 _ ?side1 ?side2 A4.out).mono ?_); (case side1 => repeat (first | exact HR0.out | (with_reducible refine Kd.C_alloc ?_ _) | (with_reducible refine Kd.C_drewN ?_ _) | (with_reducible refine Kd.C_drew ?_))); (case side2 => exact HC0.out); rintro e w6 ⟨v385, rfl, ho0, hb⟩; refine ⟨_, rfl, ?_⟩; have HO386 := Aside0.mk (Kd.R_lower ho0 (below_size Hd.b_)); replace HB := Aside0.mk (below_step Hd.b_ hb); (try clear hb); (try clear hb2); (try clear hk); (try clear hi); (try clear ho0)))
 (try simp only [Act.put, List.setIfInBounds_toArray, List.set_cons_zero, List.set_cons_succ])
 go_cut [22] (fun v22 wc => ∃ (kq : Nat) (x22_4 : Bool), v22 = .bool x22_4 ∧ Aside0 (spec_CanDrop.j0 kq l0 l2 t383 x22_4 = some r) ∧ Aside0 (kq ≤ k) ∧ Aside0 (Kd.R k49 49 wc w.heap.size (fun _ => True) v385 t383) ∧ Aside0 (Below w.heap.size w wc))
 case first =>
  have H := HC5.out
  clear HC5
  by_cases c7 : t384 = true
  ·
   subst c7
   have H1 : ((spec_IsSimple.f k t383).bind fun t387 => (spec_CanDrop.j0 k l0 l2 t383 (!t387))) = some r := by rw [if_pos rfl] at H; exact H
   clear H
   have H := H1
   clear H1
   replace H := Option.bind_eq_some_iff.mp H
   obtain ⟨t387, A80, H⟩ := H
   replace H : (spec_CanDrop.j0 k l0 l2 t383 (!t387)) = some r := H
   have A8 := Aside0.mk A80
   clear A80
   have H' := Aside0.mk H
   clear H
   obtain ⟨Ao9, co9, eo9⟩ := Kd.R_slice HO386.out
   subst eo9
   go_wp2_with (first | (go_at_call 123; (with_reducible refine (spec_IsSimple.calls k _ _ t383 t387 _ ?side1 ?side2 A8.out).mono ?_); (case side1 => repeat (first | exact (Kd.R_reads' HO386.out).2.2 | (with_reducible refine Kd.C_alloc ?_ _) | (with_reducible refine Kd.C_drewN ?_ _) | (with_reducible refine Kd.C_drew ?_))); (case side2 => exact (Kd.R_reads' HO386.out).2.1); rintro e w10 ⟨rfl, hb⟩; replace HO386 := Aside0.mk (Kd.R_below (Hd.r_ HO386) hb); replace HB := Aside0.mk (below_step Hd.b_ hb); (try clear hb); (try clear hb2); (try clear hk); (try clear hi)))
   go_meet
   case rel => exact ⟨_, (!t387), (by first | rfl | (simp; done) | (simp [*]; done)), H', ⟨by first | omega | exact Nat.le_refl _⟩, ⟨by (with_reducible repeat (first | apply Kd.R_alloc | apply Kd.R_drewN | apply Kd.R_drew)); exact HO386.out⟩, ⟨Hd.b_⟩⟩
  ·
   replace c7 := Bool.eq_false_iff.mpr c7
   subst c7
   have H1 : (spec_CanDrop.j0 k l0 l2 t383 true) = some r := by rw [if_neg (show ¬ (false = true) by decide)] at H; exact H
   clear H
   have H := H1
   clear H1
   have H' := Aside0.mk H
   clear H
   go_wp2
   go_meet
   case rel => exact ⟨_, (true), (by first | rfl | (simp; done) | (simp [*]; done)), H', ⟨by first | omega | exact Nat.le_refl _⟩, ⟨by (with_reducible repeat (first | apply Kd.R_alloc | apply Kd.R_drewN | apply Kd.R_drew)); exact HO386.out⟩, ⟨Hd.b_⟩⟩
 case rest =>
  clear HC5
  try clear c1
  try clear c2
  try clear p2
  try clear c5
  try clear c7
  obtain ⟨kq, x22_4, rfl, HA, HJ4, HO_7, HB⟩ := hcut
  cases kq with
  | zero => exact absurd HA.out (by simp [spec_CanDrop.j0])
  | succ kj4 =>
   have H := HA.out
   clear HA
   simp only [spec_CanDrop.j0] at H
   by_cases c11 : x22_4 = true
   ·
    subst c11
    have H1 : (some false) = some r := by rw [if_pos rfl] at H; exact H
    clear H
    have H := H1
    clear H1
    obtain rfl := Option.some.inj H
    go_wp2
    go_ret
    exact ⟨Hd.e_, Hd.b_⟩
   ·
    replace c11 := Bool.eq_false_iff.mpr c11
    subst c11
    have H1 : (spec_CanDrop.l0 kj4 l0 l2 t383 0) = some r := by rw [if_neg (show ¬ (false = true) by decide)] at H; exact H
    clear H
    have H := H1
    clear H1
    have H' := Aside0.mk H
    clear H
    go_wp2
    go_loopg [9] kj4 (fun kq v9 w' => ∃ (x9_2 : Int), v9 = .int .i64 x9_2 ∧ Aside0 (spec_CanDrop.l0 kq l0 l2 t383 x9_2 = some r) ∧ Aside0 (kq ≤ kj4) ∧ Aside0 (Kd.R k49 49 w' w.heap.size (fun _ => True) v385 t383) ∧ Aside0 (Below w.heap.size w w'))
    case atStart => exact ⟨(0), (by first | rfl | (simp; done) | (simp [*]; done)), H', ⟨Nat.le_refl _⟩, ⟨by (with_reducible repeat (first | apply Kd.R_alloc | apply Kd.R_drewN | apply Kd.R_drew)); exact HO_7.out⟩, ⟨Hd.b_⟩⟩
    case round =>
     clear H'
     try clear c1
     try clear c2
     try clear p2
     try clear c5
     try clear c7
     try clear c11
     try clear p2
     obtain ⟨x9_2, rfl, HA, HK2, HO_7, HB⟩ := hrel
     cases gk with
     | zero => exact absurd HA.out (by simp [spec_CanDrop.l0])
     | succ k2 =>
      have H := HA.out
      clear HA
      simp only [spec_CanDrop.l0] at H
      by_cases c12 : x9_2 < (l2.length : Int)
      ·
       rw [if_pos c12] at H
       have c12b0 : decide (x9_2 < (l2.length : Int)) = true := decide_eq_true c12
       clear c12
       by_cases c13 : 0 ≤ x9_2
       ·
        rw [if_pos c13] at H
        have c13b0 : decide (0 ≤ x9_2) = true := decide_eq_true c13
        clear c13
        replace H := Option.bind_eq_some_iff.mp H
        obtain ⟨t389, A140, H⟩ := H
        replace H : ((spec_LinesMeet.f k2 l0 (rd_L4 l2 x9_2)).bind fun t391 => (if t389 > t391 then (some false) else (spec_CanDrop.l0 k2 l0 l2 t383 (wrap64 (x9_2 + 1))))) = some r := H
        have A14 := Aside0.mk A140
        clear A140
        replace H := Option.bind_eq_some_iff.mp H
        obtain ⟨t391, A150, H⟩ := H
        replace H : (if t389 > t391 then (some false) else (spec_CanDrop.l0 k2 l0 l2 t383 (wrap64 (x9_2 + 1)))) = some r := H
        have A15 := Aside0.mk A150
        clear A150
        by_cases c16 : t389 > t391
        ·
         rw [if_pos c16] at H
         have c16b0 : decide (t391 < t389) = true := decide_eq_true c16
         clear c16
         obtain rfl := Option.some.inj H
         try go_wp2
         replace HO_7 := Aside0.mk (Kd.R_drew HO_7.out)
         replace HB := Aside0.mk (below_drew1 HB.out)
         have p388 : 0 ≤ (x9_2 : Int) := of_decide_eq_true Hd.a_
         have q388 : x9_2 < (l2.length : Int) := of_decide_eq_true Hd.a_
         obtain ⟨ad388, A388_0, c388_0, e388, hx388_0, hl388_0, hi388_0⟩ := at_L4 HR2.out x9_2 p388 q388
         have hw388_0 := hx388_0
         cases e388
         replace hx388_0 := (HB.out.cell (World.block_lt_of_cell? w _ hx388_0)).trans hx388_0
         have HR388_0 := Aside0.mk hi388_0
         have HC388_0 := Aside0.mk hl388_0
         clear hi388_0 hl388_0
         replace p388 := eq_true p388
         replace q388 := eq_true q388
         have p390 : 0 ≤ (x9_2 : Int) := of_decide_eq_true Hd.a_
         have q390 : x9_2 < (l2.length : Int) := of_decide_eq_true Hd.a_
         obtain ⟨ad390, A390_0, c390_0, e390, hx390_0, hl390_0, hi390_0⟩ := at_L4 HR2.out x9_2 p390 q390
         have hw390_0 := hx390_0
         obtain rfl : ad388 = ad390 := (by injection e390)
         replace hx390_0 := (HB.out.cell (World.block_lt_of_cell? w _ hx390_0)).trans hx390_0
         have HR390_0 := Aside0.mk hi390_0
         have HC390_0 := Aside0.mk hl390_0
         clear hi390_0 hl390_0
         replace p390 := eq_true p390
         replace q390 := eq_true q390
         have ea_ := Option.some.inj (hx388_0.symm.trans hx390_0)
         injection ea_ with ea_ en_ ec_
         subst ea_
         subst ec_
         clear en_
         obtain ⟨Ao18, co18, eo18⟩ := Kd.R_slice HO_7.out
         (first | subst eo18 | (injection eo18 with f1_ f2_ f3_; have f4_ := f1_.symm; have f5_ := f3_.symm; clear f1_ f2_ f3_; subst f4_; subst f5_))
         refine start_ (n := 13) (S := fun w' => w'.cell? (ad388.add (x9_2).toNat) = some (.slice A388_0 (rd_L4 l2 x9_2).length c388_0) ∧ w'.cell? (ad388.add (x9_2).toNat) = some (.slice A388_0 (rd_L4 l2 x9_2).length c388_0)) (ds := []) #[false, false, false, false, false, false, false, false, false, false, false, false, false] (by kernel_rfl) rfl rfl ⟨((HB.out.cell (World.block_lt_of_cell? w _ hw388_0)).trans hw388_0), ((HB.out.cell (World.block_lt_of_cell? w _ hw390_0)).trans hw390_0)⟩ (fun hHeld => ?_); refine with_tabW spec_CanDrop.tab7 spec_CanDrop.bits7 (fun HT_ HW_ => ?_)
         generalize wr.drew = w17 at HO_7 HB HR388_0 HR390_0 hx388_0 hx390_0 hHeld ⊢
         refine Hd.p_ HT_ 0 (some 29) #[true, false, false, false, false, false, false, false, false, false, false, false, false] ?_
         refine Hd.p_ HT_ 1 (some 30) #[true, true, false, false, false, false, false, false, false, false, false, false, false] ?_
         refine Hd.p_ HT_ 2 (some 31) #[true, true, true, false, false, false, false, false, false, false, false, false, false] ?_
         refine Hd.p_ HT_ 3 (some 32) #[true, true, true, true, false, false, false, false, false, false, false, false, false] ?_
         refine Hd.p_ HT_ 6 (some 35) #[true, true, true, true, false, false, true, false, false, false, false, false, false] ?_
         refine Hd.p_ HT_ 7 (some 36) #[true, true, true, true, false, false, true, true, false, false, false, false, false] ?_
         refine Hd.p_ HT_ 8 (some 37) #[true, true, true, true, false, false, true, true, true, false, false, false, false] ?_
         refine Hd.p_ HT_ 9 (some 38) #[true, true, true, true, false, false, true, true, true, true, false, false, false] ?_
         refine Hd.t_ HT_ HW_ hHeld 4 (some 33) #[true, true, true, true, true, false, true, true, true, true, false, false, false] ?_
         refine Hd.t_ HT_ HW_ hHeld 10 (some 39) #[true, true, true, true, true, false, true, true, true, true, true, false, false] ?_
         refine Hd.o_ HT_ 5 (some 34) #[true, true, true, true, true, true, true, true, true, true, true, false, false] (fun K hK => ?_)
         refine goes_ Try.func78 (by kernel_rfl) rfl #[.slice Ao18 t383.length co18, .slice A388_0 (rd_L4 l2 x9_2).length c388_0] (by rfl) rfl rfl Hd.m_ ?_
         with_reducible refine (spec_LinesMeet.calls k2 _ _ t383 _ _ (rd_L4 l2 x9_2) t389 _ ?side1 ?side2 ?side3 ?side4 A14.out).mono ?_
         (case side1 => repeat (first | exact (Kd.R_reads' HO_7.out).2.2 | (with_reducible refine Kd.C_alloc ?_ _) | (with_reducible refine Kd.C_drewN ?_ _) | (with_reducible refine Kd.C_drew ?_)))
         (case side2 => exact (Kd.R_reads' HO_7.out).2.1)
         (case side3 => repeat (first | exact (Kd.C_below HR388_0.out HB.out) | (with_reducible refine Kd.C_alloc ?_ _) | (with_reducible refine Kd.C_drewN ?_ _) | (with_reducible refine Kd.C_drew ?_)))
         (case side4 => exact HC388_0.out)
         rintro e w19 ⟨rfl, hb⟩
         refine ⟨_, rfl, ?_⟩
         replace HO_7 := Aside0.mk (Kd.R_below (Hd.r_ HO_7) hb)
         replace HB := Aside0.mk (below_step Hd.b_ hb)
         (try clear hb)
         (try clear hb2)
         (try clear hk)
         (try clear hi)
         refine hK.out _ _ ⟨((HB.out.cell (World.block_lt_of_cell? w _ hw388_0)).trans hw388_0), ((HB.out.cell (World.block_lt_of_cell? w _ hw390_0)).trans hw390_0)⟩ (fun hHeld => ?_)
         clear hK K
         refine Hd.n_ (some 34) ?_
         refine Hd.o_ HT_ 11 (some 40) #[true, true, true, true, true, true, true, true, true, true, true, true, false] (fun K hK => ?_)
         refine goes_ Try.func78 (by kernel_rfl) rfl #[.slice A0 l0.length c0, .slice A388_0 (rd_L4 l2 x9_2).length c388_0] (by rfl) rfl rfl Hd.m_ ?_
         with_reducible refine (spec_LinesMeet.calls k2 _ _ l0 _ _ (rd_L4 l2 x9_2) t391 _ ?side1 ?side2 ?side3 ?side4 A15.out).mono ?_
         (case side1 => repeat (first | exact (Kd.C_below HR0.out HB.out) | (with_reducible refine Kd.C_alloc ?_ _) | (with_reducible refine Kd.C_drewN ?_ _) | (with_reducible refine Kd.C_drew ?_)))
         (case side2 => exact HC0.out)
         (case side3 => repeat (first | exact (Kd.C_below HR390_0.out HB.out) | (with_reducible refine Kd.C_alloc ?_ _) | (with_reducible refine Kd.C_drewN ?_ _) | (with_reducible refine Kd.C_drew ?_)))
         (case side4 => exact HC390_0.out)
         rintro e w20 ⟨rfl, hb⟩
         refine ⟨_, rfl, ?_⟩
         replace HO_7 := Aside0.mk (Kd.R_below (Hd.r_ HO_7) hb)
         replace HB := Aside0.mk (below_step Hd.b_ hb)
         (try clear hb)
         (try clear hb2)
         (try clear hk)
         (try clear hi)
         refine hK.out _ _ ⟨((HB.out.cell (World.block_lt_of_cell? w _ hw388_0)).trans hw388_0), ((HB.out.cell (World.block_lt_of_cell? w _ hw390_0)).trans hw390_0)⟩ (fun hHeld => ?_)
         clear hK K
         refine Hd.n_ (some 40) ?_
         refine Hd.p_ HT_ 12 (some 41) #[true, true, true, true, true, true, true, true, true, true, true, true, true] ?_
         refine done_ (done_of HT_.out (by kernel_rfl)) ?_
         try go_wp2
         go_ret
         exact ⟨Hd.e_, Hd.b_⟩
        ·
         rw [if_neg c16] at H
         have c16b0 : decide (t391 < t389) = false := decide_eq_false c16
         clear c16
         have H' := Aside0.mk H
         clear H
         try go_wp2
         replace HO_7 := Aside0.mk (Kd.R_drew HO_7.out)
         replace HB := Aside0.mk (below_drew1 HB.out)
         have p388 : 0 ≤ (x9_2 : Int) := of_decide_eq_true Hd.a_
         have q388 : x9_2 < (l2.length : Int) := of_decide_eq_true Hd.a_
         obtain ⟨ad388, A388_0, c388_0, e388, hx388_0, hl388_0, hi388_0⟩ := at_L4 HR2.out x9_2 p388 q388
         have hw388_0 := hx388_0
         cases e388
         replace hx388_0 := (HB.out.cell (World.block_lt_of_cell? w _ hx388_0)).trans hx388_0
         have HR388_0 := Aside0.mk hi388_0
         have HC388_0 := Aside0.mk hl388_0
         clear hi388_0 hl388_0
         replace p388 := eq_true p388
         replace q388 := eq_true q388
         have p390 : 0 ≤ (x9_2 : Int) := of_decide_eq_true Hd.a_
         have q390 : x9_2 < (l2.length : Int) := of_decide_eq_true Hd.a_
         obtain ⟨ad390, A390_0, c390_0, e390, hx390_0, hl390_0, hi390_0⟩ := at_L4 HR2.out x9_2 p390 q390
         have hw390_0 := hx390_0
         obtain rfl : ad388 = ad390 := (by injection e390)
         replace hx390_0 := (HB.out.cell (World.block_lt_of_cell? w _ hx390_0)).trans hx390_0
         have HR390_0 := Aside0.mk hi390_0
         have HC390_0 := Aside0.mk hl390_0
         clear hi390_0 hl390_0
         replace p390 := eq_true p390
         replace q390 := eq_true q390
         have ea_ := Option.some.inj (hx388_0.symm.trans hx390_0)
         injection ea_ with ea_ en_ ec_
         subst ea_
         subst ec_
         clear en_
         obtain ⟨Ao22, co22, eo22⟩ := Kd.R_slice HO_7.out
         (first | subst eo22 | (injection eo22 with f1_ f2_ f3_; have f4_ := f1_.symm; have f5_ := f3_.symm; clear f1_ f2_ f3_; subst f4_; subst f5_))
         refine start_ (n := 13) (S := fun w' => w'.cell? (ad388.add (x9_2).toNat) = some (.slice A388_0 (rd_L4 l2 x9_2).length c388_0) ∧ w'.cell? (ad388.add (x9_2).toNat) = some (.slice A388_0 (rd_L4 l2 x9_2).length c388_0)) (ds := []) #[false, false, false, false, false, false, false, false, false, false, false, false, false] (by kernel_rfl) rfl rfl ⟨((HB.out.cell (World.block_lt_of_cell? w _ hw388_0)).trans hw388_0), ((HB.out.cell (World.block_lt_of_cell? w _ hw390_0)).trans hw390_0)⟩ (fun hHeld => ?_); refine with_tabW spec_CanDrop.tab7 spec_CanDrop.bits7 (fun HT_ HW_ => ?_)
         generalize wr.drew = w21 at HO_7 HB HR388_0 HR390_0 hx388_0 hx390_0 hHeld ⊢
         refine Hd.p_ HT_ 0 (some 29) #[true, false, false, false, false, false, false, false, false, false, false, false, false] ?_
         refine Hd.p_ HT_ 1 (some 30) #[true, true, false, false, false, false, false, false, false, false, false, false, false] ?_
         refine Hd.p_ HT_ 2 (some 31) #[true, true, true, false, false, false, false, false, false, false, false, false, false] ?_
         refine Hd.p_ HT_ 3 (some 32) #[true, true, true, true, false, false, false, false, false, false, false, false, false] ?_
         refine Hd.p_ HT_ 6 (some 35) #[true, true, true, true, false, false, true, false, false, false, false, false, false] ?_
         refine Hd.p_ HT_ 7 (some 36) #[true, true, true, true, false, false, true, true, false, false, false, false, false] ?_
         refine Hd.p_ HT_ 8 (some 37) #[true, true, true, true, false, false, true, true, true, false, false, false, false] ?_
         refine Hd.p_ HT_ 9 (some 38) #[true, true, true, true, false, false, true, true, true, true, false, false, false] ?_
         refine Hd.t_ HT_ HW_ hHeld 4 (some 33) #[true, true, true, true, true, false, true, true, true, true, false, false, false] ?_
         refine Hd.t_ HT_ HW_ hHeld 10 (some 39) #[true, true, true, true, true, false, true, true, true, true, true, false, false] ?_
         refine Hd.o_ HT_ 5 (some 34) #[true, true, true, true, true, true, true, true, true, true, true, false, false] (fun K hK => ?_)
         refine goes_ Try.func78 (by kernel_rfl) rfl #[.slice Ao22 t383.length co22, .slice A388_0 (rd_L4 l2 x9_2).length c388_0] (by rfl) rfl rfl Hd.m_ ?_
         with_reducible refine (spec_LinesMeet.calls k2 _ _ t383 _ _ (rd_L4 l2 x9_2) t389 _ ?side1 ?side2 ?side3 ?side4 A14.out).mono ?_
         (case side1 => repeat (first | exact (Kd.R_reads' HO_7.out).2.2 | (with_reducible refine Kd.C_alloc ?_ _) | (with_reducible refine Kd.C_drewN ?_ _) | (with_reducible refine Kd.C_drew ?_)))
         (case side2 => exact (Kd.R_reads' HO_7.out).2.1)
         (case side3 => repeat (first | exact (Kd.C_below HR388_0.out HB.out) | (with_reducible refine Kd.C_alloc ?_ _) | (with_reducible refine Kd.C_drewN ?_ _) | (with_reducible refine Kd.C_drew ?_)))
         (case side4 => exact HC388_0.out)
         rintro e w23 ⟨rfl, hb⟩
         refine ⟨_, rfl, ?_⟩
         replace HO_7 := Aside0.mk (Kd.R_below (Hd.r_ HO_7) hb)
         replace HB := Aside0.mk (below_step Hd.b_ hb)
         (try clear hb)
         (try clear hb2)
         (try clear hk)
         (try clear hi)
         refine hK.out _ _ ⟨((HB.out.cell (World.block_lt_of_cell? w _ hw388_0)).trans hw388_0), ((HB.out.cell (World.block_lt_of_cell? w _ hw390_0)).trans hw390_0)⟩ (fun hHeld => ?_)
         clear hK K
         refine Hd.n_ (some 34) ?_
         refine Hd.o_ HT_ 11 (some 40) #[true, true, true, true, true, true, true, true, true, true, true, true, false] (fun K hK => ?_)
         refine goes_ Try.func78 (by kernel_rfl) rfl #[.slice A0 l0.length c0, .slice A388_0 (rd_L4 l2 x9_2).length c388_0] (by rfl) rfl rfl Hd.m_ ?_
         with_reducible refine (spec_LinesMeet.calls k2 _ _ l0 _ _ (rd_L4 l2 x9_2) t391 _ ?side1 ?side2 ?side3 ?side4 A15.out).mono ?_
         (case side1 => repeat (first | exact (Kd.C_below HR0.out HB.out) | (with_reducible refine Kd.C_alloc ?_ _) | (with_reducible refine Kd.C_drewN ?_ _) | (with_reducible refine Kd.C_drew ?_)))
         (case side2 => exact HC0.out)
         (case side3 => repeat (first | exact (Kd.C_below HR390_0.out HB.out) | (with_reducible refine Kd.C_alloc ?_ _) | (with_reducible refine Kd.C_drewN ?_ _) | (with_reducible refine Kd.C_drew ?_)))
         (case side4 => exact HC390_0.out)
         rintro e w24 ⟨rfl, hb⟩
         refine ⟨_, rfl, ?_⟩
         replace HO_7 := Aside0.mk (Kd.R_below (Hd.r_ HO_7) hb)
         replace HB := Aside0.mk (below_step Hd.b_ hb)
         (try clear hb)
         (try clear hb2)
         (try clear hk)
         (try clear hi)
         refine hK.out _ _ ⟨((HB.out.cell (World.block_lt_of_cell? w _ hw388_0)).trans hw388_0), ((HB.out.cell (World.block_lt_of_cell? w _ hw390_0)).trans hw390_0)⟩ (fun hHeld => ?_)
         clear hK K
         refine Hd.n_ (some 40) ?_
         refine Hd.p_ HT_ 12 (some 41) #[true, true, true, true, true, true, true, true, true, true, true, true, true] ?_
         refine done_ (done_of HT_.out (by kernel_rfl)) ?_
         try go_wp2
         go_roundg k2
         case measure => have := HJ4.out; have := HK2.out; omega
         case rel => exact ⟨(wrap64 (x9_2 + 1)), (by first | rfl | (simp; done) | (simp [*]; done)), H', ⟨by have := HJ4.out; have := HK2.out; omega⟩, ⟨by (with_reducible repeat (first | apply Kd.R_alloc | apply Kd.R_drewN | apply Kd.R_drew)); exact HO_7.out⟩, ⟨Hd.b_⟩⟩
       ·
        rw [if_neg c13] at H
        exact absurd H (by simp)
      ·
       rw [if_neg c12] at H
       have c12b0 : decide (x9_2 < (l2.length : Int)) = false := decide_eq_false c12
       clear c12
       obtain rfl := Option.some.inj H
       go_wp2
       go_ret
       exact ⟨Hd.e_, Hd.b_⟩
def laws_FnExactCanDrop.f (k : Nat) (l0 : List (S98)) (a1 : Int) (l2 : List (List (S98))) : Option (Bool) := (laws_szPointS.f l0 1048576).bind fun t392 => (if t392 < 0 then (some true) else ((laws_szPointSS.f k l2 t392).bind fun t393 => (if t393 < 0 then (some true) else ((laws_toPointS.f k l0).bind fun t394 => ((laws_toPointSS.f k l2).bind fun t397 => ((spec_CanDrop.f k t394 a1 t397).bind fun t400 => ((laws_toPointS.f k l0).bind fun t401 => ((laws_toPointSS.f k l2).bind fun t404 => ((impl_CanDrop.f k t401 a1 t404).bind fun t407 => (if (t407 != t400) = true then (some false) else ((laws_toPointS.f k l0).bind fun t408 => ((laws_eqPointS.f k t401 t408).bind fun t411 => (if t411 = true then ((laws_toPointSS.f k l2).bind fun t412 => ((laws_eqPointSS.f k t404 t412).bind fun t415 => (if t415 = true then (some true) else (some false)))) else (some false))))))))))))))
set_option maxHeartbeats 8000000 in
set_option maxRecDepth 100000 in
theorem laws_FnExactCanDrop.calls (k : Nat) (A0 : Option Addr) (c0 : Nat) (l0 : List (S98)) (a1 : Int) (A2 : Option Addr) (c2 : Nat) (l2 : List (List (S98))) (r : Bool) (w : World) (hr0 : Kd.C k98 w A0 l0.length l0) (hc0 : l0.length ≤ c0) (hr2 : Kd.C (Kd.slice 98 k98) w A2 l2.length l2) (hc2 : l2.length ≤ c2) (h : laws_FnExactCanDrop.f k l0 a1 l2 = some r) :
  Calls Try.prog 8 #[.slice A0 l0.length c0, .int .i64 a1, .slice A2 l2.length c2] w fun e w' => e = .returned (.bool r) ∧ Below w.heap.size w w' := by
 have HR0 := Aside0.mk hr0
 have HC0 := Aside0.mk hc0
 clear hr0 hc0
 have HR2 := Aside0.mk hr2
 have HC2 := Aside0.mk hc2
 clear hr2 hc2
 have HB := Aside0.mk (Below.refl w.heap.size w)
 have H : ((laws_szPointS.f l0 1048576).bind fun t392 => (if t392 < 0 then (some true) else ((laws_szPointSS.f k l2 t392).bind fun t393 => (if t393 < 0 then (some true) else ((laws_toPointS.f k l0).bind fun t394 => ((laws_toPointSS.f k l2).bind fun t397 => ((spec_CanDrop.f k t394 a1 t397).bind fun t400 => ((laws_toPointS.f k l0).bind fun t401 => ((laws_toPointSS.f k l2).bind fun t404 => ((impl_CanDrop.f k t401 a1 t404).bind fun t407 => (if (t407 != t400) = true then (some false) else ((laws_toPointS.f k l0).bind fun t408 => ((laws_eqPointS.f k t401 t408).bind fun t411 => (if t411 = true then ((laws_toPointSS.f k l2).bind fun t412 => ((laws_eqPointSS.f k t404 t412).bind fun t415 => (if t415 = true then (some true) else (some false)))) else (some false))))))))))))))) = some r := h
 clear h
 replace H := Option.bind_eq_some_iff.mp H
 obtain ⟨t392, A40, H⟩ := H
 replace H : (if t392 < 0 then (some true) else ((laws_szPointSS.f k l2 t392).bind fun t393 => (if t393 < 0 then (some true) else ((laws_toPointS.f k l0).bind fun t394 => ((laws_toPointSS.f k l2).bind fun t397 => ((spec_CanDrop.f k t394 a1 t397).bind fun t400 => ((laws_toPointS.f k l0).bind fun t401 => ((laws_toPointSS.f k l2).bind fun t404 => ((impl_CanDrop.f k t401 a1 t404).bind fun t407 => (if (t407 != t400) = true then (some false) else ((laws_toPointS.f k l0).bind fun t408 => ((laws_eqPointS.f k t401 t408).bind fun t411 => (if t411 = true then ((laws_toPointSS.f k l2).bind fun t412 => ((laws_eqPointSS.f k t404 t412).bind fun t415 => (if t415 = true then (some true) else (some false)))) else (some false)))))))))))))) = some r := H
 have A4 := Aside0.mk A40
 clear A40
 by_cases c5 : t392 < 0
 ·
  rw [if_pos c5] at H
  have c5b0 : decide (t392 < 0) = true := decide_eq_true c5
  clear c5
  obtain rfl := Option.some.inj H
  go_enter Try.func8, Try.ntmps8
  go_wp2_with (first | ((with_reducible refine gate_callee (f := 15) rfl ?_); refine goesL_ (some 14) rfl rfl Try.func15 (by kernel_rfl) rfl #[.slice A0 l0.length c0, .int .i64 1048576] rfl Hd.m_ ?_; (with_reducible refine (laws_szPointS.calls _ _ l0 1048576 t392 _ ?side1 ?side2 A4.out).mono ?_); (case side1 => repeat (first | exact HR0.out | (with_reducible refine Kd.C_alloc ?_ _) | (with_reducible refine Kd.C_drewN ?_ _) | (with_reducible refine Kd.C_drew ?_))); (case side2 => exact HC0.out); rintro e w' ⟨rfl, ⟨nd, rfl⟩⟩; refine ⟨_, rfl, ?_⟩))
  go_ret
  exact ⟨Hd.e_, Hd.b_⟩
 ·
  rw [if_neg c5] at H
  have c5b0 : decide (t392 < 0) = false := decide_eq_false c5
  clear c5
  replace H := Option.bind_eq_some_iff.mp H
  obtain ⟨t393, A60, H⟩ := H
  replace H : (if t393 < 0 then (some true) else ((laws_toPointS.f k l0).bind fun t394 => ((laws_toPointSS.f k l2).bind fun t397 => ((spec_CanDrop.f k t394 a1 t397).bind fun t400 => ((laws_toPointS.f k l0).bind fun t401 => ((laws_toPointSS.f k l2).bind fun t404 => ((impl_CanDrop.f k t401 a1 t404).bind fun t407 => (if (t407 != t400) = true then (some false) else ((laws_toPointS.f k l0).bind fun t408 => ((laws_eqPointS.f k t401 t408).bind fun t411 => (if t411 = true then ((laws_toPointSS.f k l2).bind fun t412 => ((laws_eqPointSS.f k t404 t412).bind fun t415 => (if t415 = true then (some true) else (some false)))) else (some false)))))))))))) = some r := H
  have A6 := Aside0.mk A60
  clear A60
  by_cases c7 : t393 < 0
  ·
   rw [if_pos c7] at H
   have c7b0 : decide (t393 < 0) = true := decide_eq_true c7
   clear c7
   obtain rfl := Option.some.inj H
   go_enter Try.func8, Try.ntmps8
   go_wp2_with (first | ((with_reducible refine gate_callee (f := 15) rfl ?_); refine goesL_ (some 14) rfl rfl Try.func15 (by kernel_rfl) rfl #[.slice A0 l0.length c0, .int .i64 1048576] rfl Hd.m_ ?_; (with_reducible refine (laws_szPointS.calls _ _ l0 1048576 t392 _ ?side1 ?side2 A4.out).mono ?_); (case side1 => repeat (first | exact HR0.out | (with_reducible refine Kd.C_alloc ?_ _) | (with_reducible refine Kd.C_drewN ?_ _) | (with_reducible refine Kd.C_drew ?_))); (case side2 => exact HC0.out); rintro e w' ⟨rfl, ⟨nd, rfl⟩⟩; refine ⟨_, rfl, ?_⟩) | ((with_reducible refine gate_callee (f := 16) rfl ?_); refine goesL_ (some 19) rfl rfl Try.func16 (by kernel_rfl) rfl #[.slice A2 l2.length c2, .int .i64 t392] rfl Hd.m_ ?_; (with_reducible refine (laws_szPointSS.calls k _ _ l2 t392 t393 _ ?side1 ?side2 A6.out).mono ?_); (case side1 => repeat (first | exact HR2.out | (with_reducible refine Kd.C_alloc ?_ _) | (with_reducible refine Kd.C_drewN ?_ _) | (with_reducible refine Kd.C_drew ?_))); (case side2 => exact HC2.out); rintro e w' ⟨rfl, ⟨nd, rfl⟩⟩; refine ⟨_, rfl, ?_⟩))
   go_ret
   exact ⟨Hd.e_, Hd.b_⟩
  ·
   rw [if_neg c7] at H
   have c7b0 : decide (t393 < 0) = false := decide_eq_false c7
   clear c7
   replace H := Option.bind_eq_some_iff.mp H
   obtain ⟨t394, A80, H⟩ := H
   replace H : ((laws_toPointSS.f k l2).bind fun t397 => ((spec_CanDrop.f k t394 a1 t397).bind fun t400 => ((laws_toPointS.f k l0).bind fun t401 => ((laws_toPointSS.f k l2).bind fun t404 => ((impl_CanDrop.f k t401 a1 t404).bind fun t407 => (if (t407 != t400) = true then (some false) else ((laws_toPointS.f k l0).bind fun t408 => ((laws_eqPointS.f k t401 t408).bind fun t411 => (if t411 = true then ((laws_toPointSS.f k l2).bind fun t412 => ((laws_eqPointSS.f k t404 t412).bind fun t415 => (if t415 = true then (some true) else (some false)))) else (some false)))))))))) = some r := H
   have A8 := Aside0.mk A80
   clear A80
   replace H := Option.bind_eq_some_iff.mp H
   obtain ⟨t397, A90, H⟩ := H
   replace H : ((spec_CanDrop.f k t394 a1 t397).bind fun t400 => ((laws_toPointS.f k l0).bind fun t401 => ((laws_toPointSS.f k l2).bind fun t404 => ((impl_CanDrop.f k t401 a1 t404).bind fun t407 => (if (t407 != t400) = true then (some false) else ((laws_toPointS.f k l0).bind fun t408 => ((laws_eqPointS.f k t401 t408).bind fun t411 => (if t411 = true then ((laws_toPointSS.f k l2).bind fun t412 => ((laws_eqPointSS.f k t404 t412).bind fun t415 => (if t415 = true then (some true) else (some false)))) else (some false))))))))) = some r := H
   have A9 := Aside0.mk A90
   clear A90
   replace H := Option.bind_eq_some_iff.mp H
   obtain ⟨t400, A100, H⟩ := H
   replace H : ((laws_toPointS.f k l0).bind fun t401 => ((laws_toPointSS.f k l2).bind fun t404 => ((impl_CanDrop.f k t401 a1 t404).bind fun t407 => (if (t407 != t400) = true then (some false) else ((laws_toPointS.f k l0).bind fun t408 => ((laws_eqPointS.f k t401 t408).bind fun t411 => (if t411 = true then ((laws_toPointSS.f k l2).bind fun t412 => ((laws_eqPointSS.f k t404 t412).bind fun t415 => (if t415 = true then (some true) else (some false)))) else (some false)))))))) = some r := H
   have A10 := Aside0.mk A100
   clear A100
   replace H := Option.bind_eq_some_iff.mp H
   obtain ⟨t401, A110, H⟩ := H
   replace H : ((laws_toPointSS.f k l2).bind fun t404 => ((impl_CanDrop.f k t401 a1 t404).bind fun t407 => (if (t407 != t400) = true then (some false) else ((laws_toPointS.f k l0).bind fun t408 => ((laws_eqPointS.f k t401 t408).bind fun t411 => (if t411 = true then ((laws_toPointSS.f k l2).bind fun t412 => ((laws_eqPointSS.f k t404 t412).bind fun t415 => (if t415 = true then (some true) else (some false)))) else (some false))))))) = some r := H
   have A11 := Aside0.mk A110
   clear A110
   replace H := Option.bind_eq_some_iff.mp H
   obtain ⟨t404, A120, H⟩ := H
   replace H : ((impl_CanDrop.f k t401 a1 t404).bind fun t407 => (if (t407 != t400) = true then (some false) else ((laws_toPointS.f k l0).bind fun t408 => ((laws_eqPointS.f k t401 t408).bind fun t411 => (if t411 = true then ((laws_toPointSS.f k l2).bind fun t412 => ((laws_eqPointSS.f k t404 t412).bind fun t415 => (if t415 = true then (some true) else (some false)))) else (some false)))))) = some r := H
   have A12 := Aside0.mk A120
   clear A120
   replace H := Option.bind_eq_some_iff.mp H
   obtain ⟨t407, A130, H⟩ := H
   replace H : (if (t407 != t400) = true then (some false) else ((laws_toPointS.f k l0).bind fun t408 => ((laws_eqPointS.f k t401 t408).bind fun t411 => (if t411 = true then ((laws_toPointSS.f k l2).bind fun t412 => ((laws_eqPointSS.f k t404 t412).bind fun t415 => (if t415 = true then (some true) else (some false)))) else (some false))))) = some r := H
   have A13 := Aside0.mk A130
   clear A130
   by_cases c14 : (t407 != t400) = true
   ·
    rw [if_pos c14] at H
    have c14b0 : (t407 != t400) = true := c14
    (try (have c14b1 : decide (t407 = t400) = false := by simpa using c14))
    (try (have c14b2 : (t407 == t400) = false := by simpa using c14))
    (try (have c14b3 : ¬ (t407 = t400) := by simpa using c14))
    clear c14
    obtain rfl := Option.some.inj H
    go_enter Try.func8, Try.ntmps8
    go_wp2_with (first | ((with_reducible refine gate_callee (f := 15) rfl ?_); refine goesL_ (some 14) rfl rfl Try.func15 (by kernel_rfl) rfl #[.slice A0 l0.length c0, .int .i64 1048576] rfl Hd.m_ ?_; (with_reducible refine (laws_szPointS.calls _ _ l0 1048576 t392 _ ?side1 ?side2 A4.out).mono ?_); (case side1 => repeat (first | exact HR0.out | (with_reducible refine Kd.C_alloc ?_ _) | (with_reducible refine Kd.C_drewN ?_ _) | (with_reducible refine Kd.C_drew ?_))); (case side2 => exact HC0.out); rintro e w' ⟨rfl, ⟨nd, rfl⟩⟩; refine ⟨_, rfl, ?_⟩) | ((with_reducible refine gate_callee (f := 16) rfl ?_); refine goesL_ (some 19) rfl rfl Try.func16 (by kernel_rfl) rfl #[.slice A2 l2.length c2, .int .i64 t392] rfl Hd.m_ ?_; (with_reducible refine (laws_szPointSS.calls k _ _ l2 t392 t393 _ ?side1 ?side2 A6.out).mono ?_); (case side1 => repeat (first | exact HR2.out | (with_reducible refine Kd.C_alloc ?_ _) | (with_reducible refine Kd.C_drewN ?_ _) | (with_reducible refine Kd.C_drew ?_))); (case side2 => exact HC2.out); rintro e w' ⟨rfl, ⟨nd, rfl⟩⟩; refine ⟨_, rfl, ?_⟩) | ((with_reducible refine gate_callee (f := 18) rfl ?_); refine goesL_ (some 23) rfl rfl Try.func18 (by kernel_rfl) rfl #[.slice A0 l0.length c0] rfl Hd.m_ ?_; (with_reducible refine (laws_toPointS.calls k _ _ l0 t394 _ ?side1 ?side2 A8.out).mono ?_); (case side1 => repeat (first | exact HR0.out | (with_reducible refine Kd.C_alloc ?_ _) | (with_reducible refine Kd.C_drewN ?_ _) | (with_reducible refine Kd.C_drew ?_))); (case side2 => exact HC0.out); rintro e w15 ⟨v395, rfl, ho0, hb⟩; refine ⟨_, rfl, ?_⟩; have HO396 := Aside0.mk (Kd.R_lower ho0 (below_size Hd.b_)); replace HB := Aside0.mk (below_step Hd.b_ hb); (try clear hb); (try clear hb2); (try clear hk); (try clear hi); (try clear ho0)) | ((with_reducible refine gate_callee (f := 19) rfl ?_); refine goesL_ (some 26) rfl rfl Try.func19 (by kernel_rfl) rfl #[.slice A2 l2.length c2] rfl Hd.m_ ?_; (with_reducible refine (laws_toPointSS.calls k _ _ l2 t397 _ ?side1 ?side2 A9.out).mono ?_); (case side1 => repeat (first | exact (Kd.C_below HR2.out HB.out) | (with_reducible refine Kd.C_alloc ?_ _) | (with_reducible refine Kd.C_drewN ?_ _) | (with_reducible refine Kd.C_drew ?_))); (case side2 => exact HC2.out); rintro e w16 ⟨v398, rfl, ho0, hb⟩; refine ⟨_, rfl, ?_⟩; have HO399 := Aside0.mk (Kd.S_lower (Kd.S_new' ho0 (Kd.R_lt (Hd.r_ HO396))) (below_size Hd.b_)); replace HO396 := Aside0.mk (Kd.R_below (Hd.r_ HO396) hb); replace HB := Aside0.mk (below_step Hd.b_ hb); (try clear hb); (try clear hb2); (try clear hk); (try clear hi); (try clear ho0); obtain ⟨Ao17, co17, eo17⟩ := Kd.R_slice HO396.out; subst eo17; obtain ⟨Ao18, co18, eo18⟩ := Kd.S_slice HO399.out; subst eo18) | ((with_reducible refine gate_callee (f := 57) rfl ?_); refine goesL_ (some 27) rfl rfl Try.func57 (by kernel_rfl) rfl #[.slice Ao17 t394.length co17, .int .i64 a1, .slice Ao18 t397.length co18] rfl Hd.m_ ?_; (with_reducible refine (spec_CanDrop.calls k _ _ t394 a1 _ _ t397 t400 _ ?side1 ?side2 ?side3 ?side4 A10.out).mono ?_); (case side1 => repeat (first | exact (Kd.R_reads' HO396.out).2.2 | (with_reducible refine Kd.C_alloc ?_ _) | (with_reducible refine Kd.C_drewN ?_ _) | (with_reducible refine Kd.C_drew ?_))); (case side2 => exact (Kd.R_reads' HO396.out).2.1); (case side3 => repeat (first | exact (Kd.S_reads' HO399.out).2.2 | (with_reducible refine Kd.C_alloc ?_ _) | (with_reducible refine Kd.C_drewN ?_ _) | (with_reducible refine Kd.C_drew ?_))); (case side4 => exact (Kd.S_reads' HO399.out).2.1); rintro e w19 ⟨rfl, hb⟩; refine ⟨_, rfl, ?_⟩; replace HO396 := Aside0.mk (Kd.R_below (Hd.r_ HO396) hb); replace HO399 := Aside0.mk (Kd.S_below (by (with_reducible repeat (first | apply Kd.S_alloc | apply Kd.S_drewN | apply Kd.S_drew)); exact HO399.out) hb); replace HB := Aside0.mk (below_step Hd.b_ hb); (try clear hb); (try clear hb2); (try clear hk); (try clear hi)) | ((with_reducible refine gate_callee (f := 18) rfl ?_); refine goesL_ (some 29) rfl rfl Try.func18 (by kernel_rfl) rfl #[.slice A0 l0.length c0] rfl Hd.m_ ?_; (with_reducible refine (laws_toPointS.calls k _ _ l0 t401 _ ?side1 ?side2 A11.out).mono ?_); (case side1 => repeat (first | exact (Kd.C_below HR0.out HB.out) | (with_reducible refine Kd.C_alloc ?_ _) | (with_reducible refine Kd.C_drewN ?_ _) | (with_reducible refine Kd.C_drew ?_))); (case side2 => exact HC0.out); rintro e w20 ⟨v402, rfl, ho0, hb⟩; refine ⟨_, rfl, ?_⟩; replace HO399 := Aside0.mk (Kd.S_elder' (by (with_reducible repeat (first | apply Kd.S_alloc | apply Kd.S_drewN | apply Kd.S_drew)); exact HO399.out) (Kd.R_base ho0) hb); have HO403 := Aside0.mk (Kd.R_lower (Kd.R_new' ho0 (Kd.R_lt (Hd.r_ HO396))) (below_size Hd.b_)); replace HO396 := Aside0.mk (Kd.R_elder' (Hd.r_ HO396) (Kd.R_base ho0) hb); replace HB := Aside0.mk (below_step Hd.b_ hb); (try clear hb); (try clear hb2); (try clear hk); (try clear hi); (try clear ho0)) | ((with_reducible refine gate_callee (f := 19) rfl ?_); refine goesL_ (some 31) rfl rfl Try.func19 (by kernel_rfl) rfl #[.slice A2 l2.length c2] rfl Hd.m_ ?_; (with_reducible refine (laws_toPointSS.calls k _ _ l2 t404 _ ?side1 ?side2 A12.out).mono ?_); (case side1 => repeat (first | exact (Kd.C_below HR2.out HB.out) | (with_reducible refine Kd.C_alloc ?_ _) | (with_reducible refine Kd.C_drewN ?_ _) | (with_reducible refine Kd.C_drew ?_))); (case side2 => exact HC2.out); rintro e w21 ⟨v405, rfl, ho0, hb⟩; refine ⟨_, rfl, ?_⟩; have HO406 := Aside0.mk (Kd.S_lower (Kd.S_new' (Kd.S_new' (Kd.S_new' ho0 (Kd.R_lt (Hd.r_ HO396))) (Kd.S_lt (by (with_reducible repeat (first | apply Kd.S_alloc | apply Kd.S_drewN | apply Kd.S_drew)); exact HO399.out))) (Kd.R_lt (Hd.r_ HO403))) (below_size Hd.b_)); replace HO396 := Aside0.mk (Kd.R_below (Hd.r_ HO396) hb); replace HO399 := Aside0.mk (Kd.S_elder' (by (with_reducible repeat (first | apply Kd.S_alloc | apply Kd.S_drewN | apply Kd.S_drew)); exact HO399.out) (Kd.S_base ho0) hb); replace HO403 := Aside0.mk (Kd.R_below (Hd.r_ HO403) hb); replace HB := Aside0.mk (below_step Hd.b_ hb); (try clear hb); (try clear hb2); (try clear hk); (try clear hi); (try clear ho0); obtain ⟨Ao22, co22, eo22⟩ := Kd.R_slice HO403.out; subst eo22; obtain ⟨Ao23, co23, eo23⟩ := Kd.S_slice HO406.out; subst eo23) | ((with_reducible refine gate_callee (f := 38) rfl ?_); refine goesL_ (some 35) rfl rfl Try.func38 (by kernel_rfl) rfl #[.slice Ao22 t401.length co22, .int .i64 a1, .slice Ao23 t404.length co23] rfl Hd.m_ ?_; (with_reducible refine (impl_CanDrop.calls k _ _ t401 a1 _ _ t404 t407 _ ?side1 ?side2 ?side3 ?side4 A13.out).mono ?_); (case side1 => repeat (first | exact (Kd.R_reads' HO403.out).2.2 | (with_reducible refine Kd.C_alloc ?_ _) | (with_reducible refine Kd.C_drewN ?_ _) | (with_reducible refine Kd.C_drew ?_))); (case side2 => exact (Kd.R_reads' HO403.out).2.1); (case side3 => repeat (first | exact (Kd.S_reads' HO406.out).2.2 | (with_reducible refine Kd.C_alloc ?_ _) | (with_reducible refine Kd.C_drewN ?_ _) | (with_reducible refine Kd.C_drew ?_))); (case side4 => exact (Kd.S_reads' HO406.out).2.1); rintro e w24 ⟨rfl, hb⟩; refine ⟨_, rfl, ?_⟩; replace HO396 := Aside0.mk (Kd.R_below (Hd.r_ HO396) hb); replace HO399 := Aside0.mk (Kd.S_below (by (with_reducible repeat (first | apply Kd.S_alloc | apply Kd.S_drewN | apply Kd.S_drew)); exact HO399.out) hb); replace HO403 := Aside0.mk (Kd.R_below (Hd.r_ HO403) hb); replace HO406 := Aside0.mk (Kd.S_below (by (with_reducible repeat (first | apply Kd.S_alloc | apply Kd.S_drewN | apply Kd.S_drew)); exact HO406.out) hb); replace HB := Aside0.mk (below_step Hd.b_ hb); (try clear hb); (try clear hb2); (try clear hk); (try clear hi)))
    go_ret
    exact ⟨Hd.e_, Hd.b_⟩
   ·
    rw [if_neg c14] at H
    have c14b0 : (t407 != t400) = false := by simpa using c14
    (try (have c14b1 : decide (t407 = t400) = true := by simpa using c14))
    (try (have c14b2 : (t407 == t400) = true := by simpa using c14))
    clear c14
    replace H := Option.bind_eq_some_iff.mp H
    obtain ⟨t408, A250, H⟩ := H
    replace H : ((laws_eqPointS.f k t401 t408).bind fun t411 => (if t411 = true then ((laws_toPointSS.f k l2).bind fun t412 => ((laws_eqPointSS.f k t404 t412).bind fun t415 => (if t415 = true then (some true) else (some false)))) else (some false))) = some r := H
    have A25 := Aside0.mk A250
    clear A250
    replace H := Option.bind_eq_some_iff.mp H
    obtain ⟨t411, A260, H⟩ := H
    replace H : (if t411 = true then ((laws_toPointSS.f k l2).bind fun t412 => ((laws_eqPointSS.f k t404 t412).bind fun t415 => (if t415 = true then (some true) else (some false)))) else (some false)) = some r := H
    have A26 := Aside0.mk A260
    clear A260
    by_cases c27 : t411 = true
    ·
     subst c27
     have H1 : ((laws_toPointSS.f k l2).bind fun t412 => ((laws_eqPointSS.f k t404 t412).bind fun t415 => (if t415 = true then (some true) else (some false)))) = some r := by rw [if_pos rfl] at H; exact H
     clear H
     have H := H1
     clear H1
     replace H := Option.bind_eq_some_iff.mp H
     obtain ⟨t412, A280, H⟩ := H
     replace H : ((laws_eqPointSS.f k t404 t412).bind fun t415 => (if t415 = true then (some true) else (some false))) = some r := H
     have A28 := Aside0.mk A280
     clear A280
     replace H := Option.bind_eq_some_iff.mp H
     obtain ⟨t415, A290, H⟩ := H
     replace H : (if t415 = true then (some true) else (some false)) = some r := H
     have A29 := Aside0.mk A290
     clear A290
     by_cases c30 : t415 = true
     ·
      subst c30
      have H1 : (some true) = some r := by rw [if_pos rfl] at H; exact H
      clear H
      have H := H1
      clear H1
      obtain rfl := Option.some.inj H
      go_enter Try.func8, Try.ntmps8
      go_wp2_with (first | ((with_reducible refine gate_callee (f := 15) rfl ?_); refine goesL_ (some 14) rfl rfl Try.func15 (by kernel_rfl) rfl #[.slice A0 l0.length c0, .int .i64 1048576] rfl Hd.m_ ?_; (with_reducible refine (laws_szPointS.calls _ _ l0 1048576 t392 _ ?side1 ?side2 A4.out).mono ?_); (case side1 => repeat (first | exact HR0.out | (with_reducible refine Kd.C_alloc ?_ _) | (with_reducible refine Kd.C_drewN ?_ _) | (with_reducible refine Kd.C_drew ?_))); (case side2 => exact HC0.out); rintro e w' ⟨rfl, ⟨nd, rfl⟩⟩; refine ⟨_, rfl, ?_⟩) | ((with_reducible refine gate_callee (f := 16) rfl ?_); refine goesL_ (some 19) rfl rfl Try.func16 (by kernel_rfl) rfl #[.slice A2 l2.length c2, .int .i64 t392] rfl Hd.m_ ?_; (with_reducible refine (laws_szPointSS.calls k _ _ l2 t392 t393 _ ?side1 ?side2 A6.out).mono ?_); (case side1 => repeat (first | exact HR2.out | (with_reducible refine Kd.C_alloc ?_ _) | (with_reducible refine Kd.C_drewN ?_ _) | (with_reducible refine Kd.C_drew ?_))); (case side2 => exact HC2.out); rintro e w' ⟨rfl, ⟨nd, rfl⟩⟩; refine ⟨_, rfl, ?_⟩) | ((with_reducible refine gate_callee (f := 18) rfl ?_); refine goesL_ (some 23) rfl rfl Try.func18 (by kernel_rfl) rfl #[.slice A0 l0.length c0] rfl Hd.m_ ?_; (with_reducible refine (laws_toPointS.calls k _ _ l0 t394 _ ?side1 ?side2 A8.out).mono ?_); (case side1 => repeat (first | exact HR0.out | (with_reducible refine Kd.C_alloc ?_ _) | (with_reducible refine Kd.C_drewN ?_ _) | (with_reducible refine Kd.C_drew ?_))); (case side2 => exact HC0.out); rintro e w31 ⟨v395, rfl, ho0, hb⟩; refine ⟨_, rfl, ?_⟩; have HO396 := Aside0.mk (Kd.R_lower ho0 (below_size Hd.b_)); replace HB := Aside0.mk (below_step Hd.b_ hb); (try clear hb); (try clear hb2); (try clear hk); (try clear hi); (try clear ho0)) | ((with_reducible refine gate_callee (f := 19) rfl ?_); refine goesL_ (some 26) rfl rfl Try.func19 (by kernel_rfl) rfl #[.slice A2 l2.length c2] rfl Hd.m_ ?_; (with_reducible refine (laws_toPointSS.calls k _ _ l2 t397 _ ?side1 ?side2 A9.out).mono ?_); (case side1 => repeat (first | exact (Kd.C_below HR2.out HB.out) | (with_reducible refine Kd.C_alloc ?_ _) | (with_reducible refine Kd.C_drewN ?_ _) | (with_reducible refine Kd.C_drew ?_))); (case side2 => exact HC2.out); rintro e w32 ⟨v398, rfl, ho0, hb⟩; refine ⟨_, rfl, ?_⟩; have HO399 := Aside0.mk (Kd.S_lower (Kd.S_new' ho0 (Kd.R_lt (Hd.r_ HO396))) (below_size Hd.b_)); replace HO396 := Aside0.mk (Kd.R_below (Hd.r_ HO396) hb); replace HB := Aside0.mk (below_step Hd.b_ hb); (try clear hb); (try clear hb2); (try clear hk); (try clear hi); (try clear ho0); obtain ⟨Ao33, co33, eo33⟩ := Kd.R_slice HO396.out; subst eo33; obtain ⟨Ao34, co34, eo34⟩ := Kd.S_slice HO399.out; subst eo34) | ((with_reducible refine gate_callee (f := 57) rfl ?_); refine goesL_ (some 27) rfl rfl Try.func57 (by kernel_rfl) rfl #[.slice Ao33 t394.length co33, .int .i64 a1, .slice Ao34 t397.length co34] rfl Hd.m_ ?_; (with_reducible refine (spec_CanDrop.calls k _ _ t394 a1 _ _ t397 t400 _ ?side1 ?side2 ?side3 ?side4 A10.out).mono ?_); (case side1 => repeat (first | exact (Kd.R_reads' HO396.out).2.2 | (with_reducible refine Kd.C_alloc ?_ _) | (with_reducible refine Kd.C_drewN ?_ _) | (with_reducible refine Kd.C_drew ?_))); (case side2 => exact (Kd.R_reads' HO396.out).2.1); (case side3 => repeat (first | exact (Kd.S_reads' HO399.out).2.2 | (with_reducible refine Kd.C_alloc ?_ _) | (with_reducible refine Kd.C_drewN ?_ _) | (with_reducible refine Kd.C_drew ?_))); (case side4 => exact (Kd.S_reads' HO399.out).2.1); rintro e w35 ⟨rfl, hb⟩; refine ⟨_, rfl, ?_⟩; replace HO396 := Aside0.mk (Kd.R_below (Hd.r_ HO396) hb); replace HO399 := Aside0.mk (Kd.S_below (by (with_reducible repeat (first | apply Kd.S_alloc | apply Kd.S_drewN | apply Kd.S_drew)); exact HO399.out) hb); replace HB := Aside0.mk (below_step Hd.b_ hb); (try clear hb); (try clear hb2); (try clear hk); (try clear hi)) | ((with_reducible refine gate_callee (f := 18) rfl ?_); refine goesL_ (some 29) rfl rfl Try.func18 (by kernel_rfl) rfl #[.slice A0 l0.length c0] rfl Hd.m_ ?_; (with_reducible refine (laws_toPointS.calls k _ _ l0 t401 _ ?side1 ?side2 A11.out).mono ?_); (case side1 => repeat (first | exact (Kd.C_below HR0.out HB.out) | (with_reducible refine Kd.C_alloc ?_ _) | (with_reducible refine Kd.C_drewN ?_ _) | (with_reducible refine Kd.C_drew ?_))); (case side2 => exact HC0.out); rintro e w36 ⟨v402, rfl, ho0, hb⟩; refine ⟨_, rfl, ?_⟩; replace HO399 := Aside0.mk (Kd.S_elder' (by (with_reducible repeat (first | apply Kd.S_alloc | apply Kd.S_drewN | apply Kd.S_drew)); exact HO399.out) (Kd.R_base ho0) hb); have HO403 := Aside0.mk (Kd.R_lower (Kd.R_new' ho0 (Kd.R_lt (Hd.r_ HO396))) (below_size Hd.b_)); replace HO396 := Aside0.mk (Kd.R_elder' (Hd.r_ HO396) (Kd.R_base ho0) hb); replace HB := Aside0.mk (below_step Hd.b_ hb); (try clear hb); (try clear hb2); (try clear hk); (try clear hi); (try clear ho0)) | ((with_reducible refine gate_callee (f := 19) rfl ?_); refine goesL_ (some 31) rfl rfl Try.func19 (by kernel_rfl) rfl #[.slice A2 l2.length c2] rfl Hd.m_ ?_; (with_reducible refine (laws_toPointSS.calls k _ _ l2 t404 _ ?side1 ?side2 A12.out).mono ?_); (case side1 => repeat (first | exact (Kd.C_below HR2.out HB.out) | (with_reducible refine Kd.C_alloc ?_ _) | (with_reducible refine Kd.C_drewN ?_ _) | (with_reducible refine Kd.C_drew ?_))); (case side2 => exact HC2.out); rintro e w37 ⟨v405, rfl, ho0, hb⟩; refine ⟨_, rfl, ?_⟩; have HO406 := Aside0.mk (Kd.S_lower (Kd.S_new' (Kd.S_new' (Kd.S_new' ho0 (Kd.R_lt (Hd.r_ HO396))) (Kd.S_lt (by (with_reducible repeat (first | apply Kd.S_alloc | apply Kd.S_drewN | apply Kd.S_drew)); exact HO399.out))) (Kd.R_lt (Hd.r_ HO403))) (below_size Hd.b_)); replace HO396 := Aside0.mk (Kd.R_below (Hd.r_ HO396) hb); replace HO399 := Aside0.mk (Kd.S_elder' (by (with_reducible repeat (first | apply Kd.S_alloc | apply Kd.S_drewN | apply Kd.S_drew)); exact HO399.out) (Kd.S_base ho0) hb); replace HO403 := Aside0.mk (Kd.R_below (Hd.r_ HO403) hb); replace HB := Aside0.mk (below_step Hd.b_ hb); (try clear hb); (try clear hb2); (try clear hk); (try clear hi); (try clear ho0); obtain ⟨Ao38, co38, eo38⟩ := Kd.R_slice HO403.out; subst eo38; obtain ⟨Ao39, co39, eo39⟩ := Kd.S_slice HO406.out; subst eo39) | ((with_reducible refine gate_callee (f := 38) rfl ?_); refine goesL_ (some 35) rfl rfl Try.func38 (by kernel_rfl) rfl #[.slice Ao38 t401.length co38, .int .i64 a1, .slice Ao39 t404.length co39] rfl Hd.m_ ?_; (with_reducible refine (impl_CanDrop.calls k _ _ t401 a1 _ _ t404 t407 _ ?side1 ?side2 ?side3 ?side4 A13.out).mono ?_); (case side1 => repeat (first | exact (Kd.R_reads' HO403.out).2.2 | (with_reducible refine Kd.C_alloc ?_ _) | (with_reducible refine Kd.C_drewN ?_ _) | (with_reducible refine Kd.C_drew ?_))); (case side2 => exact (Kd.R_reads' HO403.out).2.1); (case side3 => repeat (first | exact (Kd.S_reads' HO406.out).2.2 | (with_reducible refine Kd.C_alloc ?_ _) | (with_reducible refine Kd.C_drewN ?_ _) | (with_reducible refine Kd.C_drew ?_))); (case side4 => exact (Kd.S_reads' HO406.out).2.1); rintro e w40 ⟨rfl, hb⟩; refine ⟨_, rfl, ?_⟩; replace HO396 := Aside0.mk (Kd.R_below (Hd.r_ HO396) hb); replace HO399 := Aside0.mk (Kd.S_below (by (with_reducible repeat (first | apply Kd.S_alloc | apply Kd.S_drewN | apply Kd.S_drew)); exact HO399.out) hb); replace HO403 := Aside0.mk (Kd.R_below (Hd.r_ HO403) hb); replace HO406 := Aside0.mk (Kd.S_below (by (with_reducible repeat (first | apply Kd.S_alloc | apply Kd.S_drewN | apply Kd.S_drew)); exact HO406.out) hb); replace HB := Aside0.mk (below_step Hd.b_ hb); (try clear hb); (try clear hb2); (try clear hk); (try clear hi)) | ((with_reducible refine gate_callee (f := 18) rfl ?_); refine goesL_ (some 41) rfl rfl Try.func18 (by kernel_rfl) rfl #[.slice A0 l0.length c0] rfl Hd.m_ ?_; (with_reducible refine (laws_toPointS.calls k _ _ l0 t408 _ ?side1 ?side2 A25.out).mono ?_); (case side1 => repeat (first | exact (Kd.C_below HR0.out HB.out) | (with_reducible refine Kd.C_alloc ?_ _) | (with_reducible refine Kd.C_drewN ?_ _) | (with_reducible refine Kd.C_drew ?_))); (case side2 => exact HC0.out); rintro e w41 ⟨v409, rfl, ho0, hb⟩; refine ⟨_, rfl, ?_⟩; replace HO399 := Aside0.mk (Kd.S_elder' (by (with_reducible repeat (first | apply Kd.S_alloc | apply Kd.S_drewN | apply Kd.S_drew)); exact HO399.out) (Kd.R_base ho0) hb); replace HO406 := Aside0.mk (Kd.S_elder' (by (with_reducible repeat (first | apply Kd.S_alloc | apply Kd.S_drewN | apply Kd.S_drew)); exact HO406.out) (Kd.R_base ho0) hb); have HO410 := Aside0.mk (Kd.R_lower (Kd.R_new' (Kd.R_new' ho0 (Kd.R_lt (Hd.r_ HO396))) (Kd.R_lt (Hd.r_ HO403))) (below_size Hd.b_)); replace HO396 := Aside0.mk (Kd.R_elder' (Hd.r_ HO396) (Kd.R_base ho0) hb); replace HO403 := Aside0.mk (Kd.R_elder' (Hd.r_ HO403) (Kd.R_base ho0) hb); replace HB := Aside0.mk (below_step Hd.b_ hb); (try clear hb); (try clear hb2); (try clear hk); (try clear hi); (try clear ho0); obtain ⟨Ao42, co42, eo42⟩ := Kd.R_slice HO410.out; subst eo42) | ((with_reducible refine gate_callee (f := 22) rfl ?_); refine goesL_ (some 42) rfl rfl Try.func22 (by kernel_rfl) rfl #[.slice Ao38 t401.length co38, .slice Ao42 t408.length co42] rfl Hd.m_ ?_; (with_reducible refine (laws_eqPointS.calls k _ _ t401 _ _ t408 true _ ?side1 ?side2 ?side3 ?side4 A26.out).mono ?_); (case side1 => repeat (first | exact (Kd.R_reads' HO403.out).2.2 | (with_reducible refine Kd.C_alloc ?_ _) | (with_reducible refine Kd.C_drewN ?_ _) | (with_reducible refine Kd.C_drew ?_))); (case side2 => exact (Kd.R_reads' HO403.out).2.1); (case side3 => repeat (first | exact (Kd.R_reads' HO410.out).2.2 | (with_reducible refine Kd.C_alloc ?_ _) | (with_reducible refine Kd.C_drewN ?_ _) | (with_reducible refine Kd.C_drew ?_))); (case side4 => exact (Kd.R_reads' HO410.out).2.1); rintro e w43 ⟨rfl, hb⟩; refine ⟨_, rfl, ?_⟩; replace HO396 := Aside0.mk (Kd.R_below (Hd.r_ HO396) hb); replace HO399 := Aside0.mk (Kd.S_below (by (with_reducible repeat (first | apply Kd.S_alloc | apply Kd.S_drewN | apply Kd.S_drew)); exact HO399.out) hb); replace HO403 := Aside0.mk (Kd.R_below (Hd.r_ HO403) hb); replace HO406 := Aside0.mk (Kd.S_below (by (with_reducible repeat (first | apply Kd.S_alloc | apply Kd.S_drewN | apply Kd.S_drew)); exact HO406.out) hb); replace HO410 := Aside0.mk (Kd.R_below (Hd.r_ HO410) hb); replace HB := Aside0.mk (below_step Hd.b_ hb); (try clear hb); (try clear hb2); (try clear hk); (try clear hi)) | ((with_reducible refine gate_callee (f := 19) rfl ?_); refine goesL_ (some 46) rfl rfl Try.func19 (by kernel_rfl) rfl #[.slice A2 l2.length c2] rfl Hd.m_ ?_; (with_reducible refine (laws_toPointSS.calls k _ _ l2 t412 _ ?side1 ?side2 A28.out).mono ?_); (case side1 => repeat (first | exact (Kd.C_below HR2.out HB.out) | (with_reducible refine Kd.C_alloc ?_ _) | (with_reducible refine Kd.C_drewN ?_ _) | (with_reducible refine Kd.C_drew ?_))); (case side2 => exact HC2.out); rintro e w44 ⟨v413, rfl, ho0, hb⟩; refine ⟨_, rfl, ?_⟩; have HO414 := Aside0.mk (Kd.S_lower (Kd.S_new' (Kd.S_new' (Kd.S_new' (Kd.S_new' (Kd.S_new' ho0 (Kd.R_lt (Hd.r_ HO396))) (Kd.S_lt (by (with_reducible repeat (first | apply Kd.S_alloc | apply Kd.S_drewN | apply Kd.S_drew)); exact HO399.out))) (Kd.R_lt (Hd.r_ HO403))) (Kd.S_lt (by (with_reducible repeat (first | apply Kd.S_alloc | apply Kd.S_drewN | apply Kd.S_drew)); exact HO406.out))) (Kd.R_lt (Hd.r_ HO410))) (below_size Hd.b_)); replace HO396 := Aside0.mk (Kd.R_below (Hd.r_ HO396) hb); replace HO399 := Aside0.mk (Kd.S_elder' (by (with_reducible repeat (first | apply Kd.S_alloc | apply Kd.S_drewN | apply Kd.S_drew)); exact HO399.out) (Kd.S_base ho0) hb); replace HO403 := Aside0.mk (Kd.R_below (Hd.r_ HO403) hb); replace HO406 := Aside0.mk (Kd.S_elder' (by (with_reducible repeat (first | apply Kd.S_alloc | apply Kd.S_drewN | apply Kd.S_drew)); exact HO406.out) (Kd.S_base ho0) hb); replace HO410 := Aside0.mk (Kd.R_below (Hd.r_ HO410) hb); replace HB := Aside0.mk (below_step Hd.b_ hb); (try clear hb); (try clear hb2); (try clear hk); (try clear hi); (try clear ho0); obtain ⟨Ao45, co45, eo45⟩ := Kd.S_slice HO414.out; subst eo45) | ((with_reducible refine gate_callee (f := 23) rfl ?_); refine goesL_ (some 47) rfl rfl Try.func23 (by kernel_rfl) rfl #[.slice Ao39 t404.length co39, .slice Ao45 t412.length co45] rfl Hd.m_ ?_; (with_reducible refine (laws_eqPointSS.calls k _ _ t404 _ _ t412 true _ ?side1 ?side2 ?side3 ?side4 A29.out).mono ?_); (case side1 => repeat (first | exact (Kd.S_reads' HO406.out).2.2 | (with_reducible refine Kd.C_alloc ?_ _) | (with_reducible refine Kd.C_drewN ?_ _) | (with_reducible refine Kd.C_drew ?_))); (case side2 => exact (Kd.S_reads' HO406.out).2.1); (case side3 => repeat (first | exact (Kd.S_reads' HO414.out).2.2 | (with_reducible refine Kd.C_alloc ?_ _) | (with_reducible refine Kd.C_drewN ?_ _) | (with_reducible refine Kd.C_drew ?_))); (case side4 => exact (Kd.S_reads' HO414.out).2.1); rintro e w46 ⟨rfl, hb⟩; refine ⟨_, rfl, ?_⟩; replace HO396 := Aside0.mk (Kd.R_below (Hd.r_ HO396) hb); replace HO399 := Aside0.mk (Kd.S_below (by (with_reducible repeat (first | apply Kd.S_alloc | apply Kd.S_drewN | apply Kd.S_drew)); exact HO399.out) hb); replace HO403 := Aside0.mk (Kd.R_below (Hd.r_ HO403) hb); replace HO406 := Aside0.mk (Kd.S_below (by (with_reducible repeat (first | apply Kd.S_alloc | apply Kd.S_drewN | apply Kd.S_drew)); exact HO406.out) hb); replace HO410 := Aside0.mk (Kd.R_below (Hd.r_ HO410) hb); replace HO414 := Aside0.mk (Kd.S_below (by (with_reducible repeat (first | apply Kd.S_alloc | apply Kd.S_drewN | apply Kd.S_drew)); exact HO414.out) hb); replace HB := Aside0.mk (below_step Hd.b_ hb); (try clear hb); (try clear hb2); (try clear hk); (try clear hi)))
      go_ret
      exact ⟨Hd.e_, Hd.b_⟩
     ·
      replace c30 := Bool.eq_false_iff.mpr c30
      subst c30
      have H1 : (some false) = some r := by rw [if_neg (show ¬ (false = true) by decide)] at H; exact H
      clear H
      have H := H1
      clear H1
      obtain rfl := Option.some.inj H
      go_enter Try.func8, Try.ntmps8
      go_wp2_with (first | ((with_reducible refine gate_callee (f := 15) rfl ?_); refine goesL_ (some 14) rfl rfl Try.func15 (by kernel_rfl) rfl #[.slice A0 l0.length c0, .int .i64 1048576] rfl Hd.m_ ?_; (with_reducible refine (laws_szPointS.calls _ _ l0 1048576 t392 _ ?side1 ?side2 A4.out).mono ?_); (case side1 => repeat (first | exact HR0.out | (with_reducible refine Kd.C_alloc ?_ _) | (with_reducible refine Kd.C_drewN ?_ _) | (with_reducible refine Kd.C_drew ?_))); (case side2 => exact HC0.out); rintro e w' ⟨rfl, ⟨nd, rfl⟩⟩; refine ⟨_, rfl, ?_⟩) | ((with_reducible refine gate_callee (f := 16) rfl ?_); refine goesL_ (some 19) rfl rfl Try.func16 (by kernel_rfl) rfl #[.slice A2 l2.length c2, .int .i64 t392] rfl Hd.m_ ?_; (with_reducible refine (laws_szPointSS.calls k _ _ l2 t392 t393 _ ?side1 ?side2 A6.out).mono ?_); (case side1 => repeat (first | exact HR2.out | (with_reducible refine Kd.C_alloc ?_ _) | (with_reducible refine Kd.C_drewN ?_ _) | (with_reducible refine Kd.C_drew ?_))); (case side2 => exact HC2.out); rintro e w' ⟨rfl, ⟨nd, rfl⟩⟩; refine ⟨_, rfl, ?_⟩) | ((with_reducible refine gate_callee (f := 18) rfl ?_); refine goesL_ (some 23) rfl rfl Try.func18 (by kernel_rfl) rfl #[.slice A0 l0.length c0] rfl Hd.m_ ?_; (with_reducible refine (laws_toPointS.calls k _ _ l0 t394 _ ?side1 ?side2 A8.out).mono ?_); (case side1 => repeat (first | exact HR0.out | (with_reducible refine Kd.C_alloc ?_ _) | (with_reducible refine Kd.C_drewN ?_ _) | (with_reducible refine Kd.C_drew ?_))); (case side2 => exact HC0.out); rintro e w47 ⟨v395, rfl, ho0, hb⟩; refine ⟨_, rfl, ?_⟩; have HO396 := Aside0.mk (Kd.R_lower ho0 (below_size Hd.b_)); replace HB := Aside0.mk (below_step Hd.b_ hb); (try clear hb); (try clear hb2); (try clear hk); (try clear hi); (try clear ho0)) | ((with_reducible refine gate_callee (f := 19) rfl ?_); refine goesL_ (some 26) rfl rfl Try.func19 (by kernel_rfl) rfl #[.slice A2 l2.length c2] rfl Hd.m_ ?_; (with_reducible refine (laws_toPointSS.calls k _ _ l2 t397 _ ?side1 ?side2 A9.out).mono ?_); (case side1 => repeat (first | exact (Kd.C_below HR2.out HB.out) | (with_reducible refine Kd.C_alloc ?_ _) | (with_reducible refine Kd.C_drewN ?_ _) | (with_reducible refine Kd.C_drew ?_))); (case side2 => exact HC2.out); rintro e w48 ⟨v398, rfl, ho0, hb⟩; refine ⟨_, rfl, ?_⟩; have HO399 := Aside0.mk (Kd.S_lower (Kd.S_new' ho0 (Kd.R_lt (Hd.r_ HO396))) (below_size Hd.b_)); replace HO396 := Aside0.mk (Kd.R_below (Hd.r_ HO396) hb); replace HB := Aside0.mk (below_step Hd.b_ hb); (try clear hb); (try clear hb2); (try clear hk); (try clear hi); (try clear ho0); obtain ⟨Ao49, co49, eo49⟩ := Kd.R_slice HO396.out; subst eo49; obtain ⟨Ao50, co50, eo50⟩ := Kd.S_slice HO399.out; subst eo50) | ((with_reducible refine gate_callee (f := 57) rfl ?_); refine goesL_ (some 27) rfl rfl Try.func57 (by kernel_rfl) rfl #[.slice Ao49 t394.length co49, .int .i64 a1, .slice Ao50 t397.length co50] rfl Hd.m_ ?_; (with_reducible refine (spec_CanDrop.calls k _ _ t394 a1 _ _ t397 t400 _ ?side1 ?side2 ?side3 ?side4 A10.out).mono ?_); (case side1 => repeat (first | exact (Kd.R_reads' HO396.out).2.2 | (with_reducible refine Kd.C_alloc ?_ _) | (with_reducible refine Kd.C_drewN ?_ _) | (with_reducible refine Kd.C_drew ?_))); (case side2 => exact (Kd.R_reads' HO396.out).2.1); (case side3 => repeat (first | exact (Kd.S_reads' HO399.out).2.2 | (with_reducible refine Kd.C_alloc ?_ _) | (with_reducible refine Kd.C_drewN ?_ _) | (with_reducible refine Kd.C_drew ?_))); (case side4 => exact (Kd.S_reads' HO399.out).2.1); rintro e w51 ⟨rfl, hb⟩; refine ⟨_, rfl, ?_⟩; replace HO396 := Aside0.mk (Kd.R_below (Hd.r_ HO396) hb); replace HO399 := Aside0.mk (Kd.S_below (by (with_reducible repeat (first | apply Kd.S_alloc | apply Kd.S_drewN | apply Kd.S_drew)); exact HO399.out) hb); replace HB := Aside0.mk (below_step Hd.b_ hb); (try clear hb); (try clear hb2); (try clear hk); (try clear hi)) | ((with_reducible refine gate_callee (f := 18) rfl ?_); refine goesL_ (some 29) rfl rfl Try.func18 (by kernel_rfl) rfl #[.slice A0 l0.length c0] rfl Hd.m_ ?_; (with_reducible refine (laws_toPointS.calls k _ _ l0 t401 _ ?side1 ?side2 A11.out).mono ?_); (case side1 => repeat (first | exact (Kd.C_below HR0.out HB.out) | (with_reducible refine Kd.C_alloc ?_ _) | (with_reducible refine Kd.C_drewN ?_ _) | (with_reducible refine Kd.C_drew ?_))); (case side2 => exact HC0.out); rintro e w52 ⟨v402, rfl, ho0, hb⟩; refine ⟨_, rfl, ?_⟩; replace HO399 := Aside0.mk (Kd.S_elder' (by (with_reducible repeat (first | apply Kd.S_alloc | apply Kd.S_drewN | apply Kd.S_drew)); exact HO399.out) (Kd.R_base ho0) hb); have HO403 := Aside0.mk (Kd.R_lower (Kd.R_new' ho0 (Kd.R_lt (Hd.r_ HO396))) (below_size Hd.b_)); replace HO396 := Aside0.mk (Kd.R_elder' (Hd.r_ HO396) (Kd.R_base ho0) hb); replace HB := Aside0.mk (below_step Hd.b_ hb); (try clear hb); (try clear hb2); (try clear hk); (try clear hi); (try clear ho0)) | ((with_reducible refine gate_callee (f := 19) rfl ?_); refine goesL_ (some 31) rfl rfl Try.func19 (by kernel_rfl) rfl #[.slice A2 l2.length c2] rfl Hd.m_ ?_; (with_reducible refine (laws_toPointSS.calls k _ _ l2 t404 _ ?side1 ?side2 A12.out).mono ?_); (case side1 => repeat (first | exact (Kd.C_below HR2.out HB.out) | (with_reducible refine Kd.C_alloc ?_ _) | (with_reducible refine Kd.C_drewN ?_ _) | (with_reducible refine Kd.C_drew ?_))); (case side2 => exact HC2.out); rintro e w53 ⟨v405, rfl, ho0, hb⟩; refine ⟨_, rfl, ?_⟩; have HO406 := Aside0.mk (Kd.S_lower (Kd.S_new' (Kd.S_new' (Kd.S_new' ho0 (Kd.R_lt (Hd.r_ HO396))) (Kd.S_lt (by (with_reducible repeat (first | apply Kd.S_alloc | apply Kd.S_drewN | apply Kd.S_drew)); exact HO399.out))) (Kd.R_lt (Hd.r_ HO403))) (below_size Hd.b_)); replace HO396 := Aside0.mk (Kd.R_below (Hd.r_ HO396) hb); replace HO399 := Aside0.mk (Kd.S_elder' (by (with_reducible repeat (first | apply Kd.S_alloc | apply Kd.S_drewN | apply Kd.S_drew)); exact HO399.out) (Kd.S_base ho0) hb); replace HO403 := Aside0.mk (Kd.R_below (Hd.r_ HO403) hb); replace HB := Aside0.mk (below_step Hd.b_ hb); (try clear hb); (try clear hb2); (try clear hk); (try clear hi); (try clear ho0); obtain ⟨Ao54, co54, eo54⟩ := Kd.R_slice HO403.out; subst eo54; obtain ⟨Ao55, co55, eo55⟩ := Kd.S_slice HO406.out; subst eo55) | ((with_reducible refine gate_callee (f := 38) rfl ?_); refine goesL_ (some 35) rfl rfl Try.func38 (by kernel_rfl) rfl #[.slice Ao54 t401.length co54, .int .i64 a1, .slice Ao55 t404.length co55] rfl Hd.m_ ?_; (with_reducible refine (impl_CanDrop.calls k _ _ t401 a1 _ _ t404 t407 _ ?side1 ?side2 ?side3 ?side4 A13.out).mono ?_); (case side1 => repeat (first | exact (Kd.R_reads' HO403.out).2.2 | (with_reducible refine Kd.C_alloc ?_ _) | (with_reducible refine Kd.C_drewN ?_ _) | (with_reducible refine Kd.C_drew ?_))); (case side2 => exact (Kd.R_reads' HO403.out).2.1); (case side3 => repeat (first | exact (Kd.S_reads' HO406.out).2.2 | (with_reducible refine Kd.C_alloc ?_ _) | (with_reducible refine Kd.C_drewN ?_ _) | (with_reducible refine Kd.C_drew ?_))); (case side4 => exact (Kd.S_reads' HO406.out).2.1); rintro e w56 ⟨rfl, hb⟩; refine ⟨_, rfl, ?_⟩; replace HO396 := Aside0.mk (Kd.R_below (Hd.r_ HO396) hb); replace HO399 := Aside0.mk (Kd.S_below (by (with_reducible repeat (first | apply Kd.S_alloc | apply Kd.S_drewN | apply Kd.S_drew)); exact HO399.out) hb); replace HO403 := Aside0.mk (Kd.R_below (Hd.r_ HO403) hb); replace HO406 := Aside0.mk (Kd.S_below (by (with_reducible repeat (first | apply Kd.S_alloc | apply Kd.S_drewN | apply Kd.S_drew)); exact HO406.out) hb); replace HB := Aside0.mk (below_step Hd.b_ hb); (try clear hb); (try clear hb2); (try clear hk); (try clear hi)) | ((with_reducible refine gate_callee (f := 18) rfl ?_); refine goesL_ (some 41) rfl rfl Try.func18 (by kernel_rfl) rfl #[.slice A0 l0.length c0] rfl Hd.m_ ?_; (with_reducible refine (laws_toPointS.calls k _ _ l0 t408 _ ?side1 ?side2 A25.out).mono ?_); (case side1 => repeat (first | exact (Kd.C_below HR0.out HB.out) | (with_reducible refine Kd.C_alloc ?_ _) | (with_reducible refine Kd.C_drewN ?_ _) | (with_reducible refine Kd.C_drew ?_))); (case side2 => exact HC0.out); rintro e w57 ⟨v409, rfl, ho0, hb⟩; refine ⟨_, rfl, ?_⟩; replace HO399 := Aside0.mk (Kd.S_elder' (by (with_reducible repeat (first | apply Kd.S_alloc | apply Kd.S_drewN | apply Kd.S_drew)); exact HO399.out) (Kd.R_base ho0) hb); replace HO406 := Aside0.mk (Kd.S_elder' (by (with_reducible repeat (first | apply Kd.S_alloc | apply Kd.S_drewN | apply Kd.S_drew)); exact HO406.out) (Kd.R_base ho0) hb); have HO410 := Aside0.mk (Kd.R_lower (Kd.R_new' (Kd.R_new' ho0 (Kd.R_lt (Hd.r_ HO396))) (Kd.R_lt (Hd.r_ HO403))) (below_size Hd.b_)); replace HO396 := Aside0.mk (Kd.R_elder' (Hd.r_ HO396) (Kd.R_base ho0) hb); replace HO403 := Aside0.mk (Kd.R_elder' (Hd.r_ HO403) (Kd.R_base ho0) hb); replace HB := Aside0.mk (below_step Hd.b_ hb); (try clear hb); (try clear hb2); (try clear hk); (try clear hi); (try clear ho0); obtain ⟨Ao58, co58, eo58⟩ := Kd.R_slice HO410.out; subst eo58) | ((with_reducible refine gate_callee (f := 22) rfl ?_); refine goesL_ (some 42) rfl rfl Try.func22 (by kernel_rfl) rfl #[.slice Ao54 t401.length co54, .slice Ao58 t408.length co58] rfl Hd.m_ ?_; (with_reducible refine (laws_eqPointS.calls k _ _ t401 _ _ t408 true _ ?side1 ?side2 ?side3 ?side4 A26.out).mono ?_); (case side1 => repeat (first | exact (Kd.R_reads' HO403.out).2.2 | (with_reducible refine Kd.C_alloc ?_ _) | (with_reducible refine Kd.C_drewN ?_ _) | (with_reducible refine Kd.C_drew ?_))); (case side2 => exact (Kd.R_reads' HO403.out).2.1); (case side3 => repeat (first | exact (Kd.R_reads' HO410.out).2.2 | (with_reducible refine Kd.C_alloc ?_ _) | (with_reducible refine Kd.C_drewN ?_ _) | (with_reducible refine Kd.C_drew ?_))); (case side4 => exact (Kd.R_reads' HO410.out).2.1); rintro e w59 ⟨rfl, hb⟩; refine ⟨_, rfl, ?_⟩; replace HO396 := Aside0.mk (Kd.R_below (Hd.r_ HO396) hb); replace HO399 := Aside0.mk (Kd.S_below (by (with_reducible repeat (first | apply Kd.S_alloc | apply Kd.S_drewN | apply Kd.S_drew)); exact HO399.out) hb); replace HO403 := Aside0.mk (Kd.R_below (Hd.r_ HO403) hb); replace HO406 := Aside0.mk (Kd.S_below (by (with_reducible repeat (first | apply Kd.S_alloc | apply Kd.S_drewN | apply Kd.S_drew)); exact HO406.out) hb); replace HO410 := Aside0.mk (Kd.R_below (Hd.r_ HO410) hb); replace HB := Aside0.mk (below_step Hd.b_ hb); (try clear hb); (try clear hb2); (try clear hk); (try clear hi)) | ((with_reducible refine gate_callee (f := 19) rfl ?_); refine goesL_ (some 46) rfl rfl Try.func19 (by kernel_rfl) rfl #[.slice A2 l2.length c2] rfl Hd.m_ ?_; (with_reducible refine (laws_toPointSS.calls k _ _ l2 t412 _ ?side1 ?side2 A28.out).mono ?_); (case side1 => repeat (first | exact (Kd.C_below HR2.out HB.out) | (with_reducible refine Kd.C_alloc ?_ _) | (with_reducible refine Kd.C_drewN ?_ _) | (with_reducible refine Kd.C_drew ?_))); (case side2 => exact HC2.out); rintro e w60 ⟨v413, rfl, ho0, hb⟩; refine ⟨_, rfl, ?_⟩; have HO414 := Aside0.mk (Kd.S_lower (Kd.S_new' (Kd.S_new' (Kd.S_new' (Kd.S_new' (Kd.S_new' ho0 (Kd.R_lt (Hd.r_ HO396))) (Kd.S_lt (by (with_reducible repeat (first | apply Kd.S_alloc | apply Kd.S_drewN | apply Kd.S_drew)); exact HO399.out))) (Kd.R_lt (Hd.r_ HO403))) (Kd.S_lt (by (with_reducible repeat (first | apply Kd.S_alloc | apply Kd.S_drewN | apply Kd.S_drew)); exact HO406.out))) (Kd.R_lt (Hd.r_ HO410))) (below_size Hd.b_)); replace HO396 := Aside0.mk (Kd.R_below (Hd.r_ HO396) hb); replace HO399 := Aside0.mk (Kd.S_elder' (by (with_reducible repeat (first | apply Kd.S_alloc | apply Kd.S_drewN | apply Kd.S_drew)); exact HO399.out) (Kd.S_base ho0) hb); replace HO403 := Aside0.mk (Kd.R_below (Hd.r_ HO403) hb); replace HO406 := Aside0.mk (Kd.S_elder' (by (with_reducible repeat (first | apply Kd.S_alloc | apply Kd.S_drewN | apply Kd.S_drew)); exact HO406.out) (Kd.S_base ho0) hb); replace HO410 := Aside0.mk (Kd.R_below (Hd.r_ HO410) hb); replace HB := Aside0.mk (below_step Hd.b_ hb); (try clear hb); (try clear hb2); (try clear hk); (try clear hi); (try clear ho0); obtain ⟨Ao61, co61, eo61⟩ := Kd.S_slice HO414.out; subst eo61) | ((with_reducible refine gate_callee (f := 23) rfl ?_); refine goesL_ (some 47) rfl rfl Try.func23 (by kernel_rfl) rfl #[.slice Ao55 t404.length co55, .slice Ao61 t412.length co61] rfl Hd.m_ ?_; (with_reducible refine (laws_eqPointSS.calls k _ _ t404 _ _ t412 false _ ?side1 ?side2 ?side3 ?side4 A29.out).mono ?_); (case side1 => repeat (first | exact (Kd.S_reads' HO406.out).2.2 | (with_reducible refine Kd.C_alloc ?_ _) | (with_reducible refine Kd.C_drewN ?_ _) | (with_reducible refine Kd.C_drew ?_))); (case side2 => exact (Kd.S_reads' HO406.out).2.1); (case side3 => repeat (first | exact (Kd.S_reads' HO414.out).2.2 | (with_reducible refine Kd.C_alloc ?_ _) | (with_reducible refine Kd.C_drewN ?_ _) | (with_reducible refine Kd.C_drew ?_))); (case side4 => exact (Kd.S_reads' HO414.out).2.1); rintro e w62 ⟨rfl, hb⟩; refine ⟨_, rfl, ?_⟩; replace HO396 := Aside0.mk (Kd.R_below (Hd.r_ HO396) hb); replace HO399 := Aside0.mk (Kd.S_below (by (with_reducible repeat (first | apply Kd.S_alloc | apply Kd.S_drewN | apply Kd.S_drew)); exact HO399.out) hb); replace HO403 := Aside0.mk (Kd.R_below (Hd.r_ HO403) hb); replace HO406 := Aside0.mk (Kd.S_below (by (with_reducible repeat (first | apply Kd.S_alloc | apply Kd.S_drewN | apply Kd.S_drew)); exact HO406.out) hb); replace HO410 := Aside0.mk (Kd.R_below (Hd.r_ HO410) hb); replace HO414 := Aside0.mk (Kd.S_below (by (with_reducible repeat (first | apply Kd.S_alloc | apply Kd.S_drewN | apply Kd.S_drew)); exact HO414.out) hb); replace HB := Aside0.mk (below_step Hd.b_ hb); (try clear hb); (try clear hb2); (try clear hk); (try clear hi)))
      go_ret
      exact ⟨Hd.e_, Hd.b_⟩
    ·
     replace c27 := Bool.eq_false_iff.mpr c27
     subst c27
     have H1 : (some false) = some r := by rw [if_neg (show ¬ (false = true) by decide)] at H; exact H
     clear H
     have H := H1
     clear H1
     obtain rfl := Option.some.inj H
     go_enter Try.func8, Try.ntmps8
     go_wp2_with (first | ((with_reducible refine gate_callee (f := 15) rfl ?_); refine goesL_ (some 14) rfl rfl Try.func15 (by kernel_rfl) rfl #[.slice A0 l0.length c0, .int .i64 1048576] rfl Hd.m_ ?_; (with_reducible refine (laws_szPointS.calls _ _ l0 1048576 t392 _ ?side1 ?side2 A4.out).mono ?_); (case side1 => repeat (first | exact HR0.out | (with_reducible refine Kd.C_alloc ?_ _) | (with_reducible refine Kd.C_drewN ?_ _) | (with_reducible refine Kd.C_drew ?_))); (case side2 => exact HC0.out); rintro e w' ⟨rfl, ⟨nd, rfl⟩⟩; refine ⟨_, rfl, ?_⟩) | ((with_reducible refine gate_callee (f := 16) rfl ?_); refine goesL_ (some 19) rfl rfl Try.func16 (by kernel_rfl) rfl #[.slice A2 l2.length c2, .int .i64 t392] rfl Hd.m_ ?_; (with_reducible refine (laws_szPointSS.calls k _ _ l2 t392 t393 _ ?side1 ?side2 A6.out).mono ?_); (case side1 => repeat (first | exact HR2.out | (with_reducible refine Kd.C_alloc ?_ _) | (with_reducible refine Kd.C_drewN ?_ _) | (with_reducible refine Kd.C_drew ?_))); (case side2 => exact HC2.out); rintro e w' ⟨rfl, ⟨nd, rfl⟩⟩; refine ⟨_, rfl, ?_⟩) | ((with_reducible refine gate_callee (f := 18) rfl ?_); refine goesL_ (some 23) rfl rfl Try.func18 (by kernel_rfl) rfl #[.slice A0 l0.length c0] rfl Hd.m_ ?_; (with_reducible refine (laws_toPointS.calls k _ _ l0 t394 _ ?side1 ?side2 A8.out).mono ?_); (case side1 => repeat (first | exact HR0.out | (with_reducible refine Kd.C_alloc ?_ _) | (with_reducible refine Kd.C_drewN ?_ _) | (with_reducible refine Kd.C_drew ?_))); (case side2 => exact HC0.out); rintro e w63 ⟨v395, rfl, ho0, hb⟩; refine ⟨_, rfl, ?_⟩; have HO396 := Aside0.mk (Kd.R_lower ho0 (below_size Hd.b_)); replace HB := Aside0.mk (below_step Hd.b_ hb); (try clear hb); (try clear hb2); (try clear hk); (try clear hi); (try clear ho0)) | ((with_reducible refine gate_callee (f := 19) rfl ?_); refine goesL_ (some 26) rfl rfl Try.func19 (by kernel_rfl) rfl #[.slice A2 l2.length c2] rfl Hd.m_ ?_; (with_reducible refine (laws_toPointSS.calls k _ _ l2 t397 _ ?side1 ?side2 A9.out).mono ?_); (case side1 => repeat (first | exact (Kd.C_below HR2.out HB.out) | (with_reducible refine Kd.C_alloc ?_ _) | (with_reducible refine Kd.C_drewN ?_ _) | (with_reducible refine Kd.C_drew ?_))); (case side2 => exact HC2.out); rintro e w64 ⟨v398, rfl, ho0, hb⟩; refine ⟨_, rfl, ?_⟩; have HO399 := Aside0.mk (Kd.S_lower (Kd.S_new' ho0 (Kd.R_lt (Hd.r_ HO396))) (below_size Hd.b_)); replace HO396 := Aside0.mk (Kd.R_below (Hd.r_ HO396) hb); replace HB := Aside0.mk (below_step Hd.b_ hb); (try clear hb); (try clear hb2); (try clear hk); (try clear hi); (try clear ho0); obtain ⟨Ao65, co65, eo65⟩ := Kd.R_slice HO396.out; subst eo65; obtain ⟨Ao66, co66, eo66⟩ := Kd.S_slice HO399.out; subst eo66) | ((with_reducible refine gate_callee (f := 57) rfl ?_); refine goesL_ (some 27) rfl rfl Try.func57 (by kernel_rfl) rfl #[.slice Ao65 t394.length co65, .int .i64 a1, .slice Ao66 t397.length co66] rfl Hd.m_ ?_; (with_reducible refine (spec_CanDrop.calls k _ _ t394 a1 _ _ t397 t400 _ ?side1 ?side2 ?side3 ?side4 A10.out).mono ?_); (case side1 => repeat (first | exact (Kd.R_reads' HO396.out).2.2 | (with_reducible refine Kd.C_alloc ?_ _) | (with_reducible refine Kd.C_drewN ?_ _) | (with_reducible refine Kd.C_drew ?_))); (case side2 => exact (Kd.R_reads' HO396.out).2.1); (case side3 => repeat (first | exact (Kd.S_reads' HO399.out).2.2 | (with_reducible refine Kd.C_alloc ?_ _) | (with_reducible refine Kd.C_drewN ?_ _) | (with_reducible refine Kd.C_drew ?_))); (case side4 => exact (Kd.S_reads' HO399.out).2.1); rintro e w67 ⟨rfl, hb⟩; refine ⟨_, rfl, ?_⟩; replace HO396 := Aside0.mk (Kd.R_below (Hd.r_ HO396) hb); replace HO399 := Aside0.mk (Kd.S_below (by (with_reducible repeat (first | apply Kd.S_alloc | apply Kd.S_drewN | apply Kd.S_drew)); exact HO399.out) hb); replace HB := Aside0.mk (below_step Hd.b_ hb); (try clear hb); (try clear hb2); (try clear hk); (try clear hi)) | ((with_reducible refine gate_callee (f := 18) rfl ?_); refine goesL_ (some 29) rfl rfl Try.func18 (by kernel_rfl) rfl #[.slice A0 l0.length c0] rfl Hd.m_ ?_; (with_reducible refine (laws_toPointS.calls k _ _ l0 t401 _ ?side1 ?side2 A11.out).mono ?_); (case side1 => repeat (first | exact (Kd.C_below HR0.out HB.out) | (with_reducible refine Kd.C_alloc ?_ _) | (with_reducible refine Kd.C_drewN ?_ _) | (with_reducible refine Kd.C_drew ?_))); (case side2 => exact HC0.out); rintro e w68 ⟨v402, rfl, ho0, hb⟩; refine ⟨_, rfl, ?_⟩; replace HO399 := Aside0.mk (Kd.S_elder' (by (with_reducible repeat (first | apply Kd.S_alloc | apply Kd.S_drewN | apply Kd.S_drew)); exact HO399.out) (Kd.R_base ho0) hb); have HO403 := Aside0.mk (Kd.R_lower (Kd.R_new' ho0 (Kd.R_lt (Hd.r_ HO396))) (below_size Hd.b_)); replace HO396 := Aside0.mk (Kd.R_elder' (Hd.r_ HO396) (Kd.R_base ho0) hb); replace HB := Aside0.mk (below_step Hd.b_ hb); (try clear hb); (try clear hb2); (try clear hk); (try clear hi); (try clear ho0)) | ((with_reducible refine gate_callee (f := 19) rfl ?_); refine goesL_ (some 31) rfl rfl Try.func19 (by kernel_rfl) rfl #[.slice A2 l2.length c2] rfl Hd.m_ ?_; (with_reducible refine (laws_toPointSS.calls k _ _ l2 t404 _ ?side1 ?side2 A12.out).mono ?_); (case side1 => repeat (first | exact (Kd.C_below HR2.out HB.out) | (with_reducible refine Kd.C_alloc ?_ _) | (with_reducible refine Kd.C_drewN ?_ _) | (with_reducible refine Kd.C_drew ?_))); (case side2 => exact HC2.out); rintro e w69 ⟨v405, rfl, ho0, hb⟩; refine ⟨_, rfl, ?_⟩; have HO406 := Aside0.mk (Kd.S_lower (Kd.S_new' (Kd.S_new' (Kd.S_new' ho0 (Kd.R_lt (Hd.r_ HO396))) (Kd.S_lt (by (with_reducible repeat (first | apply Kd.S_alloc | apply Kd.S_drewN | apply Kd.S_drew)); exact HO399.out))) (Kd.R_lt (Hd.r_ HO403))) (below_size Hd.b_)); replace HO396 := Aside0.mk (Kd.R_below (Hd.r_ HO396) hb); replace HO399 := Aside0.mk (Kd.S_elder' (by (with_reducible repeat (first | apply Kd.S_alloc | apply Kd.S_drewN | apply Kd.S_drew)); exact HO399.out) (Kd.S_base ho0) hb); replace HO403 := Aside0.mk (Kd.R_below (Hd.r_ HO403) hb); replace HB := Aside0.mk (below_step Hd.b_ hb); (try clear hb); (try clear hb2); (try clear hk); (try clear hi); (try clear ho0); obtain ⟨Ao70, co70, eo70⟩ := Kd.R_slice HO403.out; subst eo70; obtain ⟨Ao71, co71, eo71⟩ := Kd.S_slice HO406.out; subst eo71) | ((with_reducible refine gate_callee (f := 38) rfl ?_); refine goesL_ (some 35) rfl rfl Try.func38 (by kernel_rfl) rfl #[.slice Ao70 t401.length co70, .int .i64 a1, .slice Ao71 t404.length co71] rfl Hd.m_ ?_; (with_reducible refine (impl_CanDrop.calls k _ _ t401 a1 _ _ t404 t407 _ ?side1 ?side2 ?side3 ?side4 A13.out).mono ?_); (case side1 => repeat (first | exact (Kd.R_reads' HO403.out).2.2 | (with_reducible refine Kd.C_alloc ?_ _) | (with_reducible refine Kd.C_drewN ?_ _) | (with_reducible refine Kd.C_drew ?_))); (case side2 => exact (Kd.R_reads' HO403.out).2.1); (case side3 => repeat (first | exact (Kd.S_reads' HO406.out).2.2 | (with_reducible refine Kd.C_alloc ?_ _) | (with_reducible refine Kd.C_drewN ?_ _) | (with_reducible refine Kd.C_drew ?_))); (case side4 => exact (Kd.S_reads' HO406.out).2.1); rintro e w72 ⟨rfl, hb⟩; refine ⟨_, rfl, ?_⟩; replace HO396 := Aside0.mk (Kd.R_below (Hd.r_ HO396) hb); replace HO399 := Aside0.mk (Kd.S_below (by (with_reducible repeat (first | apply Kd.S_alloc | apply Kd.S_drewN | apply Kd.S_drew)); exact HO399.out) hb); replace HO403 := Aside0.mk (Kd.R_below (Hd.r_ HO403) hb); replace HO406 := Aside0.mk (Kd.S_below (by (with_reducible repeat (first | apply Kd.S_alloc | apply Kd.S_drewN | apply Kd.S_drew)); exact HO406.out) hb); replace HB := Aside0.mk (below_step Hd.b_ hb); (try clear hb); (try clear hb2); (try clear hk); (try clear hi)) | ((with_reducible refine gate_callee (f := 18) rfl ?_); refine goesL_ (some 41) rfl rfl Try.func18 (by kernel_rfl) rfl #[.slice A0 l0.length c0] rfl Hd.m_ ?_; (with_reducible refine (laws_toPointS.calls k _ _ l0 t408 _ ?side1 ?side2 A25.out).mono ?_); (case side1 => repeat (first | exact (Kd.C_below HR0.out HB.out) | (with_reducible refine Kd.C_alloc ?_ _) | (with_reducible refine Kd.C_drewN ?_ _) | (with_reducible refine Kd.C_drew ?_))); (case side2 => exact HC0.out); rintro e w73 ⟨v409, rfl, ho0, hb⟩; refine ⟨_, rfl, ?_⟩; replace HO399 := Aside0.mk (Kd.S_elder' (by (with_reducible repeat (first | apply Kd.S_alloc | apply Kd.S_drewN | apply Kd.S_drew)); exact HO399.out) (Kd.R_base ho0) hb); replace HO406 := Aside0.mk (Kd.S_elder' (by (with_reducible repeat (first | apply Kd.S_alloc | apply Kd.S_drewN | apply Kd.S_drew)); exact HO406.out) (Kd.R_base ho0) hb); have HO410 := Aside0.mk (Kd.R_lower (Kd.R_new' (Kd.R_new' ho0 (Kd.R_lt (Hd.r_ HO396))) (Kd.R_lt (Hd.r_ HO403))) (below_size Hd.b_)); replace HO396 := Aside0.mk (Kd.R_elder' (Hd.r_ HO396) (Kd.R_base ho0) hb); replace HO403 := Aside0.mk (Kd.R_elder' (Hd.r_ HO403) (Kd.R_base ho0) hb); replace HB := Aside0.mk (below_step Hd.b_ hb); (try clear hb); (try clear hb2); (try clear hk); (try clear hi); (try clear ho0); obtain ⟨Ao74, co74, eo74⟩ := Kd.R_slice HO410.out; subst eo74) | ((with_reducible refine gate_callee (f := 22) rfl ?_); refine goesL_ (some 42) rfl rfl Try.func22 (by kernel_rfl) rfl #[.slice Ao70 t401.length co70, .slice Ao74 t408.length co74] rfl Hd.m_ ?_; (with_reducible refine (laws_eqPointS.calls k _ _ t401 _ _ t408 false _ ?side1 ?side2 ?side3 ?side4 A26.out).mono ?_); (case side1 => repeat (first | exact (Kd.R_reads' HO403.out).2.2 | (with_reducible refine Kd.C_alloc ?_ _) | (with_reducible refine Kd.C_drewN ?_ _) | (with_reducible refine Kd.C_drew ?_))); (case side2 => exact (Kd.R_reads' HO403.out).2.1); (case side3 => repeat (first | exact (Kd.R_reads' HO410.out).2.2 | (with_reducible refine Kd.C_alloc ?_ _) | (with_reducible refine Kd.C_drewN ?_ _) | (with_reducible refine Kd.C_drew ?_))); (case side4 => exact (Kd.R_reads' HO410.out).2.1); rintro e w75 ⟨rfl, hb⟩; refine ⟨_, rfl, ?_⟩; replace HO396 := Aside0.mk (Kd.R_below (Hd.r_ HO396) hb); replace HO399 := Aside0.mk (Kd.S_below (by (with_reducible repeat (first | apply Kd.S_alloc | apply Kd.S_drewN | apply Kd.S_drew)); exact HO399.out) hb); replace HO403 := Aside0.mk (Kd.R_below (Hd.r_ HO403) hb); replace HO406 := Aside0.mk (Kd.S_below (by (with_reducible repeat (first | apply Kd.S_alloc | apply Kd.S_drewN | apply Kd.S_drew)); exact HO406.out) hb); replace HO410 := Aside0.mk (Kd.R_below (Hd.r_ HO410) hb); replace HB := Aside0.mk (below_step Hd.b_ hb); (try clear hb); (try clear hb2); (try clear hk); (try clear hi)))
     go_ret
     exact ⟨Hd.e_, Hd.b_⟩
end Go.Proofs.Ytchmbcembbbplac.MFnExactCanDrop
