-- Laid by this session's program pp.py, after the kit's print and texts of the session's own. Not trusted: Lean checks it.
import Derived.Test.YtchmbcembbbplacZSafeSimplifyMx0
import Derived.Test.YtchmbcembbbplacZSafeSimplifyMx10
import Derived.Test.YtchmbcembbbplacZSafeSimplifyMx11
namespace Go.Proofs.Ytchmbcembbbplac.MFnExactSafeSimplify
open Go.RowKit Go.Proofs.YtchmbcembbbplacW.PrintWords Go.Proofs.YtchmbcembbbplacW.PrintLast Go.Proofs.YtchmbcembbbplacW.PrintMore
attribute [local go_sem] max2_int min2_int max_two min_two max_three min_three max_four min_four   -- for this text's walks alone
set_option linter.unusedVariables false
set_option linter.unusedSimpArgs false
mutual
def spec_IsSimple.l0 : Nat → List (S49) → List (S111) → Int → Option (Bool)
 | 0, _, _, _ => none
 | k + 1, x0, x3, x4 => if x4 < (x3.length : Int) then (spec_IsSimple.l1 k x0 x3 x4 0) else ((spec_IsLine.f k x0).bind fun t401 => (some t401))
def spec_IsSimple.l1 : Nat → List (S49) → List (S111) → Int → Int → Option (Bool)
 | 0, _, _, _, _ => none
 | k + 1, x0, x3, x4, x5 => if x5 < x4 then (if (wrap64 (x5 + 1)) = x4 then (if 0 ≤ x4 then (if x4 < (x3.length : Int) then (if 0 ≤ x5 then (if x5 < (x3.length : Int) then ((spec_HowMeet.f k ((rd_T111 x3 x4).f0.f0) ((rd_T111 x3 x4).f0.f1) ((rd_T111 x3 x4).f1.f0) ((rd_T111 x3 x4).f1.f1) ((rd_T111 x3 x5).f0.f0) ((rd_T111 x3 x5).f0.f1) ((rd_T111 x3 x5).f1.f0) ((rd_T111 x3 x5).f1.f1)).bind fun t404 => (if t404 = 1 then (spec_IsSimple.l1 k x0 x3 x4 (wrap64 (x5 + 1))) else (some false))) else (none)) else (none)) else (none)) else (none)) else (if 0 ≤ x4 then (if x4 < (x3.length : Int) then (if 0 ≤ x5 then (if x5 < (x3.length : Int) then ((spec_HowMeet.f k ((rd_T111 x3 x4).f0.f0) ((rd_T111 x3 x4).f0.f1) ((rd_T111 x3 x4).f1.f0) ((rd_T111 x3 x4).f1.f1) ((rd_T111 x3 x5).f0.f0) ((rd_T111 x3 x5).f0.f1) ((rd_T111 x3 x5).f1.f0) ((rd_T111 x3 x5).f1.f1)).bind fun t407 => (if t407 = 0 then (spec_IsSimple.l1 k x0 x3 x4 (wrap64 (x5 + 1))) else (some false))) else (none)) else (none)) else (none)) else (none))) else (spec_IsSimple.l0 k x0 x3 (wrap64 (x4 + 1)))
end
def spec_IsSimple.f (k : Nat) (l0 : List (S49)) : Option (Bool) := (spec_SegmentsOf.f k l0).bind fun t398 => (spec_IsSimple.l0 k l0 t398 0)
set_option maxHeartbeats 8000000 in
set_option maxRecDepth 100000 in
theorem spec_IsSimple.calls (k : Nat) (A0 : Option Addr) (c0 : Nat) (l0 : List (S49)) (r : Bool) (w : World) (hr0 : Kd.C k49 w A0 l0.length l0) (hc0 : l0.length ≤ c0) (h : spec_IsSimple.f k l0 = some r) :
  Calls Try.prog 123 #[.slice A0 l0.length c0] w fun e w' => e = .returned (.bool r) ∧ Below w.heap.size w w' := by
 have hu111 := Try.underlying111
 have HR0 := Aside0.mk hr0
 have HC0 := Aside0.mk hc0
 clear hr0 hc0
 have HB := Aside0.mk (Below.refl w.heap.size w)
 have H : ((spec_SegmentsOf.f k l0).bind fun t398 => (spec_IsSimple.l0 k l0 t398 0)) = some r := h
 clear h
 replace H := Option.bind_eq_some_iff.mp H
 obtain ⟨t398, A20, H⟩ := H
 replace H : (spec_IsSimple.l0 k l0 t398 0) = some r := H
 have A2 := Aside0.mk A20
 clear A20
 have H' := Aside0.mk H
 clear H
 go_enter Try.func123, Try.ntmps123
 go_wp2_with (first | ((with_reducible refine gate_callee (f := 132) rfl ?_); refine goesL_ (some 8) rfl rfl Try.func132 (by kernel_rfl) rfl #[.slice A0 l0.length c0] rfl Hd.m_ ?_; (with_reducible refine (spec_SegmentsOf.calls k _ _ l0 t398 _ ?side1 ?side2 A2.out).mono ?_); (case side1 => repeat (first | exact HR0.out | (with_reducible refine Kd.C_alloc ?_ _) | (with_reducible refine Kd.C_drewN ?_ _) | (with_reducible refine Kd.C_drew ?_))); (case side2 => exact HC0.out); rintro e w3 ⟨v399, rfl, ho0, hb⟩; refine ⟨_, rfl, ?_⟩; have HO400 := Aside0.mk (Kd.R_lower ho0 (below_size Hd.b_)); replace HB := Aside0.mk (below_step Hd.b_ hb); (try clear hb); (try clear hb2); (try clear hk); (try clear hi); (try clear ho0)))
 go_loopg [4] k (fun kq v4 w' => ∃ (x4_1 : Int), v4 = .int .i64 x4_1 ∧ Aside0 (spec_IsSimple.l0 kq l0 t398 x4_1 = some r) ∧ Aside0 (kq ≤ k) ∧ Aside0 (Kd.R k111 111 w' w.heap.size (fun _ => True) v399 t398) ∧ Aside0 (Below w.heap.size w w'))
 case atStart => exact ⟨(0), (by first | rfl | (simp; done) | (simp [*]; done)), H', ⟨Nat.le_refl _⟩, ⟨by (with_reducible repeat (first | apply Kd.R_alloc | apply Kd.R_drewN | apply Kd.R_drew)); exact HO400.out⟩, ⟨Hd.b_⟩⟩
 case round =>
  clear H'
  try clear c1
  try clear p2
  obtain ⟨x4_1, rfl, HA, HK1, HO_3, HB⟩ := hrel
  cases gk with
  | zero => exact absurd HA.out (by simp [spec_IsSimple.l0])
  | succ k1 =>
   have H := HA.out
   clear HA
   simp only [spec_IsSimple.l0] at H
   by_cases c4 : x4_1 < (t398.length : Int)
   ·
    rw [if_pos c4] at H
    have c4b0 : decide (x4_1 < (t398.length : Int)) = true := decide_eq_true c4
    clear c4
    have H' := Aside0.mk H
    clear H
    obtain ⟨Ao5, co5, eo5⟩ := Kd.R_slice HO_3.out
    subst eo5
    go_wp2
    go_loopg [5] k1 (fun kq v5 w' => ∃ (x5_2 : Int), v5 = .int .i64 x5_2 ∧ Aside0 (spec_IsSimple.l1 kq l0 t398 x4_1 x5_2 = some r) ∧ Aside0 (kq ≤ k1) ∧ Aside0 (Kd.R k111 111 w' w.heap.size (fun _ => True) (.slice Ao5 t398.length co5) t398) ∧ Aside0 (Below w.heap.size w w'))
    case atStart => exact ⟨(0), (by first | rfl | (simp; done) | (simp [*]; done)), H', ⟨Nat.le_refl _⟩, ⟨by (with_reducible repeat (first | apply Kd.R_alloc | apply Kd.R_drewN | apply Kd.R_drew)); exact HO_3.out⟩, ⟨Hd.b_⟩⟩
    case round =>
     clear H'
     try clear c1
     try clear p2
     try clear c4
     try clear c4b0
     try clear p2
     obtain ⟨x5_2, rfl, HA, HK2, HO_3, HB⟩ := hrel
     cases gk with
     | zero => exact absurd HA.out (by simp [spec_IsSimple.l1])
     | succ k2 =>
      have H := HA.out
      clear HA
      simp only [spec_IsSimple.l1] at H
      by_cases c6 : x5_2 < x4_1
      ·
       rw [if_pos c6] at H
       have c6b0 : decide (x5_2 < x4_1) = true := decide_eq_true c6
       clear c6
       by_cases c7 : (wrap64 (x5_2 + 1)) = x4_1
       ·
        rw [if_pos c7] at H
        have c7b0 : ((wrap64 (x5_2 + 1)) == x4_1) = true := beq_iff_eq.mpr c7
        have c7b1 : ((wrap64 (x5_2 + 1)) != x4_1) = false := bne_eq_false_iff_eq.mpr c7
        clear c7
        by_cases c8 : 0 ≤ x4_1
        ·
         rw [if_pos c8] at H
         have c8b0 : decide (0 ≤ x4_1) = true := decide_eq_true c8
         clear c8
         by_cases c9 : x4_1 < (t398.length : Int)
         ·
          rw [if_pos c9] at H
          have c9b0 : decide (x4_1 < (t398.length : Int)) = true := decide_eq_true c9
          clear c9
          by_cases c10 : 0 ≤ x5_2
          ·
           rw [if_pos c10] at H
           have c10b0 : decide (0 ≤ x5_2) = true := decide_eq_true c10
           clear c10
           by_cases c11 : x5_2 < (t398.length : Int)
           ·
            rw [if_pos c11] at H
            have c11b0 : decide (x5_2 < (t398.length : Int)) = true := decide_eq_true c11
            clear c11
            replace H := Option.bind_eq_some_iff.mp H
            obtain ⟨t404, A120, H⟩ := H
            replace H : (if t404 = 1 then (spec_IsSimple.l1 k2 l0 t398 x4_1 (wrap64 (x5_2 + 1))) else (some false)) = some r := H
            have A12 := Aside0.mk A120
            clear A120
            by_cases c13 : t404 = 1
            ·
             rw [if_pos c13] at H
             have c13b0 : (t404 == 1) = true := beq_iff_eq.mpr c13
             have c13b1 : (t404 != 1) = false := bne_eq_false_iff_eq.mpr c13
             clear c13
             have H' := Aside0.mk H
             clear H
             try go_wp2
             replace HO_3 := Aside0.mk (Kd.R_drew HO_3.out)
             replace HB := Aside0.mk (below_drew1 HB.out)
             have p402 : 0 ≤ (x4_1 : Int) := of_decide_eq_true Hd.a_
             have q402 : x4_1 < (t398.length : Int) := of_decide_eq_true Hd.a_
             obtain ⟨ad402, e402, hx402_0, hx402_1, hx402_2, hx402_3⟩ := at_T111 (Kd.R_reads' HO_3.out).2.2 x4_1 p402 q402
             cases e402
             replace p402 := eq_true p402
             replace q402 := eq_true q402
             have p403 : 0 ≤ (x5_2 : Int) := of_decide_eq_true Hd.a_
             have q403 : x5_2 < (t398.length : Int) := of_decide_eq_true Hd.a_
             obtain ⟨ad403, e403, hx403_0, hx403_1, hx403_2, hx403_3⟩ := at_T111 (Kd.R_reads' HO_3.out).2.2 x5_2 p403 q403
             obtain rfl : ad402 = ad403 := (by injection e403)
             replace p403 := eq_true p403
             replace q403 := eq_true q403
             have s0_ := Hd.HW.x (W0 := wr.drew) hx402_0
             have s1_ := Hd.HW.x (W0 := wr.drew) hx402_1
             have s2_ := Hd.HW.x (W0 := wr.drew) hx402_2
             have s3_ := Hd.HW.x (W0 := wr.drew) hx402_3
             have s4_ := Hd.HW.x (W0 := wr.drew) hx403_0
             have s5_ := Hd.HW.x (W0 := wr.drew) hx403_1
             have s6_ := Hd.HW.x (W0 := wr.drew) hx403_2
             have s7_ := Hd.HW.x (W0 := wr.drew) hx403_3
             refine Hd.HW.region (by kernel_rfl) (by kernel_rfl) ?_
             repeat (go_big_quiet_step ((first | (go_at_call 129; with_reducible exact Hd.HW.c (spec_HowMeet.calls k2 ((rd_T111 t398 x4_1).f0.f0) ((rd_T111 t398 x4_1).f0.f1) ((rd_T111 t398 x4_1).f1.f0) ((rd_T111 t398 x4_1).f1.f1) ((rd_T111 t398 x5_2).f0.f0) ((rd_T111 t398 x5_2).f0.f1) ((rd_T111 t398 x5_2).f1.f0) ((rd_T111 t398 x5_2).f1.f1) t404 _ A12.out)))))
             refine wpQuiet_nil ?_
             intro _ hq_
             obtain ⟨q_, rfl⟩ := hq_
             clear s0_ s1_ s2_ s3_ s4_ s5_ s6_ s7_
             replace HO_3 := Aside0.mk (Kd.R_below HO_3.out q_.b)
             replace HB := Aside0.mk (below_step HB.out q_.b)
             replace hx402_0 := q_.cell hx402_0
             replace hx402_1 := q_.cell hx402_1
             replace hx402_2 := q_.cell hx402_2
             replace hx402_3 := q_.cell hx402_3
             replace hx403_0 := q_.cell hx403_0
             replace hx403_1 := q_.cell hx403_1
             replace hx403_2 := q_.cell hx403_2
             replace hx403_3 := q_.cell hx403_3
             generalize q_.W = w15 at HO_3 HB hx402_0 hx402_1 hx402_2 hx402_3 hx403_0 hx403_1 hx403_2 hx403_3 ⊢
             try simp only [i64_w, i32_w]
             try go_wp2
             go_roundg k2
             case measure => have := HK1.out; have := HK2.out; omega
             case rel => exact ⟨(wrap64 (x5_2 + 1)), (by first | rfl | (simp; done) | (simp [*]; done)), H', ⟨by have := HK1.out; have := HK2.out; omega⟩, ⟨by (with_reducible repeat (first | apply Kd.R_alloc | apply Kd.R_drewN | apply Kd.R_drew)); exact HO_3.out⟩, ⟨Hd.b_⟩⟩
            ·
             rw [if_neg c13] at H
             have c13b0 : (t404 == 1) = false := beq_eq_false_iff_ne.mpr c13
             have c13b1 : (t404 != 1) = true := bne_iff_ne.mpr c13
             obtain rfl := Option.some.inj H
             try go_wp2
             replace HO_3 := Aside0.mk (Kd.R_drew HO_3.out)
             replace HB := Aside0.mk (below_drew1 HB.out)
             have p402 : 0 ≤ (x4_1 : Int) := of_decide_eq_true Hd.a_
             have q402 : x4_1 < (t398.length : Int) := of_decide_eq_true Hd.a_
             obtain ⟨ad402, e402, hx402_0, hx402_1, hx402_2, hx402_3⟩ := at_T111 (Kd.R_reads' HO_3.out).2.2 x4_1 p402 q402
             cases e402
             replace p402 := eq_true p402
             replace q402 := eq_true q402
             have p403 : 0 ≤ (x5_2 : Int) := of_decide_eq_true Hd.a_
             have q403 : x5_2 < (t398.length : Int) := of_decide_eq_true Hd.a_
             obtain ⟨ad403, e403, hx403_0, hx403_1, hx403_2, hx403_3⟩ := at_T111 (Kd.R_reads' HO_3.out).2.2 x5_2 p403 q403
             obtain rfl : ad402 = ad403 := (by injection e403)
             replace p403 := eq_true p403
             replace q403 := eq_true q403
             have s0_ := Hd.HW.x (W0 := wr.drew) hx402_0
             have s1_ := Hd.HW.x (W0 := wr.drew) hx402_1
             have s2_ := Hd.HW.x (W0 := wr.drew) hx402_2
             have s3_ := Hd.HW.x (W0 := wr.drew) hx402_3
             have s4_ := Hd.HW.x (W0 := wr.drew) hx403_0
             have s5_ := Hd.HW.x (W0 := wr.drew) hx403_1
             have s6_ := Hd.HW.x (W0 := wr.drew) hx403_2
             have s7_ := Hd.HW.x (W0 := wr.drew) hx403_3
             refine Hd.HW.region (by kernel_rfl) (by kernel_rfl) ?_
             repeat (go_big_quiet_step ((first | (go_at_call 129; with_reducible exact Hd.HW.c (spec_HowMeet.calls k2 ((rd_T111 t398 x4_1).f0.f0) ((rd_T111 t398 x4_1).f0.f1) ((rd_T111 t398 x4_1).f1.f0) ((rd_T111 t398 x4_1).f1.f1) ((rd_T111 t398 x5_2).f0.f0) ((rd_T111 t398 x5_2).f0.f1) ((rd_T111 t398 x5_2).f1.f0) ((rd_T111 t398 x5_2).f1.f1) t404 _ A12.out)))))
             refine wpQuiet_nil ?_
             intro _ hq_
             obtain ⟨q_, rfl⟩ := hq_
             clear s0_ s1_ s2_ s3_ s4_ s5_ s6_ s7_
             replace HO_3 := Aside0.mk (Kd.R_below HO_3.out q_.b)
             replace HB := Aside0.mk (below_step HB.out q_.b)
             replace hx402_0 := q_.cell hx402_0
             replace hx402_1 := q_.cell hx402_1
             replace hx402_2 := q_.cell hx402_2
             replace hx402_3 := q_.cell hx402_3
             replace hx403_0 := q_.cell hx403_0
             replace hx403_1 := q_.cell hx403_1
             replace hx403_2 := q_.cell hx403_2
             replace hx403_3 := q_.cell hx403_3
             generalize q_.W = w17 at HO_3 HB hx402_0 hx402_1 hx402_2 hx402_3 hx403_0 hx403_1 hx403_2 hx403_3 ⊢
             try simp only [i64_w, i32_w]
             try go_wp2
             go_ret
             exact ⟨Hd.e_, Hd.b_⟩
           ·
            rw [if_neg c11] at H
            exact absurd H (by simp)
          ·
           rw [if_neg c10] at H
           exact absurd H (by simp)
         ·
          rw [if_neg c9] at H
          exact absurd H (by simp)
        ·
         rw [if_neg c8] at H
         exact absurd H (by simp)
       ·
        rw [if_neg c7] at H
        have c7b0 : ((wrap64 (x5_2 + 1)) == x4_1) = false := beq_eq_false_iff_ne.mpr c7
        have c7b1 : ((wrap64 (x5_2 + 1)) != x4_1) = true := bne_iff_ne.mpr c7
        by_cases c18 : 0 ≤ x4_1
        ·
         rw [if_pos c18] at H
         have c18b0 : decide (0 ≤ x4_1) = true := decide_eq_true c18
         clear c18
         by_cases c19 : x4_1 < (t398.length : Int)
         ·
          rw [if_pos c19] at H
          have c19b0 : decide (x4_1 < (t398.length : Int)) = true := decide_eq_true c19
          clear c19
          by_cases c20 : 0 ≤ x5_2
          ·
           rw [if_pos c20] at H
           have c20b0 : decide (0 ≤ x5_2) = true := decide_eq_true c20
           clear c20
           by_cases c21 : x5_2 < (t398.length : Int)
           ·
            rw [if_pos c21] at H
            have c21b0 : decide (x5_2 < (t398.length : Int)) = true := decide_eq_true c21
            clear c21
            replace H := Option.bind_eq_some_iff.mp H
            obtain ⟨t407, A220, H⟩ := H
            replace H : (if t407 = 0 then (spec_IsSimple.l1 k2 l0 t398 x4_1 (wrap64 (x5_2 + 1))) else (some false)) = some r := H
            have A22 := Aside0.mk A220
            clear A220
            by_cases c23 : t407 = 0
            ·
             rw [if_pos c23] at H
             have c23b0 : (t407 == 0) = true := beq_iff_eq.mpr c23
             have c23b1 : (t407 != 0) = false := bne_eq_false_iff_eq.mpr c23
             clear c23
             have H' := Aside0.mk H
             clear H
             try go_wp2
             replace HO_3 := Aside0.mk (Kd.R_drew HO_3.out)
             replace HB := Aside0.mk (below_drew1 HB.out)
             have p405 : 0 ≤ (x4_1 : Int) := of_decide_eq_true Hd.a_
             have q405 : x4_1 < (t398.length : Int) := of_decide_eq_true Hd.a_
             obtain ⟨ad405, e405, hx405_0, hx405_1, hx405_2, hx405_3⟩ := at_T111 (Kd.R_reads' HO_3.out).2.2 x4_1 p405 q405
             cases e405
             replace p405 := eq_true p405
             replace q405 := eq_true q405
             have p406 : 0 ≤ (x5_2 : Int) := of_decide_eq_true Hd.a_
             have q406 : x5_2 < (t398.length : Int) := of_decide_eq_true Hd.a_
             obtain ⟨ad406, e406, hx406_0, hx406_1, hx406_2, hx406_3⟩ := at_T111 (Kd.R_reads' HO_3.out).2.2 x5_2 p406 q406
             obtain rfl : ad405 = ad406 := (by injection e406)
             replace p406 := eq_true p406
             replace q406 := eq_true q406
             have s0_ := Hd.HW.x (W0 := wr.drew) hx405_0
             have s1_ := Hd.HW.x (W0 := wr.drew) hx405_1
             have s2_ := Hd.HW.x (W0 := wr.drew) hx405_2
             have s3_ := Hd.HW.x (W0 := wr.drew) hx405_3
             have s4_ := Hd.HW.x (W0 := wr.drew) hx406_0
             have s5_ := Hd.HW.x (W0 := wr.drew) hx406_1
             have s6_ := Hd.HW.x (W0 := wr.drew) hx406_2
             have s7_ := Hd.HW.x (W0 := wr.drew) hx406_3
             refine Hd.HW.region (by kernel_rfl) (by kernel_rfl) ?_
             repeat (go_big_quiet_step ((first | (go_at_call 129; with_reducible exact Hd.HW.c (spec_HowMeet.calls k2 ((rd_T111 t398 x4_1).f0.f0) ((rd_T111 t398 x4_1).f0.f1) ((rd_T111 t398 x4_1).f1.f0) ((rd_T111 t398 x4_1).f1.f1) ((rd_T111 t398 x5_2).f0.f0) ((rd_T111 t398 x5_2).f0.f1) ((rd_T111 t398 x5_2).f1.f0) ((rd_T111 t398 x5_2).f1.f1) t407 _ A22.out)))))
             refine wpQuiet_nil ?_
             intro _ hq_
             obtain ⟨q_, rfl⟩ := hq_
             clear s0_ s1_ s2_ s3_ s4_ s5_ s6_ s7_
             replace HO_3 := Aside0.mk (Kd.R_below HO_3.out q_.b)
             replace HB := Aside0.mk (below_step HB.out q_.b)
             replace hx405_0 := q_.cell hx405_0
             replace hx405_1 := q_.cell hx405_1
             replace hx405_2 := q_.cell hx405_2
             replace hx405_3 := q_.cell hx405_3
             replace hx406_0 := q_.cell hx406_0
             replace hx406_1 := q_.cell hx406_1
             replace hx406_2 := q_.cell hx406_2
             replace hx406_3 := q_.cell hx406_3
             generalize q_.W = w25 at HO_3 HB hx405_0 hx405_1 hx405_2 hx405_3 hx406_0 hx406_1 hx406_2 hx406_3 ⊢
             try simp only [i64_w, i32_w]
             try go_wp2
             go_roundg k2
             case measure => have := HK1.out; have := HK2.out; omega
             case rel => exact ⟨(wrap64 (x5_2 + 1)), (by first | rfl | (simp; done) | (simp [*]; done)), H', ⟨by have := HK1.out; have := HK2.out; omega⟩, ⟨by (with_reducible repeat (first | apply Kd.R_alloc | apply Kd.R_drewN | apply Kd.R_drew)); exact HO_3.out⟩, ⟨Hd.b_⟩⟩
            ·
             rw [if_neg c23] at H
             have c23b0 : (t407 == 0) = false := beq_eq_false_iff_ne.mpr c23
             have c23b1 : (t407 != 0) = true := bne_iff_ne.mpr c23
             obtain rfl := Option.some.inj H
             try go_wp2
             replace HO_3 := Aside0.mk (Kd.R_drew HO_3.out)
             replace HB := Aside0.mk (below_drew1 HB.out)
             have p405 : 0 ≤ (x4_1 : Int) := of_decide_eq_true Hd.a_
             have q405 : x4_1 < (t398.length : Int) := of_decide_eq_true Hd.a_
             obtain ⟨ad405, e405, hx405_0, hx405_1, hx405_2, hx405_3⟩ := at_T111 (Kd.R_reads' HO_3.out).2.2 x4_1 p405 q405
             cases e405
             replace p405 := eq_true p405
             replace q405 := eq_true q405
             have p406 : 0 ≤ (x5_2 : Int) := of_decide_eq_true Hd.a_
             have q406 : x5_2 < (t398.length : Int) := of_decide_eq_true Hd.a_
             obtain ⟨ad406, e406, hx406_0, hx406_1, hx406_2, hx406_3⟩ := at_T111 (Kd.R_reads' HO_3.out).2.2 x5_2 p406 q406
             obtain rfl : ad405 = ad406 := (by injection e406)
             replace p406 := eq_true p406
             replace q406 := eq_true q406
             have s0_ := Hd.HW.x (W0 := wr.drew) hx405_0
             have s1_ := Hd.HW.x (W0 := wr.drew) hx405_1
             have s2_ := Hd.HW.x (W0 := wr.drew) hx405_2
             have s3_ := Hd.HW.x (W0 := wr.drew) hx405_3
             have s4_ := Hd.HW.x (W0 := wr.drew) hx406_0
             have s5_ := Hd.HW.x (W0 := wr.drew) hx406_1
             have s6_ := Hd.HW.x (W0 := wr.drew) hx406_2
             have s7_ := Hd.HW.x (W0 := wr.drew) hx406_3
             refine Hd.HW.region (by kernel_rfl) (by kernel_rfl) ?_
             repeat (go_big_quiet_step ((first | (go_at_call 129; with_reducible exact Hd.HW.c (spec_HowMeet.calls k2 ((rd_T111 t398 x4_1).f0.f0) ((rd_T111 t398 x4_1).f0.f1) ((rd_T111 t398 x4_1).f1.f0) ((rd_T111 t398 x4_1).f1.f1) ((rd_T111 t398 x5_2).f0.f0) ((rd_T111 t398 x5_2).f0.f1) ((rd_T111 t398 x5_2).f1.f0) ((rd_T111 t398 x5_2).f1.f1) t407 _ A22.out)))))
             refine wpQuiet_nil ?_
             intro _ hq_
             obtain ⟨q_, rfl⟩ := hq_
             clear s0_ s1_ s2_ s3_ s4_ s5_ s6_ s7_
             replace HO_3 := Aside0.mk (Kd.R_below HO_3.out q_.b)
             replace HB := Aside0.mk (below_step HB.out q_.b)
             replace hx405_0 := q_.cell hx405_0
             replace hx405_1 := q_.cell hx405_1
             replace hx405_2 := q_.cell hx405_2
             replace hx405_3 := q_.cell hx405_3
             replace hx406_0 := q_.cell hx406_0
             replace hx406_1 := q_.cell hx406_1
             replace hx406_2 := q_.cell hx406_2
             replace hx406_3 := q_.cell hx406_3
             generalize q_.W = w27 at HO_3 HB hx405_0 hx405_1 hx405_2 hx405_3 hx406_0 hx406_1 hx406_2 hx406_3 ⊢
             try simp only [i64_w, i32_w]
             try go_wp2
             go_ret
             exact ⟨Hd.e_, Hd.b_⟩
           ·
            rw [if_neg c21] at H
            exact absurd H (by simp)
          ·
           rw [if_neg c20] at H
           exact absurd H (by simp)
         ·
          rw [if_neg c19] at H
          exact absurd H (by simp)
        ·
         rw [if_neg c18] at H
         exact absurd H (by simp)
      ·
       rw [if_neg c6] at H
       have c6b0 : decide (x5_2 < x4_1) = false := decide_eq_false c6
       clear c6
       have H' := Aside0.mk H
       clear H
       go_wp2
       go_roundg k2
       case measure => have := HK1.out; have := HK2.out; omega
       case rel => exact ⟨(wrap64 (x4_1 + 1)), (by first | rfl | (simp; done) | (simp [*]; done)), H', ⟨by have := HK1.out; have := HK2.out; omega⟩, ⟨by (with_reducible repeat (first | apply Kd.R_alloc | apply Kd.R_drewN | apply Kd.R_drew)); exact HO_3.out⟩, ⟨Hd.b_⟩⟩
   ·
    rw [if_neg c4] at H
    have c4b0 : decide (x4_1 < (t398.length : Int)) = false := decide_eq_false c4
    clear c4
    replace H := Option.bind_eq_some_iff.mp H
    obtain ⟨t401, A280, H⟩ := H
    replace H : (some t401) = some r := H
    have A28 := Aside0.mk A280
    clear A280
    obtain rfl := Option.some.inj H
    obtain ⟨Ao29, co29, eo29⟩ := Kd.R_slice HO_3.out
    subst eo29
    go_wp2_with (first | ((with_reducible refine gate_callee (f := 154) rfl ?_); refine goesL_ (some 36) rfl rfl Try.func154 (by kernel_rfl) rfl #[.slice A0 l0.length c0] rfl Hd.m_ ?_; (with_reducible refine (spec_IsLine.calls k1 _ _ l0 t401 _ ?side1 ?side2 A28.out).mono ?_); (case side1 => repeat (first | exact (Kd.C_below HR0.out HB.out) | (with_reducible refine Kd.C_alloc ?_ _) | (with_reducible refine Kd.C_drewN ?_ _) | (with_reducible refine Kd.C_drew ?_))); (case side2 => exact HC0.out); rintro e w30 ⟨rfl, hb⟩; refine ⟨_, rfl, ?_⟩; replace HO_3 := Aside0.mk (Kd.R_below (Hd.r_ HO_3) hb); replace HB := Aside0.mk (below_step Hd.b_ hb); (try clear hb); (try clear hb2); (try clear hk); (try clear hi)))
    go_ret
    exact ⟨Hd.e_, Hd.b_⟩
mutual
def spec_CanDrop.j0 : Nat → List (S49) → List (List (S49)) → List (S49) → Bool → Option (Bool)
 | 0, _, _, _, _ => none
 | k + 1, x0, x2, x7, x22 => if x22 = true then (some false) else (spec_CanDrop.l0 k x0 x2 x7 0)
def spec_CanDrop.l0 : Nat → List (S49) → List (List (S49)) → List (S49) → Int → Option (Bool)
 | 0, _, _, _, _ => none
 | k + 1, x0, x2, x7, x9 => if x9 < (x2.length : Int) then (if 0 ≤ x9 then ((spec_LinesMeet.f k x7 (rd_L4 x2 x9)).bind fun t414 => ((spec_LinesMeet.f k x0 (rd_L4 x2 x9)).bind fun t416 => (if t414 > t416 then (some false) else (spec_CanDrop.l0 k x0 x2 x7 (wrap64 (x9 + 1)))))) else (none)) else (some true)
end
def spec_CanDrop.f (k : Nat) (l0 : List (S49)) (a1 : Int) (l2 : List (List (S49))) : Option (Bool) := (spec_DropPoint.f k l0 a1).bind fun bt408 => (if bt408.2 = true then ((spec_IsSimple.f k bt408.1).bind fun t412 => (spec_CanDrop.j0 k l0 l2 bt408.1 (!t412))) else (spec_CanDrop.j0 k l0 l2 bt408.1 true))
def spec_CanDrop.T7 : Bool × List (List Nat × List Nat) := (true, [([], []), ([], []), ([], []), ([1, 2], [1, 2]), ([3], [3]), ([0, 4], [0, 4]), ([], []), ([], []), ([], []), ([7, 8], [7, 8]), ([9], [9]), ([6, 10, 5], [6, 10]), ([5, 11], [5, 11])])
def spec_CanDrop.B7 : List Nat := [0, 0, 0, 6, 14, 31, 0, 0, 0, 384, 896, 2047, 4095]
theorem spec_CanDrop.tab7 : rtab .any (opsOf Try.f57 7) = spec_CanDrop.T7 := by kernel_rfl
theorem spec_CanDrop.bits7 : waitsOk spec_CanDrop.T7.2 spec_CanDrop.B7 = true := by kernel_rfl
set_option maxHeartbeats 8000000 in
set_option maxRecDepth 100000 in
theorem spec_CanDrop.calls (k : Nat) (A0 : Option Addr) (c0 : Nat) (l0 : List (S49)) (a1 : Int) (A2 : Option Addr) (c2 : Nat) (l2 : List (List (S49))) (r : Bool) (w : World) (hr0 : Kd.C k49 w A0 l0.length l0) (hc0 : l0.length ≤ c0) (hr2 : Kd.C (Kd.slice 49 k49) w A2 l2.length l2) (hc2 : l2.length ≤ c2) (h : spec_CanDrop.f k l0 a1 l2 = some r) :
  Calls Try.prog 57 #[.slice A0 l0.length c0, .int .i64 a1, .slice A2 l2.length c2] w fun e w' => e = .returned (.bool r) ∧ Below w.heap.size w w' := by
 have HR0 := Aside0.mk hr0
 have HC0 := Aside0.mk hc0
 clear hr0 hc0
 have HR2 := Aside0.mk hr2
 have HC2 := Aside0.mk hc2
 clear hr2 hc2
 have HB := Aside0.mk (Below.refl w.heap.size w)
 have H : ((spec_DropPoint.f k l0 a1).bind fun bt408 => (if bt408.2 = true then ((spec_IsSimple.f k bt408.1).bind fun t412 => (spec_CanDrop.j0 k l0 l2 bt408.1 (!t412))) else (spec_CanDrop.j0 k l0 l2 bt408.1 true))) = some r := h
 clear h
 replace H := Option.bind_eq_some_iff.mp H
 obtain ⟨⟨t408, t409⟩, A40, H⟩ := H
 replace H : (if t409 = true then ((spec_IsSimple.f k t408).bind fun t412 => (spec_CanDrop.j0 k l0 l2 t408 (!t412))) else (spec_CanDrop.j0 k l0 l2 t408 true)) = some r := H
 have A4 := Aside0.mk A40
 clear A40
 have HC5 := Aside0.mk H
 clear H
 go_enter Try.func57, Try.ntmps57
 go_upto_region 2 with (first | ((with_reducible refine gate_callee (f := 122) rfl ?_); refine goesL_ (some 13) rfl rfl Try.func122 (by kernel_rfl) rfl #[.slice A0 l0.length c0, .int .i64 a1] rfl Hd.m_ ?_; (with_reducible refine (spec_DropPoint.calls k _ _ l0 a1 t408 t409 _ ?side1 ?side2 A4.out).mono ?_); (case side1 => repeat (first | exact HR0.out | (with_reducible refine Kd.C_alloc ?_ _) | (with_reducible refine Kd.C_drewN ?_ _) | (with_reducible refine Kd.C_drew ?_))); (case side2 => exact HC0.out); rintro e w6 ⟨v410, rfl, ho0, hb⟩; refine ⟨_, rfl, ?_⟩; have HO411 := Aside0.mk (Kd.R_lower ho0 (below_size Hd.b_)); replace HB := Aside0.mk (below_step Hd.b_ hb); (try clear hb); (try clear hb2); (try clear hk); (try clear hi); (try clear ho0)))
 (try simp only [Act.put, List.setIfInBounds_toArray, List.set_cons_zero, List.set_cons_succ])
 go_cut [22] (fun v22 wc => ∃ (kq : Nat) (x22_4 : Bool), v22 = .bool x22_4 ∧ Aside0 (spec_CanDrop.j0 kq l0 l2 t408 x22_4 = some r) ∧ Aside0 (kq ≤ k) ∧ Aside0 (Kd.R k49 49 wc w.heap.size (fun _ => True) v410 t408) ∧ Aside0 (Below w.heap.size w wc))
 case first =>
  have H := HC5.out
  clear HC5
  by_cases c7 : t409 = true
  ·
   subst c7
   have H1 : ((spec_IsSimple.f k t408).bind fun t412 => (spec_CanDrop.j0 k l0 l2 t408 (!t412))) = some r := by rw [if_pos rfl] at H; exact H
   clear H
   have H := H1
   clear H1
   replace H := Option.bind_eq_some_iff.mp H
   obtain ⟨t412, A80, H⟩ := H
   replace H : (spec_CanDrop.j0 k l0 l2 t408 (!t412)) = some r := H
   have A8 := Aside0.mk A80
   clear A80
   have H' := Aside0.mk H
   clear H
   obtain ⟨Ao9, co9, eo9⟩ := Kd.R_slice HO411.out
   subst eo9
   go_wp2_with (first | (go_at_call 123; (with_reducible refine (spec_IsSimple.calls k _ _ t408 t412 _ ?side1 ?side2 A8.out).mono ?_); (case side1 => repeat (first | exact (Kd.R_reads' HO411.out).2.2 | (with_reducible refine Kd.C_alloc ?_ _) | (with_reducible refine Kd.C_drewN ?_ _) | (with_reducible refine Kd.C_drew ?_))); (case side2 => exact (Kd.R_reads' HO411.out).2.1); rintro e w10 ⟨rfl, hb⟩; replace HO411 := Aside0.mk (Kd.R_below (Hd.r_ HO411) hb); replace HB := Aside0.mk (below_step Hd.b_ hb); (try clear hb); (try clear hb2); (try clear hk); (try clear hi)))
   go_meet
   case rel => exact ⟨_, (!t412), (by first | rfl | (simp; done) | (simp [*]; done)), H', ⟨by first | omega | exact Nat.le_refl _⟩, ⟨by (with_reducible repeat (first | apply Kd.R_alloc | apply Kd.R_drewN | apply Kd.R_drew)); exact HO411.out⟩, ⟨Hd.b_⟩⟩
  ·
   replace c7 := Bool.eq_false_iff.mpr c7
   subst c7
   have H1 : (spec_CanDrop.j0 k l0 l2 t408 true) = some r := by rw [if_neg (show ¬ (false = true) by decide)] at H; exact H
   clear H
   have H := H1
   clear H1
   have H' := Aside0.mk H
   clear H
   go_wp2
   go_meet
   case rel => exact ⟨_, (true), (by first | rfl | (simp; done) | (simp [*]; done)), H', ⟨by first | omega | exact Nat.le_refl _⟩, ⟨by (with_reducible repeat (first | apply Kd.R_alloc | apply Kd.R_drewN | apply Kd.R_drew)); exact HO411.out⟩, ⟨Hd.b_⟩⟩
 case rest =>
  clear HC5
  try clear c1
  try clear c2
  try clear p2
  try clear c5
  try clear c7
  obtain ⟨kq, x22_4, rfl, HA, HJ4, HO_7, HB⟩ := hcut
  cases kq with
  | zero => exact absurd HA.out (by simp [spec_CanDrop.j0])
  | succ kj4 =>
   have H := HA.out
   clear HA
   simp only [spec_CanDrop.j0] at H
   by_cases c11 : x22_4 = true
   ·
    subst c11
    have H1 : (some false) = some r := by rw [if_pos rfl] at H; exact H
    clear H
    have H := H1
    clear H1
    obtain rfl := Option.some.inj H
    go_wp2
    go_ret
    exact ⟨Hd.e_, Hd.b_⟩
   ·
    replace c11 := Bool.eq_false_iff.mpr c11
    subst c11
    have H1 : (spec_CanDrop.l0 kj4 l0 l2 t408 0) = some r := by rw [if_neg (show ¬ (false = true) by decide)] at H; exact H
    clear H
    have H := H1
    clear H1
    have H' := Aside0.mk H
    clear H
    go_wp2
    go_loopg [9] kj4 (fun kq v9 w' => ∃ (x9_2 : Int), v9 = .int .i64 x9_2 ∧ Aside0 (spec_CanDrop.l0 kq l0 l2 t408 x9_2 = some r) ∧ Aside0 (kq ≤ kj4) ∧ Aside0 (Kd.R k49 49 w' w.heap.size (fun _ => True) v410 t408) ∧ Aside0 (Below w.heap.size w w'))
    case atStart => exact ⟨(0), (by first | rfl | (simp; done) | (simp [*]; done)), H', ⟨Nat.le_refl _⟩, ⟨by (with_reducible repeat (first | apply Kd.R_alloc | apply Kd.R_drewN | apply Kd.R_drew)); exact HO_7.out⟩, ⟨Hd.b_⟩⟩
    case round =>
     clear H'
     try clear c1
     try clear c2
     try clear p2
     try clear c5
     try clear c7
     try clear c11
     try clear p2
     obtain ⟨x9_2, rfl, HA, HK2, HO_7, HB⟩ := hrel
     cases gk with
     | zero => exact absurd HA.out (by simp [spec_CanDrop.l0])
     | succ k2 =>
      have H := HA.out
      clear HA
      simp only [spec_CanDrop.l0] at H
      by_cases c12 : x9_2 < (l2.length : Int)
      ·
       rw [if_pos c12] at H
       have c12b0 : decide (x9_2 < (l2.length : Int)) = true := decide_eq_true c12
       clear c12
       by_cases c13 : 0 ≤ x9_2
       ·
        rw [if_pos c13] at H
        have c13b0 : decide (0 ≤ x9_2) = true := decide_eq_true c13
        clear c13
        replace H := Option.bind_eq_some_iff.mp H
        obtain ⟨t414, A140, H⟩ := H
        replace H : ((spec_LinesMeet.f k2 l0 (rd_L4 l2 x9_2)).bind fun t416 => (if t414 > t416 then (some false) else (spec_CanDrop.l0 k2 l0 l2 t408 (wrap64 (x9_2 + 1))))) = some r := H
        have A14 := Aside0.mk A140
        clear A140
        replace H := Option.bind_eq_some_iff.mp H
        obtain ⟨t416, A150, H⟩ := H
        replace H : (if t414 > t416 then (some false) else (spec_CanDrop.l0 k2 l0 l2 t408 (wrap64 (x9_2 + 1)))) = some r := H
        have A15 := Aside0.mk A150
        clear A150
        by_cases c16 : t414 > t416
        ·
         rw [if_pos c16] at H
         have c16b0 : decide (t416 < t414) = true := decide_eq_true c16
         clear c16
         obtain rfl := Option.some.inj H
         try go_wp2
         replace HO_7 := Aside0.mk (Kd.R_drew HO_7.out)
         replace HB := Aside0.mk (below_drew1 HB.out)
         have p413 : 0 ≤ (x9_2 : Int) := of_decide_eq_true Hd.a_
         have q413 : x9_2 < (l2.length : Int) := of_decide_eq_true Hd.a_
         obtain ⟨ad413, A413_0, c413_0, e413, hx413_0, hl413_0, hi413_0⟩ := at_L4 HR2.out x9_2 p413 q413
         have hw413_0 := hx413_0
         cases e413
         replace hx413_0 := (HB.out.cell (World.block_lt_of_cell? w _ hx413_0)).trans hx413_0
         have HR413_0 := Aside0.mk hi413_0
         have HC413_0 := Aside0.mk hl413_0
         clear hi413_0 hl413_0
         replace p413 := eq_true p413
         replace q413 := eq_true q413
         have p415 : 0 ≤ (x9_2 : Int) := of_decide_eq_true Hd.a_
         have q415 : x9_2 < (l2.length : Int) := of_decide_eq_true Hd.a_
         obtain ⟨ad415, A415_0, c415_0, e415, hx415_0, hl415_0, hi415_0⟩ := at_L4 HR2.out x9_2 p415 q415
         have hw415_0 := hx415_0
         obtain rfl : ad413 = ad415 := (by injection e415)
         replace hx415_0 := (HB.out.cell (World.block_lt_of_cell? w _ hx415_0)).trans hx415_0
         have HR415_0 := Aside0.mk hi415_0
         have HC415_0 := Aside0.mk hl415_0
         clear hi415_0 hl415_0
         replace p415 := eq_true p415
         replace q415 := eq_true q415
         have ea_ := Option.some.inj (hx413_0.symm.trans hx415_0)
         injection ea_ with ea_ en_ ec_
         subst ea_
         subst ec_
         clear en_
         obtain ⟨Ao18, co18, eo18⟩ := Kd.R_slice HO_7.out
         (first | subst eo18 | (injection eo18 with f1_ f2_ f3_; have f4_ := f1_.symm; have f5_ := f3_.symm; clear f1_ f2_ f3_; subst f4_; subst f5_))
         refine start_ (n := 13) (S := fun w' => w'.cell? (ad413.add (x9_2).toNat) = some (.slice A413_0 (rd_L4 l2 x9_2).length c413_0) ∧ w'.cell? (ad413.add (x9_2).toNat) = some (.slice A413_0 (rd_L4 l2 x9_2).length c413_0)) (ds := []) #[false, false, false, false, false, false, false, false, false, false, false, false, false] (by kernel_rfl) rfl rfl ⟨((HB.out.cell (World.block_lt_of_cell? w _ hw413_0)).trans hw413_0), ((HB.out.cell (World.block_lt_of_cell? w _ hw415_0)).trans hw415_0)⟩ (fun hHeld => ?_); refine with_tabW spec_CanDrop.tab7 spec_CanDrop.bits7 (fun HT_ HW_ => ?_)
         generalize wr.drew = w17 at HO_7 HB HR413_0 HR415_0 hx413_0 hx415_0 hHeld ⊢
         refine Hd.p_ HT_ 0 (some 29) #[true, false, false, false, false, false, false, false, false, false, false, false, false] ?_
         refine Hd.p_ HT_ 1 (some 30) #[true, true, false, false, false, false, false, false, false, false, false, false, false] ?_
         refine Hd.p_ HT_ 2 (some 31) #[true, true, true, false, false, false, false, false, false, false, false, false, false] ?_
         refine Hd.p_ HT_ 3 (some 32) #[true, true, true, true, false, false, false, false, false, false, false, false, false] ?_
         refine Hd.p_ HT_ 6 (some 35) #[true, true, true, true, false, false, true, false, false, false, false, false, false] ?_
         refine Hd.p_ HT_ 7 (some 36) #[true, true, true, true, false, false, true, true, false, false, false, false, false] ?_
         refine Hd.p_ HT_ 8 (some 37) #[true, true, true, true, false, false, true, true, true, false, false, false, false] ?_
         refine Hd.p_ HT_ 9 (some 38) #[true, true, true, true, false, false, true, true, true, true, false, false, false] ?_
         refine Hd.t_ HT_ HW_ hHeld 4 (some 33) #[true, true, true, true, true, false, true, true, true, true, false, false, false] ?_
         refine Hd.t_ HT_ HW_ hHeld 10 (some 39) #[true, true, true, true, true, false, true, true, true, true, true, false, false] ?_
         refine Hd.o_ HT_ 5 (some 34) #[true, true, true, true, true, true, true, true, true, true, true, false, false] (fun K hK => ?_)
         refine goes_ Try.func78 (by kernel_rfl) rfl #[.slice Ao18 t408.length co18, .slice A413_0 (rd_L4 l2 x9_2).length c413_0] (by rfl) rfl rfl Hd.m_ ?_
         with_reducible refine (spec_LinesMeet.calls k2 _ _ t408 _ _ (rd_L4 l2 x9_2) t414 _ ?side1 ?side2 ?side3 ?side4 A14.out).mono ?_
         (case side1 => repeat (first | exact (Kd.R_reads' HO_7.out).2.2 | (with_reducible refine Kd.C_alloc ?_ _) | (with_reducible refine Kd.C_drewN ?_ _) | (with_reducible refine Kd.C_drew ?_)))
         (case side2 => exact (Kd.R_reads' HO_7.out).2.1)
         (case side3 => repeat (first | exact (Kd.C_below HR413_0.out HB.out) | (with_reducible refine Kd.C_alloc ?_ _) | (with_reducible refine Kd.C_drewN ?_ _) | (with_reducible refine Kd.C_drew ?_)))
         (case side4 => exact HC413_0.out)
         rintro e w19 ⟨rfl, hb⟩
         refine ⟨_, rfl, ?_⟩
         replace HO_7 := Aside0.mk (Kd.R_below (Hd.r_ HO_7) hb)
         replace HB := Aside0.mk (below_step Hd.b_ hb)
         (try clear hb)
         (try clear hb2)
         (try clear hk)
         (try clear hi)
         refine hK.out _ _ ⟨((HB.out.cell (World.block_lt_of_cell? w _ hw413_0)).trans hw413_0), ((HB.out.cell (World.block_lt_of_cell? w _ hw415_0)).trans hw415_0)⟩ (fun hHeld => ?_)
         clear hK K
         refine Hd.n_ (some 34) ?_
         refine Hd.o_ HT_ 11 (some 40) #[true, true, true, true, true, true, true, true, true, true, true, true, false] (fun K hK => ?_)
         refine goes_ Try.func78 (by kernel_rfl) rfl #[.slice A0 l0.length c0, .slice A413_0 (rd_L4 l2 x9_2).length c413_0] (by rfl) rfl rfl Hd.m_ ?_
         with_reducible refine (spec_LinesMeet.calls k2 _ _ l0 _ _ (rd_L4 l2 x9_2) t416 _ ?side1 ?side2 ?side3 ?side4 A15.out).mono ?_
         (case side1 => repeat (first | exact (Kd.C_below HR0.out HB.out) | (with_reducible refine Kd.C_alloc ?_ _) | (with_reducible refine Kd.C_drewN ?_ _) | (with_reducible refine Kd.C_drew ?_)))
         (case side2 => exact HC0.out)
         (case side3 => repeat (first | exact (Kd.C_below HR415_0.out HB.out) | (with_reducible refine Kd.C_alloc ?_ _) | (with_reducible refine Kd.C_drewN ?_ _) | (with_reducible refine Kd.C_drew ?_)))
         (case side4 => exact HC415_0.out)
         rintro e w20 ⟨rfl, hb⟩
         refine ⟨_, rfl, ?_⟩
         replace HO_7 := Aside0.mk (Kd.R_below (Hd.r_ HO_7) hb)
         replace HB := Aside0.mk (below_step Hd.b_ hb)
         (try clear hb)
         (try clear hb2)
         (try clear hk)
         (try clear hi)
         refine hK.out _ _ ⟨((HB.out.cell (World.block_lt_of_cell? w _ hw413_0)).trans hw413_0), ((HB.out.cell (World.block_lt_of_cell? w _ hw415_0)).trans hw415_0)⟩ (fun hHeld => ?_)
         clear hK K
         refine Hd.n_ (some 40) ?_
         refine Hd.p_ HT_ 12 (some 41) #[true, true, true, true, true, true, true, true, true, true, true, true, true] ?_
         refine done_ (done_of HT_.out (by kernel_rfl)) ?_
         try go_wp2
         go_ret
         exact ⟨Hd.e_, Hd.b_⟩
        ·
         rw [if_neg c16] at H
         have c16b0 : decide (t416 < t414) = false := decide_eq_false c16
         clear c16
         have H' := Aside0.mk H
         clear H
         try go_wp2
         replace HO_7 := Aside0.mk (Kd.R_drew HO_7.out)
         replace HB := Aside0.mk (below_drew1 HB.out)
         have p413 : 0 ≤ (x9_2 : Int) := of_decide_eq_true Hd.a_
         have q413 : x9_2 < (l2.length : Int) := of_decide_eq_true Hd.a_
         obtain ⟨ad413, A413_0, c413_0, e413, hx413_0, hl413_0, hi413_0⟩ := at_L4 HR2.out x9_2 p413 q413
         have hw413_0 := hx413_0
         cases e413
         replace hx413_0 := (HB.out.cell (World.block_lt_of_cell? w _ hx413_0)).trans hx413_0
         have HR413_0 := Aside0.mk hi413_0
         have HC413_0 := Aside0.mk hl413_0
         clear hi413_0 hl413_0
         replace p413 := eq_true p413
         replace q413 := eq_true q413
         have p415 : 0 ≤ (x9_2 : Int) := of_decide_eq_true Hd.a_
         have q415 : x9_2 < (l2.length : Int) := of_decide_eq_true Hd.a_
         obtain ⟨ad415, A415_0, c415_0, e415, hx415_0, hl415_0, hi415_0⟩ := at_L4 HR2.out x9_2 p415 q415
         have hw415_0 := hx415_0
         obtain rfl : ad413 = ad415 := (by injection e415)
         replace hx415_0 := (HB.out.cell (World.block_lt_of_cell? w _ hx415_0)).trans hx415_0
         have HR415_0 := Aside0.mk hi415_0
         have HC415_0 := Aside0.mk hl415_0
         clear hi415_0 hl415_0
         replace p415 := eq_true p415
         replace q415 := eq_true q415
         have ea_ := Option.some.inj (hx413_0.symm.trans hx415_0)
         injection ea_ with ea_ en_ ec_
         subst ea_
         subst ec_
         clear en_
         obtain ⟨Ao22, co22, eo22⟩ := Kd.R_slice HO_7.out
         (first | subst eo22 | (injection eo22 with f1_ f2_ f3_; have f4_ := f1_.symm; have f5_ := f3_.symm; clear f1_ f2_ f3_; subst f4_; subst f5_))
         refine start_ (n := 13) (S := fun w' => w'.cell? (ad413.add (x9_2).toNat) = some (.slice A413_0 (rd_L4 l2 x9_2).length c413_0) ∧ w'.cell? (ad413.add (x9_2).toNat) = some (.slice A413_0 (rd_L4 l2 x9_2).length c413_0)) (ds := []) #[false, false, false, false, false, false, false, false, false, false, false, false, false] (by kernel_rfl) rfl rfl ⟨((HB.out.cell (World.block_lt_of_cell? w _ hw413_0)).trans hw413_0), ((HB.out.cell (World.block_lt_of_cell? w _ hw415_0)).trans hw415_0)⟩ (fun hHeld => ?_); refine with_tabW spec_CanDrop.tab7 spec_CanDrop.bits7 (fun HT_ HW_ => ?_)
         generalize wr.drew = w21 at HO_7 HB HR413_0 HR415_0 hx413_0 hx415_0 hHeld ⊢
         refine Hd.p_ HT_ 0 (some 29) #[true, false, false, false, false, false, false, false, false, false, false, false, false] ?_
         refine Hd.p_ HT_ 1 (some 30) #[true, true, false, false, false, false, false, false, false, false, false, false, false] ?_
         refine Hd.p_ HT_ 2 (some 31) #[true, true, true, false, false, false, false, false, false, false, false, false, false] ?_
         refine Hd.p_ HT_ 3 (some 32) #[true, true, true, true, false, false, false, false, false, false, false, false, false] ?_
         refine Hd.p_ HT_ 6 (some 35) #[true, true, true, true, false, false, true, false, false, false, false, false, false] ?_
         refine Hd.p_ HT_ 7 (some 36) #[true, true, true, true, false, false, true, true, false, false, false, false, false] ?_
         refine Hd.p_ HT_ 8 (some 37) #[true, true, true, true, false, false, true, true, true, false, false, false, false] ?_
         refine Hd.p_ HT_ 9 (some 38) #[true, true, true, true, false, false, true, true, true, true, false, false, false] ?_
         refine Hd.t_ HT_ HW_ hHeld 4 (some 33) #[true, true, true, true, true, false, true, true, true, true, false, false, false] ?_
         refine Hd.t_ HT_ HW_ hHeld 10 (some 39) #[true, true, true, true, true, false, true, true, true, true, true, false, false] ?_
         refine Hd.o_ HT_ 5 (some 34) #[true, true, true, true, true, true, true, true, true, true, true, false, false] (fun K hK => ?_)
         refine goes_ Try.func78 (by kernel_rfl) rfl #[.slice Ao22 t408.length co22, .slice A413_0 (rd_L4 l2 x9_2).length c413_0] (by rfl) rfl rfl Hd.m_ ?_
         with_reducible refine (spec_LinesMeet.calls k2 _ _ t408 _ _ (rd_L4 l2 x9_2) t414 _ ?side1 ?side2 ?side3 ?side4 A14.out).mono ?_
         (case side1 => repeat (first | exact (Kd.R_reads' HO_7.out).2.2 | (with_reducible refine Kd.C_alloc ?_ _) | (with_reducible refine Kd.C_drewN ?_ _) | (with_reducible refine Kd.C_drew ?_)))
         (case side2 => exact (Kd.R_reads' HO_7.out).2.1)
         (case side3 => repeat (first | exact (Kd.C_below HR413_0.out HB.out) | (with_reducible refine Kd.C_alloc ?_ _) | (with_reducible refine Kd.C_drewN ?_ _) | (with_reducible refine Kd.C_drew ?_)))
         (case side4 => exact HC413_0.out)
         rintro e w23 ⟨rfl, hb⟩
         refine ⟨_, rfl, ?_⟩
         replace HO_7 := Aside0.mk (Kd.R_below (Hd.r_ HO_7) hb)
         replace HB := Aside0.mk (below_step Hd.b_ hb)
         (try clear hb)
         (try clear hb2)
         (try clear hk)
         (try clear hi)
         refine hK.out _ _ ⟨((HB.out.cell (World.block_lt_of_cell? w _ hw413_0)).trans hw413_0), ((HB.out.cell (World.block_lt_of_cell? w _ hw415_0)).trans hw415_0)⟩ (fun hHeld => ?_)
         clear hK K
         refine Hd.n_ (some 34) ?_
         refine Hd.o_ HT_ 11 (some 40) #[true, true, true, true, true, true, true, true, true, true, true, true, false] (fun K hK => ?_)
         refine goes_ Try.func78 (by kernel_rfl) rfl #[.slice A0 l0.length c0, .slice A413_0 (rd_L4 l2 x9_2).length c413_0] (by rfl) rfl rfl Hd.m_ ?_
         with_reducible refine (spec_LinesMeet.calls k2 _ _ l0 _ _ (rd_L4 l2 x9_2) t416 _ ?side1 ?side2 ?side3 ?side4 A15.out).mono ?_
         (case side1 => repeat (first | exact (Kd.C_below HR0.out HB.out) | (with_reducible refine Kd.C_alloc ?_ _) | (with_reducible refine Kd.C_drewN ?_ _) | (with_reducible refine Kd.C_drew ?_)))
         (case side2 => exact HC0.out)
         (case side3 => repeat (first | exact (Kd.C_below HR415_0.out HB.out) | (with_reducible refine Kd.C_alloc ?_ _) | (with_reducible refine Kd.C_drewN ?_ _) | (with_reducible refine Kd.C_drew ?_)))
         (case side4 => exact HC415_0.out)
         rintro e w24 ⟨rfl, hb⟩
         refine ⟨_, rfl, ?_⟩
         replace HO_7 := Aside0.mk (Kd.R_below (Hd.r_ HO_7) hb)
         replace HB := Aside0.mk (below_step Hd.b_ hb)
         (try clear hb)
         (try clear hb2)
         (try clear hk)
         (try clear hi)
         refine hK.out _ _ ⟨((HB.out.cell (World.block_lt_of_cell? w _ hw413_0)).trans hw413_0), ((HB.out.cell (World.block_lt_of_cell? w _ hw415_0)).trans hw415_0)⟩ (fun hHeld => ?_)
         clear hK K
         refine Hd.n_ (some 40) ?_
         refine Hd.p_ HT_ 12 (some 41) #[true, true, true, true, true, true, true, true, true, true, true, true, true] ?_
         refine done_ (done_of HT_.out (by kernel_rfl)) ?_
         try go_wp2
         go_roundg k2
         case measure => have := HJ4.out; have := HK2.out; omega
         case rel => exact ⟨(wrap64 (x9_2 + 1)), (by first | rfl | (simp; done) | (simp [*]; done)), H', ⟨by have := HJ4.out; have := HK2.out; omega⟩, ⟨by (with_reducible repeat (first | apply Kd.R_alloc | apply Kd.R_drewN | apply Kd.R_drew)); exact HO_7.out⟩, ⟨Hd.b_⟩⟩
       ·
        rw [if_neg c13] at H
        exact absurd H (by simp)
      ·
       rw [if_neg c12] at H
       have c12b0 : decide (x9_2 < (l2.length : Int)) = false := decide_eq_false c12
       clear c12
       obtain rfl := Option.some.inj H
       go_wp2
       go_ret
       exact ⟨Hd.e_, Hd.b_⟩
end Go.Proofs.Ytchmbcembbbplac.MFnExactSafeSimplify
