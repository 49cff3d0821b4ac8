-- Laid by this session's program pp.py, after the kit's print and texts of the session's own. Not trusted: Lean checks it.
import Derived.Test.YtchmbcembbbplacZCanDropMx0
import Derived.Test.YtchmbcembbbplacZCanDropMx2
import Derived.Test.YtchmbcembbbplacZCanDropMx3
import Derived.Test.YtchmbcembbbplacZCanDropMx5
namespace Go.Proofs.Ytchmbcembbbplac.MFnExactCanDrop
open Go.RowKit Go.Proofs.YtchmbcembbbplacW.PrintWords Go.Proofs.YtchmbcembbbplacW.PrintLast Go.Proofs.YtchmbcembbbplacW.PrintMore
attribute [local go_sem] max2_int min2_int max_two min_two max_three min_three max_four min_four   -- for this text's walks alone
set_option linter.unusedVariables false
set_option linter.unusedSimpArgs false
mutual
def impl_IsSimple.l0 : Nat → List (S111) → Int → Int → Option (Bool)
 | 0, _, _, _ => none
 | k + 1, x3, x13, x14 => if x14 < x13 then (impl_IsSimple.l1 k x3 x14 x13 x14 x14 0) else (some true)
def impl_IsSimple.l1 : Nat → List (S111) → Int → Int → Int → Int → Int → Option (Bool)
 | 0, _, _, _, _, _, _ => none
 | k + 1, x3, x4, x13, x14, x17, x18 => if x18 < x17 then (if x18 = (wrap64 (x4 - 1)) then (if 0 ≤ x4 then (if x4 < (x3.length : Int) then (if 0 ≤ x18 then (if x18 < (x3.length : Int) then ((impl_HowMeet.f k ((rd_T111 x3 x4).f0.f0) ((rd_T111 x3 x4).f0.f1) ((rd_T111 x3 x4).f1.f0) ((rd_T111 x3 x4).f1.f1) ((rd_T111 x3 x18).f0.f0) ((rd_T111 x3 x18).f0.f1) ((rd_T111 x3 x18).f1.f0) ((rd_T111 x3 x18).f1.f1)).bind fun t210 => (if t210 = 1 then (impl_IsSimple.l1 k x3 x4 x13 x14 x17 (wrap64 (x18 + 1))) else (some false))) else (none)) else (none)) else (none)) else (none)) else (if 0 ≤ x4 then (if x4 < (x3.length : Int) then (if 0 ≤ x18 then (if x18 < (x3.length : Int) then ((impl_HowMeet.f k ((rd_T111 x3 x4).f0.f0) ((rd_T111 x3 x4).f0.f1) ((rd_T111 x3 x4).f1.f0) ((rd_T111 x3 x4).f1.f1) ((rd_T111 x3 x18).f0.f0) ((rd_T111 x3 x18).f0.f1) ((rd_T111 x3 x18).f1.f0) ((rd_T111 x3 x18).f1.f1)).bind fun t213 => (if t213 = 0 then (impl_IsSimple.l1 k x3 x4 x13 x14 x17 (wrap64 (x18 + 1))) else (some false))) else (none)) else (none)) else (none)) else (none))) else (impl_IsSimple.l0 k x3 x13 (wrap64 (x14 + 1)))
end
def impl_IsSimple.f (k : Nat) (l0 : List (S49)) : Option (Bool) := (impl_IsLine.f k l0).bind fun t204 => (if t204 = true then ((impl_SegmentsOf.f k l0).bind fun t205 => (impl_IsSimple.l0 k t205 (t205.length : Int) 0)) else (some false))
set_option maxHeartbeats 8000000 in
set_option maxRecDepth 100000 in
theorem impl_IsSimple.calls (k : Nat) (A0 : Option Addr) (c0 : Nat) (l0 : List (S49)) (r : Bool) (w : World) (hr0 : Kd.C k49 w A0 l0.length l0) (hc0 : l0.length ≤ c0) (h : impl_IsSimple.f k l0 = some r) :
  Calls Try.prog 36 #[.slice A0 l0.length c0] w fun e w' => e = .returned (.bool r) ∧ Below w.heap.size w w' := by
 have hu111 := Try.underlying111
 have HR0 := Aside0.mk hr0
 have HC0 := Aside0.mk hc0
 clear hr0 hc0
 have HB := Aside0.mk (Below.refl w.heap.size w)
 have H : ((impl_IsLine.f k l0).bind fun t204 => (if t204 = true then ((impl_SegmentsOf.f k l0).bind fun t205 => (impl_IsSimple.l0 k t205 (t205.length : Int) 0)) else (some false))) = some r := h
 clear h
 replace H := Option.bind_eq_some_iff.mp H
 obtain ⟨t204, A20, H⟩ := H
 replace H : (if t204 = true then ((impl_SegmentsOf.f k l0).bind fun t205 => (impl_IsSimple.l0 k t205 (t205.length : Int) 0)) else (some false)) = some r := H
 have A2 := Aside0.mk A20
 clear A20
 by_cases c3 : t204 = true
 ·
  subst c3
  have H1 : ((impl_SegmentsOf.f k l0).bind fun t205 => (impl_IsSimple.l0 k t205 (t205.length : Int) 0)) = some r := by rw [if_pos rfl] at H; exact H
  clear H
  have H := H1
  clear H1
  replace H := Option.bind_eq_some_iff.mp H
  obtain ⟨t205, A40, H⟩ := H
  replace H : (impl_IsSimple.l0 k t205 (t205.length : Int) 0) = some r := H
  have A4 := Aside0.mk A40
  clear A40
  have H' := Aside0.mk H
  clear H
  go_enter Try.func36, Try.ntmps36
  go_wp2_with (first | ((with_reducible refine gate_callee (f := 94) rfl ?_); refine goesL_ (some 8) rfl rfl Try.func94 (by kernel_rfl) rfl #[.slice A0 l0.length c0] rfl Hd.m_ ?_; (with_reducible refine (impl_IsLine.calls k _ _ l0 true _ ?side1 ?side2 A2.out).mono ?_); (case side1 => repeat (first | exact HR0.out | (with_reducible refine Kd.C_alloc ?_ _) | (with_reducible refine Kd.C_drewN ?_ _) | (with_reducible refine Kd.C_drew ?_))); (case side2 => exact HC0.out); rintro e w5 ⟨rfl, hb⟩; refine ⟨_, rfl, ?_⟩; replace HB := Aside0.mk (below_step Hd.b_ hb); (try clear hb); (try clear hb2); (try clear hk); (try clear hi)) | ((with_reducible refine gate_callee (f := 95) rfl ?_); refine goesL_ (some 11) rfl rfl Try.func95 (by kernel_rfl) rfl #[.slice A0 l0.length c0] rfl Hd.m_ ?_; (with_reducible refine (impl_SegmentsOf.calls k _ _ l0 t205 _ ?side1 ?side2 A4.out).mono ?_); (case side1 => repeat (first | exact (Kd.C_below HR0.out HB.out) | (with_reducible refine Kd.C_alloc ?_ _) | (with_reducible refine Kd.C_drewN ?_ _) | (with_reducible refine Kd.C_drew ?_))); (case side2 => exact HC0.out); rintro e w6 ⟨v206, rfl, ho0, hb⟩; refine ⟨_, rfl, ?_⟩; have HO207 := Aside0.mk (Kd.R_lower ho0 (below_size Hd.b_)); replace HB := Aside0.mk (below_step Hd.b_ hb); (try clear hb); (try clear hb2); (try clear hk); (try clear hi); (try clear ho0); obtain ⟨Ao7, co7, eo7⟩ := Kd.R_slice HO207.out; subst eo7))
  go_loopg [14] k (fun kq v14 w' => ∃ (x14_1 : Int), v14 = .int .i64 x14_1 ∧ Aside0 (impl_IsSimple.l0 kq t205 (t205.length : Int) x14_1 = some r) ∧ Aside0 (kq ≤ k) ∧ Aside0 (Kd.R k111 111 w' w.heap.size (fun _ => True) (.slice Ao7 t205.length co7) t205) ∧ Aside0 (Below w.heap.size w w'))
  case atStart => exact ⟨(0), (by first | rfl | (simp; done) | (simp [*]; done)), H', ⟨Nat.le_refl _⟩, ⟨by (with_reducible repeat (first | apply Kd.R_alloc | apply Kd.R_drewN | apply Kd.R_drew)); exact HO207.out⟩, ⟨Hd.b_⟩⟩
  case round =>
   clear H'
   try clear p2
   try clear c3
   obtain ⟨x14_1, rfl, HA, HK1, HO_3, HB⟩ := hrel
   cases gk with
   | zero => exact absurd HA.out (by simp [impl_IsSimple.l0])
   | succ k1 =>
    have H := HA.out
    clear HA
    simp only [impl_IsSimple.l0] at H
    by_cases c8 : x14_1 < (t205.length : Int)
    ·
     rw [if_pos c8] at H
     have c8b0 : decide (x14_1 < (t205.length : Int)) = true := decide_eq_true c8
     clear c8
     have H' := Aside0.mk H
     clear H
     go_wp2
     go_loopg [18] k1 (fun kq v18 w' => ∃ (x18_2 : Int), v18 = .int .i64 x18_2 ∧ Aside0 (impl_IsSimple.l1 kq t205 x14_1 (t205.length : Int) x14_1 x14_1 x18_2 = some r) ∧ Aside0 (kq ≤ k1) ∧ Aside0 (Kd.R k111 111 w' w.heap.size (fun _ => True) (.slice Ao7 t205.length co7) t205) ∧ Aside0 (Below w.heap.size w w'))
     case atStart => exact ⟨(0), (by first | rfl | (simp; done) | (simp [*]; done)), H', ⟨Nat.le_refl _⟩, ⟨by (with_reducible repeat (first | apply Kd.R_alloc | apply Kd.R_drewN | apply Kd.R_drew)); exact HO_3.out⟩, ⟨Hd.b_⟩⟩
     case round =>
      clear H'
      try clear p2
      try clear c3
      try clear c8
      try clear c8b0
      try clear p2
      obtain ⟨x18_2, rfl, HA, HK2, HO_3, HB⟩ := hrel
      cases gk with
      | zero => exact absurd HA.out (by simp [impl_IsSimple.l1])
      | succ k2 =>
       have H := HA.out
       clear HA
       simp only [impl_IsSimple.l1] at H
       by_cases c9 : x18_2 < x14_1
       ·
        rw [if_pos c9] at H
        have c9b0 : decide (x18_2 < x14_1) = true := decide_eq_true c9
        clear c9
        by_cases c10 : x18_2 = (wrap64 (x14_1 - 1))
        ·
         rw [if_pos c10] at H
         have c10b0 : (x18_2 == (wrap64 (x14_1 - 1))) = true := beq_iff_eq.mpr c10
         have c10b1 : (x18_2 != (wrap64 (x14_1 - 1))) = false := bne_eq_false_iff_eq.mpr c10
         clear c10
         by_cases c11 : 0 ≤ x14_1
         ·
          rw [if_pos c11] at H
          have c11b0 : decide (0 ≤ x14_1) = true := decide_eq_true c11
          clear c11
          by_cases c12 : x14_1 < (t205.length : Int)
          ·
           rw [if_pos c12] at H
           have c12b0 : decide (x14_1 < (t205.length : Int)) = true := decide_eq_true c12
           clear c12
           by_cases c13 : 0 ≤ x18_2
           ·
            rw [if_pos c13] at H
            have c13b0 : decide (0 ≤ x18_2) = true := decide_eq_true c13
            clear c13
            by_cases c14 : x18_2 < (t205.length : Int)
            ·
             rw [if_pos c14] at H
             have c14b0 : decide (x18_2 < (t205.length : Int)) = true := decide_eq_true c14
             clear c14
             replace H := Option.bind_eq_some_iff.mp H
             obtain ⟨t210, A150, H⟩ := H
             replace H : (if t210 = 1 then (impl_IsSimple.l1 k2 t205 x14_1 (t205.length : Int) x14_1 x14_1 (wrap64 (x18_2 + 1))) else (some false)) = some r := H
             have A15 := Aside0.mk A150
             clear A150
             by_cases c16 : t210 = 1
             ·
              rw [if_pos c16] at H
              have c16b0 : (t210 == 1) = true := beq_iff_eq.mpr c16
              have c16b1 : (t210 != 1) = false := bne_eq_false_iff_eq.mpr c16
              clear c16
              have H' := Aside0.mk H
              clear H
              try go_wp2
              replace HO_3 := Aside0.mk (Kd.R_drew HO_3.out)
              replace HB := Aside0.mk (below_drew1 HB.out)
              have p208 : 0 ≤ (x14_1 : Int) := of_decide_eq_true Hd.a_
              have q208 : x14_1 < (t205.length : Int) := of_decide_eq_true Hd.a_
              obtain ⟨ad208, e208, hx208_0, hx208_1, hx208_2, hx208_3⟩ := at_T111 (Kd.R_reads' HO_3.out).2.2 x14_1 p208 q208
              cases e208
              replace p208 := eq_true p208
              replace q208 := eq_true q208
              have p209 : 0 ≤ (x18_2 : Int) := of_decide_eq_true Hd.a_
              have q209 : x18_2 < (t205.length : Int) := of_decide_eq_true Hd.a_
              obtain ⟨ad209, e209, hx209_0, hx209_1, hx209_2, hx209_3⟩ := at_T111 (Kd.R_reads' HO_3.out).2.2 x18_2 p209 q209
              obtain rfl : ad208 = ad209 := (by injection e209)
              replace p209 := eq_true p209
              replace q209 := eq_true q209
              have s0_ := Hd.HW.x (W0 := wr.drew) hx208_0
              have s1_ := Hd.HW.x (W0 := wr.drew) hx208_1
              have s2_ := Hd.HW.x (W0 := wr.drew) hx208_2
              have s3_ := Hd.HW.x (W0 := wr.drew) hx208_3
              have s4_ := Hd.HW.x (W0 := wr.drew) hx209_0
              have s5_ := Hd.HW.x (W0 := wr.drew) hx209_1
              have s6_ := Hd.HW.x (W0 := wr.drew) hx209_2
              have s7_ := Hd.HW.x (W0 := wr.drew) hx209_3
              refine Hd.HW.region (by kernel_rfl) (by kernel_rfl) ?_
              repeat (go_big_quiet_step ((first | (go_at_call 96; with_reducible exact Hd.HW.c (impl_HowMeet.calls k2 ((rd_T111 t205 x14_1).f0.f0) ((rd_T111 t205 x14_1).f0.f1) ((rd_T111 t205 x14_1).f1.f0) ((rd_T111 t205 x14_1).f1.f1) ((rd_T111 t205 x18_2).f0.f0) ((rd_T111 t205 x18_2).f0.f1) ((rd_T111 t205 x18_2).f1.f0) ((rd_T111 t205 x18_2).f1.f1) t210 _ A15.out)))))
              refine wpQuiet_nil ?_
              intro _ hq_
              obtain ⟨q_, rfl⟩ := hq_
              clear s0_ s1_ s2_ s3_ s4_ s5_ s6_ s7_
              replace HO_3 := Aside0.mk (Kd.R_below HO_3.out q_.b)
              replace HB := Aside0.mk (below_step HB.out q_.b)
              replace hx208_0 := q_.cell hx208_0
              replace hx208_1 := q_.cell hx208_1
              replace hx208_2 := q_.cell hx208_2
              replace hx208_3 := q_.cell hx208_3
              replace hx209_0 := q_.cell hx209_0
              replace hx209_1 := q_.cell hx209_1
              replace hx209_2 := q_.cell hx209_2
              replace hx209_3 := q_.cell hx209_3
              generalize q_.W = w18 at HO_3 HB hx208_0 hx208_1 hx208_2 hx208_3 hx209_0 hx209_1 hx209_2 hx209_3 ⊢
              try simp only [i64_w, i32_w]
              try go_wp2
              go_roundg k2
              case measure => have := HK1.out; have := HK2.out; omega
              case rel => exact ⟨(wrap64 (x18_2 + 1)), (by first | rfl | (simp; done) | (simp [*]; done)), H', ⟨by have := HK1.out; have := HK2.out; omega⟩, ⟨by (with_reducible repeat (first | apply Kd.R_alloc | apply Kd.R_drewN | apply Kd.R_drew)); exact HO_3.out⟩, ⟨Hd.b_⟩⟩
             ·
              rw [if_neg c16] at H
              have c16b0 : (t210 == 1) = false := beq_eq_false_iff_ne.mpr c16
              have c16b1 : (t210 != 1) = true := bne_iff_ne.mpr c16
              obtain rfl := Option.some.inj H
              try go_wp2
              replace HO_3 := Aside0.mk (Kd.R_drew HO_3.out)
              replace HB := Aside0.mk (below_drew1 HB.out)
              have p208 : 0 ≤ (x14_1 : Int) := of_decide_eq_true Hd.a_
              have q208 : x14_1 < (t205.length : Int) := of_decide_eq_true Hd.a_
              obtain ⟨ad208, e208, hx208_0, hx208_1, hx208_2, hx208_3⟩ := at_T111 (Kd.R_reads' HO_3.out).2.2 x14_1 p208 q208
              cases e208
              replace p208 := eq_true p208
              replace q208 := eq_true q208
              have p209 : 0 ≤ (x18_2 : Int) := of_decide_eq_true Hd.a_
              have q209 : x18_2 < (t205.length : Int) := of_decide_eq_true Hd.a_
              obtain ⟨ad209, e209, hx209_0, hx209_1, hx209_2, hx209_3⟩ := at_T111 (Kd.R_reads' HO_3.out).2.2 x18_2 p209 q209
              obtain rfl : ad208 = ad209 := (by injection e209)
              replace p209 := eq_true p209
              replace q209 := eq_true q209
              have s0_ := Hd.HW.x (W0 := wr.drew) hx208_0
              have s1_ := Hd.HW.x (W0 := wr.drew) hx208_1
              have s2_ := Hd.HW.x (W0 := wr.drew) hx208_2
              have s3_ := Hd.HW.x (W0 := wr.drew) hx208_3
              have s4_ := Hd.HW.x (W0 := wr.drew) hx209_0
              have s5_ := Hd.HW.x (W0 := wr.drew) hx209_1
              have s6_ := Hd.HW.x (W0 := wr.drew) hx209_2
              have s7_ := Hd.HW.x (W0 := wr.drew) hx209_3
              refine Hd.HW.region (by kernel_rfl) (by kernel_rfl) ?_
              repeat (go_big_quiet_step ((first | (go_at_call 96; with_reducible exact Hd.HW.c (impl_HowMeet.calls k2 ((rd_T111 t205 x14_1).f0.f0) ((rd_T111 t205 x14_1).f0.f1) ((rd_T111 t205 x14_1).f1.f0) ((rd_T111 t205 x14_1).f1.f1) ((rd_T111 t205 x18_2).f0.f0) ((rd_T111 t205 x18_2).f0.f1) ((rd_T111 t205 x18_2).f1.f0) ((rd_T111 t205 x18_2).f1.f1) t210 _ A15.out)))))
              refine wpQuiet_nil ?_
              intro _ hq_
              obtain ⟨q_, rfl⟩ := hq_
              clear s0_ s1_ s2_ s3_ s4_ s5_ s6_ s7_
              replace HO_3 := Aside0.mk (Kd.R_below HO_3.out q_.b)
              replace HB := Aside0.mk (below_step HB.out q_.b)
              replace hx208_0 := q_.cell hx208_0
              replace hx208_1 := q_.cell hx208_1
              replace hx208_2 := q_.cell hx208_2
              replace hx208_3 := q_.cell hx208_3
              replace hx209_0 := q_.cell hx209_0
              replace hx209_1 := q_.cell hx209_1
              replace hx209_2 := q_.cell hx209_2
              replace hx209_3 := q_.cell hx209_3
              generalize q_.W = w20 at HO_3 HB hx208_0 hx208_1 hx208_2 hx208_3 hx209_0 hx209_1 hx209_2 hx209_3 ⊢
              try simp only [i64_w, i32_w]
              try go_wp2
              go_ret
              exact ⟨Hd.e_, Hd.b_⟩
            ·
             rw [if_neg c14] at H
             exact absurd H (by simp)
           ·
            rw [if_neg c13] at H
            exact absurd H (by simp)
          ·
           rw [if_neg c12] at H
           exact absurd H (by simp)
         ·
          rw [if_neg c11] at H
          exact absurd H (by simp)
        ·
         rw [if_neg c10] at H
         have c10b0 : (x18_2 == (wrap64 (x14_1 - 1))) = false := beq_eq_false_iff_ne.mpr c10
         have c10b1 : (x18_2 != (wrap64 (x14_1 - 1))) = true := bne_iff_ne.mpr c10
         by_cases c21 : 0 ≤ x14_1
         ·
          rw [if_pos c21] at H
          have c21b0 : decide (0 ≤ x14_1) = true := decide_eq_true c21
          clear c21
          by_cases c22 : x14_1 < (t205.length : Int)
          ·
           rw [if_pos c22] at H
           have c22b0 : decide (x14_1 < (t205.length : Int)) = true := decide_eq_true c22
           clear c22
           by_cases c23 : 0 ≤ x18_2
           ·
            rw [if_pos c23] at H
            have c23b0 : decide (0 ≤ x18_2) = true := decide_eq_true c23
            clear c23
            by_cases c24 : x18_2 < (t205.length : Int)
            ·
             rw [if_pos c24] at H
             have c24b0 : decide (x18_2 < (t205.length : Int)) = true := decide_eq_true c24
             clear c24
             replace H := Option.bind_eq_some_iff.mp H
             obtain ⟨t213, A250, H⟩ := H
             replace H : (if t213 = 0 then (impl_IsSimple.l1 k2 t205 x14_1 (t205.length : Int) x14_1 x14_1 (wrap64 (x18_2 + 1))) else (some false)) = some r := H
             have A25 := Aside0.mk A250
             clear A250
             by_cases c26 : t213 = 0
             ·
              rw [if_pos c26] at H
              have c26b0 : (t213 == 0) = true := beq_iff_eq.mpr c26
              have c26b1 : (t213 != 0) = false := bne_eq_false_iff_eq.mpr c26
              clear c26
              have H' := Aside0.mk H
              clear H
              try go_wp2
              replace HO_3 := Aside0.mk (Kd.R_drew HO_3.out)
              replace HB := Aside0.mk (below_drew1 HB.out)
              have p211 : 0 ≤ (x14_1 : Int) := of_decide_eq_true Hd.a_
              have q211 : x14_1 < (t205.length : Int) := of_decide_eq_true Hd.a_
              obtain ⟨ad211, e211, hx211_0, hx211_1, hx211_2, hx211_3⟩ := at_T111 (Kd.R_reads' HO_3.out).2.2 x14_1 p211 q211
              cases e211
              replace p211 := eq_true p211
              replace q211 := eq_true q211
              have p212 : 0 ≤ (x18_2 : Int) := of_decide_eq_true Hd.a_
              have q212 : x18_2 < (t205.length : Int) := of_decide_eq_true Hd.a_
              obtain ⟨ad212, e212, hx212_0, hx212_1, hx212_2, hx212_3⟩ := at_T111 (Kd.R_reads' HO_3.out).2.2 x18_2 p212 q212
              obtain rfl : ad211 = ad212 := (by injection e212)
              replace p212 := eq_true p212
              replace q212 := eq_true q212
              have s0_ := Hd.HW.x (W0 := wr.drew) hx211_0
              have s1_ := Hd.HW.x (W0 := wr.drew) hx211_1
              have s2_ := Hd.HW.x (W0 := wr.drew) hx211_2
              have s3_ := Hd.HW.x (W0 := wr.drew) hx211_3
              have s4_ := Hd.HW.x (W0 := wr.drew) hx212_0
              have s5_ := Hd.HW.x (W0 := wr.drew) hx212_1
              have s6_ := Hd.HW.x (W0 := wr.drew) hx212_2
              have s7_ := Hd.HW.x (W0 := wr.drew) hx212_3
              refine Hd.HW.region (by kernel_rfl) (by kernel_rfl) ?_
              repeat (go_big_quiet_step ((first | (go_at_call 96; with_reducible exact Hd.HW.c (impl_HowMeet.calls k2 ((rd_T111 t205 x14_1).f0.f0) ((rd_T111 t205 x14_1).f0.f1) ((rd_T111 t205 x14_1).f1.f0) ((rd_T111 t205 x14_1).f1.f1) ((rd_T111 t205 x18_2).f0.f0) ((rd_T111 t205 x18_2).f0.f1) ((rd_T111 t205 x18_2).f1.f0) ((rd_T111 t205 x18_2).f1.f1) t213 _ A25.out)))))
              refine wpQuiet_nil ?_
              intro _ hq_
              obtain ⟨q_, rfl⟩ := hq_
              clear s0_ s1_ s2_ s3_ s4_ s5_ s6_ s7_
              replace HO_3 := Aside0.mk (Kd.R_below HO_3.out q_.b)
              replace HB := Aside0.mk (below_step HB.out q_.b)
              replace hx211_0 := q_.cell hx211_0
              replace hx211_1 := q_.cell hx211_1
              replace hx211_2 := q_.cell hx211_2
              replace hx211_3 := q_.cell hx211_3
              replace hx212_0 := q_.cell hx212_0
              replace hx212_1 := q_.cell hx212_1
              replace hx212_2 := q_.cell hx212_2
              replace hx212_3 := q_.cell hx212_3
              generalize q_.W = w28 at HO_3 HB hx211_0 hx211_1 hx211_2 hx211_3 hx212_0 hx212_1 hx212_2 hx212_3 ⊢
              try simp only [i64_w, i32_w]
              try go_wp2
              go_roundg k2
              case measure => have := HK1.out; have := HK2.out; omega
              case rel => exact ⟨(wrap64 (x18_2 + 1)), (by first | rfl | (simp; done) | (simp [*]; done)), H', ⟨by have := HK1.out; have := HK2.out; omega⟩, ⟨by (with_reducible repeat (first | apply Kd.R_alloc | apply Kd.R_drewN | apply Kd.R_drew)); exact HO_3.out⟩, ⟨Hd.b_⟩⟩
             ·
              rw [if_neg c26] at H
              have c26b0 : (t213 == 0) = false := beq_eq_false_iff_ne.mpr c26
              have c26b1 : (t213 != 0) = true := bne_iff_ne.mpr c26
              obtain rfl := Option.some.inj H
              try go_wp2
              replace HO_3 := Aside0.mk (Kd.R_drew HO_3.out)
              replace HB := Aside0.mk (below_drew1 HB.out)
              have p211 : 0 ≤ (x14_1 : Int) := of_decide_eq_true Hd.a_
              have q211 : x14_1 < (t205.length : Int) := of_decide_eq_true Hd.a_
              obtain ⟨ad211, e211, hx211_0, hx211_1, hx211_2, hx211_3⟩ := at_T111 (Kd.R_reads' HO_3.out).2.2 x14_1 p211 q211
              cases e211
              replace p211 := eq_true p211
              replace q211 := eq_true q211
              have p212 : 0 ≤ (x18_2 : Int) := of_decide_eq_true Hd.a_
              have q212 : x18_2 < (t205.length : Int) := of_decide_eq_true Hd.a_
              obtain ⟨ad212, e212, hx212_0, hx212_1, hx212_2, hx212_3⟩ := at_T111 (Kd.R_reads' HO_3.out).2.2 x18_2 p212 q212
              obtain rfl : ad211 = ad212 := (by injection e212)
              replace p212 := eq_true p212
              replace q212 := eq_true q212
              have s0_ := Hd.HW.x (W0 := wr.drew) hx211_0
              have s1_ := Hd.HW.x (W0 := wr.drew) hx211_1
              have s2_ := Hd.HW.x (W0 := wr.drew) hx211_2
              have s3_ := Hd.HW.x (W0 := wr.drew) hx211_3
              have s4_ := Hd.HW.x (W0 := wr.drew) hx212_0
              have s5_ := Hd.HW.x (W0 := wr.drew) hx212_1
              have s6_ := Hd.HW.x (W0 := wr.drew) hx212_2
              have s7_ := Hd.HW.x (W0 := wr.drew) hx212_3
              refine Hd.HW.region (by kernel_rfl) (by kernel_rfl) ?_
              repeat (go_big_quiet_step ((first | (go_at_call 96; with_reducible exact Hd.HW.c (impl_HowMeet.calls k2 ((rd_T111 t205 x14_1).f0.f0) ((rd_T111 t205 x14_1).f0.f1) ((rd_T111 t205 x14_1).f1.f0) ((rd_T111 t205 x14_1).f1.f1) ((rd_T111 t205 x18_2).f0.f0) ((rd_T111 t205 x18_2).f0.f1) ((rd_T111 t205 x18_2).f1.f0) ((rd_T111 t205 x18_2).f1.f1) t213 _ A25.out)))))
              refine wpQuiet_nil ?_
              intro _ hq_
              obtain ⟨q_, rfl⟩ := hq_
              clear s0_ s1_ s2_ s3_ s4_ s5_ s6_ s7_
              replace HO_3 := Aside0.mk (Kd.R_below HO_3.out q_.b)
              replace HB := Aside0.mk (below_step HB.out q_.b)
              replace hx211_0 := q_.cell hx211_0
              replace hx211_1 := q_.cell hx211_1
              replace hx211_2 := q_.cell hx211_2
              replace hx211_3 := q_.cell hx211_3
              replace hx212_0 := q_.cell hx212_0
              replace hx212_1 := q_.cell hx212_1
              replace hx212_2 := q_.cell hx212_2
              replace hx212_3 := q_.cell hx212_3
              generalize q_.W = w30 at HO_3 HB hx211_0 hx211_1 hx211_2 hx211_3 hx212_0 hx212_1 hx212_2 hx212_3 ⊢
              try simp only [i64_w, i32_w]
              try go_wp2
              go_ret
              exact ⟨Hd.e_, Hd.b_⟩
            ·
             rw [if_neg c24] at H
             exact absurd H (by simp)
           ·
            rw [if_neg c23] at H
            exact absurd H (by simp)
          ·
           rw [if_neg c22] at H
           exact absurd H (by simp)
         ·
          rw [if_neg c21] at H
          exact absurd H (by simp)
       ·
        rw [if_neg c9] at H
        have c9b0 : decide (x18_2 < x14_1) = false := decide_eq_false c9
        clear c9
        have H' := Aside0.mk H
        clear H
        go_wp2
        go_roundg k2
        case measure => have := HK1.out; have := HK2.out; omega
        case rel => exact ⟨(wrap64 (x14_1 + 1)), (by first | rfl | (simp; done) | (simp [*]; done)), H', ⟨by have := HK1.out; have := HK2.out; omega⟩, ⟨by (with_reducible repeat (first | apply Kd.R_alloc | apply Kd.R_drewN | apply Kd.R_drew)); exact HO_3.out⟩, ⟨Hd.b_⟩⟩
    ·
     rw [if_neg c8] at H
     have c8b0 : decide (x14_1 < (t205.length : Int)) = false := decide_eq_false c8
     clear c8
     obtain rfl := Option.some.inj H
     go_wp2
     go_ret
     exact ⟨Hd.e_, Hd.b_⟩
 ·
  replace c3 := Bool.eq_false_iff.mpr c3
  subst c3
  have H1 : (some false) = some r := by rw [if_neg (show ¬ (false = true) by decide)] at H; exact H
  clear H
  have H := H1
  clear H1
  obtain rfl := Option.some.inj H
  go_enter Try.func36, Try.ntmps36
  go_wp2_with (first | ((with_reducible refine gate_callee (f := 94) rfl ?_); refine goesL_ (some 8) rfl rfl Try.func94 (by kernel_rfl) rfl #[.slice A0 l0.length c0] rfl Hd.m_ ?_; (with_reducible refine (impl_IsLine.calls k _ _ l0 false _ ?side1 ?side2 A2.out).mono ?_); (case side1 => repeat (first | exact HR0.out | (with_reducible refine Kd.C_alloc ?_ _) | (with_reducible refine Kd.C_drewN ?_ _) | (with_reducible refine Kd.C_drew ?_))); (case side2 => exact HC0.out); rintro e w31 ⟨rfl, hb⟩; refine ⟨_, rfl, ?_⟩; replace HB := Aside0.mk (below_step Hd.b_ hb); (try clear hb); (try clear hb2); (try clear hk); (try clear hi)))
  go_ret
  exact ⟨Hd.e_, Hd.b_⟩
def impl_Point_86.f (l0 : List (S49)) : Option ((List (S49))) := (some (([] : List (S49)) : List (S49))).bind fun y214 => (if y214.length + l0.length < 8796093022208 then (some (y214 ++ l0)) else (none))
theorem impl_Point_86.eqnil (W : World) (a : Option Addr) (l c : Nat) : (binOp .eql 28 (.slice a l c) (.slice none 0 0)).run Try.prog W = .ok (.bool a.isNone) W := by
  cases a <;> kernel_rfl
attribute [local go_sem] impl_Point_86.eqnil
set_option maxHeartbeats 8000000 in
set_option maxRecDepth 100000 in
theorem impl_Point_86.calls (A0 : Option Addr) (c0 : Nat) (l0 : List (S49)) (r : List (S49)) (w : World) (hr0 : Kd.C k49 w A0 l0.length l0) (hc0 : l0.length ≤ c0) (h : impl_Point_86.f l0 = some r) :
    Calls Try.prog 86 #[.slice A0 l0.length c0] w fun e w' => ∃ v0_ : Value, e = .returned (v0_) ∧ Kd.R k49 49 w' w.heap.size (fun _ => True) v0_ r ∧ Below w.heap.size w w' := by
  cases A0
  case none =>
    have hl : l0 = [] := by
      obtain ⟨_, _, h3⟩ := hr0
      cases l0 with
      | nil => rfl
      | cons a l => obtain ⟨ad, e, _⟩ := h3 (by simp); cases e
    subst hl
    have hr : r = [] := by simp [impl_Point_86.f] at h; exact h
    subst hr
    go_enter Try.func86, Try.ntmps86
    go_wp2
    go_ret
    exact ⟨_, rfl, Kd.R_nil _ _ _ _ _, by repeat (first | exact Below.refl _ _ | apply below_alloc | apply pw_below_drewN | apply below_drew1)⟩
  have HR0 := Aside0.mk hr0
  have HC0 := Aside0.mk hc0
  clear hr0 hc0
  have HB := Aside0.mk (Below.refl w.heap.size w)
  have H : ((some (([] : List (S49)) : List (S49))).bind fun y214 => (if y214.length + l0.length < 8796093022208 then (some (y214 ++ l0)) else (none))) = some r := h
  clear h
  obtain ⟨y214, hy214⟩ : ∃ y_ : List (S49), y_ = (([] : List (S49))) := ⟨_, rfl⟩
  replace H : (if y214.length + l0.length < 8796093022208 then (some (y214 ++ l0)) else (none)) = some r := by first | (rw [hy214]; with_reducible exact H) | (have H2_ := (Option.bind_some _ _).symm.trans H; rw [hy214]; with_reducible exact H2_) | (have H2_ := (Option.bind_some _ _).symm.trans H; with_reducible exact H2_) | with_reducible exact H | (rw [hy214]; exact H) | exact H
  have Ny214 := Aside0.mk hy214
  clear hy214
  by_cases c2 : y214.length + l0.length < 8796093022208
  · rw [if_pos c2] at H
    have LMc2 := Aside0.mk c2
    clear c2
    obtain ⟨y217, hy217⟩ : ∃ y_ : List (S49), y_ = (y214 ++ l0) := ⟨_, rfl⟩
    replace H : (some y217) = some r := by first | (rw [hy217]; with_reducible exact H) | (have H2_ := (Option.bind_some _ _).symm.trans H; rw [hy217]; with_reducible exact H2_) | (have H2_ := (Option.bind_some _ _).symm.trans H; with_reducible exact H2_) | with_reducible exact H | (rw [hy217]; exact H) | exact H
    have Ny217 := Aside0.mk hy217
    clear hy217
    obtain rfl := Option.some.inj H
    go_enter Try.func86, Try.ntmps86
    go_wp2_with (first | ((with_reducible refine gate_dst (N := 5) rfl ?_); refine Kd.R_lit k49 _ 49 ?hg (N := 5) ?hd (xs := ([] : List (S49))) (inner := []) (ok := fun _ => True) (okp := fun _ => True) ?hr ?hp (fun _ hk => hk) trivial (Below.refl _ _) (Nat.le_refl _) (by simp) ?_; (case hd => rfl); (case hg => rfl); (case hr => first | (go_simp; done) | (go_simp; rfl)); (case hp => exact (Reps.none _ _)); intro v215 w3 ho4 hb hg_ hnew_; clear hg_ hnew_; (first | rw [← Ny214.out] at ho4 | (simp only [Int.reduceToNat] at ho4; rw [← Ny214.out] at ho4)); have n0_ := Aside0.mk (Kd.R_lower ho4 (below_size (by repeat (first | (with_reducible first | exact HB.out | apply below_alloc | apply pw_below_drewN | apply below_drew1) | exact HB.out)))); have n1_ := Aside0.mk (below_step (by repeat (first | (with_reducible first | exact HB.out | apply below_alloc | apply pw_below_drewN | apply below_drew1) | exact HB.out)) hb); clear HB; have HO216 := n0_; have HB := n1_; clear n0_ n1_; clear hb ho4) | ((with_reducible refine gate_builtin (b := .append) (xs := #[.tmp 5, .tmp 6]) rfl ?_); at_builtin; refine Kd.R_append_rows k49 (w0 := w) w.heap.size rfl (.tmp 5) (.tmp 6) 28 49 (.agg #[(.int .i64 0), (.int .i64 0)]) 16 rfl Try.underlying28 info49 rfl (by decide) (by omega) v215 y214 l0 _ _ _ (fun _ => True) (fun _ => False) rfl rfl ?aO ?aR (fun _ _ h => h) (fun _ h => h.elim) ?aF ?aB ?aS ?aL ?_; (case aR => repeat (first | exact (Kd.C_below HR0.out HB.out) | (with_reducible refine Kd.C_alloc ?_ _) | (with_reducible refine Kd.C_drewN ?_ _) | (with_reducible refine Kd.C_drew ?_))); (case aB => exact (by repeat (first | (with_reducible first | exact HB.out | apply below_alloc | apply pw_below_drewN | apply below_drew1) | exact HB.out))); (case aF => exact (fun _ _ => trivial)); (case aO => exact (by (with_reducible repeat (first | apply Kd.R_alloc | apply Kd.R_drewN | apply Kd.R_drew)); exact HO216.out)); (case aS => exact (below_size (by repeat (first | (with_reducible first | exact HB.out | apply below_alloc | apply pw_below_drewN | apply below_drew1) | exact HB.out)))); (case aL => have := LMc2.out; omega); intro v218 w5 ho hb hg hat; rw [← Ny217.out] at ho; have n0_ := Aside0.mk (hb); have n1_ := Aside0.mk (ho); clear HB; clear HO216; have HB := n0_; have HO219 := n1_; clear n0_ n1_; clear ho hb hg hat))
    go_ret
    exact ⟨_, by first | rfl | (simp [errW_none, errW_some] <;> rfl) | (simp [*, errW_none, errW_some] <;> rfl), by (with_reducible repeat (first | apply Kd.R_alloc | apply Kd.R_drewN | apply Kd.R_drew)); exact HO219.out, by repeat (first | (with_reducible first | exact HB.out | apply below_alloc | apply pw_below_drewN | apply below_drew1) | exact HB.out)⟩
  · rw [if_neg c2] at H
    exact absurd H (by simp)
set_option maxHeartbeats 8000000 in
set_option maxRecDepth 100000 in
theorem impl_without.grow (n : Int) (h0 : 0 ≤ n) (hn : n ≤ 2199023255552) (w : World) :
    Calls Try.prog 159 #[.slice none 0 0, .int .i64 n] w fun e w' => ∃ v, e = .returned v ∧ Kd.R k49 49 w' w.heap.size (fun _ => True) v ([] : List S49) ∧ Below w.heap.size w w' := by
  have hu28 := Try.underlying28
  have b0 : decide (n < 0) = false := decide_eq_false (by omega)
  by_cases h : 0 < n
  · obtain ⟨m, rfl⟩ := Int.eq_ofNat_of_zero_le h0
    have b1 : decide ((m : Int) > 0) = true := decide_eq_true h
    have b2 : decide (0 < (m : Int)) = true := decide_eq_true h
    obtain ⟨i0, hi, hzz⟩ := Option.map_eq_some_iff.1 info49
    simp only [Prod.mk.injEq] at hzz
    obtain ⟨hz0, hz1, hz2⟩ := hzz
    have hr := Lib.run_append_nil_zeros (P := Try.prog) w 28 3 28 49 _ _ .i64 .i64 hu28 Try.underlying3 hi hz0 m (by omega) (by omega) (by omega) (by rw [hz2]; omega)
    have hcut := cut_to (P := Try.prog) 28 49 .i64 hu28 hi (some ⟨w.heap.size, 0, none⟩) m (grownCap w m 0 49) 0 (by omega) (by omega) (grownCap_ge w m 0 49)
    go_enter Try.func159, Try.ntmps159
    go_wp2_with (first | ((with_reducible refine gate_builtin (b := .append) rfl ?_); refine Lib.wpList_append_run _ rfl _ _ _ _ rfl _ _ rfl rfl _ _ hr ?_))
    go_ret
    refine ⟨_, rfl, ⟨fun _ _ => trivial, [], ⟨by simp, .inr ⟨w.heap.size, _, _, rfl, Nat.le_refl _, heap_alloc_new w _, Nat.zero_le _, grownCap_le_maxLen w m 0 49 (by unfold maxLen; omega), ?_, by simp⟩⟩, Reps.none _ _⟩, by repeat (first | exact Below.refl _ _ | apply below_alloc | apply pw_below_drewN | apply below_drew1)⟩
    have := grownCap_ge w m 0 49
    simp [size_zeroCells]
    show _ = grownCap w m 0 49 * 2
    omega
  · obtain rfl : n = 0 := by omega
    go_enter Try.func159, Try.ntmps159
    go_wp2
    go_ret
    exact ⟨_, rfl, Kd.R_nil _ _ _ _ _, Below.refl _ _⟩
set_option maxHeartbeats 8000000 in
set_option maxRecDepth 100000 in
theorem impl_without.concat (A : Addr) (c : Nat) (A1 A2 : Option Addr) (c1 c2 : Nat) (x1 x2 : List S49) (w : World) (h1 : w.cell? A = some (.slice A1 x1.length c1)) (h2 : w.cell? ⟨A.block, A.off + 1, none⟩ = some (.slice A2 x2.length c2))
    (hr1 : Kd.C k49 w A1 x1.length x1) (hr2 : Kd.C k49 w A2 x2.length x2) (hl : x1.length + x2.length ≤ 2199023255552) :
    Calls Try.prog 139 #[.slice (some A) 2 c] w fun e w' => ∃ v, e = .returned v ∧ Kd.R k49 49 w' w.heap.size (fun _ => True) v (x1 ++ x2) ∧ Below w.heap.size w w' := by
  have hu28 := Try.underlying28
  have hu30 := Try.underlying30
  go_enter Try.func139, Try.ntmps139
  go_wp2
  go_loopg [3, 11] 3 (fun kq v3 v11 w' => ∃ i : Nat, i + kq = 3 ∧ i ≤ 2 ∧ v11 = .int .i64 i ∧ w' = w ∧ v3 = .int .i64 (if i = 0 then 0 else if i = 1 then x1.length else x1.length + x2.length))
  case atStart => exact ⟨0, rfl, by decide, rfl, rfl, rfl⟩
  case round =>
    obtain ⟨i, hi, hi2, rfl, hwr, rfl⟩ := hrel
    have hwr := hwr.symm
    subst hwr
    rcases (by omega : i = 0 ∨ i = 1 ∨ i = 2) with rfl | rfl | rfl
    · obtain rfl : gk = 2 + 1 := by omega
      have d1 : decide (wrap64 (0 + (x1.length : Int)) < 0) = false := decide_eq_false (by unfold wrap64; omega)
      go_wp2
      go_roundg 2
      case measure => omega
      case rel => exact ⟨1, rfl, by decide, rfl, rfl, by simp⟩
    · obtain rfl : gk = 1 + 1 := by omega
      have d1 : decide (wrap64 ((x1.length : Int) + x2.length) < 0) = false := decide_eq_false (by unfold wrap64; omega)
      go_wp2
      go_roundg 1
      case measure => omega
      case rel => exact ⟨2, rfl, by decide, rfl, rfl, by simp⟩
    · obtain rfl : gk = 0 + 1 := by omega
      go_wp2_with (first | (go_at_call 159; (with_reducible refine (impl_without.grow _ (by omega) (by omega) _).mono ?_); rintro e w1 ⟨v0, rfl, hR, hb⟩))
      go_loopg [6, 27] 3 (fun kq v6 v27 w' => ∃ (i : Nat) (l : List S49), i + kq = 3 ∧ i ≤ 2 ∧ v27 = .int .i64 i ∧ l = (if i = 0 then [] else if i = 1 then x1 else x1 ++ x2) ∧ Kd.R k49 49 w' w.heap.size (fun _ => True) v6 l ∧ Below w.heap.size w w')
      case atStart => exact ⟨0, [], rfl, by decide, rfl, rfl, hR, hb⟩
      case round =>
        clear hR hb
        obtain ⟨i, l, hi, hi2, rfl, hl2, hR, hb⟩ := hrel
        rcases (by omega : i = 0 ∨ i = 1 ∨ i = 2) with rfl | rfl | rfl
        · obtain rfl : gk = 2 + 1 := by omega
          obtain rfl : l = [] := hl2
          have h1' := (hb.cell (World.block_lt_of_cell? w _ h1)).trans h1
          go_wp2_with (first | ((with_reducible refine gate_builtin (b := .append) rfl ?_); at_builtin; refine Kd.R_append_rows k49 (w0 := w) w.heap.size rfl (.tmp 31) (.tmp 32) 28 49 (.agg #[(.int .i64 0), (.int .i64 0)]) 16 rfl Try.underlying28 info49 rfl (by decide) (by omega) _ [] x1 _ _ _ (fun _ => True) (fun _ => False) rfl rfl hR ?aR (fun _ _ h => h) (fun _ h => h.elim) (fun _ _ => trivial) hb (below_size hb) ?aL ?_; (case aR => exact Kd.C_below hr1 hb); (case aL => (try simp only [List.length_nil]); omega); intro v1 w5 ho hb2 _ _))
          go_roundg 2
          case measure => omega
          case rel => exact ⟨1, _, rfl, by decide, rfl, rfl, ho, hb2⟩
        · obtain rfl : gk = 1 + 1 := by omega
          obtain rfl : l = x1 := hl2
          have h2' := (hb.cell (World.block_lt_of_cell? w _ h2)).trans h2
          go_wp2_with (first | ((with_reducible refine gate_builtin (b := .append) rfl ?_); at_builtin; refine Kd.R_append_rows k49 (w0 := w) w.heap.size rfl (.tmp 31) (.tmp 32) 28 49 (.agg #[(.int .i64 0), (.int .i64 0)]) 16 rfl Try.underlying28 info49 rfl (by decide) (by omega) _ l x2 _ _ _ (fun _ => True) (fun _ => False) rfl rfl hR ?aR (fun _ _ h => h) (fun _ h => h.elim) (fun _ _ => trivial) hb (below_size hb) ?aL ?_; (case aR => exact Kd.C_below hr2 hb); (case aL => (try simp only [List.length_nil]); omega); intro v1 w5 ho hb2 _ _))
          go_roundg 1
          case measure => omega
          case rel => exact ⟨2, _, rfl, by decide, rfl, rfl, ho, hb2⟩
        · obtain rfl : gk = 0 + 1 := by omega
          obtain rfl : l = x1 ++ x2 := hl2
          go_wp2
          go_ret
          exact ⟨_, rfl, hR, hb⟩
def impl_without.f (l0 : List S49) (a1 : Int) : Option (List S49) := if 0 ≤ a1 then (if a1 < (l0.length : Int) then (if l0.length ≤ 2199023255552 then some (l0.take a1.toNat ++ l0.drop (a1.toNat + 1)) else none) else none) else none
def impl_without.T1 : Bool × List (List Nat × List Nat) := (true, [([], []), ([], []), ([0, 1], [0, 1]), ([], []), ([], []), ([4], [4]), ([3, 5], [3, 5]), ([2, 6], [2, 6]), ([7], [7]), ([8, 8, 0, 1, 2, 3, 4, 5, 6, 7, 8], [8])])
def impl_without.B1 : List Nat := [0, 0, 3, 0, 0, 16, 56, 127, 255, 511]
theorem impl_without.bits1 : waitsOk impl_without.T1.2 impl_without.B1 = true := by kernel_rfl
theorem impl_without.tab1 : rtab .any (opsOf Try.f87 1) = impl_without.T1 := by kernel_rfl
set_option maxHeartbeats 8000000 in
set_option maxRecDepth 100000 in
theorem impl_without.calls (A0 : Option Addr) (c0 : Nat) (l0 : List (S49)) (a1 : Int) (r : List (S49)) (w : World) (hr0 : Kd.C k49 w A0 l0.length l0) (hc0 : l0.length ≤ c0) (h : impl_without.f l0 a1 = some r) :
    Calls Try.prog 87 #[.slice A0 l0.length c0, .int .i64 a1] w fun e w' => ∃ v0_ : Value, e = .returned (v0_) ∧ Kd.R k49 49 w' w.heap.size (fun _ => True) v0_ r ∧ Below w.heap.size w w' := by
  unfold impl_without.f at h
  by_cases h1 : 0 ≤ a1
  · rw [if_pos h1] at h
    by_cases h2 : a1 < (l0.length : Int)
    · rw [if_pos h2] at h
      by_cases h3 : l0.length ≤ 2199023255552
      · rw [if_pos h3] at h
        obtain rfl := Option.some.inj h
        have hu28 := Try.underlying28
        have hu30 := Try.underlying30
        obtain ⟨i0, hi, hzz⟩ := Option.map_eq_some_iff.1 info49
        simp only [Prod.mk.injEq] at hzz
        obtain ⟨hz0, hz1, hz2⟩ := hzz
        have hcut1 := cut_to (P := Try.prog) 28 49 .i64 hu28 hi A0 l0.length c0 a1 h1 (by omega) hc0
        have hcut2 := cut_from (P := Try.prog) 28 49 .i64 hu28 hi 2 hz1 A0 l0.length c0 (wrap64 (a1 + 1)) (by unfold wrap64; omega) (by unfold wrap64; omega)
        have e1 : (wrap64 (a1 + 1)).toNat = a1.toNat + 1 := by unfold wrap64; omega
        rw [e1] at hcut2
        have HN := Aside0.mk (show a1.toNat + 1 ≤ l0.length by omega)
        have hC2 := Kd.C_drop hr0 HN.out hc0
        change Kd.C k49 w (if c0 = a1.toNat + 1 then A0 else A0.map (·.add ((a1.toNat + 1) * 2))) _ _ at hC2
        generalize (if c0 = a1.toNat + 1 then A0 else A0.map (·.add ((a1.toNat + 1) * 2))) = A1 at hcut2 hC2
        have HC2 := Aside0.mk hC2
        clear h1 h2 h hC2
        go_enter Try.func87, Try.ntmps87
        go_wp2
        refine start_ (n := 10) (S := fun w' => True) (ds := []) #[false, false, false, false, false, false, false, false, false, false] (by kernel_rfl) rfl rfl trivial (fun hHeld => ?_); refine with_tabW impl_without.tab1 impl_without.bits1 (fun HT_ HW_ => ?_)
        refine Hd.p_ HT_ 0 (some 5) #[true, false, false, false, false, false, false, false, false, false] ?_
        refine Hd.p_ HT_ 1 (some 6) #[true, true, false, false, false, false, false, false, false, false] ?_
        refine Hd.p_ HT_ 2 (some 7) #[true, true, true, false, false, false, false, false, false, false] ?_
        refine Hd.p_ HT_ 3 (some 8) #[true, true, true, true, false, false, false, false, false, false] ?_
        refine Hd.p_ HT_ 4 (some 9) #[true, true, true, true, true, false, false, false, false, false] ?_
        refine Hd.p_ HT_ 5 (some 10) #[true, true, true, true, true, true, false, false, false, false] ?_
        refine Hd.p_ HT_ 6 (some 11) #[true, true, true, true, true, true, true, false, false, false] ?_
        refine Hd.o_ HT_ 7 (some 12) #[true, true, true, true, true, true, true, true, false, false] (fun K hK => ?_)
        refine value_ (w1 := ?_) (v := ?_) (by rfl) rfl ?_ ?_
        rotate_left 2
        · go_simp
          constructor
          · rfl
          · rfl
        refine hK.out _ _ trivial (fun hHeld => ?_)
        clear hK K
        refine Hd.n_ (some 12) ?_
        refine Hd.o_ HT_ 8 (some 13) #[true, true, true, true, true, true, true, true, true, false] (fun K hK => ?_)
        refine goes_ Try.func139 (by kernel_rfl) rfl #[.slice (some ⟨w.heap.size, 0, none⟩) 2 2] (by rfl) rfl rfl Hd.m_ ?_
        have hx1 : (l0.take a1.toNat).length = a1.toNat := by have := HN.out; rw [List.length_take]; omega
        have hx2 : (l0.drop (a1.toNat + 1)).length = l0.length - (a1.toNat + 1) := List.length_drop
        refine (impl_without.concat ⟨w.heap.size, 0, none⟩ 2 A0 _ c0 _ (l0.take a1.toNat) (l0.drop (a1.toNat + 1)) _ (by rw [hx1]; exact (blk_cell (blk_drew (blk_new w _)) 0).trans rfl) (by rw [hx2]; exact (blk_cell (blk_drew (blk_new w _)) 1).trans rfl) (Kd.C_below (Kd.C_take hr0 (by have := HN.out; omega)) (below_drew (below_alloc (Below.refl _ _) _))) (Kd.C_below HC2.out (below_drew (below_alloc (Below.refl _ _) _))) (by have := HN.out; rw [hx1, hx2]; omega)).mono ?_
        rintro e w2 ⟨v0, rfl, hR, hb⟩
        refine ⟨_, rfl, ?_⟩
        refine hK.out _ _ trivial (fun hHeld => ?_)
        clear hK K
        refine Hd.n_ (some 13) ?_
        refine Hd.p_ HT_ 9 (some 4) #[true, true, true, true, true, true, true, true, true, true] ?_
        refine done_ (done_of HT_.out (by kernel_rfl)) ?_
        have hb2 : Below w.heap.size w w2 := below_step (below_drew (below_alloc (Below.refl _ _) _)) hb
        try go_wp2
        go_ret
        exact ⟨_, rfl, Kd.R_lower hR (below_size (below_drew (below_alloc (Below.refl _ _) _))), hb2⟩
      · rw [if_neg h3] at h; cases h
    · rw [if_neg h2] at h; cases h
  · rw [if_neg h1] at h; cases h
def impl_DropPoint.j0 : Nat → List (S49) → Int → Bool → Option ((List (S49)) × Bool)
 | 0, _, _, _ => none
 | k + 1, x0, x1, x17 => if x17 = true then ((impl_Point_86.f x0).bind fun t223 => (some (t223, false))) else ((impl_without.f x0 x1).bind fun t226 => ((impl_IsLine.f k t226).bind fun t229 => (if t229 = true then (some (t226, true)) else ((impl_Point_86.f x0).bind fun t230 => (some (t230, false))))))
def impl_DropPoint.f (k : Nat) (l0 : List (S49)) (a1 : Int) : Option ((List (S49)) × Bool) := (impl_IsLine.f k l0).bind fun t221 => (if t221 = true then ((impl_InRange.f a1 1 (wrap64 ((l0.length : Int) - 2))).bind fun t222 => (impl_DropPoint.j0 k l0 a1 (!t222))) else (impl_DropPoint.j0 k l0 a1 true))
set_option maxHeartbeats 8000000 in
set_option maxRecDepth 100000 in
theorem impl_DropPoint.calls (k : Nat) (A0 : Option Addr) (c0 : Nat) (l0 : List (S49)) (a1 : Int) (r1 : List (S49)) (r2 : Bool) (w : World) (hr0 : Kd.C k49 w A0 l0.length l0) (hc0 : l0.length ≤ c0) (h : impl_DropPoint.f k l0 a1 = some (r1, r2)) :
  Calls Try.prog 41 #[.slice A0 l0.length c0, .int .i64 a1] w fun e w' => ∃ v0_ : Value, e = .returned (.tuple #[v0_, .bool r2]) ∧ Kd.R k49 49 w' w.heap.size (fun _ => True) v0_ r1 ∧ Below w.heap.size w w' := by
 have HR0 := Aside0.mk hr0
 have HC0 := Aside0.mk hc0
 clear hr0 hc0
 have HB := Aside0.mk (Below.refl w.heap.size w)
 have H : ((impl_IsLine.f k l0).bind fun t221 => (if t221 = true then ((impl_InRange.f a1 1 (wrap64 ((l0.length : Int) - 2))).bind fun t222 => (impl_DropPoint.j0 k l0 a1 (!t222))) else (impl_DropPoint.j0 k l0 a1 true))) = some (r1, r2) := h
 clear h
 have HC3 := Aside0.mk H
 clear H
 go_enter Try.func41, Try.ntmps41
 go_upto_region 1 with (fail)
 go_cut [17] (fun v17 wc => ∃ (kq : Nat) (x17_2 : Bool), v17 = .bool x17_2 ∧ Aside0 (impl_DropPoint.j0 kq l0 a1 x17_2 = some (r1, r2)) ∧ Aside0 (kq ≤ k) ∧ Aside0 (Below w.heap.size w wc))
 case first =>
  have H := HC3.out
  clear HC3
  replace H := Option.bind_eq_some_iff.mp H
  obtain ⟨t221, A40, H⟩ := H
  replace H : (if t221 = true then ((impl_InRange.f a1 1 (wrap64 ((l0.length : Int) - 2))).bind fun t222 => (impl_DropPoint.j0 k l0 a1 (!t222))) else (impl_DropPoint.j0 k l0 a1 true)) = some (r1, r2) := H
  have A4 := Aside0.mk A40
  clear A40
  by_cases c5 : t221 = true
  ·
   subst c5
   have H1 : ((impl_InRange.f a1 1 (wrap64 ((l0.length : Int) - 2))).bind fun t222 => (impl_DropPoint.j0 k l0 a1 (!t222))) = some (r1, r2) := by rw [if_pos rfl] at H; exact H
   clear H
   have H := H1
   clear H1
   replace H := Option.bind_eq_some_iff.mp H
   obtain ⟨t222, A60, H⟩ := H
   replace H : (impl_DropPoint.j0 k l0 a1 (!t222)) = some (r1, r2) := H
   have A6 := Aside0.mk A60
   clear A60
   have H' := Aside0.mk H
   clear H
   go_wp2_with (first | ((with_reducible refine gate_callee (f := 94) rfl ?_); refine goesL_ (some 8) rfl rfl Try.func94 (by kernel_rfl) rfl #[.slice A0 l0.length c0] rfl Hd.m_ ?_; (with_reducible refine (impl_IsLine.calls k _ _ l0 true _ ?side1 ?side2 A4.out).mono ?_); (case side1 => repeat (first | exact (Kd.C_below HR0.out HB.out) | (with_reducible refine Kd.C_alloc ?_ _) | (with_reducible refine Kd.C_drewN ?_ _) | (with_reducible refine Kd.C_drew ?_))); (case side2 => exact HC0.out); rintro e w7 ⟨rfl, hb⟩; refine ⟨_, rfl, ?_⟩; replace HB := Aside0.mk (below_step Hd.b_ hb); (try clear hb); (try clear hb2); (try clear hk); (try clear hi)) | (go_at_call 85; (with_reducible refine (impl_InRange.calls a1 1 (wrap64 ((l0.length : Int) - 2)) t222 _ A6.out).mono ?_); rintro e w' ⟨rfl, ⟨nd, rfl⟩⟩))
   go_meet
   case rel => exact ⟨_, (!t222), (by first | rfl | (simp; done) | (simp [*]; done)), H', ⟨by first | omega | exact Nat.le_refl _⟩, ⟨Hd.b_⟩⟩
  ·
   replace c5 := Bool.eq_false_iff.mpr c5
   subst c5
   have H1 : (impl_DropPoint.j0 k l0 a1 true) = some (r1, r2) := by rw [if_neg (show ¬ (false = true) by decide)] at H; exact H
   clear H
   have H := H1
   clear H1
   have H' := Aside0.mk H
   clear H
   go_wp2_with (first | ((with_reducible refine gate_callee (f := 94) rfl ?_); refine goesL_ (some 8) rfl rfl Try.func94 (by kernel_rfl) rfl #[.slice A0 l0.length c0] rfl Hd.m_ ?_; (with_reducible refine (impl_IsLine.calls k _ _ l0 false _ ?side1 ?side2 A4.out).mono ?_); (case side1 => repeat (first | exact (Kd.C_below HR0.out HB.out) | (with_reducible refine Kd.C_alloc ?_ _) | (with_reducible refine Kd.C_drewN ?_ _) | (with_reducible refine Kd.C_drew ?_))); (case side2 => exact HC0.out); rintro e w8 ⟨rfl, hb⟩; refine ⟨_, rfl, ?_⟩; replace HB := Aside0.mk (below_step Hd.b_ hb); (try clear hb); (try clear hb2); (try clear hk); (try clear hi)))
   go_meet
   case rel => exact ⟨_, (true), (by first | rfl | (simp; done) | (simp [*]; done)), H', ⟨by first | omega | exact Nat.le_refl _⟩, ⟨Hd.b_⟩⟩
 case rest =>
  clear HC3
  try clear p2
  try clear c4
  try clear c5
  try clear p6
  obtain ⟨kq, x17_2, rfl, HA, HJ2, HB⟩ := hcut
  cases kq with
  | zero => exact absurd HA.out (by simp [impl_DropPoint.j0])
  | succ kj2 =>
   have H := HA.out
   clear HA
   simp only [impl_DropPoint.j0] at H
   by_cases c9 : x17_2 = true
   ·
    subst c9
    have H1 : ((impl_Point_86.f l0).bind fun t223 => (some (t223, false))) = some (r1, r2) := by rw [if_pos rfl] at H; exact H
    clear H
    have H := H1
    clear H1
    replace H := Option.bind_eq_some_iff.mp H
    obtain ⟨t223, A100, H⟩ := H
    replace H : (some (t223, false)) = some (r1, r2) := H
    have A10 := Aside0.mk A100
    clear A100
    simp only [Option.some.injEq, Prod.mk.injEq] at H
    obtain ⟨rfl, rfl⟩ := H
    go_wp2_with (first | ((with_reducible refine gate_callee (f := 86) rfl ?_); refine goesL_ (some 19) rfl rfl Try.func86 (by kernel_rfl) rfl #[.slice A0 l0.length c0] rfl Hd.m_ ?_; (with_reducible refine (impl_Point_86.calls _ _ l0 t223 _ ?side1 ?side2 A10.out).mono ?_); (case side1 => repeat (first | exact (Kd.C_below HR0.out HB.out) | (with_reducible refine Kd.C_alloc ?_ _) | (with_reducible refine Kd.C_drewN ?_ _) | (with_reducible refine Kd.C_drew ?_))); (case side2 => exact HC0.out); rintro e w11 ⟨v224, rfl, ho0, hb⟩; refine ⟨_, rfl, ?_⟩; have HO225 := Aside0.mk (Kd.R_lower ho0 (below_size Hd.b_)); replace HB := Aside0.mk (below_step Hd.b_ hb); (try clear hb); (try clear hb2); (try clear hk); (try clear hi); (try clear ho0)))
    go_ret2
    exact ⟨_, Hd.e_, by (with_reducible repeat (first | apply Kd.R_alloc | apply Kd.R_drewN | apply Kd.R_drew)); exact HO225.out, Hd.b_⟩
   ·
    replace c9 := Bool.eq_false_iff.mpr c9
    subst c9
    have H1 : ((impl_without.f l0 a1).bind fun t226 => ((impl_IsLine.f kj2 t226).bind fun t229 => (if t229 = true then (some (t226, true)) else ((impl_Point_86.f l0).bind fun t230 => (some (t230, false)))))) = some (r1, r2) := by rw [if_neg (show ¬ (false = true) by decide)] at H; exact H
    clear H
    have H := H1
    clear H1
    replace H := Option.bind_eq_some_iff.mp H
    obtain ⟨t226, A120, H⟩ := H
    replace H : ((impl_IsLine.f kj2 t226).bind fun t229 => (if t229 = true then (some (t226, true)) else ((impl_Point_86.f l0).bind fun t230 => (some (t230, false))))) = some (r1, r2) := H
    have A12 := Aside0.mk A120
    clear A120
    replace H := Option.bind_eq_some_iff.mp H
    obtain ⟨t229, A130, H⟩ := H
    replace H : (if t229 = true then (some (t226, true)) else ((impl_Point_86.f l0).bind fun t230 => (some (t230, false)))) = some (r1, r2) := H
    have A13 := Aside0.mk A130
    clear A130
    by_cases c14 : t229 = true
    ·
     subst c14
     have H1 : (some (t226, true)) = some (r1, r2) := by rw [if_pos rfl] at H; exact H
     clear H
     have H := H1
     clear H1
     simp only [Option.some.injEq, Prod.mk.injEq] at H
     obtain ⟨rfl, rfl⟩ := H
     go_wp2_with (first | ((with_reducible refine gate_callee (f := 87) rfl ?_); refine goesL_ (some 22) rfl rfl Try.func87 (by kernel_rfl) rfl #[.slice A0 l0.length c0, .int .i64 a1] rfl Hd.m_ ?_; (with_reducible refine (impl_without.calls _ _ l0 a1 t226 _ ?side1 ?side2 A12.out).mono ?_); (case side1 => repeat (first | exact (Kd.C_below HR0.out HB.out) | (with_reducible refine Kd.C_alloc ?_ _) | (with_reducible refine Kd.C_drewN ?_ _) | (with_reducible refine Kd.C_drew ?_))); (case side2 => exact HC0.out); rintro e w15 ⟨v227, rfl, ho0, hb⟩; refine ⟨_, rfl, ?_⟩; have HO228 := Aside0.mk (Kd.R_lower ho0 (below_size Hd.b_)); replace HB := Aside0.mk (below_step Hd.b_ hb); (try clear hb); (try clear hb2); (try clear hk); (try clear hi); (try clear ho0); obtain ⟨Ao16, co16, eo16⟩ := Kd.R_slice HO228.out; subst eo16) | ((with_reducible refine gate_callee (f := 94) rfl ?_); refine goesL_ (some 24) rfl rfl Try.func94 (by kernel_rfl) rfl #[.slice Ao16 t226.length co16] rfl Hd.m_ ?_; (with_reducible refine (impl_IsLine.calls kj2 _ _ t226 true _ ?side1 ?side2 A13.out).mono ?_); (case side1 => repeat (first | exact (Kd.R_reads' HO228.out).2.2 | (with_reducible refine Kd.C_alloc ?_ _) | (with_reducible refine Kd.C_drewN ?_ _) | (with_reducible refine Kd.C_drew ?_))); (case side2 => exact (Kd.R_reads' HO228.out).2.1); rintro e w17 ⟨rfl, hb⟩; refine ⟨_, rfl, ?_⟩; replace HO228 := Aside0.mk (Kd.R_below (Hd.r_ HO228) hb); replace HB := Aside0.mk (below_step Hd.b_ hb); (try clear hb); (try clear hb2); (try clear hk); (try clear hi)))
     go_ret2
     exact ⟨_, Hd.e_, by (with_reducible repeat (first | apply Kd.R_alloc | apply Kd.R_drewN | apply Kd.R_drew)); exact HO228.out, Hd.b_⟩
    ·
     replace c14 := Bool.eq_false_iff.mpr c14
     subst c14
     have H1 : ((impl_Point_86.f l0).bind fun t230 => (some (t230, false))) = some (r1, r2) := by rw [if_neg (show ¬ (false = true) by decide)] at H; exact H
     clear H
     have H := H1
     clear H1
     replace H := Option.bind_eq_some_iff.mp H
     obtain ⟨t230, A180, H⟩ := H
     replace H : (some (t230, false)) = some (r1, r2) := H
     have A18 := Aside0.mk A180
     clear A180
     simp only [Option.some.injEq, Prod.mk.injEq] at H
     obtain ⟨rfl, rfl⟩ := H
     go_wp2_with (first | ((with_reducible refine gate_callee (f := 87) rfl ?_); refine goesL_ (some 22) rfl rfl Try.func87 (by kernel_rfl) rfl #[.slice A0 l0.length c0, .int .i64 a1] rfl Hd.m_ ?_; (with_reducible refine (impl_without.calls _ _ l0 a1 t226 _ ?side1 ?side2 A12.out).mono ?_); (case side1 => repeat (first | exact (Kd.C_below HR0.out HB.out) | (with_reducible refine Kd.C_alloc ?_ _) | (with_reducible refine Kd.C_drewN ?_ _) | (with_reducible refine Kd.C_drew ?_))); (case side2 => exact HC0.out); rintro e w19 ⟨v227, rfl, ho0, hb⟩; refine ⟨_, rfl, ?_⟩; have HO228 := Aside0.mk (Kd.R_lower ho0 (below_size Hd.b_)); replace HB := Aside0.mk (below_step Hd.b_ hb); (try clear hb); (try clear hb2); (try clear hk); (try clear hi); (try clear ho0); obtain ⟨Ao20, co20, eo20⟩ := Kd.R_slice HO228.out; subst eo20) | ((with_reducible refine gate_callee (f := 94) rfl ?_); refine goesL_ (some 24) rfl rfl Try.func94 (by kernel_rfl) rfl #[.slice Ao20 t226.length co20] rfl Hd.m_ ?_; (with_reducible refine (impl_IsLine.calls kj2 _ _ t226 false _ ?side1 ?side2 A13.out).mono ?_); (case side1 => repeat (first | exact (Kd.R_reads' HO228.out).2.2 | (with_reducible refine Kd.C_alloc ?_ _) | (with_reducible refine Kd.C_drewN ?_ _) | (with_reducible refine Kd.C_drew ?_))); (case side2 => exact (Kd.R_reads' HO228.out).2.1); rintro e w21 ⟨rfl, hb⟩; refine ⟨_, rfl, ?_⟩; replace HO228 := Aside0.mk (Kd.R_below (Hd.r_ HO228) hb); replace HB := Aside0.mk (below_step Hd.b_ hb); (try clear hb); (try clear hb2); (try clear hk); (try clear hi)) | ((with_reducible refine gate_callee (f := 86) rfl ?_); refine goesL_ (some 27) rfl rfl Try.func86 (by kernel_rfl) rfl #[.slice A0 l0.length c0] rfl Hd.m_ ?_; (with_reducible refine (impl_Point_86.calls _ _ l0 t230 _ ?side1 ?side2 A18.out).mono ?_); (case side1 => repeat (first | exact (Kd.C_below HR0.out HB.out) | (with_reducible refine Kd.C_alloc ?_ _) | (with_reducible refine Kd.C_drewN ?_ _) | (with_reducible refine Kd.C_drew ?_))); (case side2 => exact HC0.out); rintro e w22 ⟨v231, rfl, ho0, hb⟩; refine ⟨_, rfl, ?_⟩; have HO232 := Aside0.mk (Kd.R_lower (Kd.R_new' ho0 (Kd.R_lt (Hd.r_ HO228))) (below_size Hd.b_)); replace HO228 := Aside0.mk (Kd.R_elder' (Hd.r_ HO228) (Kd.R_base ho0) hb); replace HB := Aside0.mk (below_step Hd.b_ hb); (try clear hb); (try clear hb2); (try clear hk); (try clear hi); (try clear ho0)))
     go_ret2
     exact ⟨_, Hd.e_, by (with_reducible repeat (first | apply Kd.R_alloc | apply Kd.R_drewN | apply Kd.R_drew)); exact Kd.R_mono HO232.out (fun _ hk => trivial), Hd.b_⟩
end Go.Proofs.Ytchmbcembbbplac.MFnExactCanDrop
