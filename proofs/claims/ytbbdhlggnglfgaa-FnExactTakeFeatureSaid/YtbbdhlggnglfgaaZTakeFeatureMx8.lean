-- Laid by this session's program pp.py, after the kit's print and texts of the session's own. Not trusted: Lean checks it.
import Derived.Test.YtbbdhlggnglfgaaZTakeFeatureMx0
import Derived.Test.YtbbdhlggnglfgaaZTakeFeatureMx6
import Derived.Test.YtbbdhlggnglfgaaZTakeFeatureMx7
namespace Go.Proofs.Ytbbdhlggnglfgaa.MFnExactTakeFeature
open Go.RowKit Go.Proofs.YtbbdhlggnglfgaaW.PrintWords Go.Proofs.YtbbdhlggnglfgaaW.PrintLast Go.Proofs.YtbbdhlggnglfgaaW.PrintMore
attribute [local go_sem] max2_int min2_int max_two min_two max_three min_three max_four min_four   -- for this text's walks alone
set_option linter.unusedVariables false
set_option linter.unusedSimpArgs false
mutual
def impl_IsSimple.l0 : Nat → List (S101) → Int → Int → Option (Bool)
 | 0, _, _, _ => none
 | k + 1, x3, x13, x14 => if x14 < x13 then (impl_IsSimple.l1 k x3 x14 x13 x14 x14 0) else (some true)
def impl_IsSimple.l1 : Nat → List (S101) → Int → Int → Int → Int → Int → Option (Bool)
 | 0, _, _, _, _, _, _ => none
 | k + 1, x3, x4, x13, x14, x17, x18 => if x18 < x17 then (if x18 = (wrap64 (x4 - 1)) then (if 0 ≤ x4 then (if x4 < (x3.length : Int) then (if 0 ≤ x18 then (if x18 < (x3.length : Int) then ((impl_HowMeet.f k ((rd_T101 x3 x4).f0.f0) ((rd_T101 x3 x4).f0.f1) ((rd_T101 x3 x4).f1.f0) ((rd_T101 x3 x4).f1.f1) ((rd_T101 x3 x18).f0.f0) ((rd_T101 x3 x18).f0.f1) ((rd_T101 x3 x18).f1.f0) ((rd_T101 x3 x18).f1.f1)).bind fun t240 => (if t240 = 1 then (impl_IsSimple.l1 k x3 x4 x13 x14 x17 (wrap64 (x18 + 1))) else (some false))) else (none)) else (none)) else (none)) else (none)) else (if 0 ≤ x4 then (if x4 < (x3.length : Int) then (if 0 ≤ x18 then (if x18 < (x3.length : Int) then ((impl_HowMeet.f k ((rd_T101 x3 x4).f0.f0) ((rd_T101 x3 x4).f0.f1) ((rd_T101 x3 x4).f1.f0) ((rd_T101 x3 x4).f1.f1) ((rd_T101 x3 x18).f0.f0) ((rd_T101 x3 x18).f0.f1) ((rd_T101 x3 x18).f1.f0) ((rd_T101 x3 x18).f1.f1)).bind fun t243 => (if t243 = 0 then (impl_IsSimple.l1 k x3 x4 x13 x14 x17 (wrap64 (x18 + 1))) else (some false))) else (none)) else (none)) else (none)) else (none))) else (impl_IsSimple.l0 k x3 x13 (wrap64 (x14 + 1)))
end
def impl_IsSimple.f (k : Nat) (l0 : List (S75)) : Option (Bool) := (impl_IsLine.f k l0).bind fun t234 => (if t234 = true then ((impl_SegmentsOf.f k l0).bind fun t235 => (impl_IsSimple.l0 k t235 (t235.length : Int) 0)) else (some false))
set_option maxHeartbeats 8000000 in
set_option maxRecDepth 100000 in
theorem impl_IsSimple.calls (k : Nat) (A0 : Option Addr) (c0 : Nat) (l0 : List (S75)) (r : Bool) (w : World) (hr0 : Kd.C k75 w A0 l0.length l0) (hc0 : l0.length ≤ c0) (h : impl_IsSimple.f k l0 = some r) :
  Calls Try.prog 74 #[.slice A0 l0.length c0] w fun e w' => e = .returned (.bool r) ∧ Below w.heap.size w w' := by
 have hu101 := Try.underlying101
 have HR0 := Aside0.mk hr0
 have HC0 := Aside0.mk hc0
 clear hr0 hc0
 have HB := Aside0.mk (Below.refl w.heap.size w)
 have H : ((impl_IsLine.f k l0).bind fun t234 => (if t234 = true then ((impl_SegmentsOf.f k l0).bind fun t235 => (impl_IsSimple.l0 k t235 (t235.length : Int) 0)) else (some false))) = some r := h
 clear h
 replace H := Option.bind_eq_some_iff.mp H
 obtain ⟨t234, A20, H⟩ := H
 replace H : (if t234 = true then ((impl_SegmentsOf.f k l0).bind fun t235 => (impl_IsSimple.l0 k t235 (t235.length : Int) 0)) else (some false)) = some r := H
 have A2 := Aside0.mk A20
 clear A20
 by_cases c3 : t234 = true
 ·
  subst c3
  have H1 : ((impl_SegmentsOf.f k l0).bind fun t235 => (impl_IsSimple.l0 k t235 (t235.length : Int) 0)) = some r := by rw [if_pos rfl] at H; exact H
  clear H
  have H := H1
  clear H1
  replace H := Option.bind_eq_some_iff.mp H
  obtain ⟨t235, A40, H⟩ := H
  replace H : (impl_IsSimple.l0 k t235 (t235.length : Int) 0) = some r := H
  have A4 := Aside0.mk A40
  clear A40
  have H' := Aside0.mk H
  clear H
  go_enter Try.func74, Try.ntmps74
  go_wp2_with (first | ((with_reducible refine gate_callee (f := 88) rfl ?_); refine goesL_ (some 8) rfl rfl Try.func88 (by kernel_rfl) rfl #[.slice A0 l0.length c0] rfl Hd.m_ ?_; (with_reducible refine (impl_IsLine.calls k _ _ l0 true _ ?side1 ?side2 A2.out).mono ?_); (case side1 => repeat (first | exact HR0.out | (with_reducible refine Kd.C_alloc ?_ _) | (with_reducible refine Kd.C_drewN ?_ _) | (with_reducible refine Kd.C_drew ?_))); (case side2 => exact HC0.out); rintro e w5 ⟨rfl, hb⟩; refine ⟨_, rfl, ?_⟩; replace HB := Aside0.mk (below_step Hd.b_ hb); (try clear hb); (try clear hb2); (try clear hk); (try clear hi)) | ((with_reducible refine gate_callee (f := 77) rfl ?_); refine goesL_ (some 11) rfl rfl Try.func77 (by kernel_rfl) rfl #[.slice A0 l0.length c0] rfl Hd.m_ ?_; (with_reducible refine (impl_SegmentsOf.calls k _ _ l0 t235 _ ?side1 ?side2 A4.out).mono ?_); (case side1 => repeat (first | exact (Kd.C_below HR0.out HB.out) | (with_reducible refine Kd.C_alloc ?_ _) | (with_reducible refine Kd.C_drewN ?_ _) | (with_reducible refine Kd.C_drew ?_))); (case side2 => exact HC0.out); rintro e w6 ⟨v236, rfl, ho0, hb⟩; refine ⟨_, rfl, ?_⟩; have HO237 := Aside0.mk (Kd.R_lower ho0 (below_size Hd.b_)); replace HB := Aside0.mk (below_step Hd.b_ hb); (try clear hb); (try clear hb2); (try clear hk); (try clear hi); (try clear ho0); obtain ⟨Ao7, co7, eo7⟩ := Kd.R_slice HO237.out; subst eo7))
  go_loopg [14] k (fun kq v14 w' => ∃ (x14_1 : Int), v14 = .int .i64 x14_1 ∧ Aside0 (impl_IsSimple.l0 kq t235 (t235.length : Int) x14_1 = some r) ∧ Aside0 (kq ≤ k) ∧ Aside0 (Kd.R k101 101 w' w.heap.size (fun _ => True) (.slice Ao7 t235.length co7) t235) ∧ Aside0 (Below w.heap.size w w'))
  case atStart => exact ⟨(0), (by first | rfl | (simp; done) | (simp [*]; done)), H', ⟨Nat.le_refl _⟩, ⟨by (with_reducible repeat (first | apply Kd.R_alloc | apply Kd.R_drewN | apply Kd.R_drew)); exact HO237.out⟩, ⟨Hd.b_⟩⟩
  case round =>
   clear H'
   try clear p2
   try clear c3
   try clear c7
   obtain ⟨x14_1, rfl, HA, HK1, HO_3, HB⟩ := hrel
   cases gk with
   | zero => exact absurd HA.out (by simp [impl_IsSimple.l0])
   | succ k1 =>
    have H := HA.out
    clear HA
    simp only [impl_IsSimple.l0] at H
    by_cases c8 : x14_1 < (t235.length : Int)
    ·
     rw [if_pos c8] at H
     have c8b0 : decide (x14_1 < (t235.length : Int)) = true := decide_eq_true c8
     clear c8
     have H' := Aside0.mk H
     clear H
     go_wp2
     go_loopg [18] k1 (fun kq v18 w' => ∃ (x18_2 : Int), v18 = .int .i64 x18_2 ∧ Aside0 (impl_IsSimple.l1 kq t235 x14_1 (t235.length : Int) x14_1 x14_1 x18_2 = some r) ∧ Aside0 (kq ≤ k1) ∧ Aside0 (Kd.R k101 101 w' w.heap.size (fun _ => True) (.slice Ao7 t235.length co7) t235) ∧ Aside0 (Below w.heap.size w w'))
     case atStart => exact ⟨(0), (by first | rfl | (simp; done) | (simp [*]; done)), H', ⟨Nat.le_refl _⟩, ⟨by (with_reducible repeat (first | apply Kd.R_alloc | apply Kd.R_drewN | apply Kd.R_drew)); exact HO_3.out⟩, ⟨Hd.b_⟩⟩
     case round =>
      clear H'
      try clear p2
      try clear c3
      try clear c7
      try clear c8
      try clear c8b0
      try clear p2
      obtain ⟨x18_2, rfl, HA, HK2, HO_3, HB⟩ := hrel
      cases gk with
      | zero => exact absurd HA.out (by simp [impl_IsSimple.l1])
      | succ k2 =>
       have H := HA.out
       clear HA
       simp only [impl_IsSimple.l1] at H
       by_cases c9 : x18_2 < x14_1
       ·
        rw [if_pos c9] at H
        have c9b0 : decide (x18_2 < x14_1) = true := decide_eq_true c9
        clear c9
        by_cases c10 : x18_2 = (wrap64 (x14_1 - 1))
        ·
         rw [if_pos c10] at H
         have c10b0 : (x18_2 == (wrap64 (x14_1 - 1))) = true := beq_iff_eq.mpr c10
         have c10b1 : (x18_2 != (wrap64 (x14_1 - 1))) = false := bne_eq_false_iff_eq.mpr c10
         clear c10
         by_cases c11 : 0 ≤ x14_1
         ·
          rw [if_pos c11] at H
          have c11b0 : decide (0 ≤ x14_1) = true := decide_eq_true c11
          clear c11
          by_cases c12 : x14_1 < (t235.length : Int)
          ·
           rw [if_pos c12] at H
           have c12b0 : decide (x14_1 < (t235.length : Int)) = true := decide_eq_true c12
           clear c12
           by_cases c13 : 0 ≤ x18_2
           ·
            rw [if_pos c13] at H
            have c13b0 : decide (0 ≤ x18_2) = true := decide_eq_true c13
            clear c13
            by_cases c14 : x18_2 < (t235.length : Int)
            ·
             rw [if_pos c14] at H
             have c14b0 : decide (x18_2 < (t235.length : Int)) = true := decide_eq_true c14
             clear c14
             replace H := Option.bind_eq_some_iff.mp H
             obtain ⟨t240, A150, H⟩ := H
             replace H : (if t240 = 1 then (impl_IsSimple.l1 k2 t235 x14_1 (t235.length : Int) x14_1 x14_1 (wrap64 (x18_2 + 1))) else (some false)) = some r := H
             have A15 := Aside0.mk A150
             clear A150
             by_cases c16 : t240 = 1
             ·
              rw [if_pos c16] at H
              have c16b0 : (t240 == 1) = true := beq_iff_eq.mpr c16
              have c16b1 : (t240 != 1) = false := bne_eq_false_iff_eq.mpr c16
              clear c16
              have H' := Aside0.mk H
              clear H
              try go_wp2
              replace HO_3 := Aside0.mk (Kd.R_drew HO_3.out)
              replace HB := Aside0.mk (below_drew1 HB.out)
              have p238 : 0 ≤ (x14_1 : Int) := of_decide_eq_true Hd.a_
              have q238 : x14_1 < (t235.length : Int) := of_decide_eq_true Hd.a_
              obtain ⟨ad238, e238, hx238_0, hx238_1, hx238_2, hx238_3⟩ := at_T101 (Kd.R_reads' HO_3.out).2.2 x14_1 p238 q238
              cases e238
              replace p238 := eq_true p238
              replace q238 := eq_true q238
              have p239 : 0 ≤ (x18_2 : Int) := of_decide_eq_true Hd.a_
              have q239 : x18_2 < (t235.length : Int) := of_decide_eq_true Hd.a_
              obtain ⟨ad239, e239, hx239_0, hx239_1, hx239_2, hx239_3⟩ := at_T101 (Kd.R_reads' HO_3.out).2.2 x18_2 p239 q239
              obtain rfl : ad238 = ad239 := (by injection e239)
              replace p239 := eq_true p239
              replace q239 := eq_true q239
              have s0_ := Hd.HW.x (W0 := wr.drew) hx238_0
              have s1_ := Hd.HW.x (W0 := wr.drew) hx238_1
              have s2_ := Hd.HW.x (W0 := wr.drew) hx238_2
              have s3_ := Hd.HW.x (W0 := wr.drew) hx238_3
              have s4_ := Hd.HW.x (W0 := wr.drew) hx239_0
              have s5_ := Hd.HW.x (W0 := wr.drew) hx239_1
              have s6_ := Hd.HW.x (W0 := wr.drew) hx239_2
              have s7_ := Hd.HW.x (W0 := wr.drew) hx239_3
              refine Hd.HW.region (by kernel_rfl) (by kernel_rfl) ?_
              repeat (go_big_quiet_step ((first | (go_at_call 76; with_reducible exact Hd.HW.c (impl_HowMeet.calls k2 ((rd_T101 t235 x14_1).f0.f0) ((rd_T101 t235 x14_1).f0.f1) ((rd_T101 t235 x14_1).f1.f0) ((rd_T101 t235 x14_1).f1.f1) ((rd_T101 t235 x18_2).f0.f0) ((rd_T101 t235 x18_2).f0.f1) ((rd_T101 t235 x18_2).f1.f0) ((rd_T101 t235 x18_2).f1.f1) t240 _ A15.out)))))
              refine wpQuiet_nil ?_
              intro _ hq_
              obtain ⟨q_, rfl⟩ := hq_
              clear s0_ s1_ s2_ s3_ s4_ s5_ s6_ s7_
              replace HO_3 := Aside0.mk (Kd.R_below HO_3.out q_.b)
              replace HB := Aside0.mk (below_step HB.out q_.b)
              replace hx238_0 := q_.cell hx238_0
              replace hx238_1 := q_.cell hx238_1
              replace hx238_2 := q_.cell hx238_2
              replace hx238_3 := q_.cell hx238_3
              replace hx239_0 := q_.cell hx239_0
              replace hx239_1 := q_.cell hx239_1
              replace hx239_2 := q_.cell hx239_2
              replace hx239_3 := q_.cell hx239_3
              generalize q_.W = w18 at HO_3 HB hx238_0 hx238_1 hx238_2 hx238_3 hx239_0 hx239_1 hx239_2 hx239_3 ⊢
              try simp only [i64_w, i32_w]
              try go_wp2
              go_roundg k2
              case measure => have := HK1.out; have := HK2.out; omega
              case rel => exact ⟨(wrap64 (x18_2 + 1)), (by first | rfl | (simp; done) | (simp [*]; done)), H', ⟨by have := HK1.out; have := HK2.out; omega⟩, ⟨by (with_reducible repeat (first | apply Kd.R_alloc | apply Kd.R_drewN | apply Kd.R_drew)); exact HO_3.out⟩, ⟨Hd.b_⟩⟩
             ·
              rw [if_neg c16] at H
              have c16b0 : (t240 == 1) = false := beq_eq_false_iff_ne.mpr c16
              have c16b1 : (t240 != 1) = true := bne_iff_ne.mpr c16
              obtain rfl := Option.some.inj H
              try go_wp2
              replace HO_3 := Aside0.mk (Kd.R_drew HO_3.out)
              replace HB := Aside0.mk (below_drew1 HB.out)
              have p238 : 0 ≤ (x14_1 : Int) := of_decide_eq_true Hd.a_
              have q238 : x14_1 < (t235.length : Int) := of_decide_eq_true Hd.a_
              obtain ⟨ad238, e238, hx238_0, hx238_1, hx238_2, hx238_3⟩ := at_T101 (Kd.R_reads' HO_3.out).2.2 x14_1 p238 q238
              cases e238
              replace p238 := eq_true p238
              replace q238 := eq_true q238
              have p239 : 0 ≤ (x18_2 : Int) := of_decide_eq_true Hd.a_
              have q239 : x18_2 < (t235.length : Int) := of_decide_eq_true Hd.a_
              obtain ⟨ad239, e239, hx239_0, hx239_1, hx239_2, hx239_3⟩ := at_T101 (Kd.R_reads' HO_3.out).2.2 x18_2 p239 q239
              obtain rfl : ad238 = ad239 := (by injection e239)
              replace p239 := eq_true p239
              replace q239 := eq_true q239
              have s0_ := Hd.HW.x (W0 := wr.drew) hx238_0
              have s1_ := Hd.HW.x (W0 := wr.drew) hx238_1
              have s2_ := Hd.HW.x (W0 := wr.drew) hx238_2
              have s3_ := Hd.HW.x (W0 := wr.drew) hx238_3
              have s4_ := Hd.HW.x (W0 := wr.drew) hx239_0
              have s5_ := Hd.HW.x (W0 := wr.drew) hx239_1
              have s6_ := Hd.HW.x (W0 := wr.drew) hx239_2
              have s7_ := Hd.HW.x (W0 := wr.drew) hx239_3
              refine Hd.HW.region (by kernel_rfl) (by kernel_rfl) ?_
              repeat (go_big_quiet_step ((first | (go_at_call 76; with_reducible exact Hd.HW.c (impl_HowMeet.calls k2 ((rd_T101 t235 x14_1).f0.f0) ((rd_T101 t235 x14_1).f0.f1) ((rd_T101 t235 x14_1).f1.f0) ((rd_T101 t235 x14_1).f1.f1) ((rd_T101 t235 x18_2).f0.f0) ((rd_T101 t235 x18_2).f0.f1) ((rd_T101 t235 x18_2).f1.f0) ((rd_T101 t235 x18_2).f1.f1) t240 _ A15.out)))))
              refine wpQuiet_nil ?_
              intro _ hq_
              obtain ⟨q_, rfl⟩ := hq_
              clear s0_ s1_ s2_ s3_ s4_ s5_ s6_ s7_
              replace HO_3 := Aside0.mk (Kd.R_below HO_3.out q_.b)
              replace HB := Aside0.mk (below_step HB.out q_.b)
              replace hx238_0 := q_.cell hx238_0
              replace hx238_1 := q_.cell hx238_1
              replace hx238_2 := q_.cell hx238_2
              replace hx238_3 := q_.cell hx238_3
              replace hx239_0 := q_.cell hx239_0
              replace hx239_1 := q_.cell hx239_1
              replace hx239_2 := q_.cell hx239_2
              replace hx239_3 := q_.cell hx239_3
              generalize q_.W = w20 at HO_3 HB hx238_0 hx238_1 hx238_2 hx238_3 hx239_0 hx239_1 hx239_2 hx239_3 ⊢
              try simp only [i64_w, i32_w]
              try go_wp2
              go_ret
              exact ⟨Hd.e_, Hd.b_⟩
            ·
             rw [if_neg c14] at H
             exact absurd H (by simp)
           ·
            rw [if_neg c13] at H
            exact absurd H (by simp)
          ·
           rw [if_neg c12] at H
           exact absurd H (by simp)
         ·
          rw [if_neg c11] at H
          exact absurd H (by simp)
        ·
         rw [if_neg c10] at H
         have c10b0 : (x18_2 == (wrap64 (x14_1 - 1))) = false := beq_eq_false_iff_ne.mpr c10
         have c10b1 : (x18_2 != (wrap64 (x14_1 - 1))) = true := bne_iff_ne.mpr c10
         by_cases c21 : 0 ≤ x14_1
         ·
          rw [if_pos c21] at H
          have c21b0 : decide (0 ≤ x14_1) = true := decide_eq_true c21
          clear c21
          by_cases c22 : x14_1 < (t235.length : Int)
          ·
           rw [if_pos c22] at H
           have c22b0 : decide (x14_1 < (t235.length : Int)) = true := decide_eq_true c22
           clear c22
           by_cases c23 : 0 ≤ x18_2
           ·
            rw [if_pos c23] at H
            have c23b0 : decide (0 ≤ x18_2) = true := decide_eq_true c23
            clear c23
            by_cases c24 : x18_2 < (t235.length : Int)
            ·
             rw [if_pos c24] at H
             have c24b0 : decide (x18_2 < (t235.length : Int)) = true := decide_eq_true c24
             clear c24
             replace H := Option.bind_eq_some_iff.mp H
             obtain ⟨t243, A250, H⟩ := H
             replace H : (if t243 = 0 then (impl_IsSimple.l1 k2 t235 x14_1 (t235.length : Int) x14_1 x14_1 (wrap64 (x18_2 + 1))) else (some false)) = some r := H
             have A25 := Aside0.mk A250
             clear A250
             by_cases c26 : t243 = 0
             ·
              rw [if_pos c26] at H
              have c26b0 : (t243 == 0) = true := beq_iff_eq.mpr c26
              have c26b1 : (t243 != 0) = false := bne_eq_false_iff_eq.mpr c26
              clear c26
              have H' := Aside0.mk H
              clear H
              try go_wp2
              replace HO_3 := Aside0.mk (Kd.R_drew HO_3.out)
              replace HB := Aside0.mk (below_drew1 HB.out)
              have p241 : 0 ≤ (x14_1 : Int) := of_decide_eq_true Hd.a_
              have q241 : x14_1 < (t235.length : Int) := of_decide_eq_true Hd.a_
              obtain ⟨ad241, e241, hx241_0, hx241_1, hx241_2, hx241_3⟩ := at_T101 (Kd.R_reads' HO_3.out).2.2 x14_1 p241 q241
              cases e241
              replace p241 := eq_true p241
              replace q241 := eq_true q241
              have p242 : 0 ≤ (x18_2 : Int) := of_decide_eq_true Hd.a_
              have q242 : x18_2 < (t235.length : Int) := of_decide_eq_true Hd.a_
              obtain ⟨ad242, e242, hx242_0, hx242_1, hx242_2, hx242_3⟩ := at_T101 (Kd.R_reads' HO_3.out).2.2 x18_2 p242 q242
              obtain rfl : ad241 = ad242 := (by injection e242)
              replace p242 := eq_true p242
              replace q242 := eq_true q242
              have s0_ := Hd.HW.x (W0 := wr.drew) hx241_0
              have s1_ := Hd.HW.x (W0 := wr.drew) hx241_1
              have s2_ := Hd.HW.x (W0 := wr.drew) hx241_2
              have s3_ := Hd.HW.x (W0 := wr.drew) hx241_3
              have s4_ := Hd.HW.x (W0 := wr.drew) hx242_0
              have s5_ := Hd.HW.x (W0 := wr.drew) hx242_1
              have s6_ := Hd.HW.x (W0 := wr.drew) hx242_2
              have s7_ := Hd.HW.x (W0 := wr.drew) hx242_3
              refine Hd.HW.region (by kernel_rfl) (by kernel_rfl) ?_
              repeat (go_big_quiet_step ((first | (go_at_call 76; with_reducible exact Hd.HW.c (impl_HowMeet.calls k2 ((rd_T101 t235 x14_1).f0.f0) ((rd_T101 t235 x14_1).f0.f1) ((rd_T101 t235 x14_1).f1.f0) ((rd_T101 t235 x14_1).f1.f1) ((rd_T101 t235 x18_2).f0.f0) ((rd_T101 t235 x18_2).f0.f1) ((rd_T101 t235 x18_2).f1.f0) ((rd_T101 t235 x18_2).f1.f1) t243 _ A25.out)))))
              refine wpQuiet_nil ?_
              intro _ hq_
              obtain ⟨q_, rfl⟩ := hq_
              clear s0_ s1_ s2_ s3_ s4_ s5_ s6_ s7_
              replace HO_3 := Aside0.mk (Kd.R_below HO_3.out q_.b)
              replace HB := Aside0.mk (below_step HB.out q_.b)
              replace hx241_0 := q_.cell hx241_0
              replace hx241_1 := q_.cell hx241_1
              replace hx241_2 := q_.cell hx241_2
              replace hx241_3 := q_.cell hx241_3
              replace hx242_0 := q_.cell hx242_0
              replace hx242_1 := q_.cell hx242_1
              replace hx242_2 := q_.cell hx242_2
              replace hx242_3 := q_.cell hx242_3
              generalize q_.W = w28 at HO_3 HB hx241_0 hx241_1 hx241_2 hx241_3 hx242_0 hx242_1 hx242_2 hx242_3 ⊢
              try simp only [i64_w, i32_w]
              try go_wp2
              go_roundg k2
              case measure => have := HK1.out; have := HK2.out; omega
              case rel => exact ⟨(wrap64 (x18_2 + 1)), (by first | rfl | (simp; done) | (simp [*]; done)), H', ⟨by have := HK1.out; have := HK2.out; omega⟩, ⟨by (with_reducible repeat (first | apply Kd.R_alloc | apply Kd.R_drewN | apply Kd.R_drew)); exact HO_3.out⟩, ⟨Hd.b_⟩⟩
             ·
              rw [if_neg c26] at H
              have c26b0 : (t243 == 0) = false := beq_eq_false_iff_ne.mpr c26
              have c26b1 : (t243 != 0) = true := bne_iff_ne.mpr c26
              obtain rfl := Option.some.inj H
              try go_wp2
              replace HO_3 := Aside0.mk (Kd.R_drew HO_3.out)
              replace HB := Aside0.mk (below_drew1 HB.out)
              have p241 : 0 ≤ (x14_1 : Int) := of_decide_eq_true Hd.a_
              have q241 : x14_1 < (t235.length : Int) := of_decide_eq_true Hd.a_
              obtain ⟨ad241, e241, hx241_0, hx241_1, hx241_2, hx241_3⟩ := at_T101 (Kd.R_reads' HO_3.out).2.2 x14_1 p241 q241
              cases e241
              replace p241 := eq_true p241
              replace q241 := eq_true q241
              have p242 : 0 ≤ (x18_2 : Int) := of_decide_eq_true Hd.a_
              have q242 : x18_2 < (t235.length : Int) := of_decide_eq_true Hd.a_
              obtain ⟨ad242, e242, hx242_0, hx242_1, hx242_2, hx242_3⟩ := at_T101 (Kd.R_reads' HO_3.out).2.2 x18_2 p242 q242
              obtain rfl : ad241 = ad242 := (by injection e242)
              replace p242 := eq_true p242
              replace q242 := eq_true q242
              have s0_ := Hd.HW.x (W0 := wr.drew) hx241_0
              have s1_ := Hd.HW.x (W0 := wr.drew) hx241_1
              have s2_ := Hd.HW.x (W0 := wr.drew) hx241_2
              have s3_ := Hd.HW.x (W0 := wr.drew) hx241_3
              have s4_ := Hd.HW.x (W0 := wr.drew) hx242_0
              have s5_ := Hd.HW.x (W0 := wr.drew) hx242_1
              have s6_ := Hd.HW.x (W0 := wr.drew) hx242_2
              have s7_ := Hd.HW.x (W0 := wr.drew) hx242_3
              refine Hd.HW.region (by kernel_rfl) (by kernel_rfl) ?_
              repeat (go_big_quiet_step ((first | (go_at_call 76; with_reducible exact Hd.HW.c (impl_HowMeet.calls k2 ((rd_T101 t235 x14_1).f0.f0) ((rd_T101 t235 x14_1).f0.f1) ((rd_T101 t235 x14_1).f1.f0) ((rd_T101 t235 x14_1).f1.f1) ((rd_T101 t235 x18_2).f0.f0) ((rd_T101 t235 x18_2).f0.f1) ((rd_T101 t235 x18_2).f1.f0) ((rd_T101 t235 x18_2).f1.f1) t243 _ A25.out)))))
              refine wpQuiet_nil ?_
              intro _ hq_
              obtain ⟨q_, rfl⟩ := hq_
              clear s0_ s1_ s2_ s3_ s4_ s5_ s6_ s7_
              replace HO_3 := Aside0.mk (Kd.R_below HO_3.out q_.b)
              replace HB := Aside0.mk (below_step HB.out q_.b)
              replace hx241_0 := q_.cell hx241_0
              replace hx241_1 := q_.cell hx241_1
              replace hx241_2 := q_.cell hx241_2
              replace hx241_3 := q_.cell hx241_3
              replace hx242_0 := q_.cell hx242_0
              replace hx242_1 := q_.cell hx242_1
              replace hx242_2 := q_.cell hx242_2
              replace hx242_3 := q_.cell hx242_3
              generalize q_.W = w30 at HO_3 HB hx241_0 hx241_1 hx241_2 hx241_3 hx242_0 hx242_1 hx242_2 hx242_3 ⊢
              try simp only [i64_w, i32_w]
              try go_wp2
              go_ret
              exact ⟨Hd.e_, Hd.b_⟩
            ·
             rw [if_neg c24] at H
             exact absurd H (by simp)
           ·
            rw [if_neg c23] at H
            exact absurd H (by simp)
          ·
           rw [if_neg c22] at H
           exact absurd H (by simp)
         ·
          rw [if_neg c21] at H
          exact absurd H (by simp)
       ·
        rw [if_neg c9] at H
        have c9b0 : decide (x18_2 < x14_1) = false := decide_eq_false c9
        clear c9
        have H' := Aside0.mk H
        clear H
        go_wp2
        go_roundg k2
        case measure => have := HK1.out; have := HK2.out; omega
        case rel => exact ⟨(wrap64 (x14_1 + 1)), (by first | rfl | (simp; done) | (simp [*]; done)), H', ⟨by have := HK1.out; have := HK2.out; omega⟩, ⟨by (with_reducible repeat (first | apply Kd.R_alloc | apply Kd.R_drewN | apply Kd.R_drew)); exact HO_3.out⟩, ⟨Hd.b_⟩⟩
    ·
     rw [if_neg c8] at H
     have c8b0 : decide (x14_1 < (t235.length : Int)) = false := decide_eq_false c8
     clear c8
     obtain rfl := Option.some.inj H
     go_wp2
     go_ret
     exact ⟨Hd.e_, Hd.b_⟩
 ·
  replace c3 := Bool.eq_false_iff.mpr c3
  subst c3
  have H1 : (some false) = some r := by rw [if_neg (show ¬ (false = true) by decide)] at H; exact H
  clear H
  have H := H1
  clear H1
  obtain rfl := Option.some.inj H
  go_enter Try.func74, Try.ntmps74
  go_wp2_with (first | ((with_reducible refine gate_callee (f := 88) rfl ?_); refine goesL_ (some 8) rfl rfl Try.func88 (by kernel_rfl) rfl #[.slice A0 l0.length c0] rfl Hd.m_ ?_; (with_reducible refine (impl_IsLine.calls k _ _ l0 false _ ?side1 ?side2 A2.out).mono ?_); (case side1 => repeat (first | exact HR0.out | (with_reducible refine Kd.C_alloc ?_ _) | (with_reducible refine Kd.C_drewN ?_ _) | (with_reducible refine Kd.C_drew ?_))); (case side2 => exact HC0.out); rintro e w31 ⟨rfl, hb⟩; refine ⟨_, rfl, ?_⟩; replace HB := Aside0.mk (below_step Hd.b_ hb); (try clear hb); (try clear hb2); (try clear hk); (try clear hi)))
  go_ret
  exact ⟨Hd.e_, Hd.b_⟩
def impl_around.l0 : Nat → List (S75) → List (S101) → List (S75) → Int → Int → Option ((List (S101)))
 | 0, _, _, _, _, _ => none
 | k + 1, x0, x3, x7, x8, x9 => if x9 < x8 then (if 0 ≤ x9 then (if x9 < (x7.length : Int) then (if (x0.length : Int) = 0 then (none) else (if 0 ≤ (Int.tmod (wrap64 (x9 + 1)) (x0.length : Int)) then (if (Int.tmod (wrap64 (x9 + 1)) (x0.length : Int)) < (x0.length : Int) then (if x3.length < 4398046511104 then (impl_around.l0 k x0 (x3 ++ [(⟨(⟨(rd_T75 x7 x9).f0, (rd_T75 x7 x9).f1⟩ : S75), (⟨(rd_T75 x0 (Int.tmod (wrap64 (x9 + 1)) (x0.length : Int))).f0, (rd_T75 x0 (Int.tmod (wrap64 (x9 + 1)) (x0.length : Int))).f1⟩ : S75)⟩ : S101)]) x7 x8 (wrap64 (x9 + 1))) else (none)) else (none)) else (none))) else (none)) else (none)) else (some x3)
def impl_around.f (k : Nat) (l0 : List (S75)) : Option ((List (S101))) := impl_around.l0 k l0 (([] : List (S101))) l0 (l0.length : Int) 0
def impl_around.T5 : Bool × List (List Nat × List Nat) := (true, [([], []), ([], []), ([], []), ([], []), ([3], [3]), ([], []), ([5], [5]), ([4, 6], [4, 6]), ([2, 7], [2, 7]), ([8], [8]), ([1, 9], [1, 9]), ([10], [10]), ([0, 11], [0, 11]), ([12, 12, 0, 1, 2, 3, 4, 5, 6, 7, 8, 9, 10, 11, 12], [0, 12])])
def impl_around.B5 : List Nat := [0, 0, 0, 0, 8, 0, 32, 120, 252, 508, 1022, 2046, 4095, 8191]
theorem impl_around.tab5 : rtab .any (opsOf Try.f89 5) = impl_around.T5 := by kernel_rfl
theorem impl_around.bits5 : waitsOk impl_around.T5.2 impl_around.B5 = true := by kernel_rfl
set_option maxHeartbeats 8000000 in
set_option maxRecDepth 100000 in
theorem impl_around.calls (k : Nat) (A0 : Option Addr) (c0 : Nat) (l0 : List (S75)) (r : List (S101)) (w : World) (hr0 : Kd.C k75 w A0 l0.length l0) (hc0 : l0.length ≤ c0) (h : impl_around.f k l0 = some r) :
  Calls Try.prog 89 #[.slice A0 l0.length c0] w fun e w' => ∃ v0_ : Value, e = .returned (v0_) ∧ Kd.R k101 101 w' w.heap.size (fun _ => True) v0_ r ∧ Below w.heap.size w w' := by
 have hu75 := Try.underlying75
 have hu101 := Try.underlying101
 have HR0 := Aside0.mk hr0
 have HC0 := Aside0.mk hc0
 clear hr0 hc0
 have HB := Aside0.mk (Below.refl w.heap.size w)
 have H : (impl_around.l0 k l0 (([] : List (S101))) l0 (l0.length : Int) 0) = some r := h
 clear h
 obtain ⟨y244, hy244⟩ : ∃ y_ : List (S101), y_ = (([] : List (S101))) := ⟨_, rfl⟩
 replace H : (impl_around.l0 k l0 y244 l0 (l0.length : Int) 0) = some r := by first | (rw [hy244]; with_reducible exact H) | (have H2_ := (Option.bind_some _ _).symm.trans H; rw [hy244]; with_reducible exact H2_) | (have H2_ := (Option.bind_some _ _).symm.trans H; with_reducible exact H2_) | with_reducible exact H | (rw [hy244]; exact H) | exact H
 have Ny244 := Aside0.mk hy244
 clear hy244
 have H' := Aside0.mk H
 clear H
 go_enter Try.func89, Try.ntmps89
 go_wp2_with (first | ((with_reducible refine gate_dst (N := 6) rfl ?_); refine Kd.R_lit k101 _ 101 ?hg (N := 6) ?hd (xs := ([] : List (S101))) (inner := []) (ok := fun _ => True) (okp := fun _ => True) ?hr ?hp (fun _ hk => hk) trivial (Below.refl _ _) (Nat.le_refl _) (by simp) ?_; (case hd => rfl); (case hg => rfl); (case hr => first | (go_simp; done) | (go_simp; rfl)); (case hp => exact (Reps.none _ _)); intro v245 w2 ho3 hb hg_ hnew_; clear hg_ hnew_; (first | rw [← Ny244.out] at ho3 | (simp only [Int.reduceToNat] at ho3; rw [← Ny244.out] at ho3)); have HO246 := Aside0.mk (Kd.R_lower ho3 (below_size Hd.b_)); replace HB := Aside0.mk (below_step Hd.b_ hb); clear hb ho3))
 go_loopg [3, 9] k (fun kq v3 v9 w' => ∃ (x3_1 : List (S101)) (x9_1 : Int), v9 = .int .i64 x9_1 ∧ Aside0 (impl_around.l0 kq l0 x3_1 l0 (l0.length : Int) x9_1 = some r) ∧ Aside0 (kq ≤ k) ∧ Aside0 (Kd.R k101 101 w' w.heap.size (fun _ => True) v3 x3_1) ∧ Aside0 (Below w.heap.size w w'))
 case atStart => exact ⟨(y244), (0), (by first | rfl | (simp; done) | (simp [*]; done)), H', ⟨Nat.le_refl _⟩, ⟨by (with_reducible repeat (first | apply Kd.R_alloc | apply Kd.R_drewN | apply Kd.R_drew)); exact HO246.out⟩, ⟨Hd.b_⟩⟩
 case round =>
  clear H'
  try clear p2
  obtain ⟨x3_1, x9_1, rfl, HA, HK1, HO_3, HB⟩ := hrel
  cases gk with
  | zero => exact absurd HA.out (by simp [impl_around.l0])
  | succ k1 =>
   have H := HA.out
   clear HA
   simp only [impl_around.l0] at H
   by_cases c4 : x9_1 < (l0.length : Int)
   ·
    rw [if_pos c4] at H
    have c4b0 : decide (x9_1 < (l0.length : Int)) = true := decide_eq_true c4
    clear c4
    by_cases c5 : 0 ≤ x9_1
    ·
     rw [if_pos c5] at H
     have c5b0 : decide (0 ≤ x9_1) = true := decide_eq_true c5
     clear c5
     by_cases c6 : x9_1 < (l0.length : Int)
     ·
      rw [if_pos c6] at H
      have c6b0 : decide (x9_1 < (l0.length : Int)) = true := decide_eq_true c6
      clear c6
      by_cases c7 : (l0.length : Int) = 0
      ·
       rw [if_pos c7] at H
       exact absurd H (by simp)
      ·
       rw [if_neg c7] at H
       have c7b0 : ((l0.length : Int) == 0) = false := beq_eq_false_iff_ne.mpr c7
       have c7b1 : ((l0.length : Int) != 0) = true := bne_iff_ne.mpr c7
       have c7b2 : ¬ (l0 = []) := fun h_ => c7 (by rw [h_]; rfl)
       obtain ⟨ji8, hji8⟩ : ∃ j_ : Int, (Int.tmod (wrap64 (x9_1 + 1)) (l0.length : Int)) = j_ := ⟨_, rfl⟩
       replace H : (if 0 ≤ (ji8) then (if (ji8) < (l0.length : Int) then (if x3_1.length < 4398046511104 then (impl_around.l0 k1 l0 (x3_1 ++ [(⟨(⟨(rd_T75 l0 x9_1).f0, (rd_T75 l0 x9_1).f1⟩ : S75), (⟨(rd_T75 l0 (ji8)).f0, (rd_T75 l0 (ji8)).f1⟩ : S75)⟩ : S101)]) l0 (l0.length : Int) (wrap64 (x9_1 + 1))) else (none)) else (none)) else (none)) = some r := by first | (rw [hji8] at H; exact H) | (simp only [hji8] at H ⊢; exact H)
       by_cases c9 : 0 ≤ (ji8)
       ·
        rw [if_pos c9] at H
        have c9b0 : decide (0 ≤ (ji8)) = true := decide_eq_true c9
        clear c9
        by_cases c10 : (ji8) < (l0.length : Int)
        ·
         rw [if_pos c10] at H
         have c10b0 : decide ((ji8) < (l0.length : Int)) = true := decide_eq_true c10
         clear c10
         by_cases c11 : x3_1.length < 4398046511104
         ·
          rw [if_pos c11] at H
          have LMc11 := Aside0.mk c11
          clear c11
          obtain ⟨y250, hy250⟩ : ∃ y_ : List (S101), y_ = (x3_1 ++ [(⟨(⟨(rd_T75 l0 x9_1).f0, (rd_T75 l0 x9_1).f1⟩ : S75), (⟨(rd_T75 l0 (ji8)).f0, (rd_T75 l0 (ji8)).f1⟩ : S75)⟩ : S101)]) := ⟨_, rfl⟩
          replace H : (impl_around.l0 k1 l0 y250 l0 (l0.length : Int) (wrap64 (x9_1 + 1))) = some r := by first | (rw [hy250]; with_reducible exact H) | (have H2_ := (Option.bind_some _ _).symm.trans H; rw [hy250]; with_reducible exact H2_) | (have H2_ := (Option.bind_some _ _).symm.trans H; with_reducible exact H2_) | with_reducible exact H | (rw [hy250]; exact H) | exact H
          have Ny250 := Aside0.mk hy250
          clear hy250
          have H' := Aside0.mk H
          clear H
          have p247 : 0 ≤ (x9_1 : Int) := of_decide_eq_true Hd.a_
          have q247 : x9_1 < (l0.length : Int) := of_decide_eq_true Hd.a_
          obtain ⟨ad247, e247, hx247_0, hx247_1⟩ := at_T75 HR0.out x9_1 p247 q247
          cases e247
          replace hx247_0 := (HB.out.cell (World.block_lt_of_cell? w _ hx247_0)).trans hx247_0
          replace hx247_1 := (HB.out.cell (World.block_lt_of_cell? w _ hx247_1)).trans hx247_1
          replace p247 := eq_true p247
          replace q247 := eq_true q247
          try go_wp2_with (first | ((with_reducible refine gate_dst (N := 5) rfl ?_); refine Hd.box_ 5 (#[.int .i64 0, .int .i64 0]) 75 ?_; intro gb248 hg w12 hbox hb; replace HO_3 := Aside0.mk (Kd.R_below (Hd.r_ HO_3) hb); have BK248 := Aside0.mk (hbox); have GW248 := Aside0.mk ((Hd.g_ hg Hd.b_ : w.heap.size ≤ gb248)); have GE248 := Aside0.mk ((Hd.g_ hg Hd.b_ : w.heap.size ≤ gb248)); replace HB := Aside0.mk (below_step Hd.b_ hb); clear hb hbox hg; obtain ⟨hcz13_0, hcz13_1⟩ := Hd.c2_ BK248.out; obtain ⟨hfz13_0, hfz13_1⟩ := Hd.f2_ BK248.out))
          have n0_ : Aside0 (Kd.R k101 101 ((w12.setCell ⟨gb248, 0, none⟩ (.int .i64 ((rd_T75 l0 x9_1).f0))).setCell ⟨gb248, 1, none⟩ (.int .i64 ((rd_T75 l0 x9_1).f1))) w.heap.size (fun _ => True) u3 x3_1) := ⟨by (with_reducible repeat (first | apply Kd.R_alloc | apply Kd.R_drewN | apply Kd.R_drew)); exact Kd.R_mono (Kd.R_far (p := ⟨gb248, 1, none⟩) (Kd.R_far (p := ⟨gb248, 0, none⟩) (Kd.R_types HO_3.out BK248.out (by decide)) (fun _ hk => hk.2) (.int .i64 ((rd_T75 l0 x9_1).f0))) (fun _ hk => hk.2) (.int .i64 ((rd_T75 l0 x9_1).f1))) (fun _ hk => trivial)⟩
          have n1_ : Aside0 (((w12.setCell ⟨gb248, 0, none⟩ (.int .i64 ((rd_T75 l0 x9_1).f0))).setCell ⟨gb248, 1, none⟩ (.int .i64 ((rd_T75 l0 x9_1).f1))).heap[gb248]? = some (.cells #[.int .i64 ((rd_T75 l0 x9_1).f0), .int .i64 ((rd_T75 l0 x9_1).f1)] 75 (0, 0))) := ⟨by (with_reducible repeat (first | refine blk_drewN ?_ _ | refine blk_drew ?_ | refine blk_alloc ?_ _)); refine blk_put (cs := #[.int .i64 ((rd_T75 l0 x9_1).f0), .int .i64 0]) ?_ 1 _ rfl; (with_reducible repeat (first | refine blk_drewN ?_ _ | refine blk_drew ?_ | refine blk_alloc ?_ _)); refine blk_put (cs := #[.int .i64 0, .int .i64 0]) ?_ 0 _ rfl; (with_reducible repeat (first | refine blk_drewN ?_ _ | refine blk_drew ?_ | refine blk_alloc ?_ _)); exact BK248.out⟩
          have n2_ : Aside0 (Below w.heap.size w ((w12.setCell ⟨gb248, 0, none⟩ (.int .i64 ((rd_T75 l0 x9_1).f0))).setCell ⟨gb248, 1, none⟩ (.int .i64 ((rd_T75 l0 x9_1).f1)))) := ⟨Hd.b_⟩
          (try clear HO_3)
          (try clear BK248)
          (try clear HB)
          generalize ((w12.setCell ⟨gb248, 0, none⟩ (.int .i64 ((rd_T75 l0 x9_1).f0))).setCell ⟨gb248, 1, none⟩ (.int .i64 ((rd_T75 l0 x9_1).f1))) = w14 at n0_ n1_ n2_ ⊢
          have HO_3 := n0_
          have BK248 := n1_
          have HB := n2_
          clear n0_ n1_ n2_
          replace HO_3 := Aside0.mk (Kd.R_drew HO_3.out)
          replace BK248 := Aside0.mk (blk_drew BK248.out)
          replace HB := Aside0.mk (below_drew1 HB.out)
          have p249 : 0 ≤ ((ji8) : Int) := of_decide_eq_true Hd.a_
          have q249 : (ji8) < (l0.length : Int) := of_decide_eq_true Hd.a_
          obtain ⟨ad249, e249, hx249_0, hx249_1⟩ := at_T75 HR0.out (ji8) p249 q249
          have hw249_1 := hx249_1
          have hw249_0 := hx249_0
          obtain rfl : ad247 = ad249 := (by injection e249)
          replace hx249_0 := (HB.out.cell (World.block_lt_of_cell? w _ hx249_0)).trans hx249_0
          replace hx249_1 := (HB.out.cell (World.block_lt_of_cell? w _ hx249_1)).trans hx249_1
          replace p249 := eq_true p249
          replace q249 := eq_true q249
          refine start_ (n := 14) (S := fun w' => w'.cell? ⟨gb248, 0, none⟩ = some (.int .i64 ((rd_T75 l0 x9_1).f0)) ∧ w'.cell? ⟨gb248, 1, none⟩ = some (.int .i64 ((rd_T75 l0 x9_1).f1)) ∧ w'.cell? (ad247.add (((ji8)).toNat * 2)) = some (.int .i64 ((rd_T75 l0 (ji8)).f0)) ∧ w'.cell? ⟨(ad247.add (((ji8)).toNat * 2)).block, (ad247.add (((ji8)).toNat * 2)).off + 1, none⟩ = some (.int .i64 ((rd_T75 l0 (ji8)).f1))) (ds := []) #[false, false, false, false, false, false, false, false, false, false, false, false, false, false] (by kernel_rfl) rfl rfl ⟨(blk_cell BK248.out 0).trans rfl, (blk_cell BK248.out 1).trans rfl, ((HB.out.cell (World.block_lt_of_cell? w _ hw249_0)).trans hw249_0), ((HB.out.cell (World.block_lt_of_cell? w _ hw249_1)).trans hw249_1)⟩ (fun hHeld => ?_); refine with_tabW impl_around.tab5 impl_around.bits5 (fun HT_ HW_ => ?_)
          generalize w14.drew = w15 at HO_3 BK248 HB hx249_0 hx249_1 hHeld ⊢
          refine Hd.p_ HT_ 0 (some 14) #[true, false, false, false, false, false, false, false, false, false, false, false, false, false] ?_
          refine Hd.p_ HT_ 2 (some 16) #[true, false, true, false, false, false, false, false, false, false, false, false, false, false] ?_
          refine Hd.p_ HT_ 3 (some 17) #[true, false, true, true, false, false, false, false, false, false, false, false, false, false] ?_
          refine Hd.p_ HT_ 4 (some 18) #[true, false, true, true, true, false, false, false, false, false, false, false, false, false] ?_
          refine Hd.p_ HT_ 5 (some 19) #[true, false, true, true, true, true, false, false, false, false, false, false, false, false] ?_
          refine Hd.p_ HT_ 6 (some 20) #[true, false, true, true, true, true, true, false, false, false, false, false, false, false] ?_
          refine Hd.p_ HT_ 7 (some 21) #[true, false, true, true, true, true, true, true, false, false, false, false, false, false] ?_
          refine Hd.p_ HT_ 8 (some 22) #[true, false, true, true, true, true, true, true, true, false, false, false, false, false] ?_
          refine Hd.t_ HT_ HW_ hHeld 1 (some 15) #[true, true, true, true, true, true, true, true, true, false, false, false, false, false] ?_
          refine Hd.t_ HT_ HW_ hHeld 9 (some 23) #[true, true, true, true, true, true, true, true, true, true, false, false, false, false] ?_
          refine Hd.p_ HT_ 10 (some 24) #[true, true, true, true, true, true, true, true, true, true, true, false, false, false] ?_
          refine Hd.o_ HT_ 11 (some 25) #[true, true, true, true, true, true, true, true, true, true, true, true, false, false] (fun K hK => ?_)
          refine value_ (w1 := ?_) (v := ?_) (by rfl) rfl ?_ ?_
          rotate_left 2
          ·
           go_simp
           constructor
           ·
            rfl
           ·
            rfl
          refine hK.out _ _ ⟨(blk_cell (blk_alloc BK248.out _) 0).trans rfl, (blk_cell (blk_alloc BK248.out _) 1).trans rfl, (World.cell?_alloc_lt _ _ _ (World.block_lt_of_cell? _ _ (((HB.out.cell (World.block_lt_of_cell? w _ hw249_0)).trans hw249_0)))).trans (((HB.out.cell (World.block_lt_of_cell? w _ hw249_0)).trans hw249_0)), (World.cell?_alloc_lt _ _ _ (World.block_lt_of_cell? _ _ (((HB.out.cell (World.block_lt_of_cell? w _ hw249_1)).trans hw249_1)))).trans (((HB.out.cell (World.block_lt_of_cell? w _ hw249_1)).trans hw249_1))⟩ (fun hHeld => ?_)
          clear hK K
          refine Hd.n_ (some 25) ?_
          refine Hd.o_ HT_ 12 (some 26) #[true, true, true, true, true, true, true, true, true, true, true, true, true, false] (fun K hK => ?_)
          refine Kd.R_append_step k101 (w0 := w) w.heap.size (by rfl) (.tmp 14) (.tmp 25) 79 101 (.agg #[(.int .i64 0), (.int .i64 0), (.int .i64 0), (.int .i64 0)]) 32 rfl Try.underlying79 info101 rfl (by decide) (by omega) u3 x3_1 (⟨(⟨(rd_T75 l0 x9_1).f0, (rd_T75 l0 x9_1).f1⟩ : S75), (⟨(rd_T75 l0 (ji8)).f0, (rd_T75 l0 (ji8)).f1⟩ : S75)⟩ : S101) [.int .i64 ((rd_T75 l0 x9_1).f0), .int .i64 ((rd_T75 l0 x9_1).f1), .int .i64 ((rd_T75 l0 (ji8)).f0), .int .i64 ((rd_T75 l0 (ji8)).f1)] (fun _ => True) (fun _ => False) rfl rfl ?aP (fun _ hk => hk.elim) ?aF ?aO ?aB ?aS ?aL ?_
          (case aP => exact k101_mkM _ _ _ (⟨(⟨(rd_T75 l0 x9_1).f0, (rd_T75 l0 x9_1).f1⟩ : S75), (⟨(rd_T75 l0 (ji8)).f0, (rd_T75 l0 (ji8)).f1⟩ : S75)⟩ : S101))
          (case aB => exact Hd.b_)
          (case aF => exact (fun _ _ => trivial))
          (case aO => exact (Hd.r_ HO_3))
          (case aS => exact (below_size Hd.b_))
          (case aL => have := LMc11.out; omega)
          intro v251 w16 ho hb hg hat
          rw [← Ny250.out] at ho
          have n0_ := Aside0.mk (blk_grown (g := gb248) (o := .cells #[.int .i64 ((rd_T75 l0 x9_1).f0), .int .i64 ((rd_T75 l0 x9_1).f1)] 75 (0, 0)) (Hd.k_ BK248) hg (Kd.R_ne HO_3.out BK248.out (by decide)))
          have n1_ := Aside0.mk (hb)
          have n2_ := Aside0.mk (ho)
          clear BK248
          clear HB
          clear HO_3
          have BK248 := n0_
          have HB := n1_
          have HO252 := n2_
          clear n0_ n1_ n2_
          clear ho hb hg hat
          refine hK.out _ _ ⟨(blk_cell BK248.out 0).trans rfl, (blk_cell BK248.out 1).trans rfl, ((HB.out.cell (World.block_lt_of_cell? w _ hw249_0)).trans hw249_0), ((HB.out.cell (World.block_lt_of_cell? w _ hw249_1)).trans hw249_1)⟩ (fun hHeld => ?_)
          clear hK K
          refine Hd.n_ (some 26) ?_
          refine Hd.p_ HT_ 13 (some 3) #[true, true, true, true, true, true, true, true, true, true, true, true, true, true] ?_
          refine done_ (done_of HT_.out (by kernel_rfl)) ?_
          try go_wp2
          go_roundg k1
          case measure => have := HK1.out; omega
          case rel => exact ⟨(y250), (wrap64 (x9_1 + 1)), (by first | rfl | (simp; done) | (simp [*]; done)), H', ⟨by have := HK1.out; omega⟩, ⟨by (with_reducible repeat (first | apply Kd.R_alloc | apply Kd.R_drewN | apply Kd.R_drew)); exact HO252.out⟩, ⟨Hd.b_⟩⟩
         ·
          rw [if_neg c11] at H
          exact absurd H (by simp)
        ·
         rw [if_neg c10] at H
         exact absurd H (by simp)
       ·
        rw [if_neg c9] at H
        exact absurd H (by simp)
     ·
      rw [if_neg c6] at H
      exact absurd H (by simp)
    ·
     rw [if_neg c5] at H
     exact absurd H (by simp)
   ·
    rw [if_neg c4] at H
    have c4b0 : decide (x9_1 < (l0.length : Int)) = false := decide_eq_false c4
    clear c4
    obtain rfl := Option.some.inj H
    go_wp2
    go_ret
    exact ⟨_, Hd.e_, by (with_reducible repeat (first | apply Kd.R_alloc | apply Kd.R_drewN | apply Kd.R_drew)); exact HO_3.out, Hd.b_⟩
end Go.Proofs.Ytbbdhlggnglfgaa.MFnExactTakeFeature
