-- Laid by this session's program pp.py, after the kit's print and texts of the session's own. Not trusted: Lean checks it.
import Derived.Test.YtbackoeakepngaaZFnSafeMx0
import Derived.Test.YtbackoeakepngaaZFnSafeMx4
import Derived.Test.YtbackoeakepngaaZFnSafeMx5
import Derived.Test.YtbackoeakepngaaZFnSafeMx6
namespace Go.Proofs.Ytbackoeakepngaa.MFnSafe
open Go.RowKit Go.Proofs.YtbackoeakepngaaW.PrintWords Go.Proofs.YtbackoeakepngaaW.PrintLast Go.Proofs.YtbackoeakepngaaW.PrintMore
attribute [local go_sem] max2_int min2_int max_two min_two max_three min_three max_four min_four   -- for this text's walks alone
set_option linter.unusedVariables false
set_option linter.unusedSimpArgs false
mutual
def impl_IsSimple.l0 : Nat → List (S53) → Int → Int → Option (Bool)
 | 0, _, _, _ => none
 | k + 1, x3, x13, x14 => if x14 < x13 then (impl_IsSimple.l1 k x3 x14 x13 x14 x14 0) else (some true)
def impl_IsSimple.l1 : Nat → List (S53) → Int → Int → Int → Int → Int → Option (Bool)
 | 0, _, _, _, _, _, _ => none
 | k + 1, x3, x4, x13, x14, x17, x18 => if x18 < x17 then (if x18 = (wrap64 (x4 - 1)) then (if 0 ≤ x4 then (if x4 < (x3.length : Int) then (if 0 ≤ x18 then (if x18 < (x3.length : Int) then ((impl_HowMeet.f k ((rd_T53 x3 x4).f0.f0) ((rd_T53 x3 x4).f0.f1) ((rd_T53 x3 x4).f1.f0) ((rd_T53 x3 x4).f1.f1) ((rd_T53 x3 x18).f0.f0) ((rd_T53 x3 x18).f0.f1) ((rd_T53 x3 x18).f1.f0) ((rd_T53 x3 x18).f1.f1)).bind fun t316 => (if t316 = 1 then (impl_IsSimple.l1 k x3 x4 x13 x14 x17 (wrap64 (x18 + 1))) else (some false))) else (none)) else (none)) else (none)) else (none)) else (if 0 ≤ x4 then (if x4 < (x3.length : Int) then (if 0 ≤ x18 then (if x18 < (x3.length : Int) then ((impl_HowMeet.f k ((rd_T53 x3 x4).f0.f0) ((rd_T53 x3 x4).f0.f1) ((rd_T53 x3 x4).f1.f0) ((rd_T53 x3 x4).f1.f1) ((rd_T53 x3 x18).f0.f0) ((rd_T53 x3 x18).f0.f1) ((rd_T53 x3 x18).f1.f0) ((rd_T53 x3 x18).f1.f1)).bind fun t319 => (if t319 = 0 then (impl_IsSimple.l1 k x3 x4 x13 x14 x17 (wrap64 (x18 + 1))) else (some false))) else (none)) else (none)) else (none)) else (none))) else (impl_IsSimple.l0 k x3 x13 (wrap64 (x14 + 1)))
end
def impl_IsSimple.f (k : Nat) (l0 : List (S27)) : Option (Bool) := (impl_IsLine.f k l0).bind fun t310 => (if t310 = true then ((impl_SegmentsOf.f k l0).bind fun t311 => (impl_IsSimple.l0 k t311 (t311.length : Int) 0)) else (some false))
set_option maxHeartbeats 8000000 in
set_option maxRecDepth 100000 in
theorem impl_IsSimple.calls (k : Nat) (A0 : Option Addr) (c0 : Nat) (l0 : List (S27)) (r : Bool) (w : World) (hr0 : Kd.C k27 w A0 l0.length l0) (hc0 : l0.length ≤ c0) (h : impl_IsSimple.f k l0 = some r) :
  Calls Try.prog 51 #[.slice A0 l0.length c0] w fun e w' => e = .returned (.bool r) ∧ Below w.heap.size w w' := by
 have hu53 := Try.underlying53
 have HR0 := Aside0.mk hr0
 have HC0 := Aside0.mk hc0
 clear hr0 hc0
 have HB := Aside0.mk (Below.refl w.heap.size w)
 have H : ((impl_IsLine.f k l0).bind fun t310 => (if t310 = true then ((impl_SegmentsOf.f k l0).bind fun t311 => (impl_IsSimple.l0 k t311 (t311.length : Int) 0)) else (some false))) = some r := h
 clear h
 replace H := Option.bind_eq_some_iff.mp H
 obtain ⟨t310, A20, H⟩ := H
 replace H : (if t310 = true then ((impl_SegmentsOf.f k l0).bind fun t311 => (impl_IsSimple.l0 k t311 (t311.length : Int) 0)) else (some false)) = some r := H
 have A2 := Aside0.mk A20
 clear A20
 by_cases c3 : t310 = true
 ·
  subst c3
  have H1 : ((impl_SegmentsOf.f k l0).bind fun t311 => (impl_IsSimple.l0 k t311 (t311.length : Int) 0)) = some r := by rw [if_pos rfl] at H; exact H
  clear H
  have H := H1
  clear H1
  replace H := Option.bind_eq_some_iff.mp H
  obtain ⟨t311, A40, H⟩ := H
  replace H : (impl_IsSimple.l0 k t311 (t311.length : Int) 0) = some r := H
  have A4 := Aside0.mk A40
  clear A40
  have H' := Aside0.mk H
  clear H
  go_enter Try.func51, Try.ntmps51
  go_wp2_with (first | ((with_reducible refine gate_callee (f := 33) rfl ?_); refine goesL_ (some 8) rfl rfl Try.func33 (by kernel_rfl) rfl #[.slice A0 l0.length c0] rfl Hd.m_ ?_; (with_reducible refine (impl_IsLine.calls k _ _ l0 true _ ?side1 ?side2 A2.out).mono ?_); (case side1 => repeat (first | exact HR0.out | (with_reducible refine Kd.C_alloc ?_ _) | (with_reducible refine Kd.C_drewN ?_ _) | (with_reducible refine Kd.C_drew ?_))); (case side2 => exact HC0.out); rintro e w5 ⟨rfl, hb⟩; refine ⟨_, rfl, ?_⟩; replace HB := Aside0.mk (below_step Hd.b_ hb); (try clear hb); (try clear hb2); (try clear hk); (try clear hi)) | ((with_reducible refine gate_callee (f := 80) rfl ?_); refine goesL_ (some 11) rfl rfl Try.func80 (by kernel_rfl) rfl #[.slice A0 l0.length c0] rfl Hd.m_ ?_; (with_reducible refine (impl_SegmentsOf.calls k _ _ l0 t311 _ ?side1 ?side2 A4.out).mono ?_); (case side1 => repeat (first | exact (Kd.C_below HR0.out HB.out) | (with_reducible refine Kd.C_alloc ?_ _) | (with_reducible refine Kd.C_drewN ?_ _) | (with_reducible refine Kd.C_drew ?_))); (case side2 => exact HC0.out); rintro e w6 ⟨v312, rfl, ho0, hb⟩; refine ⟨_, rfl, ?_⟩; have HO313 := Aside0.mk (Kd.R_lower ho0 (below_size Hd.b_)); replace HB := Aside0.mk (below_step Hd.b_ hb); (try clear hb); (try clear hb2); (try clear hk); (try clear hi); (try clear ho0); obtain ⟨Ao7, co7, eo7⟩ := Kd.R_slice HO313.out; subst eo7))
  go_loopg [14] k (fun kq v14 w' => ∃ (x14_1 : Int), v14 = .int .i64 x14_1 ∧ Aside0 (impl_IsSimple.l0 kq t311 (t311.length : Int) x14_1 = some r) ∧ Aside0 (kq ≤ k) ∧ Aside0 (Kd.R k53 53 w' w.heap.size (fun _ => True) (.slice Ao7 t311.length co7) t311) ∧ Aside0 (Below w.heap.size w w'))
  case atStart => exact ⟨(0), (by first | rfl | (simp; done) | (simp [*]; done)), H', ⟨Nat.le_refl _⟩, ⟨by (with_reducible repeat (first | apply Kd.R_alloc | apply Kd.R_drewN | apply Kd.R_drew)); exact HO313.out⟩, ⟨Hd.b_⟩⟩
  case round =>
   clear H'
   try clear p2
   try clear c3
   try clear c5
   obtain ⟨x14_1, rfl, HA, HK1, HO_3, HB⟩ := hrel
   cases gk with
   | zero => exact absurd HA.out (by simp [impl_IsSimple.l0])
   | succ k1 =>
    have H := HA.out
    clear HA
    simp only [impl_IsSimple.l0] at H
    by_cases c8 : x14_1 < (t311.length : Int)
    ·
     rw [if_pos c8] at H
     have c8b0 : decide (x14_1 < (t311.length : Int)) = true := decide_eq_true c8
     clear c8
     have H' := Aside0.mk H
     clear H
     go_wp2
     go_loopg [18] k1 (fun kq v18 w' => ∃ (x18_2 : Int), v18 = .int .i64 x18_2 ∧ Aside0 (impl_IsSimple.l1 kq t311 x14_1 (t311.length : Int) x14_1 x14_1 x18_2 = some r) ∧ Aside0 (kq ≤ k1) ∧ Aside0 (Kd.R k53 53 w' w.heap.size (fun _ => True) (.slice Ao7 t311.length co7) t311) ∧ Aside0 (Below w.heap.size w w'))
     case atStart => exact ⟨(0), (by first | rfl | (simp; done) | (simp [*]; done)), H', ⟨Nat.le_refl _⟩, ⟨by (with_reducible repeat (first | apply Kd.R_alloc | apply Kd.R_drewN | apply Kd.R_drew)); exact HO_3.out⟩, ⟨Hd.b_⟩⟩
     case round =>
      clear H'
      try clear p2
      try clear c3
      try clear c5
      try clear c8
      try clear c8b0
      try clear p2
      obtain ⟨x18_2, rfl, HA, HK2, HO_3, HB⟩ := hrel
      cases gk with
      | zero => exact absurd HA.out (by simp [impl_IsSimple.l1])
      | succ k2 =>
       have H := HA.out
       clear HA
       simp only [impl_IsSimple.l1] at H
       by_cases c9 : x18_2 < x14_1
       ·
        rw [if_pos c9] at H
        have c9b0 : decide (x18_2 < x14_1) = true := decide_eq_true c9
        clear c9
        by_cases c10 : x18_2 = (wrap64 (x14_1 - 1))
        ·
         rw [if_pos c10] at H
         have c10b0 : (x18_2 == (wrap64 (x14_1 - 1))) = true := beq_iff_eq.mpr c10
         have c10b1 : (x18_2 != (wrap64 (x14_1 - 1))) = false := bne_eq_false_iff_eq.mpr c10
         clear c10
         by_cases c11 : 0 ≤ x14_1
         ·
          rw [if_pos c11] at H
          have c11b0 : decide (0 ≤ x14_1) = true := decide_eq_true c11
          clear c11
          by_cases c12 : x14_1 < (t311.length : Int)
          ·
           rw [if_pos c12] at H
           have c12b0 : decide (x14_1 < (t311.length : Int)) = true := decide_eq_true c12
           clear c12
           by_cases c13 : 0 ≤ x18_2
           ·
            rw [if_pos c13] at H
            have c13b0 : decide (0 ≤ x18_2) = true := decide_eq_true c13
            clear c13
            by_cases c14 : x18_2 < (t311.length : Int)
            ·
             rw [if_pos c14] at H
             have c14b0 : decide (x18_2 < (t311.length : Int)) = true := decide_eq_true c14
             clear c14
             replace H := Option.bind_eq_some_iff.mp H
             obtain ⟨t316, A150, H⟩ := H
             replace H : (if t316 = 1 then (impl_IsSimple.l1 k2 t311 x14_1 (t311.length : Int) x14_1 x14_1 (wrap64 (x18_2 + 1))) else (some false)) = some r := H
             have A15 := Aside0.mk A150
             clear A150
             by_cases c16 : t316 = 1
             ·
              rw [if_pos c16] at H
              have c16b0 : (t316 == 1) = true := beq_iff_eq.mpr c16
              have c16b1 : (t316 != 1) = false := bne_eq_false_iff_eq.mpr c16
              clear c16
              have H' := Aside0.mk H
              clear H
              try go_wp2
              replace HO_3 := Aside0.mk (Kd.R_drew HO_3.out)
              replace HB := Aside0.mk (below_drew1 HB.out)
              have p314 : 0 ≤ (x14_1 : Int) := of_decide_eq_true Hd.a_
              have q314 : x14_1 < (t311.length : Int) := of_decide_eq_true Hd.a_
              obtain ⟨ad314, e314, hx314_0, hx314_1, hx314_2, hx314_3⟩ := at_T53 (Kd.R_reads' HO_3.out).2.2 x14_1 p314 q314
              cases e314
              replace p314 := eq_true p314
              replace q314 := eq_true q314
              have p315 : 0 ≤ (x18_2 : Int) := of_decide_eq_true Hd.a_
              have q315 : x18_2 < (t311.length : Int) := of_decide_eq_true Hd.a_
              obtain ⟨ad315, e315, hx315_0, hx315_1, hx315_2, hx315_3⟩ := at_T53 (Kd.R_reads' HO_3.out).2.2 x18_2 p315 q315
              obtain rfl : ad314 = ad315 := (by injection e315)
              replace p315 := eq_true p315
              replace q315 := eq_true q315
              have s0_ := Hd.HW.x (W0 := wr.drew) hx314_0
              have s1_ := Hd.HW.x (W0 := wr.drew) hx314_1
              have s2_ := Hd.HW.x (W0 := wr.drew) hx314_2
              have s3_ := Hd.HW.x (W0 := wr.drew) hx314_3
              have s4_ := Hd.HW.x (W0 := wr.drew) hx315_0
              have s5_ := Hd.HW.x (W0 := wr.drew) hx315_1
              have s6_ := Hd.HW.x (W0 := wr.drew) hx315_2
              have s7_ := Hd.HW.x (W0 := wr.drew) hx315_3
              refine Hd.HW.region (by kernel_rfl) (by kernel_rfl) ?_
              repeat (go_big_quiet_step ((first | (go_at_call 88; with_reducible exact Hd.HW.c (impl_HowMeet.calls k2 ((rd_T53 t311 x14_1).f0.f0) ((rd_T53 t311 x14_1).f0.f1) ((rd_T53 t311 x14_1).f1.f0) ((rd_T53 t311 x14_1).f1.f1) ((rd_T53 t311 x18_2).f0.f0) ((rd_T53 t311 x18_2).f0.f1) ((rd_T53 t311 x18_2).f1.f0) ((rd_T53 t311 x18_2).f1.f1) t316 _ A15.out)))))
              refine wpQuiet_nil ?_
              intro _ hq_
              obtain ⟨q_, rfl⟩ := hq_
              clear s0_ s1_ s2_ s3_ s4_ s5_ s6_ s7_
              replace HO_3 := Aside0.mk (Kd.R_below HO_3.out q_.b)
              replace HB := Aside0.mk (below_step HB.out q_.b)
              replace hx314_0 := q_.cell hx314_0
              replace hx314_1 := q_.cell hx314_1
              replace hx314_2 := q_.cell hx314_2
              replace hx314_3 := q_.cell hx314_3
              replace hx315_0 := q_.cell hx315_0
              replace hx315_1 := q_.cell hx315_1
              replace hx315_2 := q_.cell hx315_2
              replace hx315_3 := q_.cell hx315_3
              generalize q_.W = w18 at HO_3 HB hx314_0 hx314_1 hx314_2 hx314_3 hx315_0 hx315_1 hx315_2 hx315_3 ⊢
              try simp only [i64_w, i32_w]
              try go_wp2
              go_roundg k2
              case measure => have := HK1.out; have := HK2.out; omega
              case rel => exact ⟨(wrap64 (x18_2 + 1)), (by first | rfl | (simp; done) | (simp [*]; done)), H', ⟨by have := HK1.out; have := HK2.out; omega⟩, ⟨by (with_reducible repeat (first | apply Kd.R_alloc | apply Kd.R_drewN | apply Kd.R_drew)); exact HO_3.out⟩, ⟨Hd.b_⟩⟩
             ·
              rw [if_neg c16] at H
              have c16b0 : (t316 == 1) = false := beq_eq_false_iff_ne.mpr c16
              have c16b1 : (t316 != 1) = true := bne_iff_ne.mpr c16
              obtain rfl := Option.some.inj H
              try go_wp2
              replace HO_3 := Aside0.mk (Kd.R_drew HO_3.out)
              replace HB := Aside0.mk (below_drew1 HB.out)
              have p314 : 0 ≤ (x14_1 : Int) := of_decide_eq_true Hd.a_
              have q314 : x14_1 < (t311.length : Int) := of_decide_eq_true Hd.a_
              obtain ⟨ad314, e314, hx314_0, hx314_1, hx314_2, hx314_3⟩ := at_T53 (Kd.R_reads' HO_3.out).2.2 x14_1 p314 q314
              cases e314
              replace p314 := eq_true p314
              replace q314 := eq_true q314
              have p315 : 0 ≤ (x18_2 : Int) := of_decide_eq_true Hd.a_
              have q315 : x18_2 < (t311.length : Int) := of_decide_eq_true Hd.a_
              obtain ⟨ad315, e315, hx315_0, hx315_1, hx315_2, hx315_3⟩ := at_T53 (Kd.R_reads' HO_3.out).2.2 x18_2 p315 q315
              obtain rfl : ad314 = ad315 := (by injection e315)
              replace p315 := eq_true p315
              replace q315 := eq_true q315
              have s0_ := Hd.HW.x (W0 := wr.drew) hx314_0
              have s1_ := Hd.HW.x (W0 := wr.drew) hx314_1
              have s2_ := Hd.HW.x (W0 := wr.drew) hx314_2
              have s3_ := Hd.HW.x (W0 := wr.drew) hx314_3
              have s4_ := Hd.HW.x (W0 := wr.drew) hx315_0
              have s5_ := Hd.HW.x (W0 := wr.drew) hx315_1
              have s6_ := Hd.HW.x (W0 := wr.drew) hx315_2
              have s7_ := Hd.HW.x (W0 := wr.drew) hx315_3
              refine Hd.HW.region (by kernel_rfl) (by kernel_rfl) ?_
              repeat (go_big_quiet_step ((first | (go_at_call 88; with_reducible exact Hd.HW.c (impl_HowMeet.calls k2 ((rd_T53 t311 x14_1).f0.f0) ((rd_T53 t311 x14_1).f0.f1) ((rd_T53 t311 x14_1).f1.f0) ((rd_T53 t311 x14_1).f1.f1) ((rd_T53 t311 x18_2).f0.f0) ((rd_T53 t311 x18_2).f0.f1) ((rd_T53 t311 x18_2).f1.f0) ((rd_T53 t311 x18_2).f1.f1) t316 _ A15.out)))))
              refine wpQuiet_nil ?_
              intro _ hq_
              obtain ⟨q_, rfl⟩ := hq_
              clear s0_ s1_ s2_ s3_ s4_ s5_ s6_ s7_
              replace HO_3 := Aside0.mk (Kd.R_below HO_3.out q_.b)
              replace HB := Aside0.mk (below_step HB.out q_.b)
              replace hx314_0 := q_.cell hx314_0
              replace hx314_1 := q_.cell hx314_1
              replace hx314_2 := q_.cell hx314_2
              replace hx314_3 := q_.cell hx314_3
              replace hx315_0 := q_.cell hx315_0
              replace hx315_1 := q_.cell hx315_1
              replace hx315_2 := q_.cell hx315_2
              replace hx315_3 := q_.cell hx315_3
              generalize q_.W = w20 at HO_3 HB hx314_0 hx314_1 hx314_2 hx314_3 hx315_0 hx315_1 hx315_2 hx315_3 ⊢
              try simp only [i64_w, i32_w]
              try go_wp2
              go_ret
              exact ⟨Hd.e_, Hd.b_⟩
            ·
             rw [if_neg c14] at H
             exact absurd H (by simp)
           ·
            rw [if_neg c13] at H
            exact absurd H (by simp)
          ·
           rw [if_neg c12] at H
           exact absurd H (by simp)
         ·
          rw [if_neg c11] at H
          exact absurd H (by simp)
        ·
         rw [if_neg c10] at H
         have c10b0 : (x18_2 == (wrap64 (x14_1 - 1))) = false := beq_eq_false_iff_ne.mpr c10
         have c10b1 : (x18_2 != (wrap64 (x14_1 - 1))) = true := bne_iff_ne.mpr c10
         by_cases c21 : 0 ≤ x14_1
         ·
          rw [if_pos c21] at H
          have c21b0 : decide (0 ≤ x14_1) = true := decide_eq_true c21
          clear c21
          by_cases c22 : x14_1 < (t311.length : Int)
          ·
           rw [if_pos c22] at H
           have c22b0 : decide (x14_1 < (t311.length : Int)) = true := decide_eq_true c22
           clear c22
           by_cases c23 : 0 ≤ x18_2
           ·
            rw [if_pos c23] at H
            have c23b0 : decide (0 ≤ x18_2) = true := decide_eq_true c23
            clear c23
            by_cases c24 : x18_2 < (t311.length : Int)
            ·
             rw [if_pos c24] at H
             have c24b0 : decide (x18_2 < (t311.length : Int)) = true := decide_eq_true c24
             clear c24
             replace H := Option.bind_eq_some_iff.mp H
             obtain ⟨t319, A250, H⟩ := H
             replace H : (if t319 = 0 then (impl_IsSimple.l1 k2 t311 x14_1 (t311.length : Int) x14_1 x14_1 (wrap64 (x18_2 + 1))) else (some false)) = some r := H
             have A25 := Aside0.mk A250
             clear A250
             by_cases c26 : t319 = 0
             ·
              rw [if_pos c26] at H
              have c26b0 : (t319 == 0) = true := beq_iff_eq.mpr c26
              have c26b1 : (t319 != 0) = false := bne_eq_false_iff_eq.mpr c26
              clear c26
              have H' := Aside0.mk H
              clear H
              try go_wp2
              replace HO_3 := Aside0.mk (Kd.R_drew HO_3.out)
              replace HB := Aside0.mk (below_drew1 HB.out)
              have p317 : 0 ≤ (x14_1 : Int) := of_decide_eq_true Hd.a_
              have q317 : x14_1 < (t311.length : Int) := of_decide_eq_true Hd.a_
              obtain ⟨ad317, e317, hx317_0, hx317_1, hx317_2, hx317_3⟩ := at_T53 (Kd.R_reads' HO_3.out).2.2 x14_1 p317 q317
              cases e317
              replace p317 := eq_true p317
              replace q317 := eq_true q317
              have p318 : 0 ≤ (x18_2 : Int) := of_decide_eq_true Hd.a_
              have q318 : x18_2 < (t311.length : Int) := of_decide_eq_true Hd.a_
              obtain ⟨ad318, e318, hx318_0, hx318_1, hx318_2, hx318_3⟩ := at_T53 (Kd.R_reads' HO_3.out).2.2 x18_2 p318 q318
              obtain rfl : ad317 = ad318 := (by injection e318)
              replace p318 := eq_true p318
              replace q318 := eq_true q318
              have s0_ := Hd.HW.x (W0 := wr.drew) hx317_0
              have s1_ := Hd.HW.x (W0 := wr.drew) hx317_1
              have s2_ := Hd.HW.x (W0 := wr.drew) hx317_2
              have s3_ := Hd.HW.x (W0 := wr.drew) hx317_3
              have s4_ := Hd.HW.x (W0 := wr.drew) hx318_0
              have s5_ := Hd.HW.x (W0 := wr.drew) hx318_1
              have s6_ := Hd.HW.x (W0 := wr.drew) hx318_2
              have s7_ := Hd.HW.x (W0 := wr.drew) hx318_3
              refine Hd.HW.region (by kernel_rfl) (by kernel_rfl) ?_
              repeat (go_big_quiet_step ((first | (go_at_call 88; with_reducible exact Hd.HW.c (impl_HowMeet.calls k2 ((rd_T53 t311 x14_1).f0.f0) ((rd_T53 t311 x14_1).f0.f1) ((rd_T53 t311 x14_1).f1.f0) ((rd_T53 t311 x14_1).f1.f1) ((rd_T53 t311 x18_2).f0.f0) ((rd_T53 t311 x18_2).f0.f1) ((rd_T53 t311 x18_2).f1.f0) ((rd_T53 t311 x18_2).f1.f1) t319 _ A25.out)))))
              refine wpQuiet_nil ?_
              intro _ hq_
              obtain ⟨q_, rfl⟩ := hq_
              clear s0_ s1_ s2_ s3_ s4_ s5_ s6_ s7_
              replace HO_3 := Aside0.mk (Kd.R_below HO_3.out q_.b)
              replace HB := Aside0.mk (below_step HB.out q_.b)
              replace hx317_0 := q_.cell hx317_0
              replace hx317_1 := q_.cell hx317_1
              replace hx317_2 := q_.cell hx317_2
              replace hx317_3 := q_.cell hx317_3
              replace hx318_0 := q_.cell hx318_0
              replace hx318_1 := q_.cell hx318_1
              replace hx318_2 := q_.cell hx318_2
              replace hx318_3 := q_.cell hx318_3
              generalize q_.W = w28 at HO_3 HB hx317_0 hx317_1 hx317_2 hx317_3 hx318_0 hx318_1 hx318_2 hx318_3 ⊢
              try simp only [i64_w, i32_w]
              try go_wp2
              go_roundg k2
              case measure => have := HK1.out; have := HK2.out; omega
              case rel => exact ⟨(wrap64 (x18_2 + 1)), (by first | rfl | (simp; done) | (simp [*]; done)), H', ⟨by have := HK1.out; have := HK2.out; omega⟩, ⟨by (with_reducible repeat (first | apply Kd.R_alloc | apply Kd.R_drewN | apply Kd.R_drew)); exact HO_3.out⟩, ⟨Hd.b_⟩⟩
             ·
              rw [if_neg c26] at H
              have c26b0 : (t319 == 0) = false := beq_eq_false_iff_ne.mpr c26
              have c26b1 : (t319 != 0) = true := bne_iff_ne.mpr c26
              obtain rfl := Option.some.inj H
              try go_wp2
              replace HO_3 := Aside0.mk (Kd.R_drew HO_3.out)
              replace HB := Aside0.mk (below_drew1 HB.out)
              have p317 : 0 ≤ (x14_1 : Int) := of_decide_eq_true Hd.a_
              have q317 : x14_1 < (t311.length : Int) := of_decide_eq_true Hd.a_
              obtain ⟨ad317, e317, hx317_0, hx317_1, hx317_2, hx317_3⟩ := at_T53 (Kd.R_reads' HO_3.out).2.2 x14_1 p317 q317
              cases e317
              replace p317 := eq_true p317
              replace q317 := eq_true q317
              have p318 : 0 ≤ (x18_2 : Int) := of_decide_eq_true Hd.a_
              have q318 : x18_2 < (t311.length : Int) := of_decide_eq_true Hd.a_
              obtain ⟨ad318, e318, hx318_0, hx318_1, hx318_2, hx318_3⟩ := at_T53 (Kd.R_reads' HO_3.out).2.2 x18_2 p318 q318
              obtain rfl : ad317 = ad318 := (by injection e318)
              replace p318 := eq_true p318
              replace q318 := eq_true q318
              have s0_ := Hd.HW.x (W0 := wr.drew) hx317_0
              have s1_ := Hd.HW.x (W0 := wr.drew) hx317_1
              have s2_ := Hd.HW.x (W0 := wr.drew) hx317_2
              have s3_ := Hd.HW.x (W0 := wr.drew) hx317_3
              have s4_ := Hd.HW.x (W0 := wr.drew) hx318_0
              have s5_ := Hd.HW.x (W0 := wr.drew) hx318_1
              have s6_ := Hd.HW.x (W0 := wr.drew) hx318_2
              have s7_ := Hd.HW.x (W0 := wr.drew) hx318_3
              refine Hd.HW.region (by kernel_rfl) (by kernel_rfl) ?_
              repeat (go_big_quiet_step ((first | (go_at_call 88; with_reducible exact Hd.HW.c (impl_HowMeet.calls k2 ((rd_T53 t311 x14_1).f0.f0) ((rd_T53 t311 x14_1).f0.f1) ((rd_T53 t311 x14_1).f1.f0) ((rd_T53 t311 x14_1).f1.f1) ((rd_T53 t311 x18_2).f0.f0) ((rd_T53 t311 x18_2).f0.f1) ((rd_T53 t311 x18_2).f1.f0) ((rd_T53 t311 x18_2).f1.f1) t319 _ A25.out)))))
              refine wpQuiet_nil ?_
              intro _ hq_
              obtain ⟨q_, rfl⟩ := hq_
              clear s0_ s1_ s2_ s3_ s4_ s5_ s6_ s7_
              replace HO_3 := Aside0.mk (Kd.R_below HO_3.out q_.b)
              replace HB := Aside0.mk (below_step HB.out q_.b)
              replace hx317_0 := q_.cell hx317_0
              replace hx317_1 := q_.cell hx317_1
              replace hx317_2 := q_.cell hx317_2
              replace hx317_3 := q_.cell hx317_3
              replace hx318_0 := q_.cell hx318_0
              replace hx318_1 := q_.cell hx318_1
              replace hx318_2 := q_.cell hx318_2
              replace hx318_3 := q_.cell hx318_3
              generalize q_.W = w30 at HO_3 HB hx317_0 hx317_1 hx317_2 hx317_3 hx318_0 hx318_1 hx318_2 hx318_3 ⊢
              try simp only [i64_w, i32_w]
              try go_wp2
              go_ret
              exact ⟨Hd.e_, Hd.b_⟩
            ·
             rw [if_neg c24] at H
             exact absurd H (by simp)
           ·
            rw [if_neg c23] at H
            exact absurd H (by simp)
          ·
           rw [if_neg c22] at H
           exact absurd H (by simp)
         ·
          rw [if_neg c21] at H
          exact absurd H (by simp)
       ·
        rw [if_neg c9] at H
        have c9b0 : decide (x18_2 < x14_1) = false := decide_eq_false c9
        clear c9
        have H' := Aside0.mk H
        clear H
        go_wp2
        go_roundg k2
        case measure => have := HK1.out; have := HK2.out; omega
        case rel => exact ⟨(wrap64 (x14_1 + 1)), (by first | rfl | (simp; done) | (simp [*]; done)), H', ⟨by have := HK1.out; have := HK2.out; omega⟩, ⟨by (with_reducible repeat (first | apply Kd.R_alloc | apply Kd.R_drewN | apply Kd.R_drew)); exact HO_3.out⟩, ⟨Hd.b_⟩⟩
    ·
     rw [if_neg c8] at H
     have c8b0 : decide (x14_1 < (t311.length : Int)) = false := decide_eq_false c8
     clear c8
     obtain rfl := Option.some.inj H
     go_wp2
     go_ret
     exact ⟨Hd.e_, Hd.b_⟩
 ·
  replace c3 := Bool.eq_false_iff.mpr c3
  subst c3
  have H1 : (some false) = some r := by rw [if_neg (show ¬ (false = true) by decide)] at H; exact H
  clear H
  have H := H1
  clear H1
  obtain rfl := Option.some.inj H
  go_enter Try.func51, Try.ntmps51
  go_wp2_with (first | ((with_reducible refine gate_callee (f := 33) rfl ?_); refine goesL_ (some 8) rfl rfl Try.func33 (by kernel_rfl) rfl #[.slice A0 l0.length c0] rfl Hd.m_ ?_; (with_reducible refine (impl_IsLine.calls k _ _ l0 false _ ?side1 ?side2 A2.out).mono ?_); (case side1 => repeat (first | exact HR0.out | (with_reducible refine Kd.C_alloc ?_ _) | (with_reducible refine Kd.C_drewN ?_ _) | (with_reducible refine Kd.C_drew ?_))); (case side2 => exact HC0.out); rintro e w31 ⟨rfl, hb⟩; refine ⟨_, rfl, ?_⟩; replace HB := Aside0.mk (below_step Hd.b_ hb); (try clear hb); (try clear hb2); (try clear hk); (try clear hi)))
  go_ret
  exact ⟨Hd.e_, Hd.b_⟩
def impl_twice.f (a0_0 : Int) (a0_1 : Int) (a1_0 : Int) (a1_1 : Int) (a2_0 : Int) (a2_1 : Int) : Option (Int) := (impl_cross.f a0_0 a0_1 a1_0 a1_1 a2_0 a2_1).bind fun t323 => (some (mx t323 (wrap64 (-t323))))
set_option maxHeartbeats 8000000 in
set_option maxRecDepth 100000 in
theorem impl_twice.calls (a0_0 : Int) (a0_1 : Int) (a1_0 : Int) (a1_1 : Int) (a2_0 : Int) (a2_1 : Int) (r : Int) (w : World) (h : impl_twice.f a0_0 a0_1 a1_0 a1_1 a2_0 a2_1 = some r) :
  Calls Try.prog 96 #[.agg #[.int .i64 a0_0, .int .i64 a0_1], .agg #[.int .i64 a1_0, .int .i64 a1_1], .agg #[.int .i64 a2_0, .int .i64 a2_1]] w fun e w' => e = .returned (.int .i64 r) ∧ Below w.heap.size w w' := by
 have hu27 := Try.underlying27
 have HB := Aside0.mk (Below.refl w.heap.size w)
 have H : ((impl_cross.f a0_0 a0_1 a1_0 a1_1 a2_0 a2_1).bind fun t323 => (some (mx t323 (wrap64 (-t323))))) = some r := h
 clear h
 replace H := Option.bind_eq_some_iff.mp H
 obtain ⟨t323, A40, H⟩ := H
 replace H : (some (mx t323 (wrap64 (-t323)))) = some r := H
 have A4 := Aside0.mk A40
 clear A40
 obtain ⟨ji5, hji5⟩ : ∃ j_ : Int, (mx t323 (wrap64 (-t323))) = j_ := ⟨_, rfl⟩
 replace H : (some ji5) = some r := by first | (rw [hji5] at H; exact H) | (simp only [hji5] at H ⊢; exact H)
 (try rw [hji5] at A4)
 have hji5_ : (if t323 < (wrap64 (-t323)) then (wrap64 (-t323)) else t323) = ji5 := hji5
 obtain rfl := Option.some.inj H
 go_enter Try.func96, Try.ntmps96
 go_wp2_with (first | ((with_reducible refine gate_dst (N := 3) rfl ?_); refine Hd.box_ 3 (#[.int .i64 a0_0, .int .i64 a0_1]) 27 ?_; intro gb320 hg w6 hbox hb; have BK320 := Aside0.mk (hbox); have GW320 := Aside0.mk ((Hd.g_ hg Hd.b_ : w.heap.size ≤ gb320)); have GE320 := Aside0.mk ((Hd.g_ hg Hd.b_ : w.heap.size ≤ gb320)); replace HB := Aside0.mk (below_step Hd.b_ hb); clear hb hbox hg) | ((with_reducible refine gate_dst (N := 4) rfl ?_); refine Hd.box_ 4 (#[.int .i64 a1_0, .int .i64 a1_1]) 27 ?_; intro gb321 hg w7 hbox hb; have BK321 := Aside0.mk (hbox); have GW321 := Aside0.mk ((Hd.g_ hg Hd.b_ : w.heap.size ≤ gb321)); have GE321 := Aside0.mk ((Hd.g_ hg Hd.b_ : w.heap.size ≤ gb321)); replace HB := Aside0.mk (below_step Hd.b_ hb); have NB320_321 := Aside0.mk ((Hd.lt_ BK320 hg)); have NB321_320 := Aside0.mk ((Hd.gt_ BK320 hg)); replace BK320 := Aside0.mk (Hd.kb_ BK320 hb); clear hb hbox hg) | ((with_reducible refine gate_dst (N := 5) rfl ?_); refine Hd.box_ 5 (#[.int .i64 a2_0, .int .i64 a2_1]) 27 ?_; intro gb322 hg w8 hbox hb; have BK322 := Aside0.mk (hbox); have GW322 := Aside0.mk ((Hd.g_ hg Hd.b_ : w.heap.size ≤ gb322)); have GE322 := Aside0.mk ((Hd.g_ hg Hd.b_ : w.heap.size ≤ gb322)); replace HB := Aside0.mk (below_step Hd.b_ hb); have NB320_322 := Aside0.mk ((Hd.lt_ BK320 hg)); have NB322_320 := Aside0.mk ((Hd.gt_ BK320 hg)); replace BK320 := Aside0.mk (Hd.kb_ BK320 hb); have NB321_322 := Aside0.mk ((Hd.lt_ BK321 hg)); have NB322_321 := Aside0.mk ((Hd.gt_ BK321 hg)); replace BK321 := Aside0.mk (Hd.kb_ BK321 hb); clear hb hbox hg; have hnb9 := NB320_321.out; have hnc9 := NB321_320.out; have hnb10 := NB320_322.out; have hnc10 := NB322_320.out; obtain ⟨hcz11_0, hcz11_1⟩ := Hd.c2_ BK320.out; obtain ⟨hfz11_0, hfz11_1⟩ := Hd.f2_ BK320.out; have hnb12 := NB321_322.out; have hnc12 := NB322_321.out; obtain ⟨hcz13_0, hcz13_1⟩ := Hd.c2_ BK321.out; obtain ⟨hfz13_0, hfz13_1⟩ := Hd.f2_ BK321.out; obtain ⟨hcz14_0, hcz14_1⟩ := Hd.c2_ BK322.out; obtain ⟨hfz14_0, hfz14_1⟩ := Hd.f2_ BK322.out) | ((with_reducible refine gate_callee (f := 109) rfl ?_); refine goesL_ (some 11) rfl rfl Try.func109 (by kernel_rfl) rfl #[.agg #[.int .i64 a0_0, .int .i64 a0_1], .agg #[.int .i64 a1_0, .int .i64 a1_1], .agg #[.int .i64 a2_0, .int .i64 a2_1]] rfl Hd.m_ ?_; (with_reducible refine (impl_cross.calls a0_0 a0_1 a1_0 a1_1 a2_0 a2_1 t323 _ A4.out).mono ?_); rintro e w15 ⟨rfl, hb⟩; refine ⟨_, rfl, ?_⟩; replace BK320 := Aside0.mk (Hd.kb_ BK320 hb); replace BK321 := Aside0.mk (Hd.kb_ BK321 hb); replace BK322 := Aside0.mk (Hd.kb_ BK322 hb); replace HB := Aside0.mk (below_step Hd.b_ hb); (try clear hb); (try clear hb2); (try clear hk); (try clear hi)))
 go_ret
 exact ⟨by first | rfl | (simp [errW_none, errW_some] <;> rfl) | (simp only [← hji5]; first | rfl | (simp [errW_none, errW_some] <;> rfl)) | (simp [*, errW_none, errW_some] <;> rfl), Hd.b_⟩
def impl_CornerArea.f (k : Nat) (l0 : List (S27)) (a1 : Int) : Option (Int) := (impl_IsLine.f k l0).bind fun t324 => (if t324 = true then ((impl_InRange.f a1 1 (wrap64 ((l0.length : Int) - 2))).bind fun t325 => (if t325 = true then (if 0 ≤ (wrap64 (a1 - 1)) then (if (wrap64 (a1 - 1)) < (l0.length : Int) then (if 0 ≤ a1 then (if a1 < (l0.length : Int) then (if 0 ≤ (wrap64 (a1 + 1)) then (if (wrap64 (a1 + 1)) < (l0.length : Int) then ((impl_twice.f ((rd_T27 l0 (wrap64 (a1 - 1))).f0) ((rd_T27 l0 (wrap64 (a1 - 1))).f1) ((rd_T27 l0 a1).f0) ((rd_T27 l0 a1).f1) ((rd_T27 l0 (wrap64 (a1 + 1))).f0) ((rd_T27 l0 (wrap64 (a1 + 1))).f1)).bind fun t329 => (some t329)) else (none)) else (none)) else (none)) else (none)) else (none)) else (none)) else (some (-1)))) else (some (-1)))
set_option maxHeartbeats 8000000 in
set_option maxRecDepth 100000 in
theorem impl_CornerArea.calls (k : Nat) (A0 : Option Addr) (c0 : Nat) (l0 : List (S27)) (a1 : Int) (r : Int) (w : World) (hr0 : Kd.C k27 w A0 l0.length l0) (hc0 : l0.length ≤ c0) (h : impl_CornerArea.f k l0 a1 = some r) :
  Calls Try.prog 52 #[.slice A0 l0.length c0, .int .i64 a1] w fun e w' => e = .returned (.int .i64 r) ∧ Below w.heap.size w w' := by
 have hu27 := Try.underlying27
 have HR0 := Aside0.mk hr0
 have HC0 := Aside0.mk hc0
 clear hr0 hc0
 have HB := Aside0.mk (Below.refl w.heap.size w)
 have H : ((impl_IsLine.f k l0).bind fun t324 => (if t324 = true then ((impl_InRange.f a1 1 (wrap64 ((l0.length : Int) - 2))).bind fun t325 => (if t325 = true then (if 0 ≤ (wrap64 (a1 - 1)) then (if (wrap64 (a1 - 1)) < (l0.length : Int) then (if 0 ≤ a1 then (if a1 < (l0.length : Int) then (if 0 ≤ (wrap64 (a1 + 1)) then (if (wrap64 (a1 + 1)) < (l0.length : Int) then ((impl_twice.f ((rd_T27 l0 (wrap64 (a1 - 1))).f0) ((rd_T27 l0 (wrap64 (a1 - 1))).f1) ((rd_T27 l0 a1).f0) ((rd_T27 l0 a1).f1) ((rd_T27 l0 (wrap64 (a1 + 1))).f0) ((rd_T27 l0 (wrap64 (a1 + 1))).f1)).bind fun t329 => (some t329)) else (none)) else (none)) else (none)) else (none)) else (none)) else (none)) else (some (-1)))) else (some (-1)))) = some r := h
 clear h
 replace H := Option.bind_eq_some_iff.mp H
 obtain ⟨t324, A30, H⟩ := H
 replace H : (if t324 = true then ((impl_InRange.f a1 1 (wrap64 ((l0.length : Int) - 2))).bind fun t325 => (if t325 = true then (if 0 ≤ (wrap64 (a1 - 1)) then (if (wrap64 (a1 - 1)) < (l0.length : Int) then (if 0 ≤ a1 then (if a1 < (l0.length : Int) then (if 0 ≤ (wrap64 (a1 + 1)) then (if (wrap64 (a1 + 1)) < (l0.length : Int) then ((impl_twice.f ((rd_T27 l0 (wrap64 (a1 - 1))).f0) ((rd_T27 l0 (wrap64 (a1 - 1))).f1) ((rd_T27 l0 a1).f0) ((rd_T27 l0 a1).f1) ((rd_T27 l0 (wrap64 (a1 + 1))).f0) ((rd_T27 l0 (wrap64 (a1 + 1))).f1)).bind fun t329 => (some t329)) else (none)) else (none)) else (none)) else (none)) else (none)) else (none)) else (some (-1)))) else (some (-1))) = some r := H
 have A3 := Aside0.mk A30
 clear A30
 by_cases c4 : t324 = true
 ·
  subst c4
  have H1 : ((impl_InRange.f a1 1 (wrap64 ((l0.length : Int) - 2))).bind fun t325 => (if t325 = true then (if 0 ≤ (wrap64 (a1 - 1)) then (if (wrap64 (a1 - 1)) < (l0.length : Int) then (if 0 ≤ a1 then (if a1 < (l0.length : Int) then (if 0 ≤ (wrap64 (a1 + 1)) then (if (wrap64 (a1 + 1)) < (l0.length : Int) then ((impl_twice.f ((rd_T27 l0 (wrap64 (a1 - 1))).f0) ((rd_T27 l0 (wrap64 (a1 - 1))).f1) ((rd_T27 l0 a1).f0) ((rd_T27 l0 a1).f1) ((rd_T27 l0 (wrap64 (a1 + 1))).f0) ((rd_T27 l0 (wrap64 (a1 + 1))).f1)).bind fun t329 => (some t329)) else (none)) else (none)) else (none)) else (none)) else (none)) else (none)) else (some (-1)))) = some r := by rw [if_pos rfl] at H; exact H
  clear H
  have H := H1
  clear H1
  replace H := Option.bind_eq_some_iff.mp H
  obtain ⟨t325, A50, H⟩ := H
  replace H : (if t325 = true then (if 0 ≤ (wrap64 (a1 - 1)) then (if (wrap64 (a1 - 1)) < (l0.length : Int) then (if 0 ≤ a1 then (if a1 < (l0.length : Int) then (if 0 ≤ (wrap64 (a1 + 1)) then (if (wrap64 (a1 + 1)) < (l0.length : Int) then ((impl_twice.f ((rd_T27 l0 (wrap64 (a1 - 1))).f0) ((rd_T27 l0 (wrap64 (a1 - 1))).f1) ((rd_T27 l0 a1).f0) ((rd_T27 l0 a1).f1) ((rd_T27 l0 (wrap64 (a1 + 1))).f0) ((rd_T27 l0 (wrap64 (a1 + 1))).f1)).bind fun t329 => (some t329)) else (none)) else (none)) else (none)) else (none)) else (none)) else (none)) else (some (-1))) = some r := H
  have A5 := Aside0.mk A50
  clear A50
  by_cases c6 : t325 = true
  ·
   subst c6
   have H1 : (if 0 ≤ (wrap64 (a1 - 1)) then (if (wrap64 (a1 - 1)) < (l0.length : Int) then (if 0 ≤ a1 then (if a1 < (l0.length : Int) then (if 0 ≤ (wrap64 (a1 + 1)) then (if (wrap64 (a1 + 1)) < (l0.length : Int) then ((impl_twice.f ((rd_T27 l0 (wrap64 (a1 - 1))).f0) ((rd_T27 l0 (wrap64 (a1 - 1))).f1) ((rd_T27 l0 a1).f0) ((rd_T27 l0 a1).f1) ((rd_T27 l0 (wrap64 (a1 + 1))).f0) ((rd_T27 l0 (wrap64 (a1 + 1))).f1)).bind fun t329 => (some t329)) else (none)) else (none)) else (none)) else (none)) else (none)) else (none)) = some r := by rw [if_pos rfl] at H; exact H
   clear H
   have H := H1
   clear H1
   obtain ⟨ji7, hji7⟩ : ∃ j_ : Int, (wrap64 (a1 - 1)) = j_ := ⟨_, rfl⟩
   replace H : (if 0 ≤ (ji7) then (if (ji7) < (l0.length : Int) then (if 0 ≤ a1 then (if a1 < (l0.length : Int) then (if 0 ≤ (wrap64 (a1 + 1)) then (if (wrap64 (a1 + 1)) < (l0.length : Int) then ((impl_twice.f ((rd_T27 l0 (ji7)).f0) ((rd_T27 l0 (ji7)).f1) ((rd_T27 l0 a1).f0) ((rd_T27 l0 a1).f1) ((rd_T27 l0 (wrap64 (a1 + 1))).f0) ((rd_T27 l0 (wrap64 (a1 + 1))).f1)).bind fun t329 => (some t329)) else (none)) else (none)) else (none)) else (none)) else (none)) else (none)) = some r := by first | (rw [hji7] at H; exact H) | (simp only [hji7] at H ⊢; exact H)
   (try rw [hji7] at A3)
   (try rw [hji7] at A5)
   have hji7w : (IntKind.i64.wrap (a1 - 1)) = ji7 := (i64_w _).trans hji7
   by_cases c8 : 0 ≤ (ji7)
   ·
    rw [if_pos c8] at H
    have c8b0 : decide (0 ≤ (ji7)) = true := decide_eq_true c8
    clear c8
    by_cases c9 : (ji7) < (l0.length : Int)
    ·
     rw [if_pos c9] at H
     have c9b0 : decide ((ji7) < (l0.length : Int)) = true := decide_eq_true c9
     clear c9
     by_cases c10 : 0 ≤ a1
     ·
      rw [if_pos c10] at H
      have c10b0 : decide (0 ≤ a1) = true := decide_eq_true c10
      clear c10
      by_cases c11 : a1 < (l0.length : Int)
      ·
       rw [if_pos c11] at H
       have c11b0 : decide (a1 < (l0.length : Int)) = true := decide_eq_true c11
       clear c11
       obtain ⟨ji12, hji12⟩ : ∃ j_ : Int, (wrap64 (a1 + 1)) = j_ := ⟨_, rfl⟩
       replace H : (if 0 ≤ (ji12) then (if (ji12) < (l0.length : Int) then ((impl_twice.f ((rd_T27 l0 (ji7)).f0) ((rd_T27 l0 (ji7)).f1) ((rd_T27 l0 a1).f0) ((rd_T27 l0 a1).f1) ((rd_T27 l0 (ji12)).f0) ((rd_T27 l0 (ji12)).f1)).bind fun t329 => (some t329)) else (none)) else (none)) = some r := by first | (rw [hji12] at H; exact H) | (simp only [hji12] at H ⊢; exact H)
       (try rw [hji12] at A3)
       (try rw [hji12] at A5)
       have hji12w : (IntKind.i64.wrap (a1 + 1)) = ji12 := (i64_w _).trans hji12
       by_cases c13 : 0 ≤ (ji12)
       ·
        rw [if_pos c13] at H
        have c13b0 : decide (0 ≤ (ji12)) = true := decide_eq_true c13
        clear c13
        by_cases c14 : (ji12) < (l0.length : Int)
        ·
         rw [if_pos c14] at H
         have c14b0 : decide ((ji12) < (l0.length : Int)) = true := decide_eq_true c14
         clear c14
         replace H := Option.bind_eq_some_iff.mp H
         obtain ⟨t329, A150, H⟩ := H
         replace H : (some t329) = some r := H
         have A15 := Aside0.mk A150
         clear A150
         obtain rfl := Option.some.inj H
         go_enter Try.func52, Try.ntmps52
         try go_wp2_with (first | ((with_reducible refine gate_callee (f := 33) rfl ?_); refine goesL_ (some 6) rfl rfl Try.func33 (by kernel_rfl) rfl #[.slice A0 l0.length c0] rfl Hd.m_ ?_; (with_reducible refine (impl_IsLine.calls k _ _ l0 true _ ?side1 ?side2 A3.out).mono ?_); (case side1 => repeat (first | exact HR0.out | (with_reducible refine Kd.C_alloc ?_ _) | (with_reducible refine Kd.C_drewN ?_ _) | (with_reducible refine Kd.C_drew ?_))); (case side2 => exact HC0.out); rintro e w16 ⟨rfl, hb⟩; refine ⟨_, rfl, ?_⟩; replace HB := Aside0.mk (below_step Hd.b_ hb); (try clear hb); (try clear hb2); (try clear hk); (try clear hi)) | (go_at_call 65; (with_reducible refine (impl_InRange.calls a1 1 (wrap64 ((l0.length : Int) - 2)) true _ A5.out).mono ?_); rintro e w' ⟨rfl, ⟨nd, rfl⟩⟩))
         (try (rw [drewN_self w16]; generalize hq_ : World.drewN w16 _ = w16; have n0_ : Aside0 (Below w.heap.size w w16) := ⟨by rw [← hq_]; exact Hd.b_⟩; clear HB hq_; have HB := n0_; clear n0_))
         replace HB := Aside0.mk (below_drew1 HB.out)
         have p326 : 0 ≤ ((ji7) : Int) := of_decide_eq_true Hd.a_
         have q326 : (ji7) < (l0.length : Int) := of_decide_eq_true Hd.a_
         obtain ⟨ad326, e326, hx326_0, hx326_1⟩ := at_T27 HR0.out (ji7) p326 q326
         have hw326_1 := hx326_1
         have hw326_0 := hx326_0
         cases e326
         replace hx326_0 := (HB.out.cell (World.block_lt_of_cell? w _ hx326_0)).trans hx326_0
         replace hx326_1 := (HB.out.cell (World.block_lt_of_cell? w _ hx326_1)).trans hx326_1
         replace p326 := eq_true p326
         replace q326 := eq_true q326
         have p327 : 0 ≤ (a1 : Int) := of_decide_eq_true Hd.a_
         have q327 : a1 < (l0.length : Int) := of_decide_eq_true Hd.a_
         obtain ⟨ad327, e327, hx327_0, hx327_1⟩ := at_T27 HR0.out a1 p327 q327
         have hw327_1 := hx327_1
         have hw327_0 := hx327_0
         obtain rfl : ad326 = ad327 := (by injection e327)
         replace hx327_0 := (HB.out.cell (World.block_lt_of_cell? w _ hx327_0)).trans hx327_0
         replace hx327_1 := (HB.out.cell (World.block_lt_of_cell? w _ hx327_1)).trans hx327_1
         replace p327 := eq_true p327
         replace q327 := eq_true q327
         have p328 : 0 ≤ ((ji12) : Int) := of_decide_eq_true Hd.a_
         have q328 : (ji12) < (l0.length : Int) := of_decide_eq_true Hd.a_
         obtain ⟨ad328, e328, hx328_0, hx328_1⟩ := at_T27 HR0.out (ji12) p328 q328
         have hw328_1 := hx328_1
         have hw328_0 := hx328_0
         obtain rfl : ad326 = ad328 := (by injection e328)
         replace hx328_0 := (HB.out.cell (World.block_lt_of_cell? w _ hx328_0)).trans hx328_0
         replace hx328_1 := (HB.out.cell (World.block_lt_of_cell? w _ hx328_1)).trans hx328_1
         replace p328 := eq_true p328
         replace q328 := eq_true q328
         have s0_ := Hd.HW.x (W0 := w16.drew) ((HB.out.cell (World.block_lt_of_cell? w _ hw326_0)).trans hw326_0)
         have s1_ := Hd.HW.x (W0 := w16.drew) ((HB.out.cell (World.block_lt_of_cell? w _ hw326_1)).trans hw326_1)
         have s2_ := Hd.HW.x (W0 := w16.drew) ((HB.out.cell (World.block_lt_of_cell? w _ hw327_0)).trans hw327_0)
         have s3_ := Hd.HW.x (W0 := w16.drew) ((HB.out.cell (World.block_lt_of_cell? w _ hw327_1)).trans hw327_1)
         have s4_ := Hd.HW.x (W0 := w16.drew) ((HB.out.cell (World.block_lt_of_cell? w _ hw328_0)).trans hw328_0)
         have s5_ := Hd.HW.x (W0 := w16.drew) ((HB.out.cell (World.block_lt_of_cell? w _ hw328_1)).trans hw328_1)
         refine Hd.HW.region (by kernel_rfl) (by kernel_rfl) ?_
         repeat (go_big_quiet_step ((first | (go_at_call 96; with_reducible exact Hd.HW.c (impl_twice.calls ((rd_T27 l0 (ji7)).f0) ((rd_T27 l0 (ji7)).f1) ((rd_T27 l0 a1).f0) ((rd_T27 l0 a1).f1) ((rd_T27 l0 (ji12)).f0) ((rd_T27 l0 (ji12)).f1) t329 _ A15.out)))))
         refine wpQuiet_nil ?_
         intro _ hq_
         obtain ⟨q_, rfl⟩ := hq_
         clear s0_ s1_ s2_ s3_ s4_ s5_
         replace HB := Aside0.mk (below_step HB.out q_.b)
         replace hx326_0 := q_.cell hx326_0
         replace hx326_1 := q_.cell hx326_1
         replace hx327_0 := q_.cell hx327_0
         replace hx327_1 := q_.cell hx327_1
         replace hx328_0 := q_.cell hx328_0
         replace hx328_1 := q_.cell hx328_1
         generalize q_.W = w18 at HB hx326_0 hx326_1 hx327_0 hx327_1 hx328_0 hx328_1 ⊢
         try simp only [i64_w, i32_w]
         try go_wp2
         go_ret
         exact ⟨by first | rfl | (simp [errW_none, errW_some] <;> rfl) | (simp only [← hji7, ← hji12]; first | rfl | (simp [errW_none, errW_some] <;> rfl)) | (simp [*, errW_none, errW_some] <;> rfl), Hd.b_⟩
        ·
         rw [if_neg c14] at H
         exact absurd H (by simp)
       ·
        rw [if_neg c13] at H
        exact absurd H (by simp)
      ·
       rw [if_neg c11] at H
       exact absurd H (by simp)
     ·
      rw [if_neg c10] at H
      exact absurd H (by simp)
    ·
     rw [if_neg c9] at H
     exact absurd H (by simp)
   ·
    rw [if_neg c8] at H
    exact absurd H (by simp)
  ·
   replace c6 := Bool.eq_false_iff.mpr c6
   subst c6
   have H1 : (some (-1)) = some r := by rw [if_neg (show ¬ (false = true) by decide)] at H; exact H
   clear H
   have H := H1
   clear H1
   obtain rfl := Option.some.inj H
   go_enter Try.func52, Try.ntmps52
   go_wp2_with (first | ((with_reducible refine gate_callee (f := 33) rfl ?_); refine goesL_ (some 6) rfl rfl Try.func33 (by kernel_rfl) rfl #[.slice A0 l0.length c0] rfl Hd.m_ ?_; (with_reducible refine (impl_IsLine.calls k _ _ l0 true _ ?side1 ?side2 A3.out).mono ?_); (case side1 => repeat (first | exact HR0.out | (with_reducible refine Kd.C_alloc ?_ _) | (with_reducible refine Kd.C_drewN ?_ _) | (with_reducible refine Kd.C_drew ?_))); (case side2 => exact HC0.out); rintro e w19 ⟨rfl, hb⟩; refine ⟨_, rfl, ?_⟩; replace HB := Aside0.mk (below_step Hd.b_ hb); (try clear hb); (try clear hb2); (try clear hk); (try clear hi)) | (go_at_call 65; (with_reducible refine (impl_InRange.calls a1 1 (wrap64 ((l0.length : Int) - 2)) false _ A5.out).mono ?_); rintro e w' ⟨rfl, ⟨nd, rfl⟩⟩))
   go_ret
   exact ⟨Hd.e_, Hd.b_⟩
 ·
  replace c4 := Bool.eq_false_iff.mpr c4
  subst c4
  have H1 : (some (-1)) = some r := by rw [if_neg (show ¬ (false = true) by decide)] at H; exact H
  clear H
  have H := H1
  clear H1
  obtain rfl := Option.some.inj H
  go_enter Try.func52, Try.ntmps52
  go_wp2_with (first | ((with_reducible refine gate_callee (f := 33) rfl ?_); refine goesL_ (some 6) rfl rfl Try.func33 (by kernel_rfl) rfl #[.slice A0 l0.length c0] rfl Hd.m_ ?_; (with_reducible refine (impl_IsLine.calls k _ _ l0 false _ ?side1 ?side2 A3.out).mono ?_); (case side1 => repeat (first | exact HR0.out | (with_reducible refine Kd.C_alloc ?_ _) | (with_reducible refine Kd.C_drewN ?_ _) | (with_reducible refine Kd.C_drew ?_))); (case side2 => exact HC0.out); rintro e w20 ⟨rfl, hb⟩; refine ⟨_, rfl, ?_⟩; replace HB := Aside0.mk (below_step Hd.b_ hb); (try clear hb); (try clear hb2); (try clear hk); (try clear hi)))
  go_ret
  exact ⟨Hd.e_, Hd.b_⟩
def impl_Point_76.f (l0 : List (S27)) : Option ((List (S27))) := (some (([] : List (S27)) : List (S27))).bind fun y330 => (if y330.length + l0.length < 8796093022208 then (some (y330 ++ l0)) else (none))
theorem impl_Point_76.eqnil (W : World) (a : Option Addr) (l c : Nat) : (binOp .eql 24 (.slice a l c) (.slice none 0 0)).run Try.prog W = .ok (.bool a.isNone) W := by
  cases a <;> kernel_rfl
attribute [local go_sem] impl_Point_76.eqnil
set_option maxHeartbeats 8000000 in
set_option maxRecDepth 100000 in
theorem impl_Point_76.calls (A0 : Option Addr) (c0 : Nat) (l0 : List (S27)) (r : List (S27)) (w : World) (hr0 : Kd.C k27 w A0 l0.length l0) (hc0 : l0.length ≤ c0) (h : impl_Point_76.f l0 = some r) :
    Calls Try.prog 76 #[.slice A0 l0.length c0] w fun e w' => ∃ v0_ : Value, e = .returned (v0_) ∧ Kd.R k27 27 w' w.heap.size (fun _ => True) v0_ r ∧ Below w.heap.size w w' := by
  cases A0
  case none =>
    have hl : l0 = [] := by
      obtain ⟨_, _, h3⟩ := hr0
      cases l0 with
      | nil => rfl
      | cons a l => obtain ⟨ad, e, _⟩ := h3 (by simp); cases e
    subst hl
    have hr : r = [] := by simp [impl_Point_76.f] at h; exact h
    subst hr
    go_enter Try.func76, Try.ntmps76
    go_wp2
    go_ret
    exact ⟨_, rfl, Kd.R_nil _ _ _ _ _, by repeat (first | exact Below.refl _ _ | apply below_alloc | apply pw_below_drewN | apply below_drew1)⟩
  have HR0 := Aside0.mk hr0
  have HC0 := Aside0.mk hc0
  clear hr0 hc0
  have HB := Aside0.mk (Below.refl w.heap.size w)
  have H : ((some (([] : List (S27)) : List (S27))).bind fun y330 => (if y330.length + l0.length < 8796093022208 then (some (y330 ++ l0)) else (none))) = some r := h
  clear h
  obtain ⟨y330, hy330⟩ : ∃ y_ : List (S27), y_ = (([] : List (S27))) := ⟨_, rfl⟩
  replace H : (if y330.length + l0.length < 8796093022208 then (some (y330 ++ l0)) else (none)) = some r := by first | (rw [hy330]; with_reducible exact H) | (have H2_ := (Option.bind_some _ _).symm.trans H; rw [hy330]; with_reducible exact H2_) | (have H2_ := (Option.bind_some _ _).symm.trans H; with_reducible exact H2_) | with_reducible exact H | (rw [hy330]; exact H) | exact H
  have Ny330 := Aside0.mk hy330
  clear hy330
  by_cases c2 : y330.length + l0.length < 8796093022208
  · rw [if_pos c2] at H
    have LMc2 := Aside0.mk c2
    clear c2
    obtain ⟨y333, hy333⟩ : ∃ y_ : List (S27), y_ = (y330 ++ l0) := ⟨_, rfl⟩
    replace H : (some y333) = some r := by first | (rw [hy333]; with_reducible exact H) | (have H2_ := (Option.bind_some _ _).symm.trans H; rw [hy333]; with_reducible exact H2_) | (have H2_ := (Option.bind_some _ _).symm.trans H; with_reducible exact H2_) | with_reducible exact H | (rw [hy333]; exact H) | exact H
    have Ny333 := Aside0.mk hy333
    clear hy333
    obtain rfl := Option.some.inj H
    go_enter Try.func76, Try.ntmps76
    go_wp2_with (first | ((with_reducible refine gate_dst (N := 5) rfl ?_); refine Kd.R_lit k27 _ 27 ?hg (N := 5) ?hd (xs := ([] : List (S27))) (inner := []) (ok := fun _ => True) (okp := fun _ => True) ?hr ?hp (fun _ hk => hk) trivial (Below.refl _ _) (Nat.le_refl _) (by simp) ?_; (case hd => rfl); (case hg => rfl); (case hr => first | (go_simp; done) | (go_simp; rfl)); (case hp => exact (Reps.none _ _)); intro v331 w3 ho4 hb hg_ hnew_; clear hg_ hnew_; (first | rw [← Ny330.out] at ho4 | (simp only [Int.reduceToNat] at ho4; rw [← Ny330.out] at ho4)); have n0_ := Aside0.mk (Kd.R_lower ho4 (below_size (by repeat (first | (with_reducible first | exact HB.out | apply below_alloc | apply pw_below_drewN | apply below_drew1) | exact HB.out)))); have n1_ := Aside0.mk (below_step (by repeat (first | (with_reducible first | exact HB.out | apply below_alloc | apply pw_below_drewN | apply below_drew1) | exact HB.out)) hb); clear HB; have HO332 := n0_; have HB := n1_; clear n0_ n1_; clear hb ho4) | ((with_reducible refine gate_builtin (b := .append) (xs := #[.tmp 5, .tmp 6]) rfl ?_); at_builtin; refine Kd.R_append_rows k27 (w0 := w) w.heap.size rfl (.tmp 5) (.tmp 6) 24 27 (.agg #[(.int .i64 0), (.int .i64 0)]) 16 rfl Try.underlying24 info27 rfl (by decide) (by omega) v331 y330 l0 _ _ _ (fun _ => True) (fun _ => False) rfl rfl ?aO ?aR (fun _ _ h => h) (fun _ h => h.elim) ?aF ?aB ?aS ?aL ?_; (case aR => repeat (first | exact (Kd.C_below HR0.out HB.out) | (with_reducible refine Kd.C_alloc ?_ _) | (with_reducible refine Kd.C_drewN ?_ _) | (with_reducible refine Kd.C_drew ?_))); (case aB => exact (by repeat (first | (with_reducible first | exact HB.out | apply below_alloc | apply pw_below_drewN | apply below_drew1) | exact HB.out))); (case aF => exact (fun _ _ => trivial)); (case aO => exact (by (with_reducible repeat (first | apply Kd.R_alloc | apply Kd.R_drewN | apply Kd.R_drew)); exact HO332.out)); (case aS => exact (below_size (by repeat (first | (with_reducible first | exact HB.out | apply below_alloc | apply pw_below_drewN | apply below_drew1) | exact HB.out)))); (case aL => have := LMc2.out; omega); intro v334 w5 ho hb hg hat; rw [← Ny333.out] at ho; have n0_ := Aside0.mk (hb); have n1_ := Aside0.mk (ho); clear HB; clear HO332; have HB := n0_; have HO335 := n1_; clear n0_ n1_; clear ho hb hg hat))
    go_ret
    exact ⟨_, by first | rfl | (simp [errW_none, errW_some] <;> rfl) | (simp [*, errW_none, errW_some] <;> rfl), by (with_reducible repeat (first | apply Kd.R_alloc | apply Kd.R_drewN | apply Kd.R_drew)); exact HO335.out, by repeat (first | (with_reducible first | exact HB.out | apply below_alloc | apply pw_below_drewN | apply below_drew1) | exact HB.out)⟩
  · rw [if_neg c2] at H
    exact absurd H (by simp)
set_option maxHeartbeats 8000000 in
set_option maxRecDepth 100000 in
theorem impl_without.grow (n : Int) (h0 : 0 ≤ n) (hn : n ≤ 2199023255552) (w : World) :
    Calls Try.prog 114 #[.slice none 0 0, .int .i64 n] w fun e w' => ∃ v, e = .returned v ∧ Kd.R k27 27 w' w.heap.size (fun _ => True) v ([] : List S27) ∧ Below w.heap.size w w' := by
  have hu24 := Try.underlying24
  have b0 : decide (n < 0) = false := decide_eq_false (by omega)
  by_cases h : 0 < n
  · obtain ⟨m, rfl⟩ := Int.eq_ofNat_of_zero_le h0
    have b1 : decide ((m : Int) > 0) = true := decide_eq_true h
    have b2 : decide (0 < (m : Int)) = true := decide_eq_true h
    obtain ⟨i0, hi, hzz⟩ := Option.map_eq_some_iff.1 info27
    simp only [Prod.mk.injEq] at hzz
    obtain ⟨hz0, hz1, hz2⟩ := hzz
    have hr := Lib.run_append_nil_zeros (P := Try.prog) w 24 3 24 27 _ _ .i64 .i64 hu24 Try.underlying3 hi hz0 m (by omega) (by omega) (by omega) (by rw [hz2]; omega)
    have hcut := cut_to (P := Try.prog) 24 27 .i64 hu24 hi (some ⟨w.heap.size, 0, none⟩) m (grownCap w m 0 27) 0 (by omega) (by omega) (grownCap_ge w m 0 27)
    go_enter Try.func114, Try.ntmps114
    go_wp2_with (first | ((with_reducible refine gate_builtin (b := .append) rfl ?_); refine Lib.wpList_append_run _ rfl _ _ _ _ rfl _ _ rfl rfl _ _ hr ?_))
    go_ret
    refine ⟨_, rfl, ⟨fun _ _ => trivial, [], ⟨by simp, .inr ⟨w.heap.size, _, _, rfl, Nat.le_refl _, heap_alloc_new w _, Nat.zero_le _, grownCap_le_maxLen w m 0 27 (by unfold maxLen; omega), ?_, by simp⟩⟩, Reps.none _ _⟩, by repeat (first | exact Below.refl _ _ | apply below_alloc | apply pw_below_drewN | apply below_drew1)⟩
    have := grownCap_ge w m 0 27
    simp [size_zeroCells]
    show _ = grownCap w m 0 27 * 2
    omega
  · obtain rfl : n = 0 := by omega
    go_enter Try.func114, Try.ntmps114
    go_wp2
    go_ret
    exact ⟨_, rfl, Kd.R_nil _ _ _ _ _, Below.refl _ _⟩
set_option maxHeartbeats 8000000 in
set_option maxRecDepth 100000 in
theorem impl_without.concat (A : Addr) (c : Nat) (A1 A2 : Option Addr) (c1 c2 : Nat) (x1 x2 : List S27) (w : World) (h1 : w.cell? A = some (.slice A1 x1.length c1)) (h2 : w.cell? ⟨A.block, A.off + 1, none⟩ = some (.slice A2 x2.length c2))
    (hr1 : Kd.C k27 w A1 x1.length x1) (hr2 : Kd.C k27 w A2 x2.length x2) (hl : x1.length + x2.length ≤ 2199023255552) :
    Calls Try.prog 90 #[.slice (some A) 2 c] w fun e w' => ∃ v, e = .returned v ∧ Kd.R k27 27 w' w.heap.size (fun _ => True) v (x1 ++ x2) ∧ Below w.heap.size w w' := by
  have hu24 := Try.underlying24
  have hu65 := Try.underlying65
  go_enter Try.func90, Try.ntmps90
  go_wp2
  go_loopg [3, 11] 3 (fun kq v3 v11 w' => ∃ i : Nat, i + kq = 3 ∧ i ≤ 2 ∧ v11 = .int .i64 i ∧ w' = w ∧ v3 = .int .i64 (if i = 0 then 0 else if i = 1 then x1.length else x1.length + x2.length))
  case atStart => exact ⟨0, rfl, by decide, rfl, rfl, rfl⟩
  case round =>
    obtain ⟨i, hi, hi2, rfl, hwr, rfl⟩ := hrel
    have hwr := hwr.symm
    subst hwr
    rcases (by omega : i = 0 ∨ i = 1 ∨ i = 2) with rfl | rfl | rfl
    · obtain rfl : gk = 2 + 1 := by omega
      have d1 : decide (wrap64 (0 + (x1.length : Int)) < 0) = false := decide_eq_false (by unfold wrap64; omega)
      go_wp2
      go_roundg 2
      case measure => omega
      case rel => exact ⟨1, rfl, by decide, rfl, rfl, by simp⟩
    · obtain rfl : gk = 1 + 1 := by omega
      have d1 : decide (wrap64 ((x1.length : Int) + x2.length) < 0) = false := decide_eq_false (by unfold wrap64; omega)
      go_wp2
      go_roundg 1
      case measure => omega
      case rel => exact ⟨2, rfl, by decide, rfl, rfl, by simp⟩
    · obtain rfl : gk = 0 + 1 := by omega
      go_wp2_with (first | (go_at_call 114; (with_reducible refine (impl_without.grow _ (by omega) (by omega) _).mono ?_); rintro e w1 ⟨v0, rfl, hR, hb⟩))
      go_loopg [6, 27] 3 (fun kq v6 v27 w' => ∃ (i : Nat) (l : List S27), i + kq = 3 ∧ i ≤ 2 ∧ v27 = .int .i64 i ∧ l = (if i = 0 then [] else if i = 1 then x1 else x1 ++ x2) ∧ Kd.R k27 27 w' w.heap.size (fun _ => True) v6 l ∧ Below w.heap.size w w')
      case atStart => exact ⟨0, [], rfl, by decide, rfl, rfl, hR, hb⟩
      case round =>
        clear hR hb
        obtain ⟨i, l, hi, hi2, rfl, hl2, hR, hb⟩ := hrel
        rcases (by omega : i = 0 ∨ i = 1 ∨ i = 2) with rfl | rfl | rfl
        · obtain rfl : gk = 2 + 1 := by omega
          obtain rfl : l = [] := hl2
          have h1' := (hb.cell (World.block_lt_of_cell? w _ h1)).trans h1
          go_wp2_with (first | ((with_reducible refine gate_builtin (b := .append) rfl ?_); at_builtin; refine Kd.R_append_rows k27 (w0 := w) w.heap.size rfl (.tmp 31) (.tmp 32) 24 27 (.agg #[(.int .i64 0), (.int .i64 0)]) 16 rfl Try.underlying24 info27 rfl (by decide) (by omega) _ [] x1 _ _ _ (fun _ => True) (fun _ => False) rfl rfl hR ?aR (fun _ _ h => h) (fun _ h => h.elim) (fun _ _ => trivial) hb (below_size hb) ?aL ?_; (case aR => exact Kd.C_below hr1 hb); (case aL => (try simp only [List.length_nil]); omega); intro v1 w5 ho hb2 _ _))
          go_roundg 2
          case measure => omega
          case rel => exact ⟨1, _, rfl, by decide, rfl, rfl, ho, hb2⟩
        · obtain rfl : gk = 1 + 1 := by omega
          obtain rfl : l = x1 := hl2
          have h2' := (hb.cell (World.block_lt_of_cell? w _ h2)).trans h2
          go_wp2_with (first | ((with_reducible refine gate_builtin (b := .append) rfl ?_); at_builtin; refine Kd.R_append_rows k27 (w0 := w) w.heap.size rfl (.tmp 31) (.tmp 32) 24 27 (.agg #[(.int .i64 0), (.int .i64 0)]) 16 rfl Try.underlying24 info27 rfl (by decide) (by omega) _ l x2 _ _ _ (fun _ => True) (fun _ => False) rfl rfl hR ?aR (fun _ _ h => h) (fun _ h => h.elim) (fun _ _ => trivial) hb (below_size hb) ?aL ?_; (case aR => exact Kd.C_below hr2 hb); (case aL => (try simp only [List.length_nil]); omega); intro v1 w5 ho hb2 _ _))
          go_roundg 1
          case measure => omega
          case rel => exact ⟨2, _, rfl, by decide, rfl, rfl, ho, hb2⟩
        · obtain rfl : gk = 0 + 1 := by omega
          obtain rfl : l = x1 ++ x2 := hl2
          go_wp2
          go_ret
          exact ⟨_, rfl, hR, hb⟩
def impl_without.f (l0 : List S27) (a1 : Int) : Option (List S27) := if 0 ≤ a1 then (if a1 < (l0.length : Int) then (if l0.length ≤ 2199023255552 then some (l0.take a1.toNat ++ l0.drop (a1.toNat + 1)) else none) else none) else none
def impl_without.T1 : Bool × List (List Nat × List Nat) := (true, [([], []), ([], []), ([0, 1], [0, 1]), ([], []), ([], []), ([4], [4]), ([3, 5], [3, 5]), ([2, 6], [2, 6]), ([7], [7]), ([8, 8, 0, 1, 2, 3, 4, 5, 6, 7, 8], [8])])
def impl_without.B1 : List Nat := [0, 0, 3, 0, 0, 16, 56, 127, 255, 511]
theorem impl_without.bits1 : waitsOk impl_without.T1.2 impl_without.B1 = true := by kernel_rfl
theorem impl_without.tab1 : rtab .any (opsOf Try.f94 1) = impl_without.T1 := by kernel_rfl
set_option maxHeartbeats 8000000 in
set_option maxRecDepth 100000 in
theorem impl_without.calls (A0 : Option Addr) (c0 : Nat) (l0 : List (S27)) (a1 : Int) (r : List (S27)) (w : World) (hr0 : Kd.C k27 w A0 l0.length l0) (hc0 : l0.length ≤ c0) (h : impl_without.f l0 a1 = some r) :
    Calls Try.prog 94 #[.slice A0 l0.length c0, .int .i64 a1] w fun e w' => ∃ v0_ : Value, e = .returned (v0_) ∧ Kd.R k27 27 w' w.heap.size (fun _ => True) v0_ r ∧ Below w.heap.size w w' := by
  unfold impl_without.f at h
  by_cases h1 : 0 ≤ a1
  · rw [if_pos h1] at h
    by_cases h2 : a1 < (l0.length : Int)
    · rw [if_pos h2] at h
      by_cases h3 : l0.length ≤ 2199023255552
      · rw [if_pos h3] at h
        obtain rfl := Option.some.inj h
        have hu24 := Try.underlying24
        have hu65 := Try.underlying65
        obtain ⟨i0, hi, hzz⟩ := Option.map_eq_some_iff.1 info27
        simp only [Prod.mk.injEq] at hzz
        obtain ⟨hz0, hz1, hz2⟩ := hzz
        have hcut1 := cut_to (P := Try.prog) 24 27 .i64 hu24 hi A0 l0.length c0 a1 h1 (by omega) hc0
        have hcut2 := cut_from (P := Try.prog) 24 27 .i64 hu24 hi 2 hz1 A0 l0.length c0 (wrap64 (a1 + 1)) (by unfold wrap64; omega) (by unfold wrap64; omega)
        have e1 : (wrap64 (a1 + 1)).toNat = a1.toNat + 1 := by unfold wrap64; omega
        rw [e1] at hcut2
        have HN := Aside0.mk (show a1.toNat + 1 ≤ l0.length by omega)
        have hC2 := Kd.C_drop hr0 HN.out hc0
        change Kd.C k27 w (if c0 = a1.toNat + 1 then A0 else A0.map (·.add ((a1.toNat + 1) * 2))) _ _ at hC2
        generalize (if c0 = a1.toNat + 1 then A0 else A0.map (·.add ((a1.toNat + 1) * 2))) = A1 at hcut2 hC2
        have HC2 := Aside0.mk hC2
        clear h1 h2 h hC2
        go_enter Try.func94, Try.ntmps94
        go_wp2
        refine start_ (n := 10) (S := fun w' => True) (ds := []) #[false, false, false, false, false, false, false, false, false, false] (by kernel_rfl) rfl rfl trivial (fun hHeld => ?_); refine with_tabW impl_without.tab1 impl_without.bits1 (fun HT_ HW_ => ?_)
        refine Hd.p_ HT_ 0 (some 5) #[true, false, false, false, false, false, false, false, false, false] ?_
        refine Hd.p_ HT_ 1 (some 6) #[true, true, false, false, false, false, false, false, false, false] ?_
        refine Hd.p_ HT_ 2 (some 7) #[true, true, true, false, false, false, false, false, false, false] ?_
        refine Hd.p_ HT_ 3 (some 8) #[true, true, true, true, false, false, false, false, false, false] ?_
        refine Hd.p_ HT_ 4 (some 9) #[true, true, true, true, true, false, false, false, false, false] ?_
        refine Hd.p_ HT_ 5 (some 10) #[true, true, true, true, true, true, false, false, false, false] ?_
        refine Hd.p_ HT_ 6 (some 11) #[true, true, true, true, true, true, true, false, false, false] ?_
        refine Hd.o_ HT_ 7 (some 12) #[true, true, true, true, true, true, true, true, false, false] (fun K hK => ?_)
        refine value_ (w1 := ?_) (v := ?_) (by rfl) rfl ?_ ?_
        rotate_left 2
        · go_simp
          constructor
          · rfl
          · rfl
        refine hK.out _ _ trivial (fun hHeld => ?_)
        clear hK K
        refine Hd.n_ (some 12) ?_
        refine Hd.o_ HT_ 8 (some 13) #[true, true, true, true, true, true, true, true, true, false] (fun K hK => ?_)
        refine goes_ Try.func90 (by kernel_rfl) rfl #[.slice (some ⟨w.heap.size, 0, none⟩) 2 2] (by rfl) rfl rfl Hd.m_ ?_
        have hx1 : (l0.take a1.toNat).length = a1.toNat := by have := HN.out; rw [List.length_take]; omega
        have hx2 : (l0.drop (a1.toNat + 1)).length = l0.length - (a1.toNat + 1) := List.length_drop
        refine (impl_without.concat ⟨w.heap.size, 0, none⟩ 2 A0 _ c0 _ (l0.take a1.toNat) (l0.drop (a1.toNat + 1)) _ (by rw [hx1]; exact (blk_cell (blk_drew (blk_new w _)) 0).trans rfl) (by rw [hx2]; exact (blk_cell (blk_drew (blk_new w _)) 1).trans rfl) (Kd.C_below (Kd.C_take hr0 (by have := HN.out; omega)) (below_drew (below_alloc (Below.refl _ _) _))) (Kd.C_below HC2.out (below_drew (below_alloc (Below.refl _ _) _))) (by have := HN.out; rw [hx1, hx2]; omega)).mono ?_
        rintro e w2 ⟨v0, rfl, hR, hb⟩
        refine ⟨_, rfl, ?_⟩
        refine hK.out _ _ trivial (fun hHeld => ?_)
        clear hK K
        refine Hd.n_ (some 13) ?_
        refine Hd.p_ HT_ 9 (some 4) #[true, true, true, true, true, true, true, true, true, true] ?_
        refine done_ (done_of HT_.out (by kernel_rfl)) ?_
        have hb2 : Below w.heap.size w w2 := below_step (below_drew (below_alloc (Below.refl _ _) _)) hb
        try go_wp2
        go_ret
        exact ⟨_, rfl, Kd.R_lower hR (below_size (below_drew (below_alloc (Below.refl _ _) _))), hb2⟩
      · rw [if_neg h3] at h; cases h
    · rw [if_neg h2] at h; cases h
  · rw [if_neg h1] at h; cases h
end Go.Proofs.Ytbackoeakepngaa.MFnSafe
