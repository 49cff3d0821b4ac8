-- Laid by this session's program pp.py, after the kit's print and texts of the session's own. Not trusted: Lean checks it.
import Derived.Test.YtchmbcembbbplacMFnExactIsFeaturex0
import Derived.Test.YtchmbcembbbplacMFnExactIsFeaturex2
import Derived.Test.YtchmbcembbbplacMFnExactIsFeaturex4
import Derived.Test.YtchmbcembbbplacMFnExactIsFeaturex7
namespace Go.Proofs.Ytchmbcembbbplac.MFnExactIsFeature
open Go.RowKit Go.Proofs.YtchmbcembbbplacW.PrintWords Go.Proofs.YtchmbcembbbplacW.PrintLast Go.Proofs.YtchmbcembbbplacW.PrintMore
attribute [local go_sem] max2_int min2_int max_two min_two max_three min_three max_four min_four   -- for this text's walks alone
set_option linter.unusedVariables false
set_option linter.unusedSimpArgs false

/-! ### spec_IsSimple: function 123 -/
mutual
def spec_IsSimple.l0 : Nat → List (S49) → List (S111) → Int → Option (Bool)
 | 0, _, _, _ => none
 | k + 1, x0, x3, x4 => if x4 < (x3.length : Int) then (spec_IsSimple.l1 k x0 x3 x4 0) else ((spec_IsLine.f k x0).bind fun t204 => (some t204))
def spec_IsSimple.l1 : Nat → List (S49) → List (S111) → Int → Int → Option (Bool)
 | 0, _, _, _, _ => none
 | k + 1, x0, x3, x4, x5 => if x5 < x4 then (if (wrap64 (x5 + 1)) = x4 then (if 0 ≤ x4 then (if x4 < (x3.length : Int) then (if 0 ≤ x5 then (if x5 < (x3.length : Int) then ((spec_HowMeet.f k ((rd_T111 x3 x4).f0.f0) ((rd_T111 x3 x4).f0.f1) ((rd_T111 x3 x4).f1.f0) ((rd_T111 x3 x4).f1.f1) ((rd_T111 x3 x5).f0.f0) ((rd_T111 x3 x5).f0.f1) ((rd_T111 x3 x5).f1.f0) ((rd_T111 x3 x5).f1.f1)).bind fun t207 => (if t207 = 1 then (spec_IsSimple.l1 k x0 x3 x4 (wrap64 (x5 + 1))) else (some false))) else (none)) else (none)) else (none)) else (none)) else (if 0 ≤ x4 then (if x4 < (x3.length : Int) then (if 0 ≤ x5 then (if x5 < (x3.length : Int) then ((spec_HowMeet.f k ((rd_T111 x3 x4).f0.f0) ((rd_T111 x3 x4).f0.f1) ((rd_T111 x3 x4).f1.f0) ((rd_T111 x3 x4).f1.f1) ((rd_T111 x3 x5).f0.f0) ((rd_T111 x3 x5).f0.f1) ((rd_T111 x3 x5).f1.f0) ((rd_T111 x3 x5).f1.f1)).bind fun t210 => (if t210 = 0 then (spec_IsSimple.l1 k x0 x3 x4 (wrap64 (x5 + 1))) else (some false))) else (none)) else (none)) else (none)) else (none))) else (spec_IsSimple.l0 k x0 x3 (wrap64 (x4 + 1)))
end
def spec_IsSimple.f (k : Nat) (l0 : List (S49)) : Option (Bool) := (spec_SegmentsOf.f k l0).bind fun t201 => (spec_IsSimple.l0 k l0 t201 0)
theorem spec_IsSimple.mono_l : ∀ k, (∀ y0 y1 y2, LeO (spec_IsSimple.l0 k y0 y1 y2) (spec_IsSimple.l0 (k + 1) y0 y1 y2)) ∧ (∀ y0 y1 y2 y3, LeO (spec_IsSimple.l1 k y0 y1 y2 y3) (spec_IsSimple.l1 (k + 1) y0 y1 y2 y3))
 | 0 => ⟨fun _ _ _ r h => by simp [spec_IsSimple.l0] at h, fun _ _ _ _ r h => by simp [spec_IsSimple.l1] at h⟩
 | k + 1 => by
  obtain ⟨ih0, ih1⟩ := spec_IsSimple.mono_l k
  refine ⟨?_, ?_⟩
  ·
   intro y0 y1 y2
   unfold spec_IsSimple.l0
   repeat' first
   | (with_reducible exact ih0 _ _ _)
   | (with_reducible exact ih1 _ _ _ _)
   | (with_reducible exact spec_HowMeet.mono _ _ _ _ _ _ _ _ _)
   | (with_reducible exact spec_IsLine.mono _ _)
   | (with_reducible exact spec_SegmentsOf.mono _ _)
   | (with_reducible exact LeO.refl _)
   | (with_reducible exact LeO.none _)
   | (with_reducible refine LeO.ite ?_ ?_)
   | (with_reducible refine LeO.bind ?_ (fun _ => ?_))
   | exact ih0 _ _ _
   | exact ih1 _ _ _ _
   | exact spec_HowMeet.mono _ _ _ _ _ _ _ _ _
   | exact spec_IsLine.mono _ _
   | exact spec_SegmentsOf.mono _ _
   | exact LeO.none _
   | refine LeO.ite ?_ ?_
   | refine LeO.bind ?_ (fun _ => ?_)
  ·
   intro y0 y1 y2 y3
   unfold spec_IsSimple.l1
   repeat' first
   | (with_reducible exact ih0 _ _ _)
   | (with_reducible exact ih1 _ _ _ _)
   | (with_reducible exact spec_HowMeet.mono _ _ _ _ _ _ _ _ _)
   | (with_reducible exact spec_IsLine.mono _ _)
   | (with_reducible exact spec_SegmentsOf.mono _ _)
   | (with_reducible exact LeO.refl _)
   | (with_reducible exact LeO.none _)
   | (with_reducible refine LeO.ite ?_ ?_)
   | (with_reducible refine LeO.bind ?_ (fun _ => ?_))
   | exact ih0 _ _ _
   | exact ih1 _ _ _ _
   | exact spec_HowMeet.mono _ _ _ _ _ _ _ _ _
   | exact spec_IsLine.mono _ _
   | exact spec_SegmentsOf.mono _ _
   | exact LeO.none _
   | refine LeO.ite ?_ ?_
   | refine LeO.bind ?_ (fun _ => ?_)
theorem spec_IsSimple.mono : ∀ a0 k, LeO (spec_IsSimple.f k a0) (spec_IsSimple.f (k + 1) a0) := by
 intro a0 k
 obtain ⟨ih0, ih1⟩ := spec_IsSimple.mono_l k
 unfold spec_IsSimple.f
 repeat' first
   | (with_reducible exact ih0 _ _ _)
   | (with_reducible exact ih1 _ _ _ _)
   | (with_reducible exact spec_HowMeet.mono _ _ _ _ _ _ _ _ _)
   | (with_reducible exact spec_IsLine.mono _ _)
   | (with_reducible exact spec_SegmentsOf.mono _ _)
   | (with_reducible exact LeO.refl _)
   | (with_reducible exact LeO.none _)
   | (with_reducible refine LeO.ite ?_ ?_)
   | (with_reducible refine LeO.bind ?_ (fun _ => ?_))
   | exact ih0 _ _ _
   | exact ih1 _ _ _ _
   | exact spec_HowMeet.mono _ _ _ _ _ _ _ _ _
   | exact spec_IsLine.mono _ _
   | exact spec_SegmentsOf.mono _ _
   | exact LeO.none _
   | refine LeO.ite ?_ ?_
   | refine LeO.bind ?_ (fun _ => ?_)
def spec_IsSimple.T11 : Bool × List (List Nat × List Nat) := (true, [([], []), ([], []), ([0, 1], [0, 1]), ([2], [2]), ([], []), ([], []), ([4, 5], [4, 5]), ([6], [6]), ([3, 7], [3, 7]), ([], []), ([8, 9], [8, 9])])
def spec_IsSimple.B11 : List Nat := [0, 0, 3, 7, 0, 0, 48, 112, 255, 0, 1023]
theorem spec_IsSimple.tab11 : rtab .any (opsOf Try.f123 11) = spec_IsSimple.T11 := by kernel_rfl
theorem spec_IsSimple.bits11 : waitsOk spec_IsSimple.T11.2 spec_IsSimple.B11 = true := by kernel_rfl
set_option maxHeartbeats 8000000 in
set_option maxRecDepth 100000 in
theorem spec_IsSimple.calls (k : Nat) (A0 : Option Addr) (c0 : Nat) (l0 : List (S49)) (r : Bool) (w : World) (hr0 : Kd.C k49 w A0 l0.length l0) (hc0 : l0.length ≤ c0) (h : spec_IsSimple.f k l0 = some r) :
  Calls Try.prog 123 #[.slice A0 l0.length c0] w fun e w' => e = .returned (.bool r) ∧ Below w.heap.size w w' := by
 have hu111 := Try.underlying111
 have HR0 := Aside0.mk hr0
 have HC0 := Aside0.mk hc0
 clear hr0 hc0
 have HB := Aside0.mk (Below.refl w.heap.size w)
 have H : ((spec_SegmentsOf.f k l0).bind fun t201 => (spec_IsSimple.l0 k l0 t201 0)) = some r := h
 clear h
 replace H := Option.bind_eq_some_iff.mp H
 obtain ⟨t201, A20, H⟩ := H
 replace H : (spec_IsSimple.l0 k l0 t201 0) = some r := H
 have A2 := Aside0.mk A20
 clear A20
 have H' := Aside0.mk H
 clear H
 go_enter Try.func123, Try.ntmps123
 go_wp2_with (first | ((with_reducible refine gate_callee (f := 132) rfl ?_); refine goesL_ (some 8) rfl rfl Try.func132 (by kernel_rfl) rfl #[.slice A0 l0.length c0] rfl Hd.m_ ?_; (with_reducible refine (spec_SegmentsOf.calls k _ _ l0 t201 _ ?side1 ?side2 A2.out).mono ?_); (case side1 => repeat (first | exact HR0.out | (with_reducible refine Kd.C_alloc ?_ _) | (with_reducible refine Kd.C_drewN ?_ _) | (with_reducible refine Kd.C_drew ?_))); (case side2 => exact HC0.out); rintro e w3 ⟨v202, rfl, ho0, hb⟩; refine ⟨_, rfl, ?_⟩; have HO203 := Aside0.mk (Kd.R_lower ho0 (below_size Hd.b_)); replace HB := Aside0.mk (below_step Hd.b_ hb); (try clear hb); (try clear hb2); (try clear hk); (try clear hi); (try clear ho0)))
 go_loopg [4] k (fun kq v4 w' => ∃ (x4_1 : Int), v4 = .int .i64 x4_1 ∧ Aside0 (spec_IsSimple.l0 kq l0 t201 x4_1 = some r) ∧ Aside0 (kq ≤ k) ∧ Aside0 (Kd.R k111 111 w' w.heap.size (fun _ => True) v202 t201) ∧ Aside0 (Below w.heap.size w w'))
 case atStart => exact ⟨(0), (by first | rfl | (simp; done) | (simp [*]; done)), H', ⟨Nat.le_refl _⟩, ⟨by (with_reducible repeat (first | apply Kd.R_alloc | apply Kd.R_drewN | apply Kd.R_drew)); exact HO203.out⟩, ⟨Hd.b_⟩⟩
 case round =>
  clear H'
  try clear c1
  try clear p2
  obtain ⟨x4_1, rfl, HA, HK1, HO_3, HB⟩ := hrel
  cases gk with
  | zero => exact absurd HA.out (by simp [spec_IsSimple.l0])
  | succ k1 =>
   have H := HA.out
   clear HA
   simp only [spec_IsSimple.l0] at H
   by_cases c4 : x4_1 < (t201.length : Int)
   ·
    rw [if_pos c4] at H
    have c4b0 : decide (x4_1 < (t201.length : Int)) = true := decide_eq_true c4
    clear c4
    have H' := Aside0.mk H
    clear H
    obtain ⟨Ao5, co5, eo5⟩ := Kd.R_slice HO_3.out
    subst eo5
    go_wp2
    go_loopg [5] k1 (fun kq v5 w' => ∃ (x5_2 : Int), v5 = .int .i64 x5_2 ∧ Aside0 (spec_IsSimple.l1 kq l0 t201 x4_1 x5_2 = some r) ∧ Aside0 (kq ≤ k1) ∧ Aside0 (Kd.R k111 111 w' w.heap.size (fun _ => True) (.slice Ao5 t201.length co5) t201) ∧ Aside0 (Below w.heap.size w w'))
    case atStart => exact ⟨(0), (by first | rfl | (simp; done) | (simp [*]; done)), H', ⟨Nat.le_refl _⟩, ⟨by (with_reducible repeat (first | apply Kd.R_alloc | apply Kd.R_drewN | apply Kd.R_drew)); exact HO_3.out⟩, ⟨Hd.b_⟩⟩
    case round =>
     clear H'
     try clear c1
     try clear p2
     try clear c4
     try clear c4b0
     try clear p2
     obtain ⟨x5_2, rfl, HA, HK2, HO_3, HB⟩ := hrel
     cases gk with
     | zero => exact absurd HA.out (by simp [spec_IsSimple.l1])
     | succ k2 =>
      have H := HA.out
      clear HA
      simp only [spec_IsSimple.l1] at H
      by_cases c6 : x5_2 < x4_1
      ·
       rw [if_pos c6] at H
       have c6b0 : decide (x5_2 < x4_1) = true := decide_eq_true c6
       clear c6
       by_cases c7 : (wrap64 (x5_2 + 1)) = x4_1
       ·
        rw [if_pos c7] at H
        have c7b0 : ((wrap64 (x5_2 + 1)) == x4_1) = true := beq_iff_eq.mpr c7
        have c7b1 : ((wrap64 (x5_2 + 1)) != x4_1) = false := bne_eq_false_iff_eq.mpr c7
        clear c7
        by_cases c8 : 0 ≤ x4_1
        ·
         rw [if_pos c8] at H
         have c8b0 : decide (0 ≤ x4_1) = true := decide_eq_true c8
         clear c8
         by_cases c9 : x4_1 < (t201.length : Int)
         ·
          rw [if_pos c9] at H
          have c9b0 : decide (x4_1 < (t201.length : Int)) = true := decide_eq_true c9
          clear c9
          by_cases c10 : 0 ≤ x5_2
          ·
           rw [if_pos c10] at H
           have c10b0 : decide (0 ≤ x5_2) = true := decide_eq_true c10
           clear c10
           by_cases c11 : x5_2 < (t201.length : Int)
           ·
            rw [if_pos c11] at H
            have c11b0 : decide (x5_2 < (t201.length : Int)) = true := decide_eq_true c11
            clear c11
            replace H := Option.bind_eq_some_iff.mp H
            obtain ⟨t207, A120, H⟩ := H
            replace H : (if t207 = 1 then (spec_IsSimple.l1 k2 l0 t201 x4_1 (wrap64 (x5_2 + 1))) else (some false)) = some r := H
            have A12 := Aside0.mk A120
            clear A120
            by_cases c13 : t207 = 1
            ·
             rw [if_pos c13] at H
             have c13b0 : (t207 == 1) = true := beq_iff_eq.mpr c13
             have c13b1 : (t207 != 1) = false := bne_eq_false_iff_eq.mpr c13
             clear c13
             have H' := Aside0.mk H
             clear H
             try go_wp2
             replace HO_3 := Aside0.mk (Kd.R_drew HO_3.out)
             replace HB := Aside0.mk (below_drew1 HB.out)
             have p205 : 0 ≤ (x4_1 : Int) := of_decide_eq_true Hd.a_
             have q205 : x4_1 < (t201.length : Int) := of_decide_eq_true Hd.a_
             obtain ⟨ad205, e205, hx205_0, hx205_1, hx205_2, hx205_3⟩ := at_T111 (Kd.R_reads' HO_3.out).2.2 x4_1 p205 q205
             cases e205
             replace p205 := eq_true p205
             replace q205 := eq_true q205
             have p206 : 0 ≤ (x5_2 : Int) := of_decide_eq_true Hd.a_
             have q206 : x5_2 < (t201.length : Int) := of_decide_eq_true Hd.a_
             obtain ⟨ad206, e206, hx206_0, hx206_1, hx206_2, hx206_3⟩ := at_T111 (Kd.R_reads' HO_3.out).2.2 x5_2 p206 q206
             obtain rfl : ad205 = ad206 := (by injection e206)
             replace p206 := eq_true p206
             replace q206 := eq_true q206
             have S_ : (fun w' : World => w'.cell? (ad205.add ((x4_1).toNat * 4)) = some (.int .i64 ((rd_T111 t201 x4_1).f0.f0)) ∧ w'.cell? ⟨(ad205.add ((x4_1).toNat * 4)).block, (ad205.add ((x4_1).toNat * 4)).off + 1, none⟩ = some (.int .i64 ((rd_T111 t201 x4_1).f0.f1)) ∧ w'.cell? ⟨(ad205.add ((x4_1).toNat * 4)).block, (ad205.add ((x4_1).toNat * 4)).off + 2, none⟩ = some (.int .i64 ((rd_T111 t201 x4_1).f1.f0)) ∧ w'.cell? ⟨(ad205.add ((x4_1).toNat * 4)).block, (ad205.add ((x4_1).toNat * 4)).off + 3, none⟩ = some (.int .i64 ((rd_T111 t201 x4_1).f1.f1)) ∧ w'.cell? (ad205.add ((x5_2).toNat * 4)) = some (.int .i64 ((rd_T111 t201 x5_2).f0.f0)) ∧ w'.cell? ⟨(ad205.add ((x5_2).toNat * 4)).block, (ad205.add ((x5_2).toNat * 4)).off + 1, none⟩ = some (.int .i64 ((rd_T111 t201 x5_2).f0.f1)) ∧ w'.cell? ⟨(ad205.add ((x5_2).toNat * 4)).block, (ad205.add ((x5_2).toNat * 4)).off + 2, none⟩ = some (.int .i64 ((rd_T111 t201 x5_2).f1.f0)) ∧ w'.cell? ⟨(ad205.add ((x5_2).toNat * 4)).block, (ad205.add ((x5_2).toNat * 4)).off + 3, none⟩ = some (.int .i64 ((rd_T111 t201 x5_2).f1.f1))) wr.drew := ⟨hx205_0, hx205_1, hx205_2, hx205_3, hx206_0, hx206_1, hx206_2, hx206_3⟩
             obtain ⟨s0_, s1_, s2_, s3_, s4_, s5_, s6_, s7_⟩ := S_
             replace s0_ := fun q : Hd.HW wr.drew => q.cell s0_
             replace s1_ := fun q : Hd.HW wr.drew => q.cell s1_
             replace s2_ := fun q : Hd.HW wr.drew => q.cell s2_
             replace s3_ := fun q : Hd.HW wr.drew => q.cell s3_
             replace s4_ := fun q : Hd.HW wr.drew => q.cell s4_
             replace s5_ := fun q : Hd.HW wr.drew => q.cell s5_
             replace s6_ := fun q : Hd.HW wr.drew => q.cell s6_
             replace s7_ := fun q : Hd.HW wr.drew => q.cell s7_
             refine Hd.HW.region (by kernel_rfl) (by kernel_rfl) ?_
             repeat (go_big_quiet_step ((first | (go_at_call 129; with_reducible exact Hd.HW.c (spec_HowMeet.calls k2 ((rd_T111 t201 x4_1).f0.f0) ((rd_T111 t201 x4_1).f0.f1) ((rd_T111 t201 x4_1).f1.f0) ((rd_T111 t201 x4_1).f1.f1) ((rd_T111 t201 x5_2).f0.f0) ((rd_T111 t201 x5_2).f0.f1) ((rd_T111 t201 x5_2).f1.f0) ((rd_T111 t201 x5_2).f1.f1) t207 _ A12.out)))))
             refine wpQuiet_nil ?_
             intro _ hq_
             obtain ⟨q_, rfl⟩ := hq_
             clear s0_ s1_ s2_ s3_ s4_ s5_ s6_ s7_
             replace HO_3 := Aside0.mk (Kd.R_below HO_3.out q_.b)
             replace HB := Aside0.mk (below_step HB.out q_.b)
             replace hx205_0 := q_.cell hx205_0
             replace hx205_1 := q_.cell hx205_1
             replace hx205_2 := q_.cell hx205_2
             replace hx205_3 := q_.cell hx205_3
             replace hx206_0 := q_.cell hx206_0
             replace hx206_1 := q_.cell hx206_1
             replace hx206_2 := q_.cell hx206_2
             replace hx206_3 := q_.cell hx206_3
             generalize q_.W = w15 at HO_3 HB hx205_0 hx205_1 hx205_2 hx205_3 hx206_0 hx206_1 hx206_2 hx206_3 ⊢
             try simp only [i64_w, i32_w]
             try go_wp2
             go_roundg k2
             case measure => have := HK1.out; have := HK2.out; omega
             case rel => exact ⟨(wrap64 (x5_2 + 1)), (by first | rfl | (simp; done) | (simp [*]; done)), H', ⟨by have := HK1.out; have := HK2.out; omega⟩, ⟨by (with_reducible repeat (first | apply Kd.R_alloc | apply Kd.R_drewN | apply Kd.R_drew)); exact HO_3.out⟩, ⟨Hd.b_⟩⟩
            ·
             rw [if_neg c13] at H
             have c13b0 : (t207 == 1) = false := beq_eq_false_iff_ne.mpr c13
             have c13b1 : (t207 != 1) = true := bne_iff_ne.mpr c13
             obtain rfl := Option.some.inj H
             try go_wp2
             replace HO_3 := Aside0.mk (Kd.R_drew HO_3.out)
             replace HB := Aside0.mk (below_drew1 HB.out)
             have p205 : 0 ≤ (x4_1 : Int) := of_decide_eq_true Hd.a_
             have q205 : x4_1 < (t201.length : Int) := of_decide_eq_true Hd.a_
             obtain ⟨ad205, e205, hx205_0, hx205_1, hx205_2, hx205_3⟩ := at_T111 (Kd.R_reads' HO_3.out).2.2 x4_1 p205 q205
             cases e205
             replace p205 := eq_true p205
             replace q205 := eq_true q205
             have p206 : 0 ≤ (x5_2 : Int) := of_decide_eq_true Hd.a_
             have q206 : x5_2 < (t201.length : Int) := of_decide_eq_true Hd.a_
             obtain ⟨ad206, e206, hx206_0, hx206_1, hx206_2, hx206_3⟩ := at_T111 (Kd.R_reads' HO_3.out).2.2 x5_2 p206 q206
             obtain rfl : ad205 = ad206 := (by injection e206)
             replace p206 := eq_true p206
             replace q206 := eq_true q206
             have S_ : (fun w' : World => w'.cell? (ad205.add ((x4_1).toNat * 4)) = some (.int .i64 ((rd_T111 t201 x4_1).f0.f0)) ∧ w'.cell? ⟨(ad205.add ((x4_1).toNat * 4)).block, (ad205.add ((x4_1).toNat * 4)).off + 1, none⟩ = some (.int .i64 ((rd_T111 t201 x4_1).f0.f1)) ∧ w'.cell? ⟨(ad205.add ((x4_1).toNat * 4)).block, (ad205.add ((x4_1).toNat * 4)).off + 2, none⟩ = some (.int .i64 ((rd_T111 t201 x4_1).f1.f0)) ∧ w'.cell? ⟨(ad205.add ((x4_1).toNat * 4)).block, (ad205.add ((x4_1).toNat * 4)).off + 3, none⟩ = some (.int .i64 ((rd_T111 t201 x4_1).f1.f1)) ∧ w'.cell? (ad205.add ((x5_2).toNat * 4)) = some (.int .i64 ((rd_T111 t201 x5_2).f0.f0)) ∧ w'.cell? ⟨(ad205.add ((x5_2).toNat * 4)).block, (ad205.add ((x5_2).toNat * 4)).off + 1, none⟩ = some (.int .i64 ((rd_T111 t201 x5_2).f0.f1)) ∧ w'.cell? ⟨(ad205.add ((x5_2).toNat * 4)).block, (ad205.add ((x5_2).toNat * 4)).off + 2, none⟩ = some (.int .i64 ((rd_T111 t201 x5_2).f1.f0)) ∧ w'.cell? ⟨(ad205.add ((x5_2).toNat * 4)).block, (ad205.add ((x5_2).toNat * 4)).off + 3, none⟩ = some (.int .i64 ((rd_T111 t201 x5_2).f1.f1))) wr.drew := ⟨hx205_0, hx205_1, hx205_2, hx205_3, hx206_0, hx206_1, hx206_2, hx206_3⟩
             obtain ⟨s0_, s1_, s2_, s3_, s4_, s5_, s6_, s7_⟩ := S_
             replace s0_ := fun q : Hd.HW wr.drew => q.cell s0_
             replace s1_ := fun q : Hd.HW wr.drew => q.cell s1_
             replace s2_ := fun q : Hd.HW wr.drew => q.cell s2_
             replace s3_ := fun q : Hd.HW wr.drew => q.cell s3_
             replace s4_ := fun q : Hd.HW wr.drew => q.cell s4_
             replace s5_ := fun q : Hd.HW wr.drew => q.cell s5_
             replace s6_ := fun q : Hd.HW wr.drew => q.cell s6_
             replace s7_ := fun q : Hd.HW wr.drew => q.cell s7_
             refine Hd.HW.region (by kernel_rfl) (by kernel_rfl) ?_
             repeat (go_big_quiet_step ((first | (go_at_call 129; with_reducible exact Hd.HW.c (spec_HowMeet.calls k2 ((rd_T111 t201 x4_1).f0.f0) ((rd_T111 t201 x4_1).f0.f1) ((rd_T111 t201 x4_1).f1.f0) ((rd_T111 t201 x4_1).f1.f1) ((rd_T111 t201 x5_2).f0.f0) ((rd_T111 t201 x5_2).f0.f1) ((rd_T111 t201 x5_2).f1.f0) ((rd_T111 t201 x5_2).f1.f1) t207 _ A12.out)))))
             refine wpQuiet_nil ?_
             intro _ hq_
             obtain ⟨q_, rfl⟩ := hq_
             clear s0_ s1_ s2_ s3_ s4_ s5_ s6_ s7_
             replace HO_3 := Aside0.mk (Kd.R_below HO_3.out q_.b)
             replace HB := Aside0.mk (below_step HB.out q_.b)
             replace hx205_0 := q_.cell hx205_0
             replace hx205_1 := q_.cell hx205_1
             replace hx205_2 := q_.cell hx205_2
             replace hx205_3 := q_.cell hx205_3
             replace hx206_0 := q_.cell hx206_0
             replace hx206_1 := q_.cell hx206_1
             replace hx206_2 := q_.cell hx206_2
             replace hx206_3 := q_.cell hx206_3
             generalize q_.W = w17 at HO_3 HB hx205_0 hx205_1 hx205_2 hx205_3 hx206_0 hx206_1 hx206_2 hx206_3 ⊢
             try simp only [i64_w, i32_w]
             try go_wp2
             go_ret
             exact ⟨Hd.e_, Hd.b_⟩
           ·
            rw [if_neg c11] at H
            exact absurd H (by simp)
          ·
           rw [if_neg c10] at H
           exact absurd H (by simp)
         ·
          rw [if_neg c9] at H
          exact absurd H (by simp)
        ·
         rw [if_neg c8] at H
         exact absurd H (by simp)
       ·
        rw [if_neg c7] at H
        have c7b0 : ((wrap64 (x5_2 + 1)) == x4_1) = false := beq_eq_false_iff_ne.mpr c7
        have c7b1 : ((wrap64 (x5_2 + 1)) != x4_1) = true := bne_iff_ne.mpr c7
        by_cases c18 : 0 ≤ x4_1
        ·
         rw [if_pos c18] at H
         have c18b0 : decide (0 ≤ x4_1) = true := decide_eq_true c18
         clear c18
         by_cases c19 : x4_1 < (t201.length : Int)
         ·
          rw [if_pos c19] at H
          have c19b0 : decide (x4_1 < (t201.length : Int)) = true := decide_eq_true c19
          clear c19
          by_cases c20 : 0 ≤ x5_2
          ·
           rw [if_pos c20] at H
           have c20b0 : decide (0 ≤ x5_2) = true := decide_eq_true c20
           clear c20
           by_cases c21 : x5_2 < (t201.length : Int)
           ·
            rw [if_pos c21] at H
            have c21b0 : decide (x5_2 < (t201.length : Int)) = true := decide_eq_true c21
            clear c21
            replace H := Option.bind_eq_some_iff.mp H
            obtain ⟨t210, A220, H⟩ := H
            replace H : (if t210 = 0 then (spec_IsSimple.l1 k2 l0 t201 x4_1 (wrap64 (x5_2 + 1))) else (some false)) = some r := H
            have A22 := Aside0.mk A220
            clear A220
            by_cases c23 : t210 = 0
            ·
             rw [if_pos c23] at H
             have c23b0 : (t210 == 0) = true := beq_iff_eq.mpr c23
             have c23b1 : (t210 != 0) = false := bne_eq_false_iff_eq.mpr c23
             clear c23
             have H' := Aside0.mk H
             clear H
             try go_wp2
             replace HO_3 := Aside0.mk (Kd.R_drew HO_3.out)
             replace HB := Aside0.mk (below_drew1 HB.out)
             have p208 : 0 ≤ (x4_1 : Int) := of_decide_eq_true Hd.a_
             have q208 : x4_1 < (t201.length : Int) := of_decide_eq_true Hd.a_
             obtain ⟨ad208, e208, hx208_0, hx208_1, hx208_2, hx208_3⟩ := at_T111 (Kd.R_reads' HO_3.out).2.2 x4_1 p208 q208
             cases e208
             replace p208 := eq_true p208
             replace q208 := eq_true q208
             have p209 : 0 ≤ (x5_2 : Int) := of_decide_eq_true Hd.a_
             have q209 : x5_2 < (t201.length : Int) := of_decide_eq_true Hd.a_
             obtain ⟨ad209, e209, hx209_0, hx209_1, hx209_2, hx209_3⟩ := at_T111 (Kd.R_reads' HO_3.out).2.2 x5_2 p209 q209
             obtain rfl : ad208 = ad209 := (by injection e209)
             replace p209 := eq_true p209
             replace q209 := eq_true q209
             have S_ : (fun w' : World => w'.cell? (ad208.add ((x4_1).toNat * 4)) = some (.int .i64 ((rd_T111 t201 x4_1).f0.f0)) ∧ w'.cell? ⟨(ad208.add ((x4_1).toNat * 4)).block, (ad208.add ((x4_1).toNat * 4)).off + 1, none⟩ = some (.int .i64 ((rd_T111 t201 x4_1).f0.f1)) ∧ w'.cell? ⟨(ad208.add ((x4_1).toNat * 4)).block, (ad208.add ((x4_1).toNat * 4)).off + 2, none⟩ = some (.int .i64 ((rd_T111 t201 x4_1).f1.f0)) ∧ w'.cell? ⟨(ad208.add ((x4_1).toNat * 4)).block, (ad208.add ((x4_1).toNat * 4)).off + 3, none⟩ = some (.int .i64 ((rd_T111 t201 x4_1).f1.f1)) ∧ w'.cell? (ad208.add ((x5_2).toNat * 4)) = some (.int .i64 ((rd_T111 t201 x5_2).f0.f0)) ∧ w'.cell? ⟨(ad208.add ((x5_2).toNat * 4)).block, (ad208.add ((x5_2).toNat * 4)).off + 1, none⟩ = some (.int .i64 ((rd_T111 t201 x5_2).f0.f1)) ∧ w'.cell? ⟨(ad208.add ((x5_2).toNat * 4)).block, (ad208.add ((x5_2).toNat * 4)).off + 2, none⟩ = some (.int .i64 ((rd_T111 t201 x5_2).f1.f0)) ∧ w'.cell? ⟨(ad208.add ((x5_2).toNat * 4)).block, (ad208.add ((x5_2).toNat * 4)).off + 3, none⟩ = some (.int .i64 ((rd_T111 t201 x5_2).f1.f1))) wr.drew := ⟨hx208_0, hx208_1, hx208_2, hx208_3, hx209_0, hx209_1, hx209_2, hx209_3⟩
             obtain ⟨s0_, s1_, s2_, s3_, s4_, s5_, s6_, s7_⟩ := S_
             replace s0_ := fun q : Hd.HW wr.drew => q.cell s0_
             replace s1_ := fun q : Hd.HW wr.drew => q.cell s1_
             replace s2_ := fun q : Hd.HW wr.drew => q.cell s2_
             replace s3_ := fun q : Hd.HW wr.drew => q.cell s3_
             replace s4_ := fun q : Hd.HW wr.drew => q.cell s4_
             replace s5_ := fun q : Hd.HW wr.drew => q.cell s5_
             replace s6_ := fun q : Hd.HW wr.drew => q.cell s6_
             replace s7_ := fun q : Hd.HW wr.drew => q.cell s7_
             refine Hd.HW.region (by kernel_rfl) (by kernel_rfl) ?_
             repeat (go_big_quiet_step ((first | (go_at_call 129; with_reducible exact Hd.HW.c (spec_HowMeet.calls k2 ((rd_T111 t201 x4_1).f0.f0) ((rd_T111 t201 x4_1).f0.f1) ((rd_T111 t201 x4_1).f1.f0) ((rd_T111 t201 x4_1).f1.f1) ((rd_T111 t201 x5_2).f0.f0) ((rd_T111 t201 x5_2).f0.f1) ((rd_T111 t201 x5_2).f1.f0) ((rd_T111 t201 x5_2).f1.f1) t210 _ A22.out)))))
             refine wpQuiet_nil ?_
             intro _ hq_
             obtain ⟨q_, rfl⟩ := hq_
             clear s0_ s1_ s2_ s3_ s4_ s5_ s6_ s7_
             replace HO_3 := Aside0.mk (Kd.R_below HO_3.out q_.b)
             replace HB := Aside0.mk (below_step HB.out q_.b)
             replace hx208_0 := q_.cell hx208_0
             replace hx208_1 := q_.cell hx208_1
             replace hx208_2 := q_.cell hx208_2
             replace hx208_3 := q_.cell hx208_3
             replace hx209_0 := q_.cell hx209_0
             replace hx209_1 := q_.cell hx209_1
             replace hx209_2 := q_.cell hx209_2
             replace hx209_3 := q_.cell hx209_3
             generalize q_.W = w25 at HO_3 HB hx208_0 hx208_1 hx208_2 hx208_3 hx209_0 hx209_1 hx209_2 hx209_3 ⊢
             try simp only [i64_w, i32_w]
             try go_wp2
             go_roundg k2
             case measure => have := HK1.out; have := HK2.out; omega
             case rel => exact ⟨(wrap64 (x5_2 + 1)), (by first | rfl | (simp; done) | (simp [*]; done)), H', ⟨by have := HK1.out; have := HK2.out; omega⟩, ⟨by (with_reducible repeat (first | apply Kd.R_alloc | apply Kd.R_drewN | apply Kd.R_drew)); exact HO_3.out⟩, ⟨Hd.b_⟩⟩
            ·
             rw [if_neg c23] at H
             have c23b0 : (t210 == 0) = false := beq_eq_false_iff_ne.mpr c23
             have c23b1 : (t210 != 0) = true := bne_iff_ne.mpr c23
             obtain rfl := Option.some.inj H
             try go_wp2
             replace HO_3 := Aside0.mk (Kd.R_drew HO_3.out)
             replace HB := Aside0.mk (below_drew1 HB.out)
             have p208 : 0 ≤ (x4_1 : Int) := of_decide_eq_true Hd.a_
             have q208 : x4_1 < (t201.length : Int) := of_decide_eq_true Hd.a_
             obtain ⟨ad208, e208, hx208_0, hx208_1, hx208_2, hx208_3⟩ := at_T111 (Kd.R_reads' HO_3.out).2.2 x4_1 p208 q208
             cases e208
             replace p208 := eq_true p208
             replace q208 := eq_true q208
             have p209 : 0 ≤ (x5_2 : Int) := of_decide_eq_true Hd.a_
             have q209 : x5_2 < (t201.length : Int) := of_decide_eq_true Hd.a_
             obtain ⟨ad209, e209, hx209_0, hx209_1, hx209_2, hx209_3⟩ := at_T111 (Kd.R_reads' HO_3.out).2.2 x5_2 p209 q209
             obtain rfl : ad208 = ad209 := (by injection e209)
             replace p209 := eq_true p209
             replace q209 := eq_true q209
             have S_ : (fun w' : World => w'.cell? (ad208.add ((x4_1).toNat * 4)) = some (.int .i64 ((rd_T111 t201 x4_1).f0.f0)) ∧ w'.cell? ⟨(ad208.add ((x4_1).toNat * 4)).block, (ad208.add ((x4_1).toNat * 4)).off + 1, none⟩ = some (.int .i64 ((rd_T111 t201 x4_1).f0.f1)) ∧ w'.cell? ⟨(ad208.add ((x4_1).toNat * 4)).block, (ad208.add ((x4_1).toNat * 4)).off + 2, none⟩ = some (.int .i64 ((rd_T111 t201 x4_1).f1.f0)) ∧ w'.cell? ⟨(ad208.add ((x4_1).toNat * 4)).block, (ad208.add ((x4_1).toNat * 4)).off + 3, none⟩ = some (.int .i64 ((rd_T111 t201 x4_1).f1.f1)) ∧ w'.cell? (ad208.add ((x5_2).toNat * 4)) = some (.int .i64 ((rd_T111 t201 x5_2).f0.f0)) ∧ w'.cell? ⟨(ad208.add ((x5_2).toNat * 4)).block, (ad208.add ((x5_2).toNat * 4)).off + 1, none⟩ = some (.int .i64 ((rd_T111 t201 x5_2).f0.f1)) ∧ w'.cell? ⟨(ad208.add ((x5_2).toNat * 4)).block, (ad208.add ((x5_2).toNat * 4)).off + 2, none⟩ = some (.int .i64 ((rd_T111 t201 x5_2).f1.f0)) ∧ w'.cell? ⟨(ad208.add ((x5_2).toNat * 4)).block, (ad208.add ((x5_2).toNat * 4)).off + 3, none⟩ = some (.int .i64 ((rd_T111 t201 x5_2).f1.f1))) wr.drew := ⟨hx208_0, hx208_1, hx208_2, hx208_3, hx209_0, hx209_1, hx209_2, hx209_3⟩
             obtain ⟨s0_, s1_, s2_, s3_, s4_, s5_, s6_, s7_⟩ := S_
             replace s0_ := fun q : Hd.HW wr.drew => q.cell s0_
             replace s1_ := fun q : Hd.HW wr.drew => q.cell s1_
             replace s2_ := fun q : Hd.HW wr.drew => q.cell s2_
             replace s3_ := fun q : Hd.HW wr.drew => q.cell s3_
             replace s4_ := fun q : Hd.HW wr.drew => q.cell s4_
             replace s5_ := fun q : Hd.HW wr.drew => q.cell s5_
             replace s6_ := fun q : Hd.HW wr.drew => q.cell s6_
             replace s7_ := fun q : Hd.HW wr.drew => q.cell s7_
             refine Hd.HW.region (by kernel_rfl) (by kernel_rfl) ?_
             repeat (go_big_quiet_step ((first | (go_at_call 129; with_reducible exact Hd.HW.c (spec_HowMeet.calls k2 ((rd_T111 t201 x4_1).f0.f0) ((rd_T111 t201 x4_1).f0.f1) ((rd_T111 t201 x4_1).f1.f0) ((rd_T111 t201 x4_1).f1.f1) ((rd_T111 t201 x5_2).f0.f0) ((rd_T111 t201 x5_2).f0.f1) ((rd_T111 t201 x5_2).f1.f0) ((rd_T111 t201 x5_2).f1.f1) t210 _ A22.out)))))
             refine wpQuiet_nil ?_
             intro _ hq_
             obtain ⟨q_, rfl⟩ := hq_
             clear s0_ s1_ s2_ s3_ s4_ s5_ s6_ s7_
             replace HO_3 := Aside0.mk (Kd.R_below HO_3.out q_.b)
             replace HB := Aside0.mk (below_step HB.out q_.b)
             replace hx208_0 := q_.cell hx208_0
             replace hx208_1 := q_.cell hx208_1
             replace hx208_2 := q_.cell hx208_2
             replace hx208_3 := q_.cell hx208_3
             replace hx209_0 := q_.cell hx209_0
             replace hx209_1 := q_.cell hx209_1
             replace hx209_2 := q_.cell hx209_2
             replace hx209_3 := q_.cell hx209_3
             generalize q_.W = w27 at HO_3 HB hx208_0 hx208_1 hx208_2 hx208_3 hx209_0 hx209_1 hx209_2 hx209_3 ⊢
             try simp only [i64_w, i32_w]
             try go_wp2
             go_ret
             exact ⟨Hd.e_, Hd.b_⟩
           ·
            rw [if_neg c21] at H
            exact absurd H (by simp)
          ·
           rw [if_neg c20] at H
           exact absurd H (by simp)
         ·
          rw [if_neg c19] at H
          exact absurd H (by simp)
        ·
         rw [if_neg c18] at H
         exact absurd H (by simp)
      ·
       rw [if_neg c6] at H
       have c6b0 : decide (x5_2 < x4_1) = false := decide_eq_false c6
       clear c6
       have H' := Aside0.mk H
       clear H
       go_wp2
       go_roundg k2
       case measure => have := HK1.out; have := HK2.out; omega
       case rel => exact ⟨(wrap64 (x4_1 + 1)), (by first | rfl | (simp; done) | (simp [*]; done)), H', ⟨by have := HK1.out; have := HK2.out; omega⟩, ⟨by (with_reducible repeat (first | apply Kd.R_alloc | apply Kd.R_drewN | apply Kd.R_drew)); exact HO_3.out⟩, ⟨Hd.b_⟩⟩
   ·
    rw [if_neg c4] at H
    have c4b0 : decide (x4_1 < (t201.length : Int)) = false := decide_eq_false c4
    clear c4
    replace H := Option.bind_eq_some_iff.mp H
    obtain ⟨t204, A280, H⟩ := H
    replace H : (some t204) = some r := H
    have A28 := Aside0.mk A280
    clear A280
    obtain rfl := Option.some.inj H
    obtain ⟨Ao29, co29, eo29⟩ := Kd.R_slice HO_3.out
    subst eo29
    go_wp2_with (first | ((with_reducible refine gate_callee (f := 154) rfl ?_); refine goesL_ (some 36) rfl rfl Try.func154 (by kernel_rfl) rfl #[.slice A0 l0.length c0] rfl Hd.m_ ?_; (with_reducible refine (spec_IsLine.calls k1 _ _ l0 t204 _ ?side1 ?side2 A28.out).mono ?_); (case side1 => repeat (first | exact (Kd.C_below HR0.out HB.out) | (with_reducible refine Kd.C_alloc ?_ _) | (with_reducible refine Kd.C_drewN ?_ _) | (with_reducible refine Kd.C_drew ?_))); (case side2 => exact HC0.out); rintro e w30 ⟨rfl, hb⟩; refine ⟨_, rfl, ?_⟩; replace HO_3 := Aside0.mk (Kd.R_below (Hd.r_ HO_3) hb); replace HB := Aside0.mk (below_step Hd.b_ hb); (try clear hb); (try clear hb2); (try clear hk); (try clear hi)))
    go_ret
    exact ⟨Hd.e_, Hd.b_⟩

/-! ### spec_IsName: function 124 -/
def spec_IsName.l0 : Nat → ByteArray → Int → Option (Bool)
 | 0, _, _ => none
 | k + 1, x0, x3 => if x3 < (x0.size : Int) then (if 0 ≤ x3 then (if (bt x0 x3) < 97 then (some false) else (if (bt x0 x3) > 122 then (some false) else (spec_IsName.l0 k x0 (wrap64 (x3 + 1))))) else (none)) else ((spec_l1In.f (x0.size : Int) 1 8).bind fun t211 => (some t211))
def spec_IsName.f (k : Nat) (a0 : ByteArray) : Option (Bool) := spec_IsName.l0 k a0 0
theorem spec_IsName.mono_l : ∀ k, (∀ y0 y1, LeO (spec_IsName.l0 k y0 y1) (spec_IsName.l0 (k + 1) y0 y1))
 | 0 => fun _ _ r h => by simp [spec_IsName.l0] at h
 | k + 1 => by
  have ih0 := spec_IsName.mono_l k
  ·
   intro y0 y1
   unfold spec_IsName.l0
   repeat' first
   | (with_reducible exact ih0 _ _)
   | (with_reducible exact LeO.refl _)
   | (with_reducible exact LeO.none _)
   | (with_reducible refine LeO.ite ?_ ?_)
   | (with_reducible refine LeO.bind ?_ (fun _ => ?_))
   | exact ih0 _ _
   | exact LeO.none _
   | refine LeO.ite ?_ ?_
   | refine LeO.bind ?_ (fun _ => ?_)
theorem spec_IsName.mono : ∀ a0 k, LeO (spec_IsName.f k a0) (spec_IsName.f (k + 1) a0) := by
 intro a0 k
 have ih0 := spec_IsName.mono_l k
 unfold spec_IsName.f
 repeat' first
   | (with_reducible exact ih0 _ _)
   | (with_reducible exact LeO.refl _)
   | (with_reducible exact LeO.none _)
   | (with_reducible refine LeO.ite ?_ ?_)
   | (with_reducible refine LeO.bind ?_ (fun _ => ?_))
   | exact ih0 _ _
   | exact LeO.none _
   | refine LeO.ite ?_ ?_
   | refine LeO.bind ?_ (fun _ => ?_)
set_option maxHeartbeats 8000000 in
set_option maxRecDepth 100000 in
theorem spec_IsName.calls (k : Nat) (a0 : ByteArray) (r : Bool) (w : World) (h : spec_IsName.f k a0 = some r) :
  Calls Try.prog 124 #[.string a0] w fun e w' => e = .returned (.bool r) ∧ Drawn0 w w' := by
 have H : (spec_IsName.l0 k a0 0) = some r := h
 clear h
 have H' := Aside0.mk H
 clear H
 go_enter Try.func124, Try.ntmps124
 go_wp2
 go_loopg [3] k (fun kq v3 w' => ∃ (x3_1 : Int), v3 = .int .i64 x3_1 ∧ Aside0 (spec_IsName.l0 kq a0 x3_1 = some r) ∧ Aside0 (kq ≤ k) ∧ Drawn0 w w')
 case atStart => exact ⟨(0), (by first | rfl | (simp; done) | (simp [*]; done)), H', ⟨Nat.le_refl _⟩, by repeat (first | exact Drawn0.refl _ | apply Drawn0.step)⟩
 case round =>
  clear H'
  try clear c1
  obtain ⟨x3_1, rfl, HA, HK1, ⟨m1, rfl⟩⟩ := hrel
  cases gk with
  | zero => exact absurd HA.out (by simp [spec_IsName.l0])
  | succ k1 =>
   have H := HA.out
   clear HA
   simp only [spec_IsName.l0] at H
   by_cases c2 : x3_1 < (a0.size : Int)
   ·
    rw [if_pos c2] at H
    have c2b0 : decide (x3_1 < (a0.size : Int)) = true := decide_eq_true c2
    clear c2
    by_cases c3 : 0 ≤ x3_1
    ·
     rw [if_pos c3] at H
     have c3b0 : decide (0 ≤ x3_1) = true := decide_eq_true c3
     clear c3
     by_cases c5 : (bt a0 x3_1) < 97
     ·
      rw [if_pos c5] at H
      have c5b0 : decide ((bt a0 x3_1) < 97) = true := decide_eq_true c5
      clear c5
      obtain rfl := Option.some.inj H
      have p4 : 0 ≤ (x3_1 : Int) := of_decide_eq_true Hd.a_
      have q4 : x3_1 < (a0.size : Int) := of_decide_eq_true Hd.a_
      have hx4 := bt_at a0 x3_1
      replace p4 := eq_true p4
      replace q4 := eq_true q4
      go_wp2
      go_ret
      exact ⟨by first | rfl | (simp; done) | (simp [*]; done), by repeat (first | exact Drawn0.refl _ | apply Drawn0.step)⟩
     ·
      rw [if_neg c5] at H
      have c5b0 : decide ((bt a0 x3_1) < 97) = false := decide_eq_false c5
      clear c5
      by_cases c7 : (bt a0 x3_1) > 122
      ·
       rw [if_pos c7] at H
       have c7b0 : decide (122 < (bt a0 x3_1)) = true := decide_eq_true c7
       clear c7
       obtain rfl := Option.some.inj H
       have p4 : 0 ≤ (x3_1 : Int) := of_decide_eq_true Hd.a_
       have q4 : x3_1 < (a0.size : Int) := of_decide_eq_true Hd.a_
       have hx4 := bt_at a0 x3_1
       replace p4 := eq_true p4
       replace q4 := eq_true q4
       have p6 : 0 ≤ (x3_1 : Int) := of_decide_eq_true Hd.a_
       have q6 : x3_1 < (a0.size : Int) := of_decide_eq_true Hd.a_
       have hx6 := bt_at a0 x3_1
       replace p6 := eq_true p6
       replace q6 := eq_true q6
       go_wp2
       go_ret
       exact ⟨by first | rfl | (simp; done) | (simp [*]; done), by repeat (first | exact Drawn0.refl _ | apply Drawn0.step)⟩
      ·
       rw [if_neg c7] at H
       have c7b0 : decide (122 < (bt a0 x3_1)) = false := decide_eq_false c7
       clear c7
       have H' := Aside0.mk H
       clear H
       have p4 : 0 ≤ (x3_1 : Int) := of_decide_eq_true Hd.a_
       have q4 : x3_1 < (a0.size : Int) := of_decide_eq_true Hd.a_
       have hx4 := bt_at a0 x3_1
       replace p4 := eq_true p4
       replace q4 := eq_true q4
       have p6 : 0 ≤ (x3_1 : Int) := of_decide_eq_true Hd.a_
       have q6 : x3_1 < (a0.size : Int) := of_decide_eq_true Hd.a_
       have hx6 := bt_at a0 x3_1
       replace p6 := eq_true p6
       replace q6 := eq_true q6
       go_wp2
       go_roundg k1
       case measure => have := HK1.out; omega
       case rel => exact ⟨(wrap64 (x3_1 + 1)), (by first | rfl | (simp; done) | (simp [*]; done)), H', ⟨by have := HK1.out; omega⟩, by repeat (first | exact Drawn0.refl _ | apply Drawn0.step)⟩
    ·
     rw [if_neg c3] at H
     exact absurd H (by simp)
   ·
    rw [if_neg c2] at H
    have c2b0 : decide (x3_1 < (a0.size : Int)) = false := decide_eq_false c2
    clear c2
    replace H := Option.bind_eq_some_iff.mp H
    obtain ⟨t211, A80, H⟩ := H
    replace H : (some t211) = some r := H
    have A8 := Aside0.mk A80
    clear A80
    obtain rfl := Option.some.inj H
    go_wp2_with (first | ((with_reducible refine gate_callee (f := 83) rfl ?_); refine goesL_ (some 22) rfl rfl Try.func83 (by kernel_rfl) rfl #[.int .i64 (a0.size : Int), .int .i64 1, .int .i64 8] rfl Hd.m_ ?_; (with_reducible refine (spec_l1In.calls (a0.size : Int) 1 8 t211 _ A8.out).mono ?_); rintro e w' ⟨rfl, ⟨nd, rfl⟩⟩; refine ⟨_, rfl, ?_⟩))
    go_ret
    exact ⟨by first | rfl | (simp; done) | (simp [*]; done), by repeat (first | exact Drawn0.refl _ | apply Drawn0.step)⟩

end Go.Proofs.Ytchmbcembbbplac.MFnExactIsFeature
