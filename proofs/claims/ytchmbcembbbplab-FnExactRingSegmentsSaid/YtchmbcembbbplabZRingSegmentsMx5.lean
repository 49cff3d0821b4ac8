-- Laid by this session's program pp.py, after the kit's print and texts of the session's own. Not trusted: Lean checks it.
import Derived.Test.YtchmbcembbbplabZRingSegmentsMx0
import Derived.Test.YtchmbcembbbplabZRingSegmentsMx2
import Derived.Test.YtchmbcembbbplabZRingSegmentsMx4
namespace Go.Proofs.Ytchmbcembbbplab.MFnExactRingSegments
open Go.RowKit Go.Proofs.YtchmbcembbbplabW.PrintWords Go.Proofs.YtchmbcembbbplabW.PrintLast Go.Proofs.YtchmbcembbbplabW.PrintMore
attribute [local go_sem] max2_int min2_int max_two min_two max_three min_three max_four min_four   -- for this text's walks alone
set_option linter.unusedVariables false
set_option linter.unusedSimpArgs false
mutual
def impl_IsRing.j0 : Nat → List (S27) → Bool → Option (Bool)
 | 0, _, _ => none
 | k + 1, x0, x14 => if x14 = true then (some false) else ((impl_around.f k x0).bind fun t189 => (impl_IsRing.l0 k t189 (t189.length : Int) 0))
def impl_IsRing.l0 : Nat → List (S60) → Int → Int → Option (Bool)
 | 0, _, _, _ => none
 | k + 1, x3, x18, x19 => if x19 < x18 then (if 0 ≤ x19 then (if x19 < (x3.length : Int) then ((impl_IsSegment.f ((rd_T60 x3 x19).f0.f0) ((rd_T60 x3 x19).f0.f1) ((rd_T60 x3 x19).f1.f0) ((rd_T60 x3 x19).f1.f1)).bind fun t193 => (if t193 = true then (impl_IsRing.l1 k x3 x19 x18 x19 x19 0) else (some false))) else (none)) else (none)) else (some true)
def impl_IsRing.l1 : Nat → List (S60) → Int → Int → Int → Int → Int → Option (Bool)
 | 0, _, _, _, _, _, _ => none
 | k + 1, x3, x4, x18, x19, x28, x29 => if x29 < x28 then (if x29 = (wrap64 (x4 - 1)) then (impl_IsRing.j3 k x3 x4 x29 0 x18 x19 x28 x29 true) else (if x29 = 0 then (impl_IsRing.j3 k x3 x4 x29 0 x18 x19 x28 x29 (x4 == (wrap64 ((x3.length : Int) - 1)))) else (impl_IsRing.j3 k x3 x4 x29 0 x18 x19 x28 x29 false))) else (impl_IsRing.l0 k x3 x18 (wrap64 (x19 + 1)))
def impl_IsRing.j3 : Nat → List (S60) → Int → Int → Int → Int → Int → Int → Int → Bool → Option (Bool)
 | 0, _, _, _, _, _, _, _, _, _ => none
 | k + 1, x3, x4, x5, x6, x18, x19, x28, x29, x46 => if x46 = true then (if 0 ≤ x4 then (if x4 < (x3.length : Int) then (if 0 ≤ x5 then (if x5 < (x3.length : Int) then ((impl_HowMeet.f k ((rd_T60 x3 x4).f0.f0) ((rd_T60 x3 x4).f0.f1) ((rd_T60 x3 x4).f1.f0) ((rd_T60 x3 x4).f1.f1) ((rd_T60 x3 x5).f0.f0) ((rd_T60 x3 x5).f0.f1) ((rd_T60 x3 x5).f1.f0) ((rd_T60 x3 x5).f1.f1)).bind fun t196 => (if t196 = 1 then (impl_IsRing.l1 k x3 x4 x18 x19 x28 (wrap64 (x29 + 1))) else (some false))) else (none)) else (none)) else (none)) else (none)) else (if 0 ≤ x4 then (if x4 < (x3.length : Int) then (if 0 ≤ x5 then (if x5 < (x3.length : Int) then ((impl_HowMeet.f k ((rd_T60 x3 x4).f0.f0) ((rd_T60 x3 x4).f0.f1) ((rd_T60 x3 x4).f1.f0) ((rd_T60 x3 x4).f1.f1) ((rd_T60 x3 x5).f0.f0) ((rd_T60 x3 x5).f0.f1) ((rd_T60 x3 x5).f1.f0) ((rd_T60 x3 x5).f1.f1)).bind fun t199 => (if t199 = x6 then (impl_IsRing.l1 k x3 x4 x18 x19 x28 (wrap64 (x29 + 1))) else (some false))) else (none)) else (none)) else (none)) else (none))
end
def impl_IsRing.f (k : Nat) (l0 : List (S27)) : Option (Bool) := if (l0.length : Int) < 3 then (impl_IsRing.j0 k l0 true) else (impl_IsRing.j0 k l0 (decide ((l0.length : Int) > 10)))
set_option maxHeartbeats 8000000 in
set_option maxRecDepth 100000 in
theorem impl_IsRing.calls (k : Nat) (A0 : Option Addr) (c0 : Nat) (l0 : List (S27)) (r : Bool) (w : World) (hr0 : Kd.C k27 w A0 l0.length l0) (hc0 : l0.length ≤ c0) (h : impl_IsRing.f k l0 = some r) :
  Calls Try.prog 57 #[.slice A0 l0.length c0] w fun e w' => e = .returned (.bool r) ∧ Below w.heap.size w w' := by
 have hu60 := Try.underlying60
 have HR0 := Aside0.mk hr0
 have HC0 := Aside0.mk hc0
 clear hr0 hc0
 have HB := Aside0.mk (Below.refl w.heap.size w)
 have H : (if (l0.length : Int) < 3 then (impl_IsRing.j0 k l0 true) else (impl_IsRing.j0 k l0 (decide ((l0.length : Int) > 10)))) = some r := h
 clear h
 have HC2 := Aside0.mk H
 clear H
 go_enter Try.func57, Try.ntmps57
 go_upto_region 1 with (fail)
 go_cut [14] (fun v14 wc => ∃ (kq : Nat) (x14_1 : Bool), v14 = .bool x14_1 ∧ Aside0 (impl_IsRing.j0 kq l0 x14_1 = some r) ∧ Aside0 (kq ≤ k) ∧ Aside0 (Below w.heap.size w wc))
 case first =>
  have H := HC2.out
  clear HC2
  by_cases c3 : (l0.length : Int) < 3
  ·
   rw [if_pos c3] at H
   have c3b0 : decide ((l0.length : Int) < 3) = true := decide_eq_true c3
   have c3b1 : decide (l0.length < 3) = true := decide_eq_true (by omega)
   clear c3
   (first | rw [c3b0] | (simp only [i64_w, i32_w]; rw [c3b0]) | skip)
   have H' := Aside0.mk H
   clear H
   go_wp2
   go_meet
   case rel => exact ⟨_, (true), (by first | rfl | (simp; done) | (simp [*]; done)), H', ⟨by first | omega | exact Nat.le_refl _⟩, ⟨Hd.b_⟩⟩
  ·
   rw [if_neg c3] at H
   have c3b0 : decide ((l0.length : Int) < 3) = false := decide_eq_false c3
   have c3b1 : decide (l0.length < 3) = false := decide_eq_false (by omega)
   clear c3
   (first | rw [c3b0] | (simp only [i64_w, i32_w]; rw [c3b0]) | skip)
   have H' := Aside0.mk H
   clear H
   go_wp2
   go_meet
   case rel => exact ⟨_, (decide ((l0.length : Int) > 10)), (by first | rfl | (simp; done) | (simp [*]; done)), H', ⟨by first | omega | exact Nat.le_refl _⟩, ⟨Hd.b_⟩⟩
 case rest =>
  clear HC2
  try clear p2
  try clear c3
  try clear c3b0
  try clear c3b1
  obtain ⟨kq, x14_1, rfl, HA, HJ1, HB⟩ := hcut
  cases kq with
  | zero => exact absurd HA.out (by simp [impl_IsRing.j0])
  | succ kj1 =>
   have H := HA.out
   clear HA
   simp only [impl_IsRing.j0] at H
   by_cases c4 : x14_1 = true
   ·
    subst c4
    have H1 : (some false) = some r := by rw [if_pos rfl] at H; exact H
    clear H
    have H := H1
    clear H1
    obtain rfl := Option.some.inj H
    go_wp2
    go_ret
    exact ⟨Hd.e_, Hd.b_⟩
   ·
    replace c4 := Bool.eq_false_iff.mpr c4
    subst c4
    have H1 : ((impl_around.f kj1 l0).bind fun t189 => (impl_IsRing.l0 kj1 t189 (t189.length : Int) 0)) = some r := by rw [if_neg (show ¬ (false = true) by decide)] at H; exact H
    clear H
    have H := H1
    clear H1
    replace H := Option.bind_eq_some_iff.mp H
    obtain ⟨t189, A50, H⟩ := H
    replace H : (impl_IsRing.l0 kj1 t189 (t189.length : Int) 0) = some r := H
    have A5 := Aside0.mk A50
    clear A50
    have H' := Aside0.mk H
    clear H
    go_wp2_with (first | ((with_reducible refine gate_callee (f := 105) rfl ?_); refine goesL_ (some 16) rfl rfl Try.func105 (by kernel_rfl) rfl #[.slice A0 l0.length c0] rfl Hd.m_ ?_; (with_reducible refine (impl_around.calls kj1 _ _ l0 t189 _ ?side1 ?side2 A5.out).mono ?_); (case side1 => repeat (first | exact (Kd.C_below HR0.out HB.out) | (with_reducible refine Kd.C_alloc ?_ _) | (with_reducible refine Kd.C_drewN ?_ _) | (with_reducible refine Kd.C_drew ?_))); (case side2 => exact HC0.out); rintro e w6 ⟨v190, rfl, ho0, hb⟩; refine ⟨_, rfl, ?_⟩; have HO191 := Aside0.mk (Kd.R_lower ho0 (below_size Hd.b_)); replace HB := Aside0.mk (below_step Hd.b_ hb); (try clear hb); (try clear hb2); (try clear hk); (try clear hi); (try clear ho0); obtain ⟨Ao7, co7, eo7⟩ := Kd.R_slice HO191.out; subst eo7))
    go_loopg [19] kj1 (fun kq v19 w' => ∃ (x19_2 : Int), v19 = .int .i64 x19_2 ∧ Aside0 (impl_IsRing.l0 kq t189 (t189.length : Int) x19_2 = some r) ∧ Aside0 (kq ≤ kj1) ∧ Aside0 (Kd.R k60 60 w' w.heap.size (fun _ => True) (.slice Ao7 t189.length co7) t189) ∧ Aside0 (Below w.heap.size w w'))
    case atStart => exact ⟨(0), (by first | rfl | (simp; done) | (simp [*]; done)), H', ⟨Nat.le_refl _⟩, ⟨by (with_reducible repeat (first | apply Kd.R_alloc | apply Kd.R_drewN | apply Kd.R_drew)); exact HO191.out⟩, ⟨Hd.b_⟩⟩
    case round =>
     clear H'
     try clear c1
     try clear p2
     try clear c3
     try clear c3b0
     try clear c3b1
     try clear c4
     try clear c5
     try clear p2
     obtain ⟨x19_2, rfl, HA, HK2, HO_3, HB⟩ := hrel
     cases gk with
     | zero => exact absurd HA.out (by simp [impl_IsRing.l0])
     | succ k2 =>
      have H := HA.out
      clear HA
      simp only [impl_IsRing.l0] at H
      by_cases c8 : x19_2 < (t189.length : Int)
      ·
       rw [if_pos c8] at H
       have c8b0 : decide (x19_2 < (t189.length : Int)) = true := decide_eq_true c8
       clear c8
       by_cases c9 : 0 ≤ x19_2
       ·
        rw [if_pos c9] at H
        have c9b0 : decide (0 ≤ x19_2) = true := decide_eq_true c9
        clear c9
        by_cases c10 : x19_2 < (t189.length : Int)
        ·
         rw [if_pos c10] at H
         have c10b0 : decide (x19_2 < (t189.length : Int)) = true := decide_eq_true c10
         clear c10
         replace H := Option.bind_eq_some_iff.mp H
         obtain ⟨t193, A110, H⟩ := H
         replace H : (if t193 = true then (impl_IsRing.l1 k2 t189 x19_2 (t189.length : Int) x19_2 x19_2 0) else (some false)) = some r := H
         have A11 := Aside0.mk A110
         clear A110
         by_cases c12 : t193 = true
         ·
          subst c12
          have H1 : (impl_IsRing.l1 k2 t189 x19_2 (t189.length : Int) x19_2 x19_2 0) = some r := by rw [if_pos rfl] at H; exact H
          clear H
          have H := H1
          clear H1
          have H' := Aside0.mk H
          clear H
          have p192 : 0 ≤ (x19_2 : Int) := of_decide_eq_true Hd.a_
          have q192 : x19_2 < (t189.length : Int) := of_decide_eq_true Hd.a_
          obtain ⟨ad192, e192, hx192_0, hx192_1, hx192_2, hx192_3⟩ := at_T60 (Kd.R_reads' HO_3.out).2.2 x19_2 p192 q192
          cases e192
          replace p192 := eq_true p192
          replace q192 := eq_true q192
          go_wp2_with (first | ((with_reducible refine gate_callee (f := 96) rfl ?_); refine goesL_ (some 26) rfl rfl Try.func96 (by kernel_rfl) rfl #[.agg #[.int .i64 ((rd_T60 t189 x19_2).f0.f0), .int .i64 ((rd_T60 t189 x19_2).f0.f1), .int .i64 ((rd_T60 t189 x19_2).f1.f0), .int .i64 ((rd_T60 t189 x19_2).f1.f1)]] rfl Hd.m_ ?_; (with_reducible refine (impl_IsSegment.calls ((rd_T60 t189 x19_2).f0.f0) ((rd_T60 t189 x19_2).f0.f1) ((rd_T60 t189 x19_2).f1.f0) ((rd_T60 t189 x19_2).f1.f1) true _ A11.out).mono ?_); rintro e w13 ⟨rfl, hb⟩; refine ⟨_, rfl, ?_⟩; replace HO_3 := Aside0.mk (Kd.R_below (Hd.r_ HO_3) hb); replace HB := Aside0.mk (below_step Hd.b_ hb); (try clear hb); (try clear hb2); (try clear hk); (try clear hi)))
          go_loopg [29] k2 (fun kq v29 w' => ∃ (x29_3 : Int), v29 = .int .i64 x29_3 ∧ Aside0 (impl_IsRing.l1 kq t189 x19_2 (t189.length : Int) x19_2 x19_2 x29_3 = some r) ∧ Aside0 (kq ≤ k2) ∧ Aside0 (Kd.R k60 60 w' w.heap.size (fun _ => True) (.slice (some ad192) t189.length co7) t189) ∧ Aside0 (Below w.heap.size w w'))
          case atStart => exact ⟨(0), (by first | rfl | (simp; done) | (simp [*]; done)), H', ⟨Nat.le_refl _⟩, ⟨by (with_reducible repeat (first | apply Kd.R_alloc | apply Kd.R_drewN | apply Kd.R_drew)); exact HO_3.out⟩, ⟨Hd.b_⟩⟩
          case round =>
           clear H'
           try clear c1
           try clear p1
           try clear q1
           try clear hx1
           try clear p2
           try clear c3
           try clear c3b0
           try clear c3b1
           try clear c4
           try clear c5
           try clear c8
           try clear c8b0
           try clear c9
           try clear c9b0
           try clear c10
           try clear c10b0
           try clear c12
           try clear hx192_0
           try clear hx192_1
           try clear hx192_2
           try clear hx192_3
           try clear p192
           try clear p2
           try clear q192
           obtain ⟨x29_3, rfl, HA, HK3, HO_3, HB⟩ := hrel
           cases gk with
           | zero => exact absurd HA.out (by simp [impl_IsRing.l1])
           | succ k3 =>
            have H := HA.out
            clear HA
            simp only [impl_IsRing.l1] at H
            by_cases c14 : x29_3 < x19_2
            ·
             rw [if_pos c14] at H
             have c14b0 : decide (x29_3 < x19_2) = true := decide_eq_true c14
             clear c14
             have HC15 := Aside0.mk H
             clear H
             go_upto_region 13 with (fail)
             go_cut [46] (fun v46 wc => ∃ (kq : Nat) (x46_14 : Bool), v46 = .bool x46_14 ∧ Aside0 (impl_IsRing.j3 kq t189 x19_2 x29_3 0 (t189.length : Int) x19_2 x19_2 x29_3 x46_14 = some r) ∧ Aside0 (kq ≤ k3) ∧ Aside0 (Kd.R k60 60 wc w.heap.size (fun _ => True) (.slice (some ad192) t189.length co7) t189) ∧ Aside0 (Below w.heap.size w wc))
             case first =>
              have H := HC15.out
              clear HC15
              by_cases c16 : x29_3 = (wrap64 (x19_2 - 1))
              ·
               rw [if_pos c16] at H
               have c16b0 : (x29_3 == (wrap64 (x19_2 - 1))) = true := beq_iff_eq.mpr c16
               have c16b1 : (x29_3 != (wrap64 (x19_2 - 1))) = false := bne_eq_false_iff_eq.mpr c16
               clear c16
               (first | rw [c16b0] | (simp only [i64_w, i32_w]; rw [c16b0]) | skip)
               have H' := Aside0.mk H
               clear H
               go_wp2
               go_meet
               case rel => exact ⟨_, (true), (by first | rfl | (simp; done) | (simp [*]; done)), H', ⟨by have := HJ1.out; have := HK2.out; have := HK3.out; first | omega | exact Nat.le_refl _⟩, ⟨by (with_reducible repeat (first | apply Kd.R_alloc | apply Kd.R_drewN | apply Kd.R_drew)); exact HO_3.out⟩, ⟨Hd.b_⟩⟩
              ·
               rw [if_neg c16] at H
               have c16b0 : (x29_3 == (wrap64 (x19_2 - 1))) = false := beq_eq_false_iff_ne.mpr c16
               have c16b1 : (x29_3 != (wrap64 (x19_2 - 1))) = true := bne_iff_ne.mpr c16
               (first | rw [c16b0] | (simp only [i64_w, i32_w]; rw [c16b0]) | skip)
               by_cases c17 : x29_3 = 0
               ·
                rw [if_pos c17] at H
                have c17b0 : (x29_3 == 0) = true := beq_iff_eq.mpr c17
                have c17b1 : (x29_3 != 0) = false := bne_eq_false_iff_eq.mpr c17
                clear c17
                have H' := Aside0.mk H
                clear H
                go_wp2
                go_meet
                case rel => exact ⟨_, ((x19_2 == (wrap64 ((t189.length : Int) - 1)))), (by first | rfl | (simp; done) | (simp [*]; done)), H', ⟨by have := HJ1.out; have := HK2.out; have := HK3.out; first | omega | exact Nat.le_refl _⟩, ⟨by (with_reducible repeat (first | apply Kd.R_alloc | apply Kd.R_drewN | apply Kd.R_drew)); exact HO_3.out⟩, ⟨Hd.b_⟩⟩
               ·
                rw [if_neg c17] at H
                have c17b0 : (x29_3 == 0) = false := beq_eq_false_iff_ne.mpr c17
                have c17b1 : (x29_3 != 0) = true := bne_iff_ne.mpr c17
                have H' := Aside0.mk H
                clear H
                go_wp2
                go_meet
                case rel => exact ⟨_, (false), (by first | rfl | (simp; done) | (simp [*]; done)), H', ⟨by have := HJ1.out; have := HK2.out; have := HK3.out; first | omega | exact Nat.le_refl _⟩, ⟨by (with_reducible repeat (first | apply Kd.R_alloc | apply Kd.R_drewN | apply Kd.R_drew)); exact HO_3.out⟩, ⟨Hd.b_⟩⟩
             case rest =>
              clear HC15
              try clear c1
              try clear p1
              try clear q1
              try clear hx1
              try clear p2
              try clear c3
              try clear c3b0
              try clear c3b1
              try clear c4
              try clear c5
              try clear p6
              try clear c8
              try clear c8b0
              try clear c9
              try clear c9b0
              try clear c10
              try clear c10b0
              try clear c12
              try clear c14
              try clear c14b0
              try clear c16
              try clear c16b0
              try clear c16b1
              try clear c17
              try clear c17b0
              try clear c17b1
              try clear hx192_0
              try clear hx192_1
              try clear hx192_2
              try clear hx192_3
              try clear p1
              try clear p192
              try clear p2
              try clear q1
              try clear q192
              obtain ⟨kq, x46_14, rfl, HA, HJ14, HO_3, HB⟩ := hcut
              cases kq with
              | zero => exact absurd HA.out (by simp [impl_IsRing.j3])
              | succ kj14 =>
               have H := HA.out
               clear HA
               simp only [impl_IsRing.j3] at H
               by_cases c18 : x46_14 = true
               ·
                subst c18
                have H1 : (if 0 ≤ x19_2 then (if x19_2 < (t189.length : Int) then (if 0 ≤ x29_3 then (if x29_3 < (t189.length : Int) then ((impl_HowMeet.f kj14 ((rd_T60 t189 x19_2).f0.f0) ((rd_T60 t189 x19_2).f0.f1) ((rd_T60 t189 x19_2).f1.f0) ((rd_T60 t189 x19_2).f1.f1) ((rd_T60 t189 x29_3).f0.f0) ((rd_T60 t189 x29_3).f0.f1) ((rd_T60 t189 x29_3).f1.f0) ((rd_T60 t189 x29_3).f1.f1)).bind fun t196 => (if t196 = 1 then (impl_IsRing.l1 kj14 t189 x19_2 (t189.length : Int) x19_2 x19_2 (wrap64 (x29_3 + 1))) else (some false))) else (none)) else (none)) else (none)) else (none)) = some r := by rw [if_pos rfl] at H; exact H
                clear H
                have H := H1
                clear H1
                by_cases c19 : 0 ≤ x19_2
                ·
                 rw [if_pos c19] at H
                 have c19b0 : decide (0 ≤ x19_2) = true := decide_eq_true c19
                 clear c19
                 by_cases c20 : x19_2 < (t189.length : Int)
                 ·
                  rw [if_pos c20] at H
                  have c20b0 : decide (x19_2 < (t189.length : Int)) = true := decide_eq_true c20
                  clear c20
                  by_cases c21 : 0 ≤ x29_3
                  ·
                   rw [if_pos c21] at H
                   have c21b0 : decide (0 ≤ x29_3) = true := decide_eq_true c21
                   clear c21
                   by_cases c22 : x29_3 < (t189.length : Int)
                   ·
                    rw [if_pos c22] at H
                    have c22b0 : decide (x29_3 < (t189.length : Int)) = true := decide_eq_true c22
                    clear c22
                    replace H := Option.bind_eq_some_iff.mp H
                    obtain ⟨t196, A230, H⟩ := H
                    replace H : (if t196 = 1 then (impl_IsRing.l1 kj14 t189 x19_2 (t189.length : Int) x19_2 x19_2 (wrap64 (x29_3 + 1))) else (some false)) = some r := H
                    have A23 := Aside0.mk A230
                    clear A230
                    by_cases c24 : t196 = 1
                    ·
                     rw [if_pos c24] at H
                     have c24b0 : (t196 == 1) = true := beq_iff_eq.mpr c24
                     have c24b1 : (t196 != 1) = false := bne_eq_false_iff_eq.mpr c24
                     clear c24
                     have H' := Aside0.mk H
                     clear H
                     try go_wp2
                     replace HO_3 := Aside0.mk (Kd.R_drew HO_3.out)
                     replace HB := Aside0.mk (below_drew1 HB.out)
                     have p194 : 0 ≤ (x19_2 : Int) := of_decide_eq_true Hd.a_
                     have q194 : x19_2 < (t189.length : Int) := of_decide_eq_true Hd.a_
                     obtain ⟨ad194, e194, hx194_0, hx194_1, hx194_2, hx194_3⟩ := at_T60 (Kd.R_reads' HO_3.out).2.2 x19_2 p194 q194
                     obtain rfl : ad192 = ad194 := (by injection e194)
                     replace p194 := eq_true p194
                     replace q194 := eq_true q194
                     have p195 : 0 ≤ (x29_3 : Int) := of_decide_eq_true Hd.a_
                     have q195 : x29_3 < (t189.length : Int) := of_decide_eq_true Hd.a_
                     obtain ⟨ad195, e195, hx195_0, hx195_1, hx195_2, hx195_3⟩ := at_T60 (Kd.R_reads' HO_3.out).2.2 x29_3 p195 q195
                     obtain rfl : ad192 = ad195 := (by injection e195)
                     replace p195 := eq_true p195
                     replace q195 := eq_true q195
                     have s0_ := Hd.HW.x (W0 := wc.drew) hx194_0
                     have s1_ := Hd.HW.x (W0 := wc.drew) hx194_1
                     have s2_ := Hd.HW.x (W0 := wc.drew) hx194_2
                     have s3_ := Hd.HW.x (W0 := wc.drew) hx194_3
                     have s4_ := Hd.HW.x (W0 := wc.drew) hx195_0
                     have s5_ := Hd.HW.x (W0 := wc.drew) hx195_1
                     have s6_ := Hd.HW.x (W0 := wc.drew) hx195_2
                     have s7_ := Hd.HW.x (W0 := wc.drew) hx195_3
                     refine Hd.HW.region (by kernel_rfl) (by kernel_rfl) ?_
                     repeat (go_big_quiet_step ((first | (go_at_call 106; with_reducible exact Hd.HW.c (impl_HowMeet.calls kj14 ((rd_T60 t189 x19_2).f0.f0) ((rd_T60 t189 x19_2).f0.f1) ((rd_T60 t189 x19_2).f1.f0) ((rd_T60 t189 x19_2).f1.f1) ((rd_T60 t189 x29_3).f0.f0) ((rd_T60 t189 x29_3).f0.f1) ((rd_T60 t189 x29_3).f1.f0) ((rd_T60 t189 x29_3).f1.f1) t196 _ A23.out)))))
                     refine wpQuiet_nil ?_
                     intro _ hq_
                     obtain ⟨q_, rfl⟩ := hq_
                     clear s0_ s1_ s2_ s3_ s4_ s5_ s6_ s7_
                     replace HO_3 := Aside0.mk (Kd.R_below HO_3.out q_.b)
                     replace HB := Aside0.mk (below_step HB.out q_.b)
                     replace hx194_0 := q_.cell hx194_0
                     replace hx194_1 := q_.cell hx194_1
                     replace hx194_2 := q_.cell hx194_2
                     replace hx194_3 := q_.cell hx194_3
                     replace hx195_0 := q_.cell hx195_0
                     replace hx195_1 := q_.cell hx195_1
                     replace hx195_2 := q_.cell hx195_2
                     replace hx195_3 := q_.cell hx195_3
                     generalize q_.W = w26 at HO_3 HB hx194_0 hx194_1 hx194_2 hx194_3 hx195_0 hx195_1 hx195_2 hx195_3 ⊢
                     try simp only [i64_w, i32_w]
                     try go_wp2
                     go_roundg kj14
                     case measure => have := HJ1.out; have := HK2.out; have := HK3.out; have := HJ14.out; omega
                     case rel => exact ⟨(wrap64 (x29_3 + 1)), (by first | rfl | (simp; done) | (simp [*]; done)), H', ⟨by have := HJ1.out; have := HK2.out; have := HK3.out; have := HJ14.out; omega⟩, ⟨by (with_reducible repeat (first | apply Kd.R_alloc | apply Kd.R_drewN | apply Kd.R_drew)); exact HO_3.out⟩, ⟨Hd.b_⟩⟩
                    ·
                     rw [if_neg c24] at H
                     have c24b0 : (t196 == 1) = false := beq_eq_false_iff_ne.mpr c24
                     have c24b1 : (t196 != 1) = true := bne_iff_ne.mpr c24
                     obtain rfl := Option.some.inj H
                     try go_wp2
                     replace HO_3 := Aside0.mk (Kd.R_drew HO_3.out)
                     replace HB := Aside0.mk (below_drew1 HB.out)
                     have p194 : 0 ≤ (x19_2 : Int) := of_decide_eq_true Hd.a_
                     have q194 : x19_2 < (t189.length : Int) := of_decide_eq_true Hd.a_
                     obtain ⟨ad194, e194, hx194_0, hx194_1, hx194_2, hx194_3⟩ := at_T60 (Kd.R_reads' HO_3.out).2.2 x19_2 p194 q194
                     obtain rfl : ad192 = ad194 := (by injection e194)
                     replace p194 := eq_true p194
                     replace q194 := eq_true q194
                     have p195 : 0 ≤ (x29_3 : Int) := of_decide_eq_true Hd.a_
                     have q195 : x29_3 < (t189.length : Int) := of_decide_eq_true Hd.a_
                     obtain ⟨ad195, e195, hx195_0, hx195_1, hx195_2, hx195_3⟩ := at_T60 (Kd.R_reads' HO_3.out).2.2 x29_3 p195 q195
                     obtain rfl : ad192 = ad195 := (by injection e195)
                     replace p195 := eq_true p195
                     replace q195 := eq_true q195
                     have s0_ := Hd.HW.x (W0 := wc.drew) hx194_0
                     have s1_ := Hd.HW.x (W0 := wc.drew) hx194_1
                     have s2_ := Hd.HW.x (W0 := wc.drew) hx194_2
                     have s3_ := Hd.HW.x (W0 := wc.drew) hx194_3
                     have s4_ := Hd.HW.x (W0 := wc.drew) hx195_0
                     have s5_ := Hd.HW.x (W0 := wc.drew) hx195_1
                     have s6_ := Hd.HW.x (W0 := wc.drew) hx195_2
                     have s7_ := Hd.HW.x (W0 := wc.drew) hx195_3
                     refine Hd.HW.region (by kernel_rfl) (by kernel_rfl) ?_
                     repeat (go_big_quiet_step ((first | (go_at_call 106; with_reducible exact Hd.HW.c (impl_HowMeet.calls kj14 ((rd_T60 t189 x19_2).f0.f0) ((rd_T60 t189 x19_2).f0.f1) ((rd_T60 t189 x19_2).f1.f0) ((rd_T60 t189 x19_2).f1.f1) ((rd_T60 t189 x29_3).f0.f0) ((rd_T60 t189 x29_3).f0.f1) ((rd_T60 t189 x29_3).f1.f0) ((rd_T60 t189 x29_3).f1.f1) t196 _ A23.out)))))
                     refine wpQuiet_nil ?_
                     intro _ hq_
                     obtain ⟨q_, rfl⟩ := hq_
                     clear s0_ s1_ s2_ s3_ s4_ s5_ s6_ s7_
                     replace HO_3 := Aside0.mk (Kd.R_below HO_3.out q_.b)
                     replace HB := Aside0.mk (below_step HB.out q_.b)
                     replace hx194_0 := q_.cell hx194_0
                     replace hx194_1 := q_.cell hx194_1
                     replace hx194_2 := q_.cell hx194_2
                     replace hx194_3 := q_.cell hx194_3
                     replace hx195_0 := q_.cell hx195_0
                     replace hx195_1 := q_.cell hx195_1
                     replace hx195_2 := q_.cell hx195_2
                     replace hx195_3 := q_.cell hx195_3
                     generalize q_.W = w28 at HO_3 HB hx194_0 hx194_1 hx194_2 hx194_3 hx195_0 hx195_1 hx195_2 hx195_3 ⊢
                     try simp only [i64_w, i32_w]
                     try go_wp2
                     go_ret
                     exact ⟨Hd.e_, Hd.b_⟩
                   ·
                    rw [if_neg c22] at H
                    exact absurd H (by simp)
                  ·
                   rw [if_neg c21] at H
                   exact absurd H (by simp)
                 ·
                  rw [if_neg c20] at H
                  exact absurd H (by simp)
                ·
                 rw [if_neg c19] at H
                 exact absurd H (by simp)
               ·
                replace c18 := Bool.eq_false_iff.mpr c18
                subst c18
                have H1 : (if 0 ≤ x19_2 then (if x19_2 < (t189.length : Int) then (if 0 ≤ x29_3 then (if x29_3 < (t189.length : Int) then ((impl_HowMeet.f kj14 ((rd_T60 t189 x19_2).f0.f0) ((rd_T60 t189 x19_2).f0.f1) ((rd_T60 t189 x19_2).f1.f0) ((rd_T60 t189 x19_2).f1.f1) ((rd_T60 t189 x29_3).f0.f0) ((rd_T60 t189 x29_3).f0.f1) ((rd_T60 t189 x29_3).f1.f0) ((rd_T60 t189 x29_3).f1.f1)).bind fun t199 => (if t199 = 0 then (impl_IsRing.l1 kj14 t189 x19_2 (t189.length : Int) x19_2 x19_2 (wrap64 (x29_3 + 1))) else (some false))) else (none)) else (none)) else (none)) else (none)) = some r := by rw [if_neg (show ¬ (false = true) by decide)] at H; exact H
                clear H
                have H := H1
                clear H1
                by_cases c29 : 0 ≤ x19_2
                ·
                 rw [if_pos c29] at H
                 have c29b0 : decide (0 ≤ x19_2) = true := decide_eq_true c29
                 clear c29
                 by_cases c30 : x19_2 < (t189.length : Int)
                 ·
                  rw [if_pos c30] at H
                  have c30b0 : decide (x19_2 < (t189.length : Int)) = true := decide_eq_true c30
                  clear c30
                  by_cases c31 : 0 ≤ x29_3
                  ·
                   rw [if_pos c31] at H
                   have c31b0 : decide (0 ≤ x29_3) = true := decide_eq_true c31
                   clear c31
                   by_cases c32 : x29_3 < (t189.length : Int)
                   ·
                    rw [if_pos c32] at H
                    have c32b0 : decide (x29_3 < (t189.length : Int)) = true := decide_eq_true c32
                    clear c32
                    replace H := Option.bind_eq_some_iff.mp H
                    obtain ⟨t199, A330, H⟩ := H
                    replace H : (if t199 = 0 then (impl_IsRing.l1 kj14 t189 x19_2 (t189.length : Int) x19_2 x19_2 (wrap64 (x29_3 + 1))) else (some false)) = some r := H
                    have A33 := Aside0.mk A330
                    clear A330
                    by_cases c34 : t199 = 0
                    ·
                     rw [if_pos c34] at H
                     have c34b0 : (t199 == 0) = true := beq_iff_eq.mpr c34
                     have c34b1 : (t199 != 0) = false := bne_eq_false_iff_eq.mpr c34
                     clear c34
                     have H' := Aside0.mk H
                     clear H
                     try go_wp2
                     replace HO_3 := Aside0.mk (Kd.R_drew HO_3.out)
                     replace HB := Aside0.mk (below_drew1 HB.out)
                     have p197 : 0 ≤ (x19_2 : Int) := of_decide_eq_true Hd.a_
                     have q197 : x19_2 < (t189.length : Int) := of_decide_eq_true Hd.a_
                     obtain ⟨ad197, e197, hx197_0, hx197_1, hx197_2, hx197_3⟩ := at_T60 (Kd.R_reads' HO_3.out).2.2 x19_2 p197 q197
                     obtain rfl : ad192 = ad197 := (by injection e197)
                     replace p197 := eq_true p197
                     replace q197 := eq_true q197
                     have p198 : 0 ≤ (x29_3 : Int) := of_decide_eq_true Hd.a_
                     have q198 : x29_3 < (t189.length : Int) := of_decide_eq_true Hd.a_
                     obtain ⟨ad198, e198, hx198_0, hx198_1, hx198_2, hx198_3⟩ := at_T60 (Kd.R_reads' HO_3.out).2.2 x29_3 p198 q198
                     obtain rfl : ad192 = ad198 := (by injection e198)
                     replace p198 := eq_true p198
                     replace q198 := eq_true q198
                     have s0_ := Hd.HW.x (W0 := wc.drew) hx197_0
                     have s1_ := Hd.HW.x (W0 := wc.drew) hx197_1
                     have s2_ := Hd.HW.x (W0 := wc.drew) hx197_2
                     have s3_ := Hd.HW.x (W0 := wc.drew) hx197_3
                     have s4_ := Hd.HW.x (W0 := wc.drew) hx198_0
                     have s5_ := Hd.HW.x (W0 := wc.drew) hx198_1
                     have s6_ := Hd.HW.x (W0 := wc.drew) hx198_2
                     have s7_ := Hd.HW.x (W0 := wc.drew) hx198_3
                     refine Hd.HW.region (by kernel_rfl) (by kernel_rfl) ?_
                     repeat (go_big_quiet_step ((first | (go_at_call 106; with_reducible exact Hd.HW.c (impl_HowMeet.calls kj14 ((rd_T60 t189 x19_2).f0.f0) ((rd_T60 t189 x19_2).f0.f1) ((rd_T60 t189 x19_2).f1.f0) ((rd_T60 t189 x19_2).f1.f1) ((rd_T60 t189 x29_3).f0.f0) ((rd_T60 t189 x29_3).f0.f1) ((rd_T60 t189 x29_3).f1.f0) ((rd_T60 t189 x29_3).f1.f1) t199 _ A33.out)))))
                     refine wpQuiet_nil ?_
                     intro _ hq_
                     obtain ⟨q_, rfl⟩ := hq_
                     clear s0_ s1_ s2_ s3_ s4_ s5_ s6_ s7_
                     replace HO_3 := Aside0.mk (Kd.R_below HO_3.out q_.b)
                     replace HB := Aside0.mk (below_step HB.out q_.b)
                     replace hx197_0 := q_.cell hx197_0
                     replace hx197_1 := q_.cell hx197_1
                     replace hx197_2 := q_.cell hx197_2
                     replace hx197_3 := q_.cell hx197_3
                     replace hx198_0 := q_.cell hx198_0
                     replace hx198_1 := q_.cell hx198_1
                     replace hx198_2 := q_.cell hx198_2
                     replace hx198_3 := q_.cell hx198_3
                     generalize q_.W = w36 at HO_3 HB hx197_0 hx197_1 hx197_2 hx197_3 hx198_0 hx198_1 hx198_2 hx198_3 ⊢
                     try simp only [i64_w, i32_w]
                     try go_wp2
                     go_roundg kj14
                     case measure => have := HJ1.out; have := HK2.out; have := HK3.out; have := HJ14.out; omega
                     case rel => exact ⟨(wrap64 (x29_3 + 1)), (by first | rfl | (simp; done) | (simp [*]; done)), H', ⟨by have := HJ1.out; have := HK2.out; have := HK3.out; have := HJ14.out; omega⟩, ⟨by (with_reducible repeat (first | apply Kd.R_alloc | apply Kd.R_drewN | apply Kd.R_drew)); exact HO_3.out⟩, ⟨Hd.b_⟩⟩
                    ·
                     rw [if_neg c34] at H
                     have c34b0 : (t199 == 0) = false := beq_eq_false_iff_ne.mpr c34
                     have c34b1 : (t199 != 0) = true := bne_iff_ne.mpr c34
                     obtain rfl := Option.some.inj H
                     try go_wp2
                     replace HO_3 := Aside0.mk (Kd.R_drew HO_3.out)
                     replace HB := Aside0.mk (below_drew1 HB.out)
                     have p197 : 0 ≤ (x19_2 : Int) := of_decide_eq_true Hd.a_
                     have q197 : x19_2 < (t189.length : Int) := of_decide_eq_true Hd.a_
                     obtain ⟨ad197, e197, hx197_0, hx197_1, hx197_2, hx197_3⟩ := at_T60 (Kd.R_reads' HO_3.out).2.2 x19_2 p197 q197
                     obtain rfl : ad192 = ad197 := (by injection e197)
                     replace p197 := eq_true p197
                     replace q197 := eq_true q197
                     have p198 : 0 ≤ (x29_3 : Int) := of_decide_eq_true Hd.a_
                     have q198 : x29_3 < (t189.length : Int) := of_decide_eq_true Hd.a_
                     obtain ⟨ad198, e198, hx198_0, hx198_1, hx198_2, hx198_3⟩ := at_T60 (Kd.R_reads' HO_3.out).2.2 x29_3 p198 q198
                     obtain rfl : ad192 = ad198 := (by injection e198)
                     replace p198 := eq_true p198
                     replace q198 := eq_true q198
                     have s0_ := Hd.HW.x (W0 := wc.drew) hx197_0
                     have s1_ := Hd.HW.x (W0 := wc.drew) hx197_1
                     have s2_ := Hd.HW.x (W0 := wc.drew) hx197_2
                     have s3_ := Hd.HW.x (W0 := wc.drew) hx197_3
                     have s4_ := Hd.HW.x (W0 := wc.drew) hx198_0
                     have s5_ := Hd.HW.x (W0 := wc.drew) hx198_1
                     have s6_ := Hd.HW.x (W0 := wc.drew) hx198_2
                     have s7_ := Hd.HW.x (W0 := wc.drew) hx198_3
                     refine Hd.HW.region (by kernel_rfl) (by kernel_rfl) ?_
                     repeat (go_big_quiet_step ((first | (go_at_call 106; with_reducible exact Hd.HW.c (impl_HowMeet.calls kj14 ((rd_T60 t189 x19_2).f0.f0) ((rd_T60 t189 x19_2).f0.f1) ((rd_T60 t189 x19_2).f1.f0) ((rd_T60 t189 x19_2).f1.f1) ((rd_T60 t189 x29_3).f0.f0) ((rd_T60 t189 x29_3).f0.f1) ((rd_T60 t189 x29_3).f1.f0) ((rd_T60 t189 x29_3).f1.f1) t199 _ A33.out)))))
                     refine wpQuiet_nil ?_
                     intro _ hq_
                     obtain ⟨q_, rfl⟩ := hq_
                     clear s0_ s1_ s2_ s3_ s4_ s5_ s6_ s7_
                     replace HO_3 := Aside0.mk (Kd.R_below HO_3.out q_.b)
                     replace HB := Aside0.mk (below_step HB.out q_.b)
                     replace hx197_0 := q_.cell hx197_0
                     replace hx197_1 := q_.cell hx197_1
                     replace hx197_2 := q_.cell hx197_2
                     replace hx197_3 := q_.cell hx197_3
                     replace hx198_0 := q_.cell hx198_0
                     replace hx198_1 := q_.cell hx198_1
                     replace hx198_2 := q_.cell hx198_2
                     replace hx198_3 := q_.cell hx198_3
                     generalize q_.W = w38 at HO_3 HB hx197_0 hx197_1 hx197_2 hx197_3 hx198_0 hx198_1 hx198_2 hx198_3 ⊢
                     try simp only [i64_w, i32_w]
                     try go_wp2
                     go_ret
                     exact ⟨Hd.e_, Hd.b_⟩
                   ·
                    rw [if_neg c32] at H
                    exact absurd H (by simp)
                  ·
                   rw [if_neg c31] at H
                   exact absurd H (by simp)
                 ·
                  rw [if_neg c30] at H
                  exact absurd H (by simp)
                ·
                 rw [if_neg c29] at H
                 exact absurd H (by simp)
            ·
             rw [if_neg c14] at H
             have c14b0 : decide (x29_3 < x19_2) = false := decide_eq_false c14
             clear c14
             have H' := Aside0.mk H
             clear H
             go_wp2
             go_roundg k3
             case measure => have := HJ1.out; have := HK2.out; have := HK3.out; omega
             case rel => exact ⟨(wrap64 (x19_2 + 1)), (by first | rfl | (simp; done) | (simp [*]; done)), H', ⟨by have := HJ1.out; have := HK2.out; have := HK3.out; omega⟩, ⟨by (with_reducible repeat (first | apply Kd.R_alloc | apply Kd.R_drewN | apply Kd.R_drew)); exact HO_3.out⟩, ⟨Hd.b_⟩⟩
         ·
          replace c12 := Bool.eq_false_iff.mpr c12
          subst c12
          have H1 : (some false) = some r := by rw [if_neg (show ¬ (false = true) by decide)] at H; exact H
          clear H
          have H := H1
          clear H1
          obtain rfl := Option.some.inj H
          have p192 : 0 ≤ (x19_2 : Int) := of_decide_eq_true Hd.a_
          have q192 : x19_2 < (t189.length : Int) := of_decide_eq_true Hd.a_
          obtain ⟨ad192, e192, hx192_0, hx192_1, hx192_2, hx192_3⟩ := at_T60 (Kd.R_reads' HO_3.out).2.2 x19_2 p192 q192
          cases e192
          replace p192 := eq_true p192
          replace q192 := eq_true q192
          go_wp2_with (first | ((with_reducible refine gate_callee (f := 96) rfl ?_); refine goesL_ (some 26) rfl rfl Try.func96 (by kernel_rfl) rfl #[.agg #[.int .i64 ((rd_T60 t189 x19_2).f0.f0), .int .i64 ((rd_T60 t189 x19_2).f0.f1), .int .i64 ((rd_T60 t189 x19_2).f1.f0), .int .i64 ((rd_T60 t189 x19_2).f1.f1)]] rfl Hd.m_ ?_; (with_reducible refine (impl_IsSegment.calls ((rd_T60 t189 x19_2).f0.f0) ((rd_T60 t189 x19_2).f0.f1) ((rd_T60 t189 x19_2).f1.f0) ((rd_T60 t189 x19_2).f1.f1) false _ A11.out).mono ?_); rintro e w39 ⟨rfl, hb⟩; refine ⟨_, rfl, ?_⟩; replace HO_3 := Aside0.mk (Kd.R_below (Hd.r_ HO_3) hb); replace HB := Aside0.mk (below_step Hd.b_ hb); (try clear hb); (try clear hb2); (try clear hk); (try clear hi)))
          go_ret
          exact ⟨Hd.e_, Hd.b_⟩
        ·
         rw [if_neg c10] at H
         exact absurd H (by simp)
       ·
        rw [if_neg c9] at H
        exact absurd H (by simp)
      ·
       rw [if_neg c8] at H
       have c8b0 : decide (x19_2 < (t189.length : Int)) = false := decide_eq_false c8
       clear c8
       obtain rfl := Option.some.inj H
       go_wp2
       go_ret
       exact ⟨Hd.e_, Hd.b_⟩
def impl_RingSegments.f (k : Nat) (l0 : List (S27)) : Option ((List (S60))) := (impl_IsRing.f k l0).bind fun t200 => (if t200 = true then ((impl_around.f k l0).bind fun t201 => (some t201)) else (some (([] : List (S60)))))
set_option maxHeartbeats 8000000 in
set_option maxRecDepth 100000 in
theorem impl_RingSegments.calls (k : Nat) (A0 : Option Addr) (c0 : Nat) (l0 : List (S27)) (r : List (S60)) (w : World) (hr0 : Kd.C k27 w A0 l0.length l0) (hc0 : l0.length ≤ c0) (h : impl_RingSegments.f k l0 = some r) :
  Calls Try.prog 64 #[.slice A0 l0.length c0] w fun e w' => ∃ v0_ : Value, e = .returned (v0_) ∧ Kd.R k60 60 w' w.heap.size (fun _ => True) v0_ r ∧ Below w.heap.size w w' := by
 have HR0 := Aside0.mk hr0
 have HC0 := Aside0.mk hc0
 clear hr0 hc0
 have HB := Aside0.mk (Below.refl w.heap.size w)
 have H : ((impl_IsRing.f k l0).bind fun t200 => (if t200 = true then ((impl_around.f k l0).bind fun t201 => (some t201)) else (some (([] : List (S60)))))) = some r := h
 clear h
 replace H := Option.bind_eq_some_iff.mp H
 obtain ⟨t200, A20, H⟩ := H
 replace H : (if t200 = true then ((impl_around.f k l0).bind fun t201 => (some t201)) else (some (([] : List (S60))))) = some r := H
 have A2 := Aside0.mk A20
 clear A20
 by_cases c3 : t200 = true
 ·
  subst c3
  have H1 : ((impl_around.f k l0).bind fun t201 => (some t201)) = some r := by rw [if_pos rfl] at H; exact H
  clear H
  have H := H1
  clear H1
  replace H := Option.bind_eq_some_iff.mp H
  obtain ⟨t201, A40, H⟩ := H
  replace H : (some t201) = some r := H
  have A4 := Aside0.mk A40
  clear A40
  obtain rfl := Option.some.inj H
  go_enter Try.func64, Try.ntmps64
  go_wp2_with (first | ((with_reducible refine gate_callee (f := 57) rfl ?_); refine goesL_ (some 4) rfl rfl Try.func57 (by kernel_rfl) rfl #[.slice A0 l0.length c0] rfl Hd.m_ ?_; (with_reducible refine (impl_IsRing.calls k _ _ l0 true _ ?side1 ?side2 A2.out).mono ?_); (case side1 => repeat (first | exact HR0.out | (with_reducible refine Kd.C_alloc ?_ _) | (with_reducible refine Kd.C_drewN ?_ _) | (with_reducible refine Kd.C_drew ?_))); (case side2 => exact HC0.out); rintro e w5 ⟨rfl, hb⟩; refine ⟨_, rfl, ?_⟩; replace HB := Aside0.mk (below_step Hd.b_ hb); (try clear hb); (try clear hb2); (try clear hk); (try clear hi)) | ((with_reducible refine gate_callee (f := 105) rfl ?_); refine goesL_ (some 8) rfl rfl Try.func105 (by kernel_rfl) rfl #[.slice A0 l0.length c0] rfl Hd.m_ ?_; (with_reducible refine (impl_around.calls k _ _ l0 t201 _ ?side1 ?side2 A4.out).mono ?_); (case side1 => repeat (first | exact (Kd.C_below HR0.out HB.out) | (with_reducible refine Kd.C_alloc ?_ _) | (with_reducible refine Kd.C_drewN ?_ _) | (with_reducible refine Kd.C_drew ?_))); (case side2 => exact HC0.out); rintro e w6 ⟨v202, rfl, ho0, hb⟩; refine ⟨_, rfl, ?_⟩; have HO203 := Aside0.mk (Kd.R_lower ho0 (below_size Hd.b_)); replace HB := Aside0.mk (below_step Hd.b_ hb); (try clear hb); (try clear hb2); (try clear hk); (try clear hi); (try clear ho0)))
  go_ret
  exact ⟨_, Hd.e_, by (with_reducible repeat (first | apply Kd.R_alloc | apply Kd.R_drewN | apply Kd.R_drew)); exact HO203.out, Hd.b_⟩
 ·
  replace c3 := Bool.eq_false_iff.mpr c3
  subst c3
  have H1 : (some (([] : List (S60)))) = some r := by rw [if_neg (show ¬ (false = true) by decide)] at H; exact H
  clear H
  have H := H1
  clear H1
  obtain ⟨y204, hy204⟩ : ∃ y_ : List (S60), y_ = (([] : List (S60))) := ⟨_, rfl⟩
  replace H : (some y204) = some r := by first | (rw [hy204]; with_reducible exact H) | (have H2_ := (Option.bind_some _ _).symm.trans H; rw [hy204]; with_reducible exact H2_) | (have H2_ := (Option.bind_some _ _).symm.trans H; with_reducible exact H2_) | with_reducible exact H | (rw [hy204]; exact H) | exact H
  have Ny204 := Aside0.mk hy204
  clear hy204
  obtain rfl := Option.some.inj H
  go_enter Try.func64, Try.ntmps64
  go_wp2_with (first | ((with_reducible refine gate_callee (f := 57) rfl ?_); refine goesL_ (some 4) rfl rfl Try.func57 (by kernel_rfl) rfl #[.slice A0 l0.length c0] rfl Hd.m_ ?_; (with_reducible refine (impl_IsRing.calls k _ _ l0 false _ ?side1 ?side2 A2.out).mono ?_); (case side1 => repeat (first | exact HR0.out | (with_reducible refine Kd.C_alloc ?_ _) | (with_reducible refine Kd.C_drewN ?_ _) | (with_reducible refine Kd.C_drew ?_))); (case side2 => exact HC0.out); rintro e w7 ⟨rfl, hb⟩; refine ⟨_, rfl, ?_⟩; replace HB := Aside0.mk (below_step Hd.b_ hb); (try clear hb); (try clear hb2); (try clear hk); (try clear hi)) | ((with_reducible refine gate_dst (N := 6) rfl ?_); refine Kd.R_lit k60 _ 60 ?hg (N := 6) ?hd (xs := ([] : List (S60))) (inner := []) (ok := fun _ => True) (okp := fun _ => True) ?hr ?hp (fun _ hk => hk) trivial (Below.refl _ _) (Nat.le_refl _) (by simp) ?_; (case hd => rfl); (case hg => rfl); (case hr => first | (go_simp; done) | (go_simp; rfl)); (case hp => exact (Reps.none _ _)); intro v205 w8 ho9 hb hg_ hnew_; clear hg_ hnew_; (first | rw [← Ny204.out] at ho9 | (simp only [Int.reduceToNat] at ho9; rw [← Ny204.out] at ho9)); have HO206 := Aside0.mk (Kd.R_lower ho9 (below_size Hd.b_)); replace HB := Aside0.mk (below_step Hd.b_ hb); clear hb ho9))
  go_ret
  exact ⟨_, Hd.e_, by (with_reducible repeat (first | apply Kd.R_alloc | apply Kd.R_drewN | apply Kd.R_drew)); exact HO206.out, Hd.b_⟩
def spec_l1In.f (a0 : Int) (a1 : Int) (a2 : Int) : Option (Bool) := if a0 ≥ a1 then (some (decide (a0 ≤ a2))) else (some false)
set_option maxHeartbeats 8000000 in
set_option maxRecDepth 100000 in
theorem spec_l1In.calls (a0 : Int) (a1 : Int) (a2 : Int) (r : Bool) (w : World) (h : spec_l1In.f a0 a1 a2 = some r) :
  Calls Try.prog 88 #[.int .i64 a0, .int .i64 a1, .int .i64 a2] w fun e w' => e = .returned (.bool r) ∧ Drawn0 w w' := by
 have H : (if a0 ≥ a1 then (some (decide (a0 ≤ a2))) else (some false)) = some r := h
 clear h
 by_cases c4 : a0 ≥ a1
 ·
  rw [if_pos c4] at H
  have c4b0 : decide (a1 ≤ a0) = true := decide_eq_true c4
  clear c4
  obtain rfl := Option.some.inj H
  go_enter Try.func88, Try.ntmps88
  go_wp2
  go_ret
  exact ⟨by first | rfl | (simp; done) | (simp [*]; done), by repeat (first | exact Drawn0.refl _ | apply Drawn0.step)⟩
 ·
  rw [if_neg c4] at H
  have c4b0 : decide (a1 ≤ a0) = false := decide_eq_false c4
  clear c4
  obtain rfl := Option.some.inj H
  go_enter Try.func88, Try.ntmps88
  go_wp2
  go_ret
  exact ⟨by first | rfl | (simp; done) | (simp [*]; done), by repeat (first | exact Drawn0.refl _ | apply Drawn0.step)⟩
def spec_l7Segments.l0 : Nat → List (S27) → List (S60) → Int → Option ((List (S60)))
 | 0, _, _, _ => none
 | k + 1, x0, x3, x4 => if x4 < (x0.length : Int) then (if 0 ≤ x4 then (if (x0.length : Int) = 0 then (none) else (if 0 ≤ (Int.tmod (wrap64 (x4 + 1)) (x0.length : Int)) then (if (Int.tmod (wrap64 (x4 + 1)) (x0.length : Int)) < (x0.length : Int) then (if x3.length < 4398046511104 then (spec_l7Segments.l0 k x0 (x3 ++ [(⟨(⟨(rd_T27 x0 x4).f0, (rd_T27 x0 x4).f1⟩ : S27), (⟨(rd_T27 x0 (Int.tmod (wrap64 (x4 + 1)) (x0.length : Int))).f0, (rd_T27 x0 (Int.tmod (wrap64 (x4 + 1)) (x0.length : Int))).f1⟩ : S27)⟩ : S60)]) (wrap64 (x4 + 1))) else (none)) else (none)) else (none))) else (none)) else (some x3)
def spec_l7Segments.f (k : Nat) (l0 : List (S27)) : Option ((List (S60))) := spec_l7Segments.l0 k l0 (([] : List (S60))) 0
def spec_l7Segments.T5 : Bool × List (List Nat × List Nat) := (true, [([], []), ([], []), ([], []), ([1, 2], [1, 2]), ([3], [3]), ([], []), ([], []), ([6], [6]), ([], []), ([8], [8]), ([7, 9], [7, 9]), ([5, 10], [5, 10]), ([11], [11]), ([4, 12], [4, 12]), ([13], [13]), ([0, 14], [0, 14]), ([15, 15, 0, 1, 2, 3, 4, 5, 6, 7, 8, 9, 10, 11, 12, 13, 14, 15], [0, 15])])
def spec_l7Segments.B5 : List Nat := [0, 0, 0, 6, 14, 0, 0, 64, 0, 256, 960, 2016, 4064, 8190, 16382, 32767, 65535]
theorem spec_l7Segments.tab5 : rtab .any (opsOf Try.f112 5) = spec_l7Segments.T5 := by kernel_rfl
theorem spec_l7Segments.bits5 : waitsOk spec_l7Segments.T5.2 spec_l7Segments.B5 = true := by kernel_rfl
set_option maxHeartbeats 8000000 in
set_option maxRecDepth 100000 in
theorem spec_l7Segments.calls (k : Nat) (A0 : Option Addr) (c0 : Nat) (l0 : List (S27)) (r : List (S60)) (w : World) (hr0 : Kd.C k27 w A0 l0.length l0) (hc0 : l0.length ≤ c0) (h : spec_l7Segments.f k l0 = some r) :
  Calls Try.prog 112 #[.slice A0 l0.length c0] w fun e w' => ∃ v0_ : Value, e = .returned (v0_) ∧ Kd.R k60 60 w' w.heap.size (fun _ => True) v0_ r ∧ Below w.heap.size w w' := by
 have hu27 := Try.underlying27
 have hu60 := Try.underlying60
 have HR0 := Aside0.mk hr0
 have HC0 := Aside0.mk hc0
 clear hr0 hc0
 have HB := Aside0.mk (Below.refl w.heap.size w)
 have H : (spec_l7Segments.l0 k l0 (([] : List (S60))) 0) = some r := h
 clear h
 obtain ⟨y207, hy207⟩ : ∃ y_ : List (S60), y_ = (([] : List (S60))) := ⟨_, rfl⟩
 replace H : (spec_l7Segments.l0 k l0 y207 0) = some r := by first | (rw [hy207]; with_reducible exact H) | (have H2_ := (Option.bind_some _ _).symm.trans H; rw [hy207]; with_reducible exact H2_) | (have H2_ := (Option.bind_some _ _).symm.trans H; with_reducible exact H2_) | with_reducible exact H | (rw [hy207]; exact H) | exact H
 have Ny207 := Aside0.mk hy207
 clear hy207
 have H' := Aside0.mk H
 clear H
 go_enter Try.func112, Try.ntmps112
 go_wp2_with (first | ((with_reducible refine gate_dst (N := 5) rfl ?_); refine Kd.R_lit k60 _ 60 ?hg (N := 5) ?hd (xs := ([] : List (S60))) (inner := []) (ok := fun _ => True) (okp := fun _ => True) ?hr ?hp (fun _ hk => hk) trivial (Below.refl _ _) (Nat.le_refl _) (by simp) ?_; (case hd => rfl); (case hg => rfl); (case hr => first | (go_simp; done) | (go_simp; rfl)); (case hp => exact (Reps.none _ _)); intro v208 w2 ho3 hb hg_ hnew_; clear hg_ hnew_; (first | rw [← Ny207.out] at ho3 | (simp only [Int.reduceToNat] at ho3; rw [← Ny207.out] at ho3)); have HO209 := Aside0.mk (Kd.R_lower ho3 (below_size Hd.b_)); replace HB := Aside0.mk (below_step Hd.b_ hb); clear hb ho3))
 go_loopg [3, 4] k (fun kq v3 v4 w' => ∃ (x3_1 : List (S60)) (x4_1 : Int), v4 = .int .i64 x4_1 ∧ Aside0 (spec_l7Segments.l0 kq l0 x3_1 x4_1 = some r) ∧ Aside0 (kq ≤ k) ∧ Aside0 (Kd.R k60 60 w' w.heap.size (fun _ => True) v3 x3_1) ∧ Aside0 (Below w.heap.size w w'))
 case atStart => exact ⟨(y207), (0), (by first | rfl | (simp; done) | (simp [*]; done)), H', ⟨Nat.le_refl _⟩, ⟨by (with_reducible repeat (first | apply Kd.R_alloc | apply Kd.R_drewN | apply Kd.R_drew)); exact HO209.out⟩, ⟨Hd.b_⟩⟩
 case round =>
  clear H'
  try clear c1
  try clear p2
  obtain ⟨x3_1, x4_1, rfl, HA, HK1, HO_3, HB⟩ := hrel
  cases gk with
  | zero => exact absurd HA.out (by simp [spec_l7Segments.l0])
  | succ k1 =>
   have H := HA.out
   clear HA
   simp only [spec_l7Segments.l0] at H
   by_cases c4 : x4_1 < (l0.length : Int)
   ·
    rw [if_pos c4] at H
    have c4b0 : decide (x4_1 < (l0.length : Int)) = true := decide_eq_true c4
    clear c4
    by_cases c5 : 0 ≤ x4_1
    ·
     rw [if_pos c5] at H
     have c5b0 : decide (0 ≤ x4_1) = true := decide_eq_true c5
     clear c5
     by_cases c6 : (l0.length : Int) = 0
     ·
      rw [if_pos c6] at H
      exact absurd H (by simp)
     ·
      rw [if_neg c6] at H
      have c6b0 : ((l0.length : Int) == 0) = false := beq_eq_false_iff_ne.mpr c6
      have c6b1 : ((l0.length : Int) != 0) = true := bne_iff_ne.mpr c6
      have c6b2 : ¬ (l0 = []) := fun h_ => c6 (by rw [h_]; rfl)
      obtain ⟨ji7, hji7⟩ : ∃ j_ : Int, (Int.tmod (wrap64 (x4_1 + 1)) (l0.length : Int)) = j_ := ⟨_, rfl⟩
      replace H : (if 0 ≤ (ji7) then (if (ji7) < (l0.length : Int) then (if x3_1.length < 4398046511104 then (spec_l7Segments.l0 k1 l0 (x3_1 ++ [(⟨(⟨(rd_T27 l0 x4_1).f0, (rd_T27 l0 x4_1).f1⟩ : S27), (⟨(rd_T27 l0 (ji7)).f0, (rd_T27 l0 (ji7)).f1⟩ : S27)⟩ : S60)]) (wrap64 (x4_1 + 1))) else (none)) else (none)) else (none)) = some r := by first | (rw [hji7] at H; exact H) | (simp only [hji7] at H ⊢; exact H)
      by_cases c8 : 0 ≤ (ji7)
      ·
       rw [if_pos c8] at H
       have c8b0 : decide (0 ≤ (ji7)) = true := decide_eq_true c8
       clear c8
       by_cases c9 : (ji7) < (l0.length : Int)
       ·
        rw [if_pos c9] at H
        have c9b0 : decide ((ji7) < (l0.length : Int)) = true := decide_eq_true c9
        clear c9
        by_cases c10 : x3_1.length < 4398046511104
        ·
         rw [if_pos c10] at H
         have LMc10 := Aside0.mk c10
         clear c10
         obtain ⟨y212, hy212⟩ : ∃ y_ : List (S60), y_ = (x3_1 ++ [(⟨(⟨(rd_T27 l0 x4_1).f0, (rd_T27 l0 x4_1).f1⟩ : S27), (⟨(rd_T27 l0 (ji7)).f0, (rd_T27 l0 (ji7)).f1⟩ : S27)⟩ : S60)]) := ⟨_, rfl⟩
         replace H : (spec_l7Segments.l0 k1 l0 y212 (wrap64 (x4_1 + 1))) = some r := by first | (rw [hy212]; with_reducible exact H) | (have H2_ := (Option.bind_some _ _).symm.trans H; rw [hy212]; with_reducible exact H2_) | (have H2_ := (Option.bind_some _ _).symm.trans H; with_reducible exact H2_) | with_reducible exact H | (rw [hy212]; exact H) | exact H
         have Ny212 := Aside0.mk hy212
         clear hy212
         have H' := Aside0.mk H
         clear H
         try go_wp2
         replace HO_3 := Aside0.mk (Kd.R_drew HO_3.out)
         replace HB := Aside0.mk (below_drew1 HB.out)
         have p210 : 0 ≤ (x4_1 : Int) := of_decide_eq_true Hd.a_
         have q210 : x4_1 < (l0.length : Int) := of_decide_eq_true Hd.a_
         obtain ⟨ad210, e210, hx210_0, hx210_1⟩ := at_T27 HR0.out x4_1 p210 q210
         have hw210_1 := hx210_1
         have hw210_0 := hx210_0
         cases e210
         replace hx210_0 := (HB.out.cell (World.block_lt_of_cell? w _ hx210_0)).trans hx210_0
         replace hx210_1 := (HB.out.cell (World.block_lt_of_cell? w _ hx210_1)).trans hx210_1
         replace p210 := eq_true p210
         replace q210 := eq_true q210
         have p211 : 0 ≤ ((ji7) : Int) := of_decide_eq_true Hd.a_
         have q211 : (ji7) < (l0.length : Int) := of_decide_eq_true Hd.a_
         obtain ⟨ad211, e211, hx211_0, hx211_1⟩ := at_T27 HR0.out (ji7) p211 q211
         have hw211_1 := hx211_1
         have hw211_0 := hx211_0
         obtain rfl : ad210 = ad211 := (by injection e211)
         replace hx211_0 := (HB.out.cell (World.block_lt_of_cell? w _ hx211_0)).trans hx211_0
         replace hx211_1 := (HB.out.cell (World.block_lt_of_cell? w _ hx211_1)).trans hx211_1
         replace p211 := eq_true p211
         replace q211 := eq_true q211
         refine start_ (n := 17) (S := fun w' => w'.cell? (ad210.add ((x4_1).toNat * 2)) = some (.int .i64 ((rd_T27 l0 x4_1).f0)) ∧ w'.cell? ⟨(ad210.add ((x4_1).toNat * 2)).block, (ad210.add ((x4_1).toNat * 2)).off + 1, none⟩ = some (.int .i64 ((rd_T27 l0 x4_1).f1)) ∧ w'.cell? (ad210.add (((ji7)).toNat * 2)) = some (.int .i64 ((rd_T27 l0 (ji7)).f0)) ∧ w'.cell? ⟨(ad210.add (((ji7)).toNat * 2)).block, (ad210.add (((ji7)).toNat * 2)).off + 1, none⟩ = some (.int .i64 ((rd_T27 l0 (ji7)).f1))) (ds := []) #[false, false, false, false, false, false, false, false, false, false, false, false, false, false, false, false, false] (by kernel_rfl) rfl rfl ⟨((HB.out.cell (World.block_lt_of_cell? w _ hw210_0)).trans hw210_0), ((HB.out.cell (World.block_lt_of_cell? w _ hw210_1)).trans hw210_1), ((HB.out.cell (World.block_lt_of_cell? w _ hw211_0)).trans hw211_0), ((HB.out.cell (World.block_lt_of_cell? w _ hw211_1)).trans hw211_1)⟩ (fun hHeld => ?_); refine with_tabW spec_l7Segments.tab5 spec_l7Segments.bits5 (fun HT_ HW_ => ?_)
         generalize wr.drew = w11 at HO_3 HB hx210_0 hx210_1 hx211_0 hx211_1 hHeld ⊢
         refine Hd.p_ HT_ 0 (some 12) #[true, false, false, false, false, false, false, false, false, false, false, false, false, false, false, false, false] ?_
         refine Hd.p_ HT_ 1 (some 13) #[true, true, false, false, false, false, false, false, false, false, false, false, false, false, false, false, false] ?_
         refine Hd.p_ HT_ 2 (some 14) #[true, true, true, false, false, false, false, false, false, false, false, false, false, false, false, false, false] ?_
         refine Hd.p_ HT_ 3 (some 15) #[true, true, true, true, false, false, false, false, false, false, false, false, false, false, false, false, false] ?_
         refine Hd.p_ HT_ 5 (some 17) #[true, true, true, true, false, true, false, false, false, false, false, false, false, false, false, false, false] ?_
         refine Hd.p_ HT_ 6 (some 18) #[true, true, true, true, false, true, true, false, false, false, false, false, false, false, false, false, false] ?_
         refine Hd.p_ HT_ 7 (some 19) #[true, true, true, true, false, true, true, true, false, false, false, false, false, false, false, false, false] ?_
         refine Hd.p_ HT_ 8 (some 20) #[true, true, true, true, false, true, true, true, true, false, false, false, false, false, false, false, false] ?_
         refine Hd.p_ HT_ 9 (some 21) #[true, true, true, true, false, true, true, true, true, true, false, false, false, false, false, false, false] ?_
         refine Hd.p_ HT_ 10 (some 22) #[true, true, true, true, false, true, true, true, true, true, true, false, false, false, false, false, false] ?_
         refine Hd.p_ HT_ 11 (some 23) #[true, true, true, true, false, true, true, true, true, true, true, true, false, false, false, false, false] ?_
         refine Hd.t_ HT_ HW_ hHeld 4 (some 16) #[true, true, true, true, true, true, true, true, true, true, true, true, false, false, false, false, false] ?_
         refine Hd.t_ HT_ HW_ hHeld 12 (some 24) #[true, true, true, true, true, true, true, true, true, true, true, true, true, false, false, false, false] ?_
         refine Hd.p_ HT_ 13 (some 25) #[true, true, true, true, true, true, true, true, true, true, true, true, true, true, false, false, false] ?_
         refine Hd.o_ HT_ 14 (some 26) #[true, true, true, true, true, true, true, true, true, true, true, true, true, true, true, false, false] (fun K hK => ?_)
         refine value_ (w1 := ?_) (v := ?_) (by rfl) rfl ?_ ?_
         rotate_left 2
         ·
          go_simp
          constructor
          ·
           rfl
          ·
           rfl
         refine hK.out _ _ ⟨(World.cell?_alloc_lt _ _ _ (World.block_lt_of_cell? _ _ (((HB.out.cell (World.block_lt_of_cell? w _ hw210_0)).trans hw210_0)))).trans (((HB.out.cell (World.block_lt_of_cell? w _ hw210_0)).trans hw210_0)), (World.cell?_alloc_lt _ _ _ (World.block_lt_of_cell? _ _ (((HB.out.cell (World.block_lt_of_cell? w _ hw210_1)).trans hw210_1)))).trans (((HB.out.cell (World.block_lt_of_cell? w _ hw210_1)).trans hw210_1)), (World.cell?_alloc_lt _ _ _ (World.block_lt_of_cell? _ _ (((HB.out.cell (World.block_lt_of_cell? w _ hw211_0)).trans hw211_0)))).trans (((HB.out.cell (World.block_lt_of_cell? w _ hw211_0)).trans hw211_0)), (World.cell?_alloc_lt _ _ _ (World.block_lt_of_cell? _ _ (((HB.out.cell (World.block_lt_of_cell? w _ hw211_1)).trans hw211_1)))).trans (((HB.out.cell (World.block_lt_of_cell? w _ hw211_1)).trans hw211_1))⟩ (fun hHeld => ?_)
         clear hK K
         refine Hd.n_ (some 26) ?_
         refine Hd.o_ HT_ 15 (some 27) #[true, true, true, true, true, true, true, true, true, true, true, true, true, true, true, true, false] (fun K hK => ?_)
         refine Kd.R_append_step k60 (w0 := w) w.heap.size (by rfl) (.tmp 12) (.tmp 26) 75 60 (.agg #[(.int .i64 0), (.int .i64 0), (.int .i64 0), (.int .i64 0)]) 32 rfl Try.underlying75 info60 rfl (by decide) (by omega) u3 x3_1 (⟨(⟨(rd_T27 l0 x4_1).f0, (rd_T27 l0 x4_1).f1⟩ : S27), (⟨(rd_T27 l0 (ji7)).f0, (rd_T27 l0 (ji7)).f1⟩ : S27)⟩ : S60) [.int .i64 ((rd_T27 l0 x4_1).f0), .int .i64 ((rd_T27 l0 x4_1).f1), .int .i64 ((rd_T27 l0 (ji7)).f0), .int .i64 ((rd_T27 l0 (ji7)).f1)] (fun _ => True) (fun _ => False) rfl rfl ?aP (fun _ hk => hk.elim) ?aF ?aO ?aB ?aS ?aL ?_
         (case aP => exact k60_mkM _ _ _ (⟨(⟨(rd_T27 l0 x4_1).f0, (rd_T27 l0 x4_1).f1⟩ : S27), (⟨(rd_T27 l0 (ji7)).f0, (rd_T27 l0 (ji7)).f1⟩ : S27)⟩ : S60))
         (case aB => exact Hd.b_)
         (case aF => exact (fun _ _ => trivial))
         (case aO => exact (Hd.r_ HO_3))
         (case aS => exact (below_size Hd.b_))
         (case aL => have := LMc10.out; omega)
         intro v213 w12 ho hb hg hat
         rw [← Ny212.out] at ho
         have n0_ := Aside0.mk (hb)
         have n1_ := Aside0.mk (ho)
         clear HB
         clear HO_3
         have HB := n0_
         have HO214 := n1_
         clear n0_ n1_
         clear ho hb hg hat
         refine hK.out _ _ ⟨((HB.out.cell (World.block_lt_of_cell? w _ hw210_0)).trans hw210_0), ((HB.out.cell (World.block_lt_of_cell? w _ hw210_1)).trans hw210_1), ((HB.out.cell (World.block_lt_of_cell? w _ hw211_0)).trans hw211_0), ((HB.out.cell (World.block_lt_of_cell? w _ hw211_1)).trans hw211_1)⟩ (fun hHeld => ?_)
         clear hK K
         refine Hd.n_ (some 27) ?_
         refine Hd.p_ HT_ 16 (some 3) #[true, true, true, true, true, true, true, true, true, true, true, true, true, true, true, true, true] ?_
         refine done_ (done_of HT_.out (by kernel_rfl)) ?_
         try go_wp2
         go_roundg k1
         case measure => have := HK1.out; omega
         case rel => exact ⟨(y212), (wrap64 (x4_1 + 1)), (by first | rfl | (simp; done) | (simp [*]; done)), H', ⟨by have := HK1.out; omega⟩, ⟨by (with_reducible repeat (first | apply Kd.R_alloc | apply Kd.R_drewN | apply Kd.R_drew)); exact HO214.out⟩, ⟨Hd.b_⟩⟩
        ·
         rw [if_neg c10] at H
         exact absurd H (by simp)
       ·
        rw [if_neg c9] at H
        exact absurd H (by simp)
      ·
       rw [if_neg c8] at H
       exact absurd H (by simp)
    ·
     rw [if_neg c5] at H
     exact absurd H (by simp)
   ·
    rw [if_neg c4] at H
    have c4b0 : decide (x4_1 < (l0.length : Int)) = false := decide_eq_false c4
    clear c4
    obtain rfl := Option.some.inj H
    go_wp2
    go_ret
    exact ⟨_, Hd.e_, by (with_reducible repeat (first | apply Kd.R_alloc | apply Kd.R_drewN | apply Kd.R_drew)); exact HO_3.out, Hd.b_⟩
end Go.Proofs.Ytchmbcembbbplab.MFnExactRingSegments
