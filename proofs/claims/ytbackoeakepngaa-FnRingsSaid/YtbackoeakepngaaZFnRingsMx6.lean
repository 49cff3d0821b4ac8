-- Laid by this session's program pp.py, after the kit's print and texts of the session's own. Not trusted: Lean checks it.
import Derived.Test.YtbackoeakepngaaZFnRingsMx0
import Derived.Test.YtbackoeakepngaaZFnRingsMx2
import Derived.Test.YtbackoeakepngaaZFnRingsMx3
import Derived.Test.YtbackoeakepngaaZFnRingsMx5
namespace Go.Proofs.Ytbackoeakepngaa.MFnRings
open Go.RowKit Go.Proofs.YtbackoeakepngaaW.PrintWords Go.Proofs.YtbackoeakepngaaW.PrintLast Go.Proofs.YtbackoeakepngaaW.PrintMore
attribute [local go_sem] max2_int min2_int max_two min_two max_three min_three max_four min_four   -- for this text's walks alone
set_option linter.unusedVariables false
set_option linter.unusedSimpArgs false
mutual
def impl_IsRing.j0 : Nat → List (S27) → Bool → Option (Bool)
 | 0, _, _ => none
 | k + 1, x0, x14 => if x14 = true then (some false) else ((impl_around.f k x0).bind fun t325 => (impl_IsRing.l0 k t325 (t325.length : Int) 0))
def impl_IsRing.l0 : Nat → List (S53) → Int → Int → Option (Bool)
 | 0, _, _, _ => none
 | k + 1, x3, x18, x19 => if x19 < x18 then (if 0 ≤ x19 then (if x19 < (x3.length : Int) then ((impl_IsSegment.f ((rd_T53 x3 x19).f0.f0) ((rd_T53 x3 x19).f0.f1) ((rd_T53 x3 x19).f1.f0) ((rd_T53 x3 x19).f1.f1)).bind fun t329 => (if t329 = true then (impl_IsRing.l1 k x3 x19 x18 x19 x19 0) else (some false))) else (none)) else (none)) else (some true)
def impl_IsRing.l1 : Nat → List (S53) → Int → Int → Int → Int → Int → Option (Bool)
 | 0, _, _, _, _, _, _ => none
 | k + 1, x3, x4, x18, x19, x28, x29 => if x29 < x28 then (if x29 = (wrap64 (x4 - 1)) then (impl_IsRing.j3 k x3 x4 x29 0 x18 x19 x28 x29 true) else (if x29 = 0 then (impl_IsRing.j3 k x3 x4 x29 0 x18 x19 x28 x29 (x4 == (wrap64 ((x3.length : Int) - 1)))) else (impl_IsRing.j3 k x3 x4 x29 0 x18 x19 x28 x29 false))) else (impl_IsRing.l0 k x3 x18 (wrap64 (x19 + 1)))
def impl_IsRing.j3 : Nat → List (S53) → Int → Int → Int → Int → Int → Int → Int → Bool → Option (Bool)
 | 0, _, _, _, _, _, _, _, _, _ => none
 | k + 1, x3, x4, x5, x6, x18, x19, x28, x29, x46 => if x46 = true then (if 0 ≤ x4 then (if x4 < (x3.length : Int) then (if 0 ≤ x5 then (if x5 < (x3.length : Int) then ((impl_HowMeet.f k ((rd_T53 x3 x4).f0.f0) ((rd_T53 x3 x4).f0.f1) ((rd_T53 x3 x4).f1.f0) ((rd_T53 x3 x4).f1.f1) ((rd_T53 x3 x5).f0.f0) ((rd_T53 x3 x5).f0.f1) ((rd_T53 x3 x5).f1.f0) ((rd_T53 x3 x5).f1.f1)).bind fun t332 => (if t332 = 1 then (impl_IsRing.l1 k x3 x4 x18 x19 x28 (wrap64 (x29 + 1))) else (some false))) else (none)) else (none)) else (none)) else (none)) else (if 0 ≤ x4 then (if x4 < (x3.length : Int) then (if 0 ≤ x5 then (if x5 < (x3.length : Int) then ((impl_HowMeet.f k ((rd_T53 x3 x4).f0.f0) ((rd_T53 x3 x4).f0.f1) ((rd_T53 x3 x4).f1.f0) ((rd_T53 x3 x4).f1.f1) ((rd_T53 x3 x5).f0.f0) ((rd_T53 x3 x5).f0.f1) ((rd_T53 x3 x5).f1.f0) ((rd_T53 x3 x5).f1.f1)).bind fun t335 => (if t335 = x6 then (impl_IsRing.l1 k x3 x4 x18 x19 x28 (wrap64 (x29 + 1))) else (some false))) else (none)) else (none)) else (none)) else (none))
end
def impl_IsRing.f (k : Nat) (l0 : List (S27)) : Option (Bool) := if (l0.length : Int) < 3 then (impl_IsRing.j0 k l0 true) else (impl_IsRing.j0 k l0 (decide ((l0.length : Int) > 10)))
set_option maxHeartbeats 8000000 in
set_option maxRecDepth 100000 in
theorem impl_IsRing.calls (k : Nat) (A0 : Option Addr) (c0 : Nat) (l0 : List (S27)) (r : Bool) (w : World) (hr0 : Kd.C k27 w A0 l0.length l0) (hc0 : l0.length ≤ c0) (h : impl_IsRing.f k l0 = some r) :
  Calls Try.prog 39 #[.slice A0 l0.length c0] w fun e w' => e = .returned (.bool r) ∧ Below w.heap.size w w' := by
 have hu53 := Try.underlying53
 have HR0 := Aside0.mk hr0
 have HC0 := Aside0.mk hc0
 clear hr0 hc0
 have HB := Aside0.mk (Below.refl w.heap.size w)
 have H : (if (l0.length : Int) < 3 then (impl_IsRing.j0 k l0 true) else (impl_IsRing.j0 k l0 (decide ((l0.length : Int) > 10)))) = some r := h
 clear h
 have HC2 := Aside0.mk H
 clear H
 go_enter Try.func39, Try.ntmps39
 go_upto_region 1 with (fail)
 go_cut [14] (fun v14 wc => ∃ (kq : Nat) (x14_1 : Bool), v14 = .bool x14_1 ∧ Aside0 (impl_IsRing.j0 kq l0 x14_1 = some r) ∧ Aside0 (kq ≤ k) ∧ Aside0 (Below w.heap.size w wc))
 case first =>
  have H := HC2.out
  clear HC2
  by_cases c3 : (l0.length : Int) < 3
  ·
   rw [if_pos c3] at H
   have c3b0 : decide ((l0.length : Int) < 3) = true := decide_eq_true c3
   have c3b1 : decide (l0.length < 3) = true := decide_eq_true (by omega)
   clear c3
   (first | rw [c3b0] | (simp only [i64_w, i32_w]; rw [c3b0]) | skip)
   have H' := Aside0.mk H
   clear H
   go_wp2
   go_meet
   case rel => exact ⟨_, (true), (by first | rfl | (simp; done) | (simp [*]; done)), H', ⟨by first | omega | exact Nat.le_refl _⟩, ⟨Hd.b_⟩⟩
  ·
   rw [if_neg c3] at H
   have c3b0 : decide ((l0.length : Int) < 3) = false := decide_eq_false c3
   have c3b1 : decide (l0.length < 3) = false := decide_eq_false (by omega)
   clear c3
   (first | rw [c3b0] | (simp only [i64_w, i32_w]; rw [c3b0]) | skip)
   have H' := Aside0.mk H
   clear H
   go_wp2
   go_meet
   case rel => exact ⟨_, (decide ((l0.length : Int) > 10)), (by first | rfl | (simp; done) | (simp [*]; done)), H', ⟨by first | omega | exact Nat.le_refl _⟩, ⟨Hd.b_⟩⟩
 case rest =>
  clear HC2
  try clear p2
  try clear c3
  try clear c3b0
  try clear c3b1
  obtain ⟨kq, x14_1, rfl, HA, HJ1, HB⟩ := hcut
  cases kq with
  | zero => exact absurd HA.out (by simp [impl_IsRing.j0])
  | succ kj1 =>
   have H := HA.out
   clear HA
   simp only [impl_IsRing.j0] at H
   by_cases c4 : x14_1 = true
   ·
    subst c4
    have H1 : (some false) = some r := by rw [if_pos rfl] at H; exact H
    clear H
    have H := H1
    clear H1
    obtain rfl := Option.some.inj H
    go_wp2
    go_ret
    exact ⟨Hd.e_, Hd.b_⟩
   ·
    replace c4 := Bool.eq_false_iff.mpr c4
    subst c4
    have H1 : ((impl_around.f kj1 l0).bind fun t325 => (impl_IsRing.l0 kj1 t325 (t325.length : Int) 0)) = some r := by rw [if_neg (show ¬ (false = true) by decide)] at H; exact H
    clear H
    have H := H1
    clear H1
    replace H := Option.bind_eq_some_iff.mp H
    obtain ⟨t325, A50, H⟩ := H
    replace H : (impl_IsRing.l0 kj1 t325 (t325.length : Int) 0) = some r := H
    have A5 := Aside0.mk A50
    clear A50
    have H' := Aside0.mk H
    clear H
    go_wp2_with (first | ((with_reducible refine gate_callee (f := 87) rfl ?_); refine goesL_ (some 16) rfl rfl Try.func87 (by kernel_rfl) rfl #[.slice A0 l0.length c0] rfl Hd.m_ ?_; (with_reducible refine (impl_around.calls kj1 _ _ l0 t325 _ ?side1 ?side2 A5.out).mono ?_); (case side1 => repeat (first | exact (Kd.C_below HR0.out HB.out) | (with_reducible refine Kd.C_alloc ?_ _) | (with_reducible refine Kd.C_drewN ?_ _) | (with_reducible refine Kd.C_drew ?_))); (case side2 => exact HC0.out); rintro e w6 ⟨v326, rfl, ho0, hb⟩; refine ⟨_, rfl, ?_⟩; have HO327 := Aside0.mk (Kd.R_lower ho0 (below_size Hd.b_)); replace HB := Aside0.mk (below_step Hd.b_ hb); (try clear hb); (try clear hb2); (try clear hk); (try clear hi); (try clear ho0); obtain ⟨Ao7, co7, eo7⟩ := Kd.R_slice HO327.out; subst eo7))
    go_loopg [19] kj1 (fun kq v19 w' => ∃ (x19_2 : Int), v19 = .int .i64 x19_2 ∧ Aside0 (impl_IsRing.l0 kq t325 (t325.length : Int) x19_2 = some r) ∧ Aside0 (kq ≤ kj1) ∧ Aside0 (Kd.R k53 53 w' w.heap.size (fun _ => True) (.slice Ao7 t325.length co7) t325) ∧ Aside0 (Below w.heap.size w w'))
    case atStart => exact ⟨(0), (by first | rfl | (simp; done) | (simp [*]; done)), H', ⟨Nat.le_refl _⟩, ⟨by (with_reducible repeat (first | apply Kd.R_alloc | apply Kd.R_drewN | apply Kd.R_drew)); exact HO327.out⟩, ⟨Hd.b_⟩⟩
    case round =>
     clear H'
     try clear p2
     try clear c3
     try clear c3b0
     try clear c3b1
     try clear c4
     try clear p2
     obtain ⟨x19_2, rfl, HA, HK2, HO_3, HB⟩ := hrel
     cases gk with
     | zero => exact absurd HA.out (by simp [impl_IsRing.l0])
     | succ k2 =>
      have H := HA.out
      clear HA
      simp only [impl_IsRing.l0] at H
      by_cases c8 : x19_2 < (t325.length : Int)
      ·
       rw [if_pos c8] at H
       have c8b0 : decide (x19_2 < (t325.length : Int)) = true := decide_eq_true c8
       clear c8
       by_cases c9 : 0 ≤ x19_2
       ·
        rw [if_pos c9] at H
        have c9b0 : decide (0 ≤ x19_2) = true := decide_eq_true c9
        clear c9
        by_cases c10 : x19_2 < (t325.length : Int)
        ·
         rw [if_pos c10] at H
         have c10b0 : decide (x19_2 < (t325.length : Int)) = true := decide_eq_true c10
         clear c10
         replace H := Option.bind_eq_some_iff.mp H
         obtain ⟨t329, A110, H⟩ := H
         replace H : (if t329 = true then (impl_IsRing.l1 k2 t325 x19_2 (t325.length : Int) x19_2 x19_2 0) else (some false)) = some r := H
         have A11 := Aside0.mk A110
         clear A110
         by_cases c12 : t329 = true
         ·
          subst c12
          have H1 : (impl_IsRing.l1 k2 t325 x19_2 (t325.length : Int) x19_2 x19_2 0) = some r := by rw [if_pos rfl] at H; exact H
          clear H
          have H := H1
          clear H1
          have H' := Aside0.mk H
          clear H
          have p328 : 0 ≤ (x19_2 : Int) := of_decide_eq_true Hd.a_
          have q328 : x19_2 < (t325.length : Int) := of_decide_eq_true Hd.a_
          obtain ⟨ad328, e328, hx328_0, hx328_1, hx328_2, hx328_3⟩ := at_T53 (Kd.R_reads' HO_3.out).2.2 x19_2 p328 q328
          cases e328
          replace p328 := eq_true p328
          replace q328 := eq_true q328
          go_wp2_with (first | ((with_reducible refine gate_callee (f := 83) rfl ?_); refine goesL_ (some 26) rfl rfl Try.func83 (by kernel_rfl) rfl #[.agg #[.int .i64 ((rd_T53 t325 x19_2).f0.f0), .int .i64 ((rd_T53 t325 x19_2).f0.f1), .int .i64 ((rd_T53 t325 x19_2).f1.f0), .int .i64 ((rd_T53 t325 x19_2).f1.f1)]] rfl Hd.m_ ?_; (with_reducible refine (impl_IsSegment.calls ((rd_T53 t325 x19_2).f0.f0) ((rd_T53 t325 x19_2).f0.f1) ((rd_T53 t325 x19_2).f1.f0) ((rd_T53 t325 x19_2).f1.f1) true _ A11.out).mono ?_); rintro e w13 ⟨rfl, hb⟩; refine ⟨_, rfl, ?_⟩; replace HO_3 := Aside0.mk (Kd.R_below (Hd.r_ HO_3) hb); replace HB := Aside0.mk (below_step Hd.b_ hb); (try clear hb); (try clear hb2); (try clear hk); (try clear hi)))
          go_loopg [29] k2 (fun kq v29 w' => ∃ (x29_3 : Int), v29 = .int .i64 x29_3 ∧ Aside0 (impl_IsRing.l1 kq t325 x19_2 (t325.length : Int) x19_2 x19_2 x29_3 = some r) ∧ Aside0 (kq ≤ k2) ∧ Aside0 (Kd.R k53 53 w' w.heap.size (fun _ => True) (.slice (some ad328) t325.length co7) t325) ∧ Aside0 (Below w.heap.size w w'))
          case atStart => exact ⟨(0), (by first | rfl | (simp; done) | (simp [*]; done)), H', ⟨Nat.le_refl _⟩, ⟨by (with_reducible repeat (first | apply Kd.R_alloc | apply Kd.R_drewN | apply Kd.R_drew)); exact HO_3.out⟩, ⟨Hd.b_⟩⟩
          case round =>
           clear H'
           try clear c1
           try clear p2
           try clear c3
           try clear c3b0
           try clear c3b1
           try clear p3
           try clear q3
           try clear hx3
           try clear c4
           try clear c8
           try clear c8b0
           try clear c9
           try clear c9b0
           try clear c10
           try clear c10b0
           try clear c12
           try clear hx328_0
           try clear hx328_1
           try clear hx328_2
           try clear hx328_3
           try clear p2
           try clear p328
           try clear q328
           obtain ⟨x29_3, rfl, HA, HK3, HO_3, HB⟩ := hrel
           cases gk with
           | zero => exact absurd HA.out (by simp [impl_IsRing.l1])
           | succ k3 =>
            have H := HA.out
            clear HA
            simp only [impl_IsRing.l1] at H
            by_cases c14 : x29_3 < x19_2
            ·
             rw [if_pos c14] at H
             have c14b0 : decide (x29_3 < x19_2) = true := decide_eq_true c14
             clear c14
             have HC15 := Aside0.mk H
             clear H
             go_upto_region 13 with (fail)
             go_cut [46] (fun v46 wc => ∃ (kq : Nat) (x46_14 : Bool), v46 = .bool x46_14 ∧ Aside0 (impl_IsRing.j3 kq t325 x19_2 x29_3 0 (t325.length : Int) x19_2 x19_2 x29_3 x46_14 = some r) ∧ Aside0 (kq ≤ k3) ∧ Aside0 (Kd.R k53 53 wc w.heap.size (fun _ => True) (.slice (some ad328) t325.length co7) t325) ∧ Aside0 (Below w.heap.size w wc))
             case first =>
              have H := HC15.out
              clear HC15
              by_cases c16 : x29_3 = (wrap64 (x19_2 - 1))
              ·
               rw [if_pos c16] at H
               have c16b0 : (x29_3 == (wrap64 (x19_2 - 1))) = true := beq_iff_eq.mpr c16
               have c16b1 : (x29_3 != (wrap64 (x19_2 - 1))) = false := bne_eq_false_iff_eq.mpr c16
               clear c16
               (first | rw [c16b0] | (simp only [i64_w, i32_w]; rw [c16b0]) | skip)
               have H' := Aside0.mk H
               clear H
               go_wp2
               go_meet
               case rel => exact ⟨_, (true), (by first | rfl | (simp; done) | (simp [*]; done)), H', ⟨by have := HJ1.out; have := HK2.out; have := HK3.out; first | omega | exact Nat.le_refl _⟩, ⟨by (with_reducible repeat (first | apply Kd.R_alloc | apply Kd.R_drewN | apply Kd.R_drew)); exact HO_3.out⟩, ⟨Hd.b_⟩⟩
              ·
               rw [if_neg c16] at H
               have c16b0 : (x29_3 == (wrap64 (x19_2 - 1))) = false := beq_eq_false_iff_ne.mpr c16
               have c16b1 : (x29_3 != (wrap64 (x19_2 - 1))) = true := bne_iff_ne.mpr c16
               (first | rw [c16b0] | (simp only [i64_w, i32_w]; rw [c16b0]) | skip)
               by_cases c17 : x29_3 = 0
               ·
                rw [if_pos c17] at H
                have c17b0 : (x29_3 == 0) = true := beq_iff_eq.mpr c17
                have c17b1 : (x29_3 != 0) = false := bne_eq_false_iff_eq.mpr c17
                clear c17
                have H' := Aside0.mk H
                clear H
                go_wp2
                go_meet
                case rel => exact ⟨_, ((x19_2 == (wrap64 ((t325.length : Int) - 1)))), (by first | rfl | (simp; done) | (simp [*]; done)), H', ⟨by have := HJ1.out; have := HK2.out; have := HK3.out; first | omega | exact Nat.le_refl _⟩, ⟨by (with_reducible repeat (first | apply Kd.R_alloc | apply Kd.R_drewN | apply Kd.R_drew)); exact HO_3.out⟩, ⟨Hd.b_⟩⟩
               ·
                rw [if_neg c17] at H
                have c17b0 : (x29_3 == 0) = false := beq_eq_false_iff_ne.mpr c17
                have c17b1 : (x29_3 != 0) = true := bne_iff_ne.mpr c17
                have H' := Aside0.mk H
                clear H
                go_wp2
                go_meet
                case rel => exact ⟨_, (false), (by first | rfl | (simp; done) | (simp [*]; done)), H', ⟨by have := HJ1.out; have := HK2.out; have := HK3.out; first | omega | exact Nat.le_refl _⟩, ⟨by (with_reducible repeat (first | apply Kd.R_alloc | apply Kd.R_drewN | apply Kd.R_drew)); exact HO_3.out⟩, ⟨Hd.b_⟩⟩
             case rest =>
              clear HC15
              try clear c1
              try clear p2
              try clear c3
              try clear c3b0
              try clear c3b1
              try clear p3
              try clear q3
              try clear hx3
              try clear c4
              try clear p6
              try clear c8
              try clear c8b0
              try clear c9
              try clear c9b0
              try clear c10
              try clear c10b0
              try clear c12
              try clear c14
              try clear c14b0
              try clear c16
              try clear c16b0
              try clear c16b1
              try clear c17
              try clear c17b0
              try clear c17b1
              try clear hx328_0
              try clear hx328_1
              try clear hx328_2
              try clear hx328_3
              try clear p2
              try clear p3
              try clear p328
              try clear q3
              try clear q328
              obtain ⟨kq, x46_14, rfl, HA, HJ14, HO_3, HB⟩ := hcut
              cases kq with
              | zero => exact absurd HA.out (by simp [impl_IsRing.j3])
              | succ kj14 =>
               have H := HA.out
               clear HA
               simp only [impl_IsRing.j3] at H
               by_cases c18 : x46_14 = true
               ·
                subst c18
                have H1 : (if 0 ≤ x19_2 then (if x19_2 < (t325.length : Int) then (if 0 ≤ x29_3 then (if x29_3 < (t325.length : Int) then ((impl_HowMeet.f kj14 ((rd_T53 t325 x19_2).f0.f0) ((rd_T53 t325 x19_2).f0.f1) ((rd_T53 t325 x19_2).f1.f0) ((rd_T53 t325 x19_2).f1.f1) ((rd_T53 t325 x29_3).f0.f0) ((rd_T53 t325 x29_3).f0.f1) ((rd_T53 t325 x29_3).f1.f0) ((rd_T53 t325 x29_3).f1.f1)).bind fun t332 => (if t332 = 1 then (impl_IsRing.l1 kj14 t325 x19_2 (t325.length : Int) x19_2 x19_2 (wrap64 (x29_3 + 1))) else (some false))) else (none)) else (none)) else (none)) else (none)) = some r := by rw [if_pos rfl] at H; exact H
                clear H
                have H := H1
                clear H1
                by_cases c19 : 0 ≤ x19_2
                ·
                 rw [if_pos c19] at H
                 have c19b0 : decide (0 ≤ x19_2) = true := decide_eq_true c19
                 clear c19
                 by_cases c20 : x19_2 < (t325.length : Int)
                 ·
                  rw [if_pos c20] at H
                  have c20b0 : decide (x19_2 < (t325.length : Int)) = true := decide_eq_true c20
                  clear c20
                  by_cases c21 : 0 ≤ x29_3
                  ·
                   rw [if_pos c21] at H
                   have c21b0 : decide (0 ≤ x29_3) = true := decide_eq_true c21
                   clear c21
                   by_cases c22 : x29_3 < (t325.length : Int)
                   ·
                    rw [if_pos c22] at H
                    have c22b0 : decide (x29_3 < (t325.length : Int)) = true := decide_eq_true c22
                    clear c22
                    replace H := Option.bind_eq_some_iff.mp H
                    obtain ⟨t332, A230, H⟩ := H
                    replace H : (if t332 = 1 then (impl_IsRing.l1 kj14 t325 x19_2 (t325.length : Int) x19_2 x19_2 (wrap64 (x29_3 + 1))) else (some false)) = some r := H
                    have A23 := Aside0.mk A230
                    clear A230
                    by_cases c24 : t332 = 1
                    ·
                     rw [if_pos c24] at H
                     have c24b0 : (t332 == 1) = true := beq_iff_eq.mpr c24
                     have c24b1 : (t332 != 1) = false := bne_eq_false_iff_eq.mpr c24
                     clear c24
                     have H' := Aside0.mk H
                     clear H
                     try go_wp2
                     replace HO_3 := Aside0.mk (Kd.R_drew HO_3.out)
                     replace HB := Aside0.mk (below_drew1 HB.out)
                     have p330 : 0 ≤ (x19_2 : Int) := of_decide_eq_true Hd.a_
                     have q330 : x19_2 < (t325.length : Int) := of_decide_eq_true Hd.a_
                     obtain ⟨ad330, e330, hx330_0, hx330_1, hx330_2, hx330_3⟩ := at_T53 (Kd.R_reads' HO_3.out).2.2 x19_2 p330 q330
                     obtain rfl : ad328 = ad330 := (by injection e330)
                     replace p330 := eq_true p330
                     replace q330 := eq_true q330
                     have p331 : 0 ≤ (x29_3 : Int) := of_decide_eq_true Hd.a_
                     have q331 : x29_3 < (t325.length : Int) := of_decide_eq_true Hd.a_
                     obtain ⟨ad331, e331, hx331_0, hx331_1, hx331_2, hx331_3⟩ := at_T53 (Kd.R_reads' HO_3.out).2.2 x29_3 p331 q331
                     obtain rfl : ad328 = ad331 := (by injection e331)
                     replace p331 := eq_true p331
                     replace q331 := eq_true q331
                     have s0_ := Hd.HW.x (W0 := wc.drew) hx330_0
                     have s1_ := Hd.HW.x (W0 := wc.drew) hx330_1
                     have s2_ := Hd.HW.x (W0 := wc.drew) hx330_2
                     have s3_ := Hd.HW.x (W0 := wc.drew) hx330_3
                     have s4_ := Hd.HW.x (W0 := wc.drew) hx331_0
                     have s5_ := Hd.HW.x (W0 := wc.drew) hx331_1
                     have s6_ := Hd.HW.x (W0 := wc.drew) hx331_2
                     have s7_ := Hd.HW.x (W0 := wc.drew) hx331_3
                     refine Hd.HW.region (by kernel_rfl) (by kernel_rfl) ?_
                     repeat (go_big_quiet_step ((first | (go_at_call 88; with_reducible exact Hd.HW.c (impl_HowMeet.calls kj14 ((rd_T53 t325 x19_2).f0.f0) ((rd_T53 t325 x19_2).f0.f1) ((rd_T53 t325 x19_2).f1.f0) ((rd_T53 t325 x19_2).f1.f1) ((rd_T53 t325 x29_3).f0.f0) ((rd_T53 t325 x29_3).f0.f1) ((rd_T53 t325 x29_3).f1.f0) ((rd_T53 t325 x29_3).f1.f1) t332 _ A23.out)))))
                     refine wpQuiet_nil ?_
                     intro _ hq_
                     obtain ⟨q_, rfl⟩ := hq_
                     clear s0_ s1_ s2_ s3_ s4_ s5_ s6_ s7_
                     replace HO_3 := Aside0.mk (Kd.R_below HO_3.out q_.b)
                     replace HB := Aside0.mk (below_step HB.out q_.b)
                     replace hx330_0 := q_.cell hx330_0
                     replace hx330_1 := q_.cell hx330_1
                     replace hx330_2 := q_.cell hx330_2
                     replace hx330_3 := q_.cell hx330_3
                     replace hx331_0 := q_.cell hx331_0
                     replace hx331_1 := q_.cell hx331_1
                     replace hx331_2 := q_.cell hx331_2
                     replace hx331_3 := q_.cell hx331_3
                     generalize q_.W = w26 at HO_3 HB hx330_0 hx330_1 hx330_2 hx330_3 hx331_0 hx331_1 hx331_2 hx331_3 ⊢
                     try simp only [i64_w, i32_w]
                     try go_wp2
                     go_roundg kj14
                     case measure => have := HJ1.out; have := HK2.out; have := HK3.out; have := HJ14.out; omega
                     case rel => exact ⟨(wrap64 (x29_3 + 1)), (by first | rfl | (simp; done) | (simp [*]; done)), H', ⟨by have := HJ1.out; have := HK2.out; have := HK3.out; have := HJ14.out; omega⟩, ⟨by (with_reducible repeat (first | apply Kd.R_alloc | apply Kd.R_drewN | apply Kd.R_drew)); exact HO_3.out⟩, ⟨Hd.b_⟩⟩
                    ·
                     rw [if_neg c24] at H
                     have c24b0 : (t332 == 1) = false := beq_eq_false_iff_ne.mpr c24
                     have c24b1 : (t332 != 1) = true := bne_iff_ne.mpr c24
                     obtain rfl := Option.some.inj H
                     try go_wp2
                     replace HO_3 := Aside0.mk (Kd.R_drew HO_3.out)
                     replace HB := Aside0.mk (below_drew1 HB.out)
                     have p330 : 0 ≤ (x19_2 : Int) := of_decide_eq_true Hd.a_
                     have q330 : x19_2 < (t325.length : Int) := of_decide_eq_true Hd.a_
                     obtain ⟨ad330, e330, hx330_0, hx330_1, hx330_2, hx330_3⟩ := at_T53 (Kd.R_reads' HO_3.out).2.2 x19_2 p330 q330
                     obtain rfl : ad328 = ad330 := (by injection e330)
                     replace p330 := eq_true p330
                     replace q330 := eq_true q330
                     have p331 : 0 ≤ (x29_3 : Int) := of_decide_eq_true Hd.a_
                     have q331 : x29_3 < (t325.length : Int) := of_decide_eq_true Hd.a_
                     obtain ⟨ad331, e331, hx331_0, hx331_1, hx331_2, hx331_3⟩ := at_T53 (Kd.R_reads' HO_3.out).2.2 x29_3 p331 q331
                     obtain rfl : ad328 = ad331 := (by injection e331)
                     replace p331 := eq_true p331
                     replace q331 := eq_true q331
                     have s0_ := Hd.HW.x (W0 := wc.drew) hx330_0
                     have s1_ := Hd.HW.x (W0 := wc.drew) hx330_1
                     have s2_ := Hd.HW.x (W0 := wc.drew) hx330_2
                     have s3_ := Hd.HW.x (W0 := wc.drew) hx330_3
                     have s4_ := Hd.HW.x (W0 := wc.drew) hx331_0
                     have s5_ := Hd.HW.x (W0 := wc.drew) hx331_1
                     have s6_ := Hd.HW.x (W0 := wc.drew) hx331_2
                     have s7_ := Hd.HW.x (W0 := wc.drew) hx331_3
                     refine Hd.HW.region (by kernel_rfl) (by kernel_rfl) ?_
                     repeat (go_big_quiet_step ((first | (go_at_call 88; with_reducible exact Hd.HW.c (impl_HowMeet.calls kj14 ((rd_T53 t325 x19_2).f0.f0) ((rd_T53 t325 x19_2).f0.f1) ((rd_T53 t325 x19_2).f1.f0) ((rd_T53 t325 x19_2).f1.f1) ((rd_T53 t325 x29_3).f0.f0) ((rd_T53 t325 x29_3).f0.f1) ((rd_T53 t325 x29_3).f1.f0) ((rd_T53 t325 x29_3).f1.f1) t332 _ A23.out)))))
                     refine wpQuiet_nil ?_
                     intro _ hq_
                     obtain ⟨q_, rfl⟩ := hq_
                     clear s0_ s1_ s2_ s3_ s4_ s5_ s6_ s7_
                     replace HO_3 := Aside0.mk (Kd.R_below HO_3.out q_.b)
                     replace HB := Aside0.mk (below_step HB.out q_.b)
                     replace hx330_0 := q_.cell hx330_0
                     replace hx330_1 := q_.cell hx330_1
                     replace hx330_2 := q_.cell hx330_2
                     replace hx330_3 := q_.cell hx330_3
                     replace hx331_0 := q_.cell hx331_0
                     replace hx331_1 := q_.cell hx331_1
                     replace hx331_2 := q_.cell hx331_2
                     replace hx331_3 := q_.cell hx331_3
                     generalize q_.W = w28 at HO_3 HB hx330_0 hx330_1 hx330_2 hx330_3 hx331_0 hx331_1 hx331_2 hx331_3 ⊢
                     try simp only [i64_w, i32_w]
                     try go_wp2
                     go_ret
                     exact ⟨Hd.e_, Hd.b_⟩
                   ·
                    rw [if_neg c22] at H
                    exact absurd H (by simp)
                  ·
                   rw [if_neg c21] at H
                   exact absurd H (by simp)
                 ·
                  rw [if_neg c20] at H
                  exact absurd H (by simp)
                ·
                 rw [if_neg c19] at H
                 exact absurd H (by simp)
               ·
                replace c18 := Bool.eq_false_iff.mpr c18
                subst c18
                have H1 : (if 0 ≤ x19_2 then (if x19_2 < (t325.length : Int) then (if 0 ≤ x29_3 then (if x29_3 < (t325.length : Int) then ((impl_HowMeet.f kj14 ((rd_T53 t325 x19_2).f0.f0) ((rd_T53 t325 x19_2).f0.f1) ((rd_T53 t325 x19_2).f1.f0) ((rd_T53 t325 x19_2).f1.f1) ((rd_T53 t325 x29_3).f0.f0) ((rd_T53 t325 x29_3).f0.f1) ((rd_T53 t325 x29_3).f1.f0) ((rd_T53 t325 x29_3).f1.f1)).bind fun t335 => (if t335 = 0 then (impl_IsRing.l1 kj14 t325 x19_2 (t325.length : Int) x19_2 x19_2 (wrap64 (x29_3 + 1))) else (some false))) else (none)) else (none)) else (none)) else (none)) = some r := by rw [if_neg (show ¬ (false = true) by decide)] at H; exact H
                clear H
                have H := H1
                clear H1
                by_cases c29 : 0 ≤ x19_2
                ·
                 rw [if_pos c29] at H
                 have c29b0 : decide (0 ≤ x19_2) = true := decide_eq_true c29
                 clear c29
                 by_cases c30 : x19_2 < (t325.length : Int)
                 ·
                  rw [if_pos c30] at H
                  have c30b0 : decide (x19_2 < (t325.length : Int)) = true := decide_eq_true c30
                  clear c30
                  by_cases c31 : 0 ≤ x29_3
                  ·
                   rw [if_pos c31] at H
                   have c31b0 : decide (0 ≤ x29_3) = true := decide_eq_true c31
                   clear c31
                   by_cases c32 : x29_3 < (t325.length : Int)
                   ·
                    rw [if_pos c32] at H
                    have c32b0 : decide (x29_3 < (t325.length : Int)) = true := decide_eq_true c32
                    clear c32
                    replace H := Option.bind_eq_some_iff.mp H
                    obtain ⟨t335, A330, H⟩ := H
                    replace H : (if t335 = 0 then (impl_IsRing.l1 kj14 t325 x19_2 (t325.length : Int) x19_2 x19_2 (wrap64 (x29_3 + 1))) else (some false)) = some r := H
                    have A33 := Aside0.mk A330
                    clear A330
                    by_cases c34 : t335 = 0
                    ·
                     rw [if_pos c34] at H
                     have c34b0 : (t335 == 0) = true := beq_iff_eq.mpr c34
                     have c34b1 : (t335 != 0) = false := bne_eq_false_iff_eq.mpr c34
                     clear c34
                     have H' := Aside0.mk H
                     clear H
                     try go_wp2
                     replace HO_3 := Aside0.mk (Kd.R_drew HO_3.out)
                     replace HB := Aside0.mk (below_drew1 HB.out)
                     have p333 : 0 ≤ (x19_2 : Int) := of_decide_eq_true Hd.a_
                     have q333 : x19_2 < (t325.length : Int) := of_decide_eq_true Hd.a_
                     obtain ⟨ad333, e333, hx333_0, hx333_1, hx333_2, hx333_3⟩ := at_T53 (Kd.R_reads' HO_3.out).2.2 x19_2 p333 q333
                     obtain rfl : ad328 = ad333 := (by injection e333)
                     replace p333 := eq_true p333
                     replace q333 := eq_true q333
                     have p334 : 0 ≤ (x29_3 : Int) := of_decide_eq_true Hd.a_
                     have q334 : x29_3 < (t325.length : Int) := of_decide_eq_true Hd.a_
                     obtain ⟨ad334, e334, hx334_0, hx334_1, hx334_2, hx334_3⟩ := at_T53 (Kd.R_reads' HO_3.out).2.2 x29_3 p334 q334
                     obtain rfl : ad328 = ad334 := (by injection e334)
                     replace p334 := eq_true p334
                     replace q334 := eq_true q334
                     have s0_ := Hd.HW.x (W0 := wc.drew) hx333_0
                     have s1_ := Hd.HW.x (W0 := wc.drew) hx333_1
                     have s2_ := Hd.HW.x (W0 := wc.drew) hx333_2
                     have s3_ := Hd.HW.x (W0 := wc.drew) hx333_3
                     have s4_ := Hd.HW.x (W0 := wc.drew) hx334_0
                     have s5_ := Hd.HW.x (W0 := wc.drew) hx334_1
                     have s6_ := Hd.HW.x (W0 := wc.drew) hx334_2
                     have s7_ := Hd.HW.x (W0 := wc.drew) hx334_3
                     refine Hd.HW.region (by kernel_rfl) (by kernel_rfl) ?_
                     repeat (go_big_quiet_step ((first | (go_at_call 88; with_reducible exact Hd.HW.c (impl_HowMeet.calls kj14 ((rd_T53 t325 x19_2).f0.f0) ((rd_T53 t325 x19_2).f0.f1) ((rd_T53 t325 x19_2).f1.f0) ((rd_T53 t325 x19_2).f1.f1) ((rd_T53 t325 x29_3).f0.f0) ((rd_T53 t325 x29_3).f0.f1) ((rd_T53 t325 x29_3).f1.f0) ((rd_T53 t325 x29_3).f1.f1) t335 _ A33.out)))))
                     refine wpQuiet_nil ?_
                     intro _ hq_
                     obtain ⟨q_, rfl⟩ := hq_
                     clear s0_ s1_ s2_ s3_ s4_ s5_ s6_ s7_
                     replace HO_3 := Aside0.mk (Kd.R_below HO_3.out q_.b)
                     replace HB := Aside0.mk (below_step HB.out q_.b)
                     replace hx333_0 := q_.cell hx333_0
                     replace hx333_1 := q_.cell hx333_1
                     replace hx333_2 := q_.cell hx333_2
                     replace hx333_3 := q_.cell hx333_3
                     replace hx334_0 := q_.cell hx334_0
                     replace hx334_1 := q_.cell hx334_1
                     replace hx334_2 := q_.cell hx334_2
                     replace hx334_3 := q_.cell hx334_3
                     generalize q_.W = w36 at HO_3 HB hx333_0 hx333_1 hx333_2 hx333_3 hx334_0 hx334_1 hx334_2 hx334_3 ⊢
                     try simp only [i64_w, i32_w]
                     try go_wp2
                     go_roundg kj14
                     case measure => have := HJ1.out; have := HK2.out; have := HK3.out; have := HJ14.out; omega
                     case rel => exact ⟨(wrap64 (x29_3 + 1)), (by first | rfl | (simp; done) | (simp [*]; done)), H', ⟨by have := HJ1.out; have := HK2.out; have := HK3.out; have := HJ14.out; omega⟩, ⟨by (with_reducible repeat (first | apply Kd.R_alloc | apply Kd.R_drewN | apply Kd.R_drew)); exact HO_3.out⟩, ⟨Hd.b_⟩⟩
                    ·
                     rw [if_neg c34] at H
                     have c34b0 : (t335 == 0) = false := beq_eq_false_iff_ne.mpr c34
                     have c34b1 : (t335 != 0) = true := bne_iff_ne.mpr c34
                     obtain rfl := Option.some.inj H
                     try go_wp2
                     replace HO_3 := Aside0.mk (Kd.R_drew HO_3.out)
                     replace HB := Aside0.mk (below_drew1 HB.out)
                     have p333 : 0 ≤ (x19_2 : Int) := of_decide_eq_true Hd.a_
                     have q333 : x19_2 < (t325.length : Int) := of_decide_eq_true Hd.a_
                     obtain ⟨ad333, e333, hx333_0, hx333_1, hx333_2, hx333_3⟩ := at_T53 (Kd.R_reads' HO_3.out).2.2 x19_2 p333 q333
                     obtain rfl : ad328 = ad333 := (by injection e333)
                     replace p333 := eq_true p333
                     replace q333 := eq_true q333
                     have p334 : 0 ≤ (x29_3 : Int) := of_decide_eq_true Hd.a_
                     have q334 : x29_3 < (t325.length : Int) := of_decide_eq_true Hd.a_
                     obtain ⟨ad334, e334, hx334_0, hx334_1, hx334_2, hx334_3⟩ := at_T53 (Kd.R_reads' HO_3.out).2.2 x29_3 p334 q334
                     obtain rfl : ad328 = ad334 := (by injection e334)
                     replace p334 := eq_true p334
                     replace q334 := eq_true q334
                     have s0_ := Hd.HW.x (W0 := wc.drew) hx333_0
                     have s1_ := Hd.HW.x (W0 := wc.drew) hx333_1
                     have s2_ := Hd.HW.x (W0 := wc.drew) hx333_2
                     have s3_ := Hd.HW.x (W0 := wc.drew) hx333_3
                     have s4_ := Hd.HW.x (W0 := wc.drew) hx334_0
                     have s5_ := Hd.HW.x (W0 := wc.drew) hx334_1
                     have s6_ := Hd.HW.x (W0 := wc.drew) hx334_2
                     have s7_ := Hd.HW.x (W0 := wc.drew) hx334_3
                     refine Hd.HW.region (by kernel_rfl) (by kernel_rfl) ?_
                     repeat (go_big_quiet_step ((first | (go_at_call 88; with_reducible exact Hd.HW.c (impl_HowMeet.calls kj14 ((rd_T53 t325 x19_2).f0.f0) ((rd_T53 t325 x19_2).f0.f1) ((rd_T53 t325 x19_2).f1.f0) ((rd_T53 t325 x19_2).f1.f1) ((rd_T53 t325 x29_3).f0.f0) ((rd_T53 t325 x29_3).f0.f1) ((rd_T53 t325 x29_3).f1.f0) ((rd_T53 t325 x29_3).f1.f1) t335 _ A33.out)))))
                     refine wpQuiet_nil ?_
                     intro _ hq_
                     obtain ⟨q_, rfl⟩ := hq_
                     clear s0_ s1_ s2_ s3_ s4_ s5_ s6_ s7_
                     replace HO_3 := Aside0.mk (Kd.R_below HO_3.out q_.b)
                     replace HB := Aside0.mk (below_step HB.out q_.b)
                     replace hx333_0 := q_.cell hx333_0
                     replace hx333_1 := q_.cell hx333_1
                     replace hx333_2 := q_.cell hx333_2
                     replace hx333_3 := q_.cell hx333_3
                     replace hx334_0 := q_.cell hx334_0
                     replace hx334_1 := q_.cell hx334_1
                     replace hx334_2 := q_.cell hx334_2
                     replace hx334_3 := q_.cell hx334_3
                     generalize q_.W = w38 at HO_3 HB hx333_0 hx333_1 hx333_2 hx333_3 hx334_0 hx334_1 hx334_2 hx334_3 ⊢
                     try simp only [i64_w, i32_w]
                     try go_wp2
                     go_ret
                     exact ⟨Hd.e_, Hd.b_⟩
                   ·
                    rw [if_neg c32] at H
                    exact absurd H (by simp)
                  ·
                   rw [if_neg c31] at H
                   exact absurd H (by simp)
                 ·
                  rw [if_neg c30] at H
                  exact absurd H (by simp)
                ·
                 rw [if_neg c29] at H
                 exact absurd H (by simp)
            ·
             rw [if_neg c14] at H
             have c14b0 : decide (x29_3 < x19_2) = false := decide_eq_false c14
             clear c14
             have H' := Aside0.mk H
             clear H
             go_wp2
             go_roundg k3
             case measure => have := HJ1.out; have := HK2.out; have := HK3.out; omega
             case rel => exact ⟨(wrap64 (x19_2 + 1)), (by first | rfl | (simp; done) | (simp [*]; done)), H', ⟨by have := HJ1.out; have := HK2.out; have := HK3.out; omega⟩, ⟨by (with_reducible repeat (first | apply Kd.R_alloc | apply Kd.R_drewN | apply Kd.R_drew)); exact HO_3.out⟩, ⟨Hd.b_⟩⟩
         ·
          replace c12 := Bool.eq_false_iff.mpr c12
          subst c12
          have H1 : (some false) = some r := by rw [if_neg (show ¬ (false = true) by decide)] at H; exact H
          clear H
          have H := H1
          clear H1
          obtain rfl := Option.some.inj H
          have p328 : 0 ≤ (x19_2 : Int) := of_decide_eq_true Hd.a_
          have q328 : x19_2 < (t325.length : Int) := of_decide_eq_true Hd.a_
          obtain ⟨ad328, e328, hx328_0, hx328_1, hx328_2, hx328_3⟩ := at_T53 (Kd.R_reads' HO_3.out).2.2 x19_2 p328 q328
          cases e328
          replace p328 := eq_true p328
          replace q328 := eq_true q328
          go_wp2_with (first | ((with_reducible refine gate_callee (f := 83) rfl ?_); refine goesL_ (some 26) rfl rfl Try.func83 (by kernel_rfl) rfl #[.agg #[.int .i64 ((rd_T53 t325 x19_2).f0.f0), .int .i64 ((rd_T53 t325 x19_2).f0.f1), .int .i64 ((rd_T53 t325 x19_2).f1.f0), .int .i64 ((rd_T53 t325 x19_2).f1.f1)]] rfl Hd.m_ ?_; (with_reducible refine (impl_IsSegment.calls ((rd_T53 t325 x19_2).f0.f0) ((rd_T53 t325 x19_2).f0.f1) ((rd_T53 t325 x19_2).f1.f0) ((rd_T53 t325 x19_2).f1.f1) false _ A11.out).mono ?_); rintro e w39 ⟨rfl, hb⟩; refine ⟨_, rfl, ?_⟩; replace HO_3 := Aside0.mk (Kd.R_below (Hd.r_ HO_3) hb); replace HB := Aside0.mk (below_step Hd.b_ hb); (try clear hb); (try clear hb2); (try clear hk); (try clear hi)))
          go_ret
          exact ⟨Hd.e_, Hd.b_⟩
        ·
         rw [if_neg c10] at H
         exact absurd H (by simp)
       ·
        rw [if_neg c9] at H
        exact absurd H (by simp)
      ·
       rw [if_neg c8] at H
       have c8b0 : decide (x19_2 < (t325.length : Int)) = false := decide_eq_false c8
       clear c8
       obtain rfl := Option.some.inj H
       go_wp2
       go_ret
       exact ⟨Hd.e_, Hd.b_⟩
def impl_RingSegments.f (k : Nat) (l0 : List (S27)) : Option ((List (S53))) := (impl_IsRing.f k l0).bind fun t336 => (if t336 = true then ((impl_around.f k l0).bind fun t337 => (some t337)) else (some (([] : List (S53)))))
set_option maxHeartbeats 8000000 in
set_option maxRecDepth 100000 in
theorem impl_RingSegments.calls (k : Nat) (A0 : Option Addr) (c0 : Nat) (l0 : List (S27)) (r : List (S53)) (w : World) (hr0 : Kd.C k27 w A0 l0.length l0) (hc0 : l0.length ≤ c0) (h : impl_RingSegments.f k l0 = some r) :
  Calls Try.prog 46 #[.slice A0 l0.length c0] w fun e w' => ∃ v0_ : Value, e = .returned (v0_) ∧ Kd.R k53 53 w' w.heap.size (fun _ => True) v0_ r ∧ Below w.heap.size w w' := by
 have HR0 := Aside0.mk hr0
 have HC0 := Aside0.mk hc0
 clear hr0 hc0
 have HB := Aside0.mk (Below.refl w.heap.size w)
 have H : ((impl_IsRing.f k l0).bind fun t336 => (if t336 = true then ((impl_around.f k l0).bind fun t337 => (some t337)) else (some (([] : List (S53)))))) = some r := h
 clear h
 replace H := Option.bind_eq_some_iff.mp H
 obtain ⟨t336, A20, H⟩ := H
 replace H : (if t336 = true then ((impl_around.f k l0).bind fun t337 => (some t337)) else (some (([] : List (S53))))) = some r := H
 have A2 := Aside0.mk A20
 clear A20
 by_cases c3 : t336 = true
 ·
  subst c3
  have H1 : ((impl_around.f k l0).bind fun t337 => (some t337)) = some r := by rw [if_pos rfl] at H; exact H
  clear H
  have H := H1
  clear H1
  replace H := Option.bind_eq_some_iff.mp H
  obtain ⟨t337, A40, H⟩ := H
  replace H : (some t337) = some r := H
  have A4 := Aside0.mk A40
  clear A40
  obtain rfl := Option.some.inj H
  go_enter Try.func46, Try.ntmps46
  go_wp2_with (first | ((with_reducible refine gate_callee (f := 39) rfl ?_); refine goesL_ (some 4) rfl rfl Try.func39 (by kernel_rfl) rfl #[.slice A0 l0.length c0] rfl Hd.m_ ?_; (with_reducible refine (impl_IsRing.calls k _ _ l0 true _ ?side1 ?side2 A2.out).mono ?_); (case side1 => repeat (first | exact HR0.out | (with_reducible refine Kd.C_alloc ?_ _) | (with_reducible refine Kd.C_drewN ?_ _) | (with_reducible refine Kd.C_drew ?_))); (case side2 => exact HC0.out); rintro e w5 ⟨rfl, hb⟩; refine ⟨_, rfl, ?_⟩; replace HB := Aside0.mk (below_step Hd.b_ hb); (try clear hb); (try clear hb2); (try clear hk); (try clear hi)) | ((with_reducible refine gate_callee (f := 87) rfl ?_); refine goesL_ (some 8) rfl rfl Try.func87 (by kernel_rfl) rfl #[.slice A0 l0.length c0] rfl Hd.m_ ?_; (with_reducible refine (impl_around.calls k _ _ l0 t337 _ ?side1 ?side2 A4.out).mono ?_); (case side1 => repeat (first | exact (Kd.C_below HR0.out HB.out) | (with_reducible refine Kd.C_alloc ?_ _) | (with_reducible refine Kd.C_drewN ?_ _) | (with_reducible refine Kd.C_drew ?_))); (case side2 => exact HC0.out); rintro e w6 ⟨v338, rfl, ho0, hb⟩; refine ⟨_, rfl, ?_⟩; have HO339 := Aside0.mk (Kd.R_lower ho0 (below_size Hd.b_)); replace HB := Aside0.mk (below_step Hd.b_ hb); (try clear hb); (try clear hb2); (try clear hk); (try clear hi); (try clear ho0)))
  go_ret
  exact ⟨_, Hd.e_, by (with_reducible repeat (first | apply Kd.R_alloc | apply Kd.R_drewN | apply Kd.R_drew)); exact HO339.out, Hd.b_⟩
 ·
  replace c3 := Bool.eq_false_iff.mpr c3
  subst c3
  have H1 : (some (([] : List (S53)))) = some r := by rw [if_neg (show ¬ (false = true) by decide)] at H; exact H
  clear H
  have H := H1
  clear H1
  obtain ⟨y340, hy340⟩ : ∃ y_ : List (S53), y_ = (([] : List (S53))) := ⟨_, rfl⟩
  replace H : (some y340) = some r := by first | (rw [hy340]; with_reducible exact H) | (have H2_ := (Option.bind_some _ _).symm.trans H; rw [hy340]; with_reducible exact H2_) | (have H2_ := (Option.bind_some _ _).symm.trans H; with_reducible exact H2_) | with_reducible exact H | (rw [hy340]; exact H) | exact H
  have Ny340 := Aside0.mk hy340
  clear hy340
  obtain rfl := Option.some.inj H
  go_enter Try.func46, Try.ntmps46
  go_wp2_with (first | ((with_reducible refine gate_callee (f := 39) rfl ?_); refine goesL_ (some 4) rfl rfl Try.func39 (by kernel_rfl) rfl #[.slice A0 l0.length c0] rfl Hd.m_ ?_; (with_reducible refine (impl_IsRing.calls k _ _ l0 false _ ?side1 ?side2 A2.out).mono ?_); (case side1 => repeat (first | exact HR0.out | (with_reducible refine Kd.C_alloc ?_ _) | (with_reducible refine Kd.C_drewN ?_ _) | (with_reducible refine Kd.C_drew ?_))); (case side2 => exact HC0.out); rintro e w7 ⟨rfl, hb⟩; refine ⟨_, rfl, ?_⟩; replace HB := Aside0.mk (below_step Hd.b_ hb); (try clear hb); (try clear hb2); (try clear hk); (try clear hi)) | ((with_reducible refine gate_dst (N := 6) rfl ?_); refine Kd.R_lit k53 _ 53 ?hg (N := 6) ?hd (xs := ([] : List (S53))) (inner := []) (ok := fun _ => True) (okp := fun _ => True) ?hr ?hp (fun _ hk => hk) trivial (Below.refl _ _) (Nat.le_refl _) (by simp) ?_; (case hd => rfl); (case hg => rfl); (case hr => first | (go_simp; done) | (go_simp; rfl)); (case hp => exact (Reps.none _ _)); intro v341 w8 ho9 hb hg_ hnew_; clear hg_ hnew_; (first | rw [← Ny340.out] at ho9 | (simp only [Int.reduceToNat] at ho9; rw [← Ny340.out] at ho9)); have HO342 := Aside0.mk (Kd.R_lower ho9 (below_size Hd.b_)); replace HB := Aside0.mk (below_step Hd.b_ hb); clear hb ho9))
  go_ret
  exact ⟨_, Hd.e_, by (with_reducible repeat (first | apply Kd.R_alloc | apply Kd.R_drewN | apply Kd.R_drew)); exact HO342.out, Hd.b_⟩
def impl_TwiceArea.l0 : Nat → Int → List (S53) → Int → Int → Option (Int)
 | 0, _, _, _, _ => none
 | k + 1, x3, x7, x8, x9 => if x9 < x8 then (if 0 ≤ x9 then (if x9 < (x7.length : Int) then (impl_TwiceArea.l0 k (wrap64 (x3 + (wrap64 ((wrap64 (((rd_T53 x7 x9).f0.f0) * ((rd_T53 x7 x9).f1.f1))) - (wrap64 (((rd_T53 x7 x9).f0.f1) * ((rd_T53 x7 x9).f1.f0))))))) x7 x8 (wrap64 (x9 + 1))) else (none)) else (none)) else (some x3)
def impl_TwiceArea.f (k : Nat) (l0 : List (S27)) : Option (Int) := (impl_RingSegments.f k l0).bind fun t343 => (impl_TwiceArea.l0 k 0 t343 (t343.length : Int) 0)
set_option maxHeartbeats 8000000 in
set_option maxRecDepth 100000 in
theorem impl_TwiceArea.calls (k : Nat) (A0 : Option Addr) (c0 : Nat) (l0 : List (S27)) (r : Int) (w : World) (hr0 : Kd.C k27 w A0 l0.length l0) (hc0 : l0.length ≤ c0) (h : impl_TwiceArea.f k l0 = some r) :
  Calls Try.prog 40 #[.slice A0 l0.length c0] w fun e w' => e = .returned (.int .i64 r) ∧ Below w.heap.size w w' := by
 have hu53 := Try.underlying53
 have HR0 := Aside0.mk hr0
 have HC0 := Aside0.mk hc0
 clear hr0 hc0
 have HB := Aside0.mk (Below.refl w.heap.size w)
 have H : ((impl_RingSegments.f k l0).bind fun t343 => (impl_TwiceArea.l0 k 0 t343 (t343.length : Int) 0)) = some r := h
 clear h
 replace H := Option.bind_eq_some_iff.mp H
 obtain ⟨t343, A20, H⟩ := H
 replace H : (impl_TwiceArea.l0 k 0 t343 (t343.length : Int) 0) = some r := H
 have A2 := Aside0.mk A20
 clear A20
 have H' := Aside0.mk H
 clear H
 go_enter Try.func40, Try.ntmps40
 go_wp2_with (first | ((with_reducible refine gate_callee (f := 46) rfl ?_); refine goesL_ (some 7) rfl rfl Try.func46 (by kernel_rfl) rfl #[.slice A0 l0.length c0] rfl Hd.m_ ?_; (with_reducible refine (impl_RingSegments.calls k _ _ l0 t343 _ ?side1 ?side2 A2.out).mono ?_); (case side1 => repeat (first | exact HR0.out | (with_reducible refine Kd.C_alloc ?_ _) | (with_reducible refine Kd.C_drewN ?_ _) | (with_reducible refine Kd.C_drew ?_))); (case side2 => exact HC0.out); rintro e w3 ⟨v344, rfl, ho0, hb⟩; refine ⟨_, rfl, ?_⟩; have HO345 := Aside0.mk (Kd.R_lower ho0 (below_size Hd.b_)); replace HB := Aside0.mk (below_step Hd.b_ hb); (try clear hb); (try clear hb2); (try clear hk); (try clear hi); (try clear ho0); obtain ⟨Ao4, co4, eo4⟩ := Kd.R_slice HO345.out; subst eo4))
 go_loopg [3, 9] k (fun kq v3 v9 w' => ∃ (x3_1 : Int) (x9_1 : Int), v3 = .int .i64 x3_1 ∧ v9 = .int .i64 x9_1 ∧ Aside0 (impl_TwiceArea.l0 kq x3_1 t343 (t343.length : Int) x9_1 = some r) ∧ Aside0 (kq ≤ k) ∧ Aside0 (Kd.R k53 53 w' w.heap.size (fun _ => True) (.slice Ao4 t343.length co4) t343) ∧ Aside0 (Below w.heap.size w w'))
 case atStart => exact ⟨(0), (0), (by first | rfl | (simp; done) | (simp [*]; done)), (by first | rfl | (simp; done) | (simp [*]; done)), H', ⟨Nat.le_refl _⟩, ⟨by (with_reducible repeat (first | apply Kd.R_alloc | apply Kd.R_drewN | apply Kd.R_drew)); exact HO345.out⟩, ⟨Hd.b_⟩⟩
 case round =>
  clear H'
  try clear p2
  try clear c4
  obtain ⟨x3_1, x9_1, rfl, rfl, HA, HK1, HO_7, HB⟩ := hrel
  cases gk with
  | zero => exact absurd HA.out (by simp [impl_TwiceArea.l0])
  | succ k1 =>
   have H := HA.out
   clear HA
   simp only [impl_TwiceArea.l0] at H
   by_cases c5 : x9_1 < (t343.length : Int)
   ·
    rw [if_pos c5] at H
    have c5b0 : decide (x9_1 < (t343.length : Int)) = true := decide_eq_true c5
    clear c5
    by_cases c6 : 0 ≤ x9_1
    ·
     rw [if_pos c6] at H
     have c6b0 : decide (0 ≤ x9_1) = true := decide_eq_true c6
     clear c6
     by_cases c7 : x9_1 < (t343.length : Int)
     ·
      rw [if_pos c7] at H
      have c7b0 : decide (x9_1 < (t343.length : Int)) = true := decide_eq_true c7
      clear c7
      have H' := Aside0.mk H
      clear H
      have p346 : 0 ≤ (x9_1 : Int) := of_decide_eq_true Hd.a_
      have q346 : x9_1 < (t343.length : Int) := of_decide_eq_true Hd.a_
      obtain ⟨ad346, e346, hx346_0, hx346_1, hx346_2, hx346_3⟩ := at_T53 (Kd.R_reads' HO_7.out).2.2 x9_1 p346 q346
      cases e346
      replace p346 := eq_true p346
      replace q346 := eq_true q346
      go_wp2_with (first | ((with_reducible refine gate_dst (N := 5) rfl ?_); refine Hd.box_ 5 (#[.int .i64 0, .int .i64 0, .int .i64 0, .int .i64 0]) 53 ?_; intro gb347 hg w8 hbox hb; replace HO_7 := Aside0.mk (Kd.R_below (Kd.R_elderB (Hd.r_ HO_7) gb347 (Nat.le_of_eq hg.symm)) hb); have BK347 := Aside0.mk (hbox); have GW347 := Aside0.mk ((Hd.g_ hg Hd.b_ : w.heap.size ≤ gb347)); have GE347 := Aside0.mk ((Hd.g_ hg Hd.b_ : w.heap.size ≤ gb347)); replace HB := Aside0.mk (below_step Hd.b_ hb); clear hb hbox hg; obtain ⟨hcz9_0, hcz9_1, hcz9_2, hcz9_3⟩ := Hd.c4_ BK347.out; obtain ⟨hfz9_0, hfz9_1, hfz9_2, hfz9_3⟩ := Hd.f4_ BK347.out))
      go_roundg k1
      case measure => have := HK1.out; omega
      case rel => exact ⟨(wrap64 (x3_1 + (wrap64 ((wrap64 (((rd_T53 t343 x9_1).f0.f0) * ((rd_T53 t343 x9_1).f1.f1))) - (wrap64 (((rd_T53 t343 x9_1).f0.f1) * ((rd_T53 t343 x9_1).f1.f0))))))), (wrap64 (x9_1 + 1)), (by first | rfl | (simp; done) | (simp [*]; done)), (by first | rfl | (simp; done) | (simp [*]; done)), H', ⟨by have := HK1.out; omega⟩, ⟨by (with_reducible repeat (first | apply Kd.R_alloc | apply Kd.R_drewN | apply Kd.R_drew)); exact Kd.R_mono (Kd.R_far (p := ⟨gb347, 3, none⟩) (Kd.R_far (p := ⟨gb347, 2, none⟩) (Kd.R_far (p := ⟨gb347, 1, none⟩) (Kd.R_far (p := ⟨gb347, 0, none⟩) (Kd.R_mono HO_7.out (fun k_ hk => (⟨hk, hk.2⟩ : _ ∧ k_ ≠ gb347))) (fun _ hk => hk.2) (.int .i64 ((rd_T53 t343 x9_1).f0.f0))) (fun _ hk => hk.2) (.int .i64 ((rd_T53 t343 x9_1).f0.f1))) (fun _ hk => hk.2) (.int .i64 ((rd_T53 t343 x9_1).f1.f0))) (fun _ hk => hk.2) (.int .i64 ((rd_T53 t343 x9_1).f1.f1))) (fun _ hk => trivial)⟩, ⟨Hd.b_⟩⟩
     ·
      rw [if_neg c7] at H
      exact absurd H (by simp)
    ·
     rw [if_neg c6] at H
     exact absurd H (by simp)
   ·
    rw [if_neg c5] at H
    have c5b0 : decide (x9_1 < (t343.length : Int)) = false := decide_eq_false c5
    clear c5
    obtain rfl := Option.some.inj H
    go_wp2
    go_ret
    exact ⟨Hd.e_, Hd.b_⟩
def spec_DrawRotateRing.f (k : Nat) (l0 : List Int) : Option ((List (S27)) × Int) := (spec_l1New.f k l0).bind fun bt348 => ((spec_l7Any.f bt348.1 bt348.2.1 bt348.2.2).bind fun bt352 => ((spec_l1Below.f bt348.1 bt352.2.1 bt352.2.2 8).bind fun bt357 => (some (bt352.1, wrap64 (bt357.1 - 1)))))
set_option maxHeartbeats 8000000 in
set_option maxRecDepth 100000 in
theorem spec_DrawRotateRing.calls (k : Nat) (A0 : Option Addr) (c0 : Nat) (l0 : List Int) (r1 : List (S27)) (r2 : Int) (w : World) (hr0 : Kd.C (Kd.int .u8) w A0 l0.length l0) (hc0 : l0.length ≤ c0) (h : spec_DrawRotateRing.f k l0 = some (r1, r2)) :
  Calls Try.prog 41 #[.slice A0 l0.length c0] w fun e w' => ∃ v0_ : Value, e = .returned (.tuple #[v0_, .int .i64 r2]) ∧ Kd.R k27 27 w' w.heap.size (fun _ => True) v0_ r1 ∧ Below w.heap.size w w' := by
 have HR0 := Aside0.mk hr0
 have HC0 := Aside0.mk hc0
 clear hr0 hc0
 have HB := Aside0.mk (Below.refl w.heap.size w)
 have H : ((spec_l1New.f k l0).bind fun bt348 => ((spec_l7Any.f bt348.1 bt348.2.1 bt348.2.2).bind fun bt352 => ((spec_l1Below.f bt348.1 bt352.2.1 bt352.2.2 8).bind fun bt357 => (some (bt352.1, wrap64 (bt357.1 - 1)))))) = some (r1, r2) := h
 clear h
 replace H := Option.bind_eq_some_iff.mp H
 obtain ⟨⟨t348, t349, t350⟩, A20, H⟩ := H
 replace H : ((spec_l7Any.f t348 t349 t350).bind fun bt352 => ((spec_l1Below.f t348 bt352.2.1 bt352.2.2 8).bind fun bt357 => (some (bt352.1, wrap64 (bt357.1 - 1))))) = some (r1, r2) := H
 have A2 := Aside0.mk A20
 clear A20
 replace H := Option.bind_eq_some_iff.mp H
 obtain ⟨⟨t352, t355, t356⟩, A30, H⟩ := H
 replace H : ((spec_l1Below.f t348 t355 t356 8).bind fun bt357 => (some (t352, wrap64 (bt357.1 - 1)))) = some (r1, r2) := H
 have A3 := Aside0.mk A30
 clear A30
 replace H := Option.bind_eq_some_iff.mp H
 obtain ⟨⟨t357, t358, t359⟩, A40, H⟩ := H
 replace H : (some (t352, wrap64 (t357 - 1))) = some (r1, r2) := H
 have A4 := Aside0.mk A40
 clear A40
 simp only [Option.some.injEq, Prod.mk.injEq] at H
 obtain ⟨rfl, rfl⟩ := H
 go_enter Try.func41, Try.ntmps41
 go_wp2_with (first | ((with_reducible refine gate_callee (f := 66) rfl ?_); refine goesL_ (some 7) rfl rfl Try.func66 (by kernel_rfl) rfl #[.slice A0 l0.length c0] rfl Hd.m_ ?_; (with_reducible refine (spec_l1New.calls k _ _ l0 t348 t349 t350 w _ ?side1 ?side2 ?side3 A2.out).mono ?_); (case side1 => repeat (first | (with_reducible first | exact HB.out | apply below_alloc | apply pw_below_drewN | apply below_drew1) | exact HB.out)); (case side2 => exact HR0.out); (case side3 => exact HC0.out); rintro e w5 ⟨g351, rfl, hi, hb, hb2⟩; refine ⟨_, rfl, ?_⟩; replace HB := Aside0.mk (hb); have HI351 := Aside0.mk (hi); (try clear hb); (try clear hb2); (try clear hk); (try clear hi)) | ((with_reducible refine gate_callee (f := 85) rfl ?_); refine goesL_ (some 9) rfl rfl Try.func85 (by kernel_rfl) rfl #[.pointer (some ⟨g351, 0, none⟩)] rfl Hd.m_ ?_; (with_reducible refine (spec_l7Any.calls g351 t348 t349 t350 t352 t355 t356 w _ ?side1 ?side2 A3.out).mono ?_); (case side1 => repeat (first | (with_reducible first | exact HI351.out | apply IsS109.alloc | apply IsS109.drewN | apply IsS109.drew | apply IsS109.set_1 | apply IsS109.set_2) | exact HI351.out)); (case side2 => repeat (first | (with_reducible first | exact HB.out | apply below_alloc | apply pw_below_drewN | apply below_drew1 | refine below_set ?_ (IsS109.ge HI351.out)) | exact HB.out)); rintro e w6 ⟨v353, rfl, ho0, hi, hb, hk⟩; refine ⟨_, rfl, ?_⟩; have HO354 := Aside0.mk (Kd.R_lower ho0 (below_size (by repeat (first | (with_reducible first | exact HB.out | apply below_alloc | apply pw_below_drewN | apply below_drew1 | refine below_set ?_ (IsS109.ge HI351.out)) | exact HB.out)))); replace HB := Aside0.mk (hb); replace HI351 := Aside0.mk (hi); (try clear hb); (try clear hb2); (try clear hk); (try clear hi); (try clear ho0)) | ((with_reducible refine gate_callee (f := 89) rfl ?_); refine goesL_ (some 12) rfl rfl Try.func89 (by kernel_rfl) rfl #[.pointer (some ⟨g351, 0, none⟩), .int .i64 8] rfl Hd.m_ ?_; (with_reducible refine (spec_l1Below.calls g351 t348 t355 t356 8 t357 t358 t359 w _ ?side1 ?side2 A4.out).mono ?_); (case side1 => repeat (first | (with_reducible first | exact HI351.out | apply IsS109.alloc | apply IsS109.drewN | apply IsS109.drew | apply IsS109.set_1 | apply IsS109.set_2) | exact HI351.out)); (case side2 => repeat (first | (with_reducible first | exact HB.out | apply below_alloc | apply pw_below_drewN | apply below_drew1 | refine below_set ?_ (IsS109.ge HI351.out)) | exact HB.out)); rintro e w7 ⟨rfl, hi, hb, hk⟩; refine ⟨_, rfl, ?_⟩; replace HO354 := Aside0.mk (Kd.R_mono (Kd.R_keep (IsS109.apart (show IsS109 w _ g351 t348 t355 t356 from by repeat (first | (with_reducible first | exact HI351.out | apply IsS109.alloc | apply IsS109.drewN | apply IsS109.drew | apply IsS109.set_1 | apply IsS109.set_2) | exact HI351.out)) (Hd.r_ HO354) (by decide)) hk (fun _ h => h.2)) (fun _ h => h.1)); replace HB := Aside0.mk (hb); replace HI351 := Aside0.mk (hi); (try clear hb); (try clear hb2); (try clear hk); (try clear hi)))
 go_ret2
 exact ⟨_, Hd.e_, by (with_reducible repeat (first | apply Kd.R_alloc | apply Kd.R_drewN | apply Kd.R_drew)); exact HO354.out, by repeat (first | (with_reducible first | exact HB.out | apply below_alloc | apply pw_below_drewN | apply below_drew1 | refine below_set ?_ (IsS109.ge HI351.out)) | exact HB.out)⟩
end Go.Proofs.Ytbackoeakepngaa.MFnRings
