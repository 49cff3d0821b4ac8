-- Laid by this session's program pp.py, after the kit's print and texts of the session's own. Not trusted: Lean checks it.
import Derived.Test.YtchmbcembbbplabMFnExactIsInsidex0
import Derived.Test.YtchmbcembbbplabMFnExactIsInsidex2
import Derived.Test.YtchmbcembbbplabMFnExactIsInsidex3
import Derived.Test.YtchmbcembbbplabMFnExactIsInsidex5
namespace Go.Proofs.Ytchmbcembbbplab.MFnExactIsInside
open Go.RowKit Go.Proofs.YtchmbcembbbplabW.PrintWords Go.Proofs.YtchmbcembbbplabW.PrintLast Go.Proofs.YtchmbcembbbplabW.PrintMore
attribute [local go_sem] max2_int min2_int max_two min_two max_three min_three max_four min_four   -- for this text's walks alone
set_option linter.unusedVariables false
set_option linter.unusedSimpArgs false

/-! ### impl_IsRing: function 57 -/
mutual
def impl_IsRing.j0 : Nat → List (S27) → Bool → Option (Bool)
 | 0, _, _ => none
 | k + 1, x0, x14 => if x14 = true then (some false) else ((impl_around.f k x0).bind fun t187 => (impl_IsRing.l0 k t187 (t187.length : Int) 0))
def impl_IsRing.l0 : Nat → List (S60) → Int → Int → Option (Bool)
 | 0, _, _, _ => none
 | k + 1, x3, x18, x19 => if x19 < x18 then (if 0 ≤ x19 then (if x19 < (x3.length : Int) then ((impl_IsSegment.f ((rd_T60 x3 x19).f0.f0) ((rd_T60 x3 x19).f0.f1) ((rd_T60 x3 x19).f1.f0) ((rd_T60 x3 x19).f1.f1)).bind fun t191 => (if t191 = true then (impl_IsRing.l1 k x3 x19 x18 x19 x19 0) else (some false))) else (none)) else (none)) else (some true)
def impl_IsRing.l1 : Nat → List (S60) → Int → Int → Int → Int → Int → Option (Bool)
 | 0, _, _, _, _, _, _ => none
 | k + 1, x3, x4, x18, x19, x28, x29 => if x29 < x28 then (if x29 = (wrap64 (x4 - 1)) then (impl_IsRing.j3 k x3 x4 x29 0 x18 x19 x28 x29 true) else (if x29 = 0 then (impl_IsRing.j3 k x3 x4 x29 0 x18 x19 x28 x29 (x4 == (wrap64 ((x3.length : Int) - 1)))) else (impl_IsRing.j3 k x3 x4 x29 0 x18 x19 x28 x29 false))) else (impl_IsRing.l0 k x3 x18 (wrap64 (x19 + 1)))
def impl_IsRing.j3 : Nat → List (S60) → Int → Int → Int → Int → Int → Int → Int → Bool → Option (Bool)
 | 0, _, _, _, _, _, _, _, _, _ => none
 | k + 1, x3, x4, x5, x6, x18, x19, x28, x29, x46 => if x46 = true then (if 0 ≤ x4 then (if x4 < (x3.length : Int) then (if 0 ≤ x5 then (if x5 < (x3.length : Int) then ((impl_HowMeet.f k ((rd_T60 x3 x4).f0.f0) ((rd_T60 x3 x4).f0.f1) ((rd_T60 x3 x4).f1.f0) ((rd_T60 x3 x4).f1.f1) ((rd_T60 x3 x5).f0.f0) ((rd_T60 x3 x5).f0.f1) ((rd_T60 x3 x5).f1.f0) ((rd_T60 x3 x5).f1.f1)).bind fun t194 => (if t194 = 1 then (impl_IsRing.l1 k x3 x4 x18 x19 x28 (wrap64 (x29 + 1))) else (some false))) else (none)) else (none)) else (none)) else (none)) else (if 0 ≤ x4 then (if x4 < (x3.length : Int) then (if 0 ≤ x5 then (if x5 < (x3.length : Int) then ((impl_HowMeet.f k ((rd_T60 x3 x4).f0.f0) ((rd_T60 x3 x4).f0.f1) ((rd_T60 x3 x4).f1.f0) ((rd_T60 x3 x4).f1.f1) ((rd_T60 x3 x5).f0.f0) ((rd_T60 x3 x5).f0.f1) ((rd_T60 x3 x5).f1.f0) ((rd_T60 x3 x5).f1.f1)).bind fun t197 => (if t197 = x6 then (impl_IsRing.l1 k x3 x4 x18 x19 x28 (wrap64 (x29 + 1))) else (some false))) else (none)) else (none)) else (none)) else (none))
end
def impl_IsRing.f (k : Nat) (l0 : List (S27)) : Option (Bool) := if (l0.length : Int) < 3 then (impl_IsRing.j0 k l0 true) else (impl_IsRing.j0 k l0 (decide ((l0.length : Int) > 10)))
theorem impl_IsRing.mono_l : ∀ k, (∀ y0 y1, LeO (impl_IsRing.j0 k y0 y1) (impl_IsRing.j0 (k + 1) y0 y1)) ∧ (∀ y0 y1 y2, LeO (impl_IsRing.l0 k y0 y1 y2) (impl_IsRing.l0 (k + 1) y0 y1 y2)) ∧ (∀ y0 y1 y2 y3 y4 y5, LeO (impl_IsRing.l1 k y0 y1 y2 y3 y4 y5) (impl_IsRing.l1 (k + 1) y0 y1 y2 y3 y4 y5)) ∧ (∀ y0 y1 y2 y3 y4 y5 y6 y7 y8, LeO (impl_IsRing.j3 k y0 y1 y2 y3 y4 y5 y6 y7 y8) (impl_IsRing.j3 (k + 1) y0 y1 y2 y3 y4 y5 y6 y7 y8))
 | 0 => ⟨fun _ _ r h => by simp [impl_IsRing.j0] at h, fun _ _ _ r h => by simp [impl_IsRing.l0] at h, fun _ _ _ _ _ _ r h => by simp [impl_IsRing.l1] at h, fun _ _ _ _ _ _ _ _ _ r h => by simp [impl_IsRing.j3] at h⟩
 | k + 1 => by
  obtain ⟨ih0, ih1, ih2, ih3⟩ := impl_IsRing.mono_l k
  refine ⟨?_, ?_, ?_, ?_⟩
  ·
   intro y0 y1
   unfold impl_IsRing.j0
   repeat' first
   | (with_reducible exact ih0 _ _)
   | (with_reducible exact ih1 _ _ _)
   | (with_reducible exact ih2 _ _ _ _ _ _)
   | (with_reducible exact ih3 _ _ _ _ _ _ _ _ _)
   | (with_reducible exact impl_HowMeet.mono _ _ _ _ _ _ _ _ _)
   | (with_reducible exact impl_around.mono _ _)
   | (with_reducible exact LeO.refl _)
   | (with_reducible exact LeO.none _)
   | (with_reducible refine LeO.ite ?_ ?_)
   | (with_reducible refine LeO.bind ?_ (fun _ => ?_))
   | exact ih0 _ _
   | exact ih1 _ _ _
   | exact ih2 _ _ _ _ _ _
   | exact ih3 _ _ _ _ _ _ _ _ _
   | exact impl_HowMeet.mono _ _ _ _ _ _ _ _ _
   | exact impl_around.mono _ _
   | exact LeO.none _
   | refine LeO.ite ?_ ?_
   | refine LeO.bind ?_ (fun _ => ?_)
  ·
   intro y0 y1 y2
   unfold impl_IsRing.l0
   repeat' first
   | (with_reducible exact ih0 _ _)
   | (with_reducible exact ih1 _ _ _)
   | (with_reducible exact ih2 _ _ _ _ _ _)
   | (with_reducible exact ih3 _ _ _ _ _ _ _ _ _)
   | (with_reducible exact impl_HowMeet.mono _ _ _ _ _ _ _ _ _)
   | (with_reducible exact impl_around.mono _ _)
   | (with_reducible exact LeO.refl _)
   | (with_reducible exact LeO.none _)
   | (with_reducible refine LeO.ite ?_ ?_)
   | (with_reducible refine LeO.bind ?_ (fun _ => ?_))
   | exact ih0 _ _
   | exact ih1 _ _ _
   | exact ih2 _ _ _ _ _ _
   | exact ih3 _ _ _ _ _ _ _ _ _
   | exact impl_HowMeet.mono _ _ _ _ _ _ _ _ _
   | exact impl_around.mono _ _
   | exact LeO.none _
   | refine LeO.ite ?_ ?_
   | refine LeO.bind ?_ (fun _ => ?_)
  ·
   intro y0 y1 y2 y3 y4 y5
   unfold impl_IsRing.l1
   repeat' first
   | (with_reducible exact ih0 _ _)
   | (with_reducible exact ih1 _ _ _)
   | (with_reducible exact ih2 _ _ _ _ _ _)
   | (with_reducible exact ih3 _ _ _ _ _ _ _ _ _)
   | (with_reducible exact impl_HowMeet.mono _ _ _ _ _ _ _ _ _)
   | (with_reducible exact impl_around.mono _ _)
   | (with_reducible exact LeO.refl _)
   | (with_reducible exact LeO.none _)
   | (with_reducible refine LeO.ite ?_ ?_)
   | (with_reducible refine LeO.bind ?_ (fun _ => ?_))
   | exact ih0 _ _
   | exact ih1 _ _ _
   | exact ih2 _ _ _ _ _ _
   | exact ih3 _ _ _ _ _ _ _ _ _
   | exact impl_HowMeet.mono _ _ _ _ _ _ _ _ _
   | exact impl_around.mono _ _
   | exact LeO.none _
   | refine LeO.ite ?_ ?_
   | refine LeO.bind ?_ (fun _ => ?_)
  ·
   intro y0 y1 y2 y3 y4 y5 y6 y7 y8
   unfold impl_IsRing.j3
   repeat' first
   | (with_reducible exact ih0 _ _)
   | (with_reducible exact ih1 _ _ _)
   | (with_reducible exact ih2 _ _ _ _ _ _)
   | (with_reducible exact ih3 _ _ _ _ _ _ _ _ _)
   | (with_reducible exact impl_HowMeet.mono _ _ _ _ _ _ _ _ _)
   | (with_reducible exact impl_around.mono _ _)
   | (with_reducible exact LeO.refl _)
   | (with_reducible exact LeO.none _)
   | (with_reducible refine LeO.ite ?_ ?_)
   | (with_reducible refine LeO.bind ?_ (fun _ => ?_))
   | exact ih0 _ _
   | exact ih1 _ _ _
   | exact ih2 _ _ _ _ _ _
   | exact ih3 _ _ _ _ _ _ _ _ _
   | exact impl_HowMeet.mono _ _ _ _ _ _ _ _ _
   | exact impl_around.mono _ _
   | exact LeO.none _
   | refine LeO.ite ?_ ?_
   | refine LeO.bind ?_ (fun _ => ?_)
theorem impl_IsRing.mono : ∀ a0 k, LeO (impl_IsRing.f k a0) (impl_IsRing.f (k + 1) a0) := by
 intro a0 k
 obtain ⟨ih0, ih1, ih2, ih3⟩ := impl_IsRing.mono_l k
 unfold impl_IsRing.f
 repeat' first
   | (with_reducible exact ih0 _ _)
   | (with_reducible exact ih1 _ _ _)
   | (with_reducible exact ih2 _ _ _ _ _ _)
   | (with_reducible exact ih3 _ _ _ _ _ _ _ _ _)
   | (with_reducible exact impl_HowMeet.mono _ _ _ _ _ _ _ _ _)
   | (with_reducible exact impl_around.mono _ _)
   | (with_reducible exact LeO.refl _)
   | (with_reducible exact LeO.none _)
   | (with_reducible refine LeO.ite ?_ ?_)
   | (with_reducible refine LeO.bind ?_ (fun _ => ?_))
   | exact ih0 _ _
   | exact ih1 _ _ _
   | exact ih2 _ _ _ _ _ _
   | exact ih3 _ _ _ _ _ _ _ _ _
   | exact impl_HowMeet.mono _ _ _ _ _ _ _ _ _
   | exact impl_around.mono _ _
   | exact LeO.none _
   | refine LeO.ite ?_ ?_
   | refine LeO.bind ?_ (fun _ => ?_)
def impl_IsRing.T15 : Bool × List (List Nat × List Nat) := (true, [([], []), ([], []), ([0, 1], [0, 1]), ([2], [2]), ([], []), ([], []), ([4, 5], [4, 5]), ([6], [6]), ([3, 7], [3, 7]), ([], []), ([8, 9], [8, 9])])
def impl_IsRing.B15 : List Nat := [0, 0, 3, 7, 0, 0, 48, 112, 255, 0, 1023]
theorem impl_IsRing.tab15 : rtab .any (opsOf Try.f57 15) = impl_IsRing.T15 := by kernel_rfl
theorem impl_IsRing.bits15 : waitsOk impl_IsRing.T15.2 impl_IsRing.B15 = true := by kernel_rfl
set_option maxHeartbeats 8000000 in
set_option maxRecDepth 100000 in
theorem impl_IsRing.calls (k : Nat) (A0 : Option Addr) (c0 : Nat) (l0 : List (S27)) (r : Bool) (w : World) (hr0 : Kd.C k27 w A0 l0.length l0) (hc0 : l0.length ≤ c0) (h : impl_IsRing.f k l0 = some r) :
  Calls Try.prog 57 #[.slice A0 l0.length c0] w fun e w' => e = .returned (.bool r) ∧ Below w.heap.size w w' := by
 have hu60 := Try.underlying60
 have HR0 := Aside0.mk hr0
 have HC0 := Aside0.mk hc0
 clear hr0 hc0
 have HB := Aside0.mk (Below.refl w.heap.size w)
 have H : (if (l0.length : Int) < 3 then (impl_IsRing.j0 k l0 true) else (impl_IsRing.j0 k l0 (decide ((l0.length : Int) > 10)))) = some r := h
 clear h
 have HC2 := Aside0.mk H
 clear H
 go_enter Try.func57, Try.ntmps57
 go_upto_region 1 with (fail)
 go_cut [14] (fun v14 wc => ∃ (kq : Nat) (x14_1 : Bool), v14 = .bool x14_1 ∧ Aside0 (impl_IsRing.j0 kq l0 x14_1 = some r) ∧ Aside0 (kq ≤ k) ∧ Aside0 (Below w.heap.size w wc))
 case first =>
  have H := HC2.out
  clear HC2
  by_cases c3 : (l0.length : Int) < 3
  ·
   rw [if_pos c3] at H
   have c3b0 : decide ((l0.length : Int) < 3) = true := decide_eq_true c3
   have c3b1 : decide (l0.length < 3) = true := decide_eq_true (by omega)
   clear c3
   (first | rw [c3b0] | (simp only [i64_w, i32_w]; rw [c3b0]) | skip)
   have H' := Aside0.mk H
   clear H
   go_wp2
   go_meet
   case rel => exact ⟨_, (true), (by first | rfl | (simp; done) | (simp [*]; done)), H', ⟨by first | omega | exact Nat.le_refl _⟩, ⟨Hd.b_⟩⟩
  ·
   rw [if_neg c3] at H
   have c3b0 : decide ((l0.length : Int) < 3) = false := decide_eq_false c3
   have c3b1 : decide (l0.length < 3) = false := decide_eq_false (by omega)
   clear c3
   (first | rw [c3b0] | (simp only [i64_w, i32_w]; rw [c3b0]) | skip)
   have H' := Aside0.mk H
   clear H
   go_wp2
   go_meet
   case rel => exact ⟨_, (decide ((l0.length : Int) > 10)), (by first | rfl | (simp; done) | (simp [*]; done)), H', ⟨by first | omega | exact Nat.le_refl _⟩, ⟨Hd.b_⟩⟩
 case rest =>
  clear HC2
  try clear p2
  try clear c3
  try clear c3b0
  try clear c3b1
  obtain ⟨kq, x14_1, rfl, HA, HJ1, HB⟩ := hcut
  cases kq with
  | zero => exact absurd HA.out (by simp [impl_IsRing.j0])
  | succ kj1 =>
   have H := HA.out
   clear HA
   simp only [impl_IsRing.j0] at H
   by_cases c4 : x14_1 = true
   ·
    subst c4
    have H1 : (some false) = some r := by rw [if_pos rfl] at H; exact H
    clear H
    have H := H1
    clear H1
    obtain rfl := Option.some.inj H
    go_wp2
    go_ret
    exact ⟨Hd.e_, Hd.b_⟩
   ·
    replace c4 := Bool.eq_false_iff.mpr c4
    subst c4
    have H1 : ((impl_around.f kj1 l0).bind fun t187 => (impl_IsRing.l0 kj1 t187 (t187.length : Int) 0)) = some r := by rw [if_neg (show ¬ (false = true) by decide)] at H; exact H
    clear H
    have H := H1
    clear H1
    replace H := Option.bind_eq_some_iff.mp H
    obtain ⟨t187, A50, H⟩ := H
    replace H : (impl_IsRing.l0 kj1 t187 (t187.length : Int) 0) = some r := H
    have A5 := Aside0.mk A50
    clear A50
    have H' := Aside0.mk H
    clear H
    go_wp2_with (first | ((with_reducible refine gate_callee (f := 105) rfl ?_); refine goesL_ (some 16) rfl rfl Try.func105 (by kernel_rfl) rfl #[.slice A0 l0.length c0] rfl Hd.m_ ?_; (with_reducible refine (impl_around.calls kj1 _ _ l0 t187 _ ?side1 ?side2 A5.out).mono ?_); (case side1 => repeat (first | exact (Kd.C_below HR0.out HB.out) | (with_reducible refine Kd.C_alloc ?_ _) | (with_reducible refine Kd.C_drewN ?_ _) | (with_reducible refine Kd.C_drew ?_))); (case side2 => exact HC0.out); rintro e w6 ⟨v188, rfl, ho0, hb⟩; refine ⟨_, rfl, ?_⟩; have HO189 := Aside0.mk (Kd.R_lower ho0 (below_size Hd.b_)); replace HB := Aside0.mk (below_step Hd.b_ hb); (try clear hb); (try clear hb2); (try clear hk); (try clear hi); (try clear ho0); obtain ⟨Ao7, co7, eo7⟩ := Kd.R_slice HO189.out; subst eo7))
    go_loopg [19] kj1 (fun kq v19 w' => ∃ (x19_2 : Int), v19 = .int .i64 x19_2 ∧ Aside0 (impl_IsRing.l0 kq t187 (t187.length : Int) x19_2 = some r) ∧ Aside0 (kq ≤ kj1) ∧ Aside0 (Kd.R k60 60 w' w.heap.size (fun _ => True) (.slice Ao7 t187.length co7) t187) ∧ Aside0 (Below w.heap.size w w'))
    case atStart => exact ⟨(0), (by first | rfl | (simp; done) | (simp [*]; done)), H', ⟨Nat.le_refl _⟩, ⟨by (with_reducible repeat (first | apply Kd.R_alloc | apply Kd.R_drewN | apply Kd.R_drew)); exact HO189.out⟩, ⟨Hd.b_⟩⟩
    case round =>
     clear H'
     try clear c1
     try clear p2
     try clear c3
     try clear c3b0
     try clear c3b1
     try clear c4
     try clear c5
     try clear p2
     obtain ⟨x19_2, rfl, HA, HK2, HO_3, HB⟩ := hrel
     cases gk with
     | zero => exact absurd HA.out (by simp [impl_IsRing.l0])
     | succ k2 =>
      have H := HA.out
      clear HA
      simp only [impl_IsRing.l0] at H
      by_cases c8 : x19_2 < (t187.length : Int)
      ·
       rw [if_pos c8] at H
       have c8b0 : decide (x19_2 < (t187.length : Int)) = true := decide_eq_true c8
       clear c8
       by_cases c9 : 0 ≤ x19_2
       ·
        rw [if_pos c9] at H
        have c9b0 : decide (0 ≤ x19_2) = true := decide_eq_true c9
        clear c9
        by_cases c10 : x19_2 < (t187.length : Int)
        ·
         rw [if_pos c10] at H
         have c10b0 : decide (x19_2 < (t187.length : Int)) = true := decide_eq_true c10
         clear c10
         replace H := Option.bind_eq_some_iff.mp H
         obtain ⟨t191, A110, H⟩ := H
         replace H : (if t191 = true then (impl_IsRing.l1 k2 t187 x19_2 (t187.length : Int) x19_2 x19_2 0) else (some false)) = some r := H
         have A11 := Aside0.mk A110
         clear A110
         by_cases c12 : t191 = true
         ·
          subst c12
          have H1 : (impl_IsRing.l1 k2 t187 x19_2 (t187.length : Int) x19_2 x19_2 0) = some r := by rw [if_pos rfl] at H; exact H
          clear H
          have H := H1
          clear H1
          have H' := Aside0.mk H
          clear H
          have p190 : 0 ≤ (x19_2 : Int) := of_decide_eq_true Hd.a_
          have q190 : x19_2 < (t187.length : Int) := of_decide_eq_true Hd.a_
          obtain ⟨ad190, e190, hx190_0, hx190_1, hx190_2, hx190_3⟩ := at_T60 (Kd.R_reads' HO_3.out).2.2 x19_2 p190 q190
          cases e190
          replace p190 := eq_true p190
          replace q190 := eq_true q190
          go_wp2_with (first | ((with_reducible refine gate_callee (f := 96) rfl ?_); refine goesL_ (some 26) rfl rfl Try.func96 (by kernel_rfl) rfl #[.agg #[.int .i64 ((rd_T60 t187 x19_2).f0.f0), .int .i64 ((rd_T60 t187 x19_2).f0.f1), .int .i64 ((rd_T60 t187 x19_2).f1.f0), .int .i64 ((rd_T60 t187 x19_2).f1.f1)]] rfl Hd.m_ ?_; (with_reducible refine (impl_IsSegment.calls ((rd_T60 t187 x19_2).f0.f0) ((rd_T60 t187 x19_2).f0.f1) ((rd_T60 t187 x19_2).f1.f0) ((rd_T60 t187 x19_2).f1.f1) true _ A11.out).mono ?_); rintro e w13 ⟨rfl, hb⟩; refine ⟨_, rfl, ?_⟩; replace HO_3 := Aside0.mk (Kd.R_below (Hd.r_ HO_3) hb); replace HB := Aside0.mk (below_step Hd.b_ hb); (try clear hb); (try clear hb2); (try clear hk); (try clear hi)))
          go_loopg [29] k2 (fun kq v29 w' => ∃ (x29_3 : Int), v29 = .int .i64 x29_3 ∧ Aside0 (impl_IsRing.l1 kq t187 x19_2 (t187.length : Int) x19_2 x19_2 x29_3 = some r) ∧ Aside0 (kq ≤ k2) ∧ Aside0 (Kd.R k60 60 w' w.heap.size (fun _ => True) (.slice (some ad190) t187.length co7) t187) ∧ Aside0 (Below w.heap.size w w'))
          case atStart => exact ⟨(0), (by first | rfl | (simp; done) | (simp [*]; done)), H', ⟨Nat.le_refl _⟩, ⟨by (with_reducible repeat (first | apply Kd.R_alloc | apply Kd.R_drewN | apply Kd.R_drew)); exact HO_3.out⟩, ⟨Hd.b_⟩⟩
          case round =>
           clear H'
           try clear c1
           try clear p1
           try clear q1
           try clear hx1
           try clear p2
           try clear c3
           try clear c3b0
           try clear c3b1
           try clear c4
           try clear c5
           try clear c8
           try clear c8b0
           try clear c9
           try clear c9b0
           try clear c10
           try clear c10b0
           try clear c12
           try clear hx190_0
           try clear hx190_1
           try clear hx190_2
           try clear hx190_3
           try clear p190
           try clear p2
           try clear q190
           obtain ⟨x29_3, rfl, HA, HK3, HO_3, HB⟩ := hrel
           cases gk with
           | zero => exact absurd HA.out (by simp [impl_IsRing.l1])
           | succ k3 =>
            have H := HA.out
            clear HA
            simp only [impl_IsRing.l1] at H
            by_cases c14 : x29_3 < x19_2
            ·
             rw [if_pos c14] at H
             have c14b0 : decide (x29_3 < x19_2) = true := decide_eq_true c14
             clear c14
             have HC15 := Aside0.mk H
             clear H
             go_upto_region 13 with (fail)
             go_cut [46] (fun v46 wc => ∃ (kq : Nat) (x46_14 : Bool), v46 = .bool x46_14 ∧ Aside0 (impl_IsRing.j3 kq t187 x19_2 x29_3 0 (t187.length : Int) x19_2 x19_2 x29_3 x46_14 = some r) ∧ Aside0 (kq ≤ k3) ∧ Aside0 (Kd.R k60 60 wc w.heap.size (fun _ => True) (.slice (some ad190) t187.length co7) t187) ∧ Aside0 (Below w.heap.size w wc))
             case first =>
              have H := HC15.out
              clear HC15
              by_cases c16 : x29_3 = (wrap64 (x19_2 - 1))
              ·
               rw [if_pos c16] at H
               have c16b0 : (x29_3 == (wrap64 (x19_2 - 1))) = true := beq_iff_eq.mpr c16
               have c16b1 : (x29_3 != (wrap64 (x19_2 - 1))) = false := bne_eq_false_iff_eq.mpr c16
               clear c16
               (first | rw [c16b0] | (simp only [i64_w, i32_w]; rw [c16b0]) | skip)
               have H' := Aside0.mk H
               clear H
               go_wp2
               go_meet
               case rel => exact ⟨_, (true), (by first | rfl | (simp; done) | (simp [*]; done)), H', ⟨by have := HJ1.out; have := HK2.out; have := HK3.out; first | omega | exact Nat.le_refl _⟩, ⟨by (with_reducible repeat (first | apply Kd.R_alloc | apply Kd.R_drewN | apply Kd.R_drew)); exact HO_3.out⟩, ⟨Hd.b_⟩⟩
              ·
               rw [if_neg c16] at H
               have c16b0 : (x29_3 == (wrap64 (x19_2 - 1))) = false := beq_eq_false_iff_ne.mpr c16
               have c16b1 : (x29_3 != (wrap64 (x19_2 - 1))) = true := bne_iff_ne.mpr c16
               (first | rw [c16b0] | (simp only [i64_w, i32_w]; rw [c16b0]) | skip)
               by_cases c17 : x29_3 = 0
               ·
                rw [if_pos c17] at H
                have c17b0 : (x29_3 == 0) = true := beq_iff_eq.mpr c17
                have c17b1 : (x29_3 != 0) = false := bne_eq_false_iff_eq.mpr c17
                clear c17
                have H' := Aside0.mk H
                clear H
                go_wp2
                go_meet
                case rel => exact ⟨_, ((x19_2 == (wrap64 ((t187.length : Int) - 1)))), (by first | rfl | (simp; done) | (simp [*]; done)), H', ⟨by have := HJ1.out; have := HK2.out; have := HK3.out; first | omega | exact Nat.le_refl _⟩, ⟨by (with_reducible repeat (first | apply Kd.R_alloc | apply Kd.R_drewN | apply Kd.R_drew)); exact HO_3.out⟩, ⟨Hd.b_⟩⟩
               ·
                rw [if_neg c17] at H
                have c17b0 : (x29_3 == 0) = false := beq_eq_false_iff_ne.mpr c17
                have c17b1 : (x29_3 != 0) = true := bne_iff_ne.mpr c17
                have H' := Aside0.mk H
                clear H
                go_wp2
                go_meet
                case rel => exact ⟨_, (false), (by first | rfl | (simp; done) | (simp [*]; done)), H', ⟨by have := HJ1.out; have := HK2.out; have := HK3.out; first | omega | exact Nat.le_refl _⟩, ⟨by (with_reducible repeat (first | apply Kd.R_alloc | apply Kd.R_drewN | apply Kd.R_drew)); exact HO_3.out⟩, ⟨Hd.b_⟩⟩
             case rest =>
              clear HC15
              try clear c1
              try clear p1
              try clear q1
              try clear hx1
              try clear p2
              try clear c3
              try clear c3b0
              try clear c3b1
              try clear c4
              try clear c5
              try clear p6
              try clear c8
              try clear c8b0
              try clear c9
              try clear c9b0
              try clear c10
              try clear c10b0
              try clear c12
              try clear c14
              try clear c14b0
              try clear c16
              try clear c16b0
              try clear c16b1
              try clear c17
              try clear c17b0
              try clear c17b1
              try clear hx190_0
              try clear hx190_1
              try clear hx190_2
              try clear hx190_3
              try clear p1
              try clear p190
              try clear p2
              try clear q1
              try clear q190
              obtain ⟨kq, x46_14, rfl, HA, HJ14, HO_3, HB⟩ := hcut
              cases kq with
              | zero => exact absurd HA.out (by simp [impl_IsRing.j3])
              | succ kj14 =>
               have H := HA.out
               clear HA
               simp only [impl_IsRing.j3] at H
               by_cases c18 : x46_14 = true
               ·
                subst c18
                have H1 : (if 0 ≤ x19_2 then (if x19_2 < (t187.length : Int) then (if 0 ≤ x29_3 then (if x29_3 < (t187.length : Int) then ((impl_HowMeet.f kj14 ((rd_T60 t187 x19_2).f0.f0) ((rd_T60 t187 x19_2).f0.f1) ((rd_T60 t187 x19_2).f1.f0) ((rd_T60 t187 x19_2).f1.f1) ((rd_T60 t187 x29_3).f0.f0) ((rd_T60 t187 x29_3).f0.f1) ((rd_T60 t187 x29_3).f1.f0) ((rd_T60 t187 x29_3).f1.f1)).bind fun t194 => (if t194 = 1 then (impl_IsRing.l1 kj14 t187 x19_2 (t187.length : Int) x19_2 x19_2 (wrap64 (x29_3 + 1))) else (some false))) else (none)) else (none)) else (none)) else (none)) = some r := by rw [if_pos rfl] at H; exact H
                clear H
                have H := H1
                clear H1
                by_cases c19 : 0 ≤ x19_2
                ·
                 rw [if_pos c19] at H
                 have c19b0 : decide (0 ≤ x19_2) = true := decide_eq_true c19
                 clear c19
                 by_cases c20 : x19_2 < (t187.length : Int)
                 ·
                  rw [if_pos c20] at H
                  have c20b0 : decide (x19_2 < (t187.length : Int)) = true := decide_eq_true c20
                  clear c20
                  by_cases c21 : 0 ≤ x29_3
                  ·
                   rw [if_pos c21] at H
                   have c21b0 : decide (0 ≤ x29_3) = true := decide_eq_true c21
                   clear c21
                   by_cases c22 : x29_3 < (t187.length : Int)
                   ·
                    rw [if_pos c22] at H
                    have c22b0 : decide (x29_3 < (t187.length : Int)) = true := decide_eq_true c22
                    clear c22
                    replace H := Option.bind_eq_some_iff.mp H
                    obtain ⟨t194, A230, H⟩ := H
                    replace H : (if t194 = 1 then (impl_IsRing.l1 kj14 t187 x19_2 (t187.length : Int) x19_2 x19_2 (wrap64 (x29_3 + 1))) else (some false)) = some r := H
                    have A23 := Aside0.mk A230
                    clear A230
                    by_cases c24 : t194 = 1
                    ·
                     rw [if_pos c24] at H
                     have c24b0 : (t194 == 1) = true := beq_iff_eq.mpr c24
                     have c24b1 : (t194 != 1) = false := bne_eq_false_iff_eq.mpr c24
                     clear c24
                     have H' := Aside0.mk H
                     clear H
                     try go_wp2
                     replace HO_3 := Aside0.mk (Kd.R_drew HO_3.out)
                     replace HB := Aside0.mk (below_drew1 HB.out)
                     have p192 : 0 ≤ (x19_2 : Int) := of_decide_eq_true Hd.a_
                     have q192 : x19_2 < (t187.length : Int) := of_decide_eq_true Hd.a_
                     obtain ⟨ad192, e192, hx192_0, hx192_1, hx192_2, hx192_3⟩ := at_T60 (Kd.R_reads' HO_3.out).2.2 x19_2 p192 q192
                     obtain rfl : ad190 = ad192 := (by injection e192)
                     replace p192 := eq_true p192
                     replace q192 := eq_true q192
                     have p193 : 0 ≤ (x29_3 : Int) := of_decide_eq_true Hd.a_
                     have q193 : x29_3 < (t187.length : Int) := of_decide_eq_true Hd.a_
                     obtain ⟨ad193, e193, hx193_0, hx193_1, hx193_2, hx193_3⟩ := at_T60 (Kd.R_reads' HO_3.out).2.2 x29_3 p193 q193
                     obtain rfl : ad190 = ad193 := (by injection e193)
                     replace p193 := eq_true p193
                     replace q193 := eq_true q193
                     have S_ : (fun w' : World => w'.cell? (ad190.add ((x19_2).toNat * 4)) = some (.int .i64 ((rd_T60 t187 x19_2).f0.f0)) ∧ w'.cell? ⟨(ad190.add ((x19_2).toNat * 4)).block, (ad190.add ((x19_2).toNat * 4)).off + 1, none⟩ = some (.int .i64 ((rd_T60 t187 x19_2).f0.f1)) ∧ w'.cell? ⟨(ad190.add ((x19_2).toNat * 4)).block, (ad190.add ((x19_2).toNat * 4)).off + 2, none⟩ = some (.int .i64 ((rd_T60 t187 x19_2).f1.f0)) ∧ w'.cell? ⟨(ad190.add ((x19_2).toNat * 4)).block, (ad190.add ((x19_2).toNat * 4)).off + 3, none⟩ = some (.int .i64 ((rd_T60 t187 x19_2).f1.f1)) ∧ w'.cell? (ad190.add ((x29_3).toNat * 4)) = some (.int .i64 ((rd_T60 t187 x29_3).f0.f0)) ∧ w'.cell? ⟨(ad190.add ((x29_3).toNat * 4)).block, (ad190.add ((x29_3).toNat * 4)).off + 1, none⟩ = some (.int .i64 ((rd_T60 t187 x29_3).f0.f1)) ∧ w'.cell? ⟨(ad190.add ((x29_3).toNat * 4)).block, (ad190.add ((x29_3).toNat * 4)).off + 2, none⟩ = some (.int .i64 ((rd_T60 t187 x29_3).f1.f0)) ∧ w'.cell? ⟨(ad190.add ((x29_3).toNat * 4)).block, (ad190.add ((x29_3).toNat * 4)).off + 3, none⟩ = some (.int .i64 ((rd_T60 t187 x29_3).f1.f1))) wc.drew := ⟨hx192_0, hx192_1, hx192_2, hx192_3, hx193_0, hx193_1, hx193_2, hx193_3⟩
                     obtain ⟨s0_, s1_, s2_, s3_, s4_, s5_, s6_, s7_⟩ := S_
                     replace s0_ := fun q : Hd.HW wc.drew => q.cell s0_
                     replace s1_ := fun q : Hd.HW wc.drew => q.cell s1_
                     replace s2_ := fun q : Hd.HW wc.drew => q.cell s2_
                     replace s3_ := fun q : Hd.HW wc.drew => q.cell s3_
                     replace s4_ := fun q : Hd.HW wc.drew => q.cell s4_
                     replace s5_ := fun q : Hd.HW wc.drew => q.cell s5_
                     replace s6_ := fun q : Hd.HW wc.drew => q.cell s6_
                     replace s7_ := fun q : Hd.HW wc.drew => q.cell s7_
                     refine Hd.HW.region (by kernel_rfl) (by kernel_rfl) ?_
                     repeat (go_big_quiet_step ((first | (go_at_call 106; with_reducible exact Hd.HW.c (impl_HowMeet.calls kj14 ((rd_T60 t187 x19_2).f0.f0) ((rd_T60 t187 x19_2).f0.f1) ((rd_T60 t187 x19_2).f1.f0) ((rd_T60 t187 x19_2).f1.f1) ((rd_T60 t187 x29_3).f0.f0) ((rd_T60 t187 x29_3).f0.f1) ((rd_T60 t187 x29_3).f1.f0) ((rd_T60 t187 x29_3).f1.f1) t194 _ A23.out)))))
                     refine wpQuiet_nil ?_
                     intro _ hq_
                     obtain ⟨q_, rfl⟩ := hq_
                     clear s0_ s1_ s2_ s3_ s4_ s5_ s6_ s7_
                     replace HO_3 := Aside0.mk (Kd.R_below HO_3.out q_.b)
                     replace HB := Aside0.mk (below_step HB.out q_.b)
                     replace hx192_0 := q_.cell hx192_0
                     replace hx192_1 := q_.cell hx192_1
                     replace hx192_2 := q_.cell hx192_2
                     replace hx192_3 := q_.cell hx192_3
                     replace hx193_0 := q_.cell hx193_0
                     replace hx193_1 := q_.cell hx193_1
                     replace hx193_2 := q_.cell hx193_2
                     replace hx193_3 := q_.cell hx193_3
                     generalize q_.W = w26 at HO_3 HB hx192_0 hx192_1 hx192_2 hx192_3 hx193_0 hx193_1 hx193_2 hx193_3 ⊢
                     try simp only [i64_w, i32_w]
                     try go_wp2
                     go_roundg kj14
                     case measure => have := HJ1.out; have := HK2.out; have := HK3.out; have := HJ14.out; omega
                     case rel => exact ⟨(wrap64 (x29_3 + 1)), (by first | rfl | (simp; done) | (simp [*]; done)), H', ⟨by have := HJ1.out; have := HK2.out; have := HK3.out; have := HJ14.out; omega⟩, ⟨by (with_reducible repeat (first | apply Kd.R_alloc | apply Kd.R_drewN | apply Kd.R_drew)); exact HO_3.out⟩, ⟨Hd.b_⟩⟩
                    ·
                     rw [if_neg c24] at H
                     have c24b0 : (t194 == 1) = false := beq_eq_false_iff_ne.mpr c24
                     have c24b1 : (t194 != 1) = true := bne_iff_ne.mpr c24
                     obtain rfl := Option.some.inj H
                     try go_wp2
                     replace HO_3 := Aside0.mk (Kd.R_drew HO_3.out)
                     replace HB := Aside0.mk (below_drew1 HB.out)
                     have p192 : 0 ≤ (x19_2 : Int) := of_decide_eq_true Hd.a_
                     have q192 : x19_2 < (t187.length : Int) := of_decide_eq_true Hd.a_
                     obtain ⟨ad192, e192, hx192_0, hx192_1, hx192_2, hx192_3⟩ := at_T60 (Kd.R_reads' HO_3.out).2.2 x19_2 p192 q192
                     obtain rfl : ad190 = ad192 := (by injection e192)
                     replace p192 := eq_true p192
                     replace q192 := eq_true q192
                     have p193 : 0 ≤ (x29_3 : Int) := of_decide_eq_true Hd.a_
                     have q193 : x29_3 < (t187.length : Int) := of_decide_eq_true Hd.a_
                     obtain ⟨ad193, e193, hx193_0, hx193_1, hx193_2, hx193_3⟩ := at_T60 (Kd.R_reads' HO_3.out).2.2 x29_3 p193 q193
                     obtain rfl : ad190 = ad193 := (by injection e193)
                     replace p193 := eq_true p193
                     replace q193 := eq_true q193
                     have S_ : (fun w' : World => w'.cell? (ad190.add ((x19_2).toNat * 4)) = some (.int .i64 ((rd_T60 t187 x19_2).f0.f0)) ∧ w'.cell? ⟨(ad190.add ((x19_2).toNat * 4)).block, (ad190.add ((x19_2).toNat * 4)).off + 1, none⟩ = some (.int .i64 ((rd_T60 t187 x19_2).f0.f1)) ∧ w'.cell? ⟨(ad190.add ((x19_2).toNat * 4)).block, (ad190.add ((x19_2).toNat * 4)).off + 2, none⟩ = some (.int .i64 ((rd_T60 t187 x19_2).f1.f0)) ∧ w'.cell? ⟨(ad190.add ((x19_2).toNat * 4)).block, (ad190.add ((x19_2).toNat * 4)).off + 3, none⟩ = some (.int .i64 ((rd_T60 t187 x19_2).f1.f1)) ∧ w'.cell? (ad190.add ((x29_3).toNat * 4)) = some (.int .i64 ((rd_T60 t187 x29_3).f0.f0)) ∧ w'.cell? ⟨(ad190.add ((x29_3).toNat * 4)).block, (ad190.add ((x29_3).toNat * 4)).off + 1, none⟩ = some (.int .i64 ((rd_T60 t187 x29_3).f0.f1)) ∧ w'.cell? ⟨(ad190.add ((x29_3).toNat * 4)).block, (ad190.add ((x29_3).toNat * 4)).off + 2, none⟩ = some (.int .i64 ((rd_T60 t187 x29_3).f1.f0)) ∧ w'.cell? ⟨(ad190.add ((x29_3).toNat * 4)).block, (ad190.add ((x29_3).toNat * 4)).off + 3, none⟩ = some (.int .i64 ((rd_T60 t187 x29_3).f1.f1))) wc.drew := ⟨hx192_0, hx192_1, hx192_2, hx192_3, hx193_0, hx193_1, hx193_2, hx193_3⟩
                     obtain ⟨s0_, s1_, s2_, s3_, s4_, s5_, s6_, s7_⟩ := S_
                     replace s0_ := fun q : Hd.HW wc.drew => q.cell s0_
                     replace s1_ := fun q : Hd.HW wc.drew => q.cell s1_
                     replace s2_ := fun q : Hd.HW wc.drew => q.cell s2_
                     replace s3_ := fun q : Hd.HW wc.drew => q.cell s3_
                     replace s4_ := fun q : Hd.HW wc.drew => q.cell s4_
                     replace s5_ := fun q : Hd.HW wc.drew => q.cell s5_
                     replace s6_ := fun q : Hd.HW wc.drew => q.cell s6_
                     replace s7_ := fun q : Hd.HW wc.drew => q.cell s7_
                     refine Hd.HW.region (by kernel_rfl) (by kernel_rfl) ?_
                     repeat (go_big_quiet_step ((first | (go_at_call 106; with_reducible exact Hd.HW.c (impl_HowMeet.calls kj14 ((rd_T60 t187 x19_2).f0.f0) ((rd_T60 t187 x19_2).f0.f1) ((rd_T60 t187 x19_2).f1.f0) ((rd_T60 t187 x19_2).f1.f1) ((rd_T60 t187 x29_3).f0.f0) ((rd_T60 t187 x29_3).f0.f1) ((rd_T60 t187 x29_3).f1.f0) ((rd_T60 t187 x29_3).f1.f1) t194 _ A23.out)))))
                     refine wpQuiet_nil ?_
                     intro _ hq_
                     obtain ⟨q_, rfl⟩ := hq_
                     clear s0_ s1_ s2_ s3_ s4_ s5_ s6_ s7_
                     replace HO_3 := Aside0.mk (Kd.R_below HO_3.out q_.b)
                     replace HB := Aside0.mk (below_step HB.out q_.b)
                     replace hx192_0 := q_.cell hx192_0
                     replace hx192_1 := q_.cell hx192_1
                     replace hx192_2 := q_.cell hx192_2
                     replace hx192_3 := q_.cell hx192_3
                     replace hx193_0 := q_.cell hx193_0
                     replace hx193_1 := q_.cell hx193_1
                     replace hx193_2 := q_.cell hx193_2
                     replace hx193_3 := q_.cell hx193_3
                     generalize q_.W = w28 at HO_3 HB hx192_0 hx192_1 hx192_2 hx192_3 hx193_0 hx193_1 hx193_2 hx193_3 ⊢
                     try simp only [i64_w, i32_w]
                     try go_wp2
                     go_ret
                     exact ⟨Hd.e_, Hd.b_⟩
                   ·
                    rw [if_neg c22] at H
                    exact absurd H (by simp)
                  ·
                   rw [if_neg c21] at H
                   exact absurd H (by simp)
                 ·
                  rw [if_neg c20] at H
                  exact absurd H (by simp)
                ·
                 rw [if_neg c19] at H
                 exact absurd H (by simp)
               ·
                replace c18 := Bool.eq_false_iff.mpr c18
                subst c18
                have H1 : (if 0 ≤ x19_2 then (if x19_2 < (t187.length : Int) then (if 0 ≤ x29_3 then (if x29_3 < (t187.length : Int) then ((impl_HowMeet.f kj14 ((rd_T60 t187 x19_2).f0.f0) ((rd_T60 t187 x19_2).f0.f1) ((rd_T60 t187 x19_2).f1.f0) ((rd_T60 t187 x19_2).f1.f1) ((rd_T60 t187 x29_3).f0.f0) ((rd_T60 t187 x29_3).f0.f1) ((rd_T60 t187 x29_3).f1.f0) ((rd_T60 t187 x29_3).f1.f1)).bind fun t197 => (if t197 = 0 then (impl_IsRing.l1 kj14 t187 x19_2 (t187.length : Int) x19_2 x19_2 (wrap64 (x29_3 + 1))) else (some false))) else (none)) else (none)) else (none)) else (none)) = some r := by rw [if_neg (show ¬ (false = true) by decide)] at H; exact H
                clear H
                have H := H1
                clear H1
                by_cases c29 : 0 ≤ x19_2
                ·
                 rw [if_pos c29] at H
                 have c29b0 : decide (0 ≤ x19_2) = true := decide_eq_true c29
                 clear c29
                 by_cases c30 : x19_2 < (t187.length : Int)
                 ·
                  rw [if_pos c30] at H
                  have c30b0 : decide (x19_2 < (t187.length : Int)) = true := decide_eq_true c30
                  clear c30
                  by_cases c31 : 0 ≤ x29_3
                  ·
                   rw [if_pos c31] at H
                   have c31b0 : decide (0 ≤ x29_3) = true := decide_eq_true c31
                   clear c31
                   by_cases c32 : x29_3 < (t187.length : Int)
                   ·
                    rw [if_pos c32] at H
                    have c32b0 : decide (x29_3 < (t187.length : Int)) = true := decide_eq_true c32
                    clear c32
                    replace H := Option.bind_eq_some_iff.mp H
                    obtain ⟨t197, A330, H⟩ := H
                    replace H : (if t197 = 0 then (impl_IsRing.l1 kj14 t187 x19_2 (t187.length : Int) x19_2 x19_2 (wrap64 (x29_3 + 1))) else (some false)) = some r := H
                    have A33 := Aside0.mk A330
                    clear A330
                    by_cases c34 : t197 = 0
                    ·
                     rw [if_pos c34] at H
                     have c34b0 : (t197 == 0) = true := beq_iff_eq.mpr c34
                     have c34b1 : (t197 != 0) = false := bne_eq_false_iff_eq.mpr c34
                     clear c34
                     have H' := Aside0.mk H
                     clear H
                     try go_wp2
                     replace HO_3 := Aside0.mk (Kd.R_drew HO_3.out)
                     replace HB := Aside0.mk (below_drew1 HB.out)
                     have p195 : 0 ≤ (x19_2 : Int) := of_decide_eq_true Hd.a_
                     have q195 : x19_2 < (t187.length : Int) := of_decide_eq_true Hd.a_
                     obtain ⟨ad195, e195, hx195_0, hx195_1, hx195_2, hx195_3⟩ := at_T60 (Kd.R_reads' HO_3.out).2.2 x19_2 p195 q195
                     obtain rfl : ad190 = ad195 := (by injection e195)
                     replace p195 := eq_true p195
                     replace q195 := eq_true q195
                     have p196 : 0 ≤ (x29_3 : Int) := of_decide_eq_true Hd.a_
                     have q196 : x29_3 < (t187.length : Int) := of_decide_eq_true Hd.a_
                     obtain ⟨ad196, e196, hx196_0, hx196_1, hx196_2, hx196_3⟩ := at_T60 (Kd.R_reads' HO_3.out).2.2 x29_3 p196 q196
                     obtain rfl : ad190 = ad196 := (by injection e196)
                     replace p196 := eq_true p196
                     replace q196 := eq_true q196
                     have S_ : (fun w' : World => w'.cell? (ad190.add ((x19_2).toNat * 4)) = some (.int .i64 ((rd_T60 t187 x19_2).f0.f0)) ∧ w'.cell? ⟨(ad190.add ((x19_2).toNat * 4)).block, (ad190.add ((x19_2).toNat * 4)).off + 1, none⟩ = some (.int .i64 ((rd_T60 t187 x19_2).f0.f1)) ∧ w'.cell? ⟨(ad190.add ((x19_2).toNat * 4)).block, (ad190.add ((x19_2).toNat * 4)).off + 2, none⟩ = some (.int .i64 ((rd_T60 t187 x19_2).f1.f0)) ∧ w'.cell? ⟨(ad190.add ((x19_2).toNat * 4)).block, (ad190.add ((x19_2).toNat * 4)).off + 3, none⟩ = some (.int .i64 ((rd_T60 t187 x19_2).f1.f1)) ∧ w'.cell? (ad190.add ((x29_3).toNat * 4)) = some (.int .i64 ((rd_T60 t187 x29_3).f0.f0)) ∧ w'.cell? ⟨(ad190.add ((x29_3).toNat * 4)).block, (ad190.add ((x29_3).toNat * 4)).off + 1, none⟩ = some (.int .i64 ((rd_T60 t187 x29_3).f0.f1)) ∧ w'.cell? ⟨(ad190.add ((x29_3).toNat * 4)).block, (ad190.add ((x29_3).toNat * 4)).off + 2, none⟩ = some (.int .i64 ((rd_T60 t187 x29_3).f1.f0)) ∧ w'.cell? ⟨(ad190.add ((x29_3).toNat * 4)).block, (ad190.add ((x29_3).toNat * 4)).off + 3, none⟩ = some (.int .i64 ((rd_T60 t187 x29_3).f1.f1))) wc.drew := ⟨hx195_0, hx195_1, hx195_2, hx195_3, hx196_0, hx196_1, hx196_2, hx196_3⟩
                     obtain ⟨s0_, s1_, s2_, s3_, s4_, s5_, s6_, s7_⟩ := S_
                     replace s0_ := fun q : Hd.HW wc.drew => q.cell s0_
                     replace s1_ := fun q : Hd.HW wc.drew => q.cell s1_
                     replace s2_ := fun q : Hd.HW wc.drew => q.cell s2_
                     replace s3_ := fun q : Hd.HW wc.drew => q.cell s3_
                     replace s4_ := fun q : Hd.HW wc.drew => q.cell s4_
                     replace s5_ := fun q : Hd.HW wc.drew => q.cell s5_
                     replace s6_ := fun q : Hd.HW wc.drew => q.cell s6_
                     replace s7_ := fun q : Hd.HW wc.drew => q.cell s7_
                     refine Hd.HW.region (by kernel_rfl) (by kernel_rfl) ?_
                     repeat (go_big_quiet_step ((first | (go_at_call 106; with_reducible exact Hd.HW.c (impl_HowMeet.calls kj14 ((rd_T60 t187 x19_2).f0.f0) ((rd_T60 t187 x19_2).f0.f1) ((rd_T60 t187 x19_2).f1.f0) ((rd_T60 t187 x19_2).f1.f1) ((rd_T60 t187 x29_3).f0.f0) ((rd_T60 t187 x29_3).f0.f1) ((rd_T60 t187 x29_3).f1.f0) ((rd_T60 t187 x29_3).f1.f1) t197 _ A33.out)))))
                     refine wpQuiet_nil ?_
                     intro _ hq_
                     obtain ⟨q_, rfl⟩ := hq_
                     clear s0_ s1_ s2_ s3_ s4_ s5_ s6_ s7_
                     replace HO_3 := Aside0.mk (Kd.R_below HO_3.out q_.b)
                     replace HB := Aside0.mk (below_step HB.out q_.b)
                     replace hx195_0 := q_.cell hx195_0
                     replace hx195_1 := q_.cell hx195_1
                     replace hx195_2 := q_.cell hx195_2
                     replace hx195_3 := q_.cell hx195_3
                     replace hx196_0 := q_.cell hx196_0
                     replace hx196_1 := q_.cell hx196_1
                     replace hx196_2 := q_.cell hx196_2
                     replace hx196_3 := q_.cell hx196_3
                     generalize q_.W = w36 at HO_3 HB hx195_0 hx195_1 hx195_2 hx195_3 hx196_0 hx196_1 hx196_2 hx196_3 ⊢
                     try simp only [i64_w, i32_w]
                     try go_wp2
                     go_roundg kj14
                     case measure => have := HJ1.out; have := HK2.out; have := HK3.out; have := HJ14.out; omega
                     case rel => exact ⟨(wrap64 (x29_3 + 1)), (by first | rfl | (simp; done) | (simp [*]; done)), H', ⟨by have := HJ1.out; have := HK2.out; have := HK3.out; have := HJ14.out; omega⟩, ⟨by (with_reducible repeat (first | apply Kd.R_alloc | apply Kd.R_drewN | apply Kd.R_drew)); exact HO_3.out⟩, ⟨Hd.b_⟩⟩
                    ·
                     rw [if_neg c34] at H
                     have c34b0 : (t197 == 0) = false := beq_eq_false_iff_ne.mpr c34
                     have c34b1 : (t197 != 0) = true := bne_iff_ne.mpr c34
                     obtain rfl := Option.some.inj H
                     try go_wp2
                     replace HO_3 := Aside0.mk (Kd.R_drew HO_3.out)
                     replace HB := Aside0.mk (below_drew1 HB.out)
                     have p195 : 0 ≤ (x19_2 : Int) := of_decide_eq_true Hd.a_
                     have q195 : x19_2 < (t187.length : Int) := of_decide_eq_true Hd.a_
                     obtain ⟨ad195, e195, hx195_0, hx195_1, hx195_2, hx195_3⟩ := at_T60 (Kd.R_reads' HO_3.out).2.2 x19_2 p195 q195
                     obtain rfl : ad190 = ad195 := (by injection e195)
                     replace p195 := eq_true p195
                     replace q195 := eq_true q195
                     have p196 : 0 ≤ (x29_3 : Int) := of_decide_eq_true Hd.a_
                     have q196 : x29_3 < (t187.length : Int) := of_decide_eq_true Hd.a_
                     obtain ⟨ad196, e196, hx196_0, hx196_1, hx196_2, hx196_3⟩ := at_T60 (Kd.R_reads' HO_3.out).2.2 x29_3 p196 q196
                     obtain rfl : ad190 = ad196 := (by injection e196)
                     replace p196 := eq_true p196
                     replace q196 := eq_true q196
                     have S_ : (fun w' : World => w'.cell? (ad190.add ((x19_2).toNat * 4)) = some (.int .i64 ((rd_T60 t187 x19_2).f0.f0)) ∧ w'.cell? ⟨(ad190.add ((x19_2).toNat * 4)).block, (ad190.add ((x19_2).toNat * 4)).off + 1, none⟩ = some (.int .i64 ((rd_T60 t187 x19_2).f0.f1)) ∧ w'.cell? ⟨(ad190.add ((x19_2).toNat * 4)).block, (ad190.add ((x19_2).toNat * 4)).off + 2, none⟩ = some (.int .i64 ((rd_T60 t187 x19_2).f1.f0)) ∧ w'.cell? ⟨(ad190.add ((x19_2).toNat * 4)).block, (ad190.add ((x19_2).toNat * 4)).off + 3, none⟩ = some (.int .i64 ((rd_T60 t187 x19_2).f1.f1)) ∧ w'.cell? (ad190.add ((x29_3).toNat * 4)) = some (.int .i64 ((rd_T60 t187 x29_3).f0.f0)) ∧ w'.cell? ⟨(ad190.add ((x29_3).toNat * 4)).block, (ad190.add ((x29_3).toNat * 4)).off + 1, none⟩ = some (.int .i64 ((rd_T60 t187 x29_3).f0.f1)) ∧ w'.cell? ⟨(ad190.add ((x29_3).toNat * 4)).block, (ad190.add ((x29_3).toNat * 4)).off + 2, none⟩ = some (.int .i64 ((rd_T60 t187 x29_3).f1.f0)) ∧ w'.cell? ⟨(ad190.add ((x29_3).toNat * 4)).block, (ad190.add ((x29_3).toNat * 4)).off + 3, none⟩ = some (.int .i64 ((rd_T60 t187 x29_3).f1.f1))) wc.drew := ⟨hx195_0, hx195_1, hx195_2, hx195_3, hx196_0, hx196_1, hx196_2, hx196_3⟩
                     obtain ⟨s0_, s1_, s2_, s3_, s4_, s5_, s6_, s7_⟩ := S_
                     replace s0_ := fun q : Hd.HW wc.drew => q.cell s0_
                     replace s1_ := fun q : Hd.HW wc.drew => q.cell s1_
                     replace s2_ := fun q : Hd.HW wc.drew => q.cell s2_
                     replace s3_ := fun q : Hd.HW wc.drew => q.cell s3_
                     replace s4_ := fun q : Hd.HW wc.drew => q.cell s4_
                     replace s5_ := fun q : Hd.HW wc.drew => q.cell s5_
                     replace s6_ := fun q : Hd.HW wc.drew => q.cell s6_
                     replace s7_ := fun q : Hd.HW wc.drew => q.cell s7_
                     refine Hd.HW.region (by kernel_rfl) (by kernel_rfl) ?_
                     repeat (go_big_quiet_step ((first | (go_at_call 106; with_reducible exact Hd.HW.c (impl_HowMeet.calls kj14 ((rd_T60 t187 x19_2).f0.f0) ((rd_T60 t187 x19_2).f0.f1) ((rd_T60 t187 x19_2).f1.f0) ((rd_T60 t187 x19_2).f1.f1) ((rd_T60 t187 x29_3).f0.f0) ((rd_T60 t187 x29_3).f0.f1) ((rd_T60 t187 x29_3).f1.f0) ((rd_T60 t187 x29_3).f1.f1) t197 _ A33.out)))))
                     refine wpQuiet_nil ?_
                     intro _ hq_
                     obtain ⟨q_, rfl⟩ := hq_
                     clear s0_ s1_ s2_ s3_ s4_ s5_ s6_ s7_
                     replace HO_3 := Aside0.mk (Kd.R_below HO_3.out q_.b)
                     replace HB := Aside0.mk (below_step HB.out q_.b)
                     replace hx195_0 := q_.cell hx195_0
                     replace hx195_1 := q_.cell hx195_1
                     replace hx195_2 := q_.cell hx195_2
                     replace hx195_3 := q_.cell hx195_3
                     replace hx196_0 := q_.cell hx196_0
                     replace hx196_1 := q_.cell hx196_1
                     replace hx196_2 := q_.cell hx196_2
                     replace hx196_3 := q_.cell hx196_3
                     generalize q_.W = w38 at HO_3 HB hx195_0 hx195_1 hx195_2 hx195_3 hx196_0 hx196_1 hx196_2 hx196_3 ⊢
                     try simp only [i64_w, i32_w]
                     try go_wp2
                     go_ret
                     exact ⟨Hd.e_, Hd.b_⟩
                   ·
                    rw [if_neg c32] at H
                    exact absurd H (by simp)
                  ·
                   rw [if_neg c31] at H
                   exact absurd H (by simp)
                 ·
                  rw [if_neg c30] at H
                  exact absurd H (by simp)
                ·
                 rw [if_neg c29] at H
                 exact absurd H (by simp)
            ·
             rw [if_neg c14] at H
             have c14b0 : decide (x29_3 < x19_2) = false := decide_eq_false c14
             clear c14
             have H' := Aside0.mk H
             clear H
             go_wp2
             go_roundg k3
             case measure => have := HJ1.out; have := HK2.out; have := HK3.out; omega
             case rel => exact ⟨(wrap64 (x19_2 + 1)), (by first | rfl | (simp; done) | (simp [*]; done)), H', ⟨by have := HJ1.out; have := HK2.out; have := HK3.out; omega⟩, ⟨by (with_reducible repeat (first | apply Kd.R_alloc | apply Kd.R_drewN | apply Kd.R_drew)); exact HO_3.out⟩, ⟨Hd.b_⟩⟩
         ·
          replace c12 := Bool.eq_false_iff.mpr c12
          subst c12
          have H1 : (some false) = some r := by rw [if_neg (show ¬ (false = true) by decide)] at H; exact H
          clear H
          have H := H1
          clear H1
          obtain rfl := Option.some.inj H
          have p190 : 0 ≤ (x19_2 : Int) := of_decide_eq_true Hd.a_
          have q190 : x19_2 < (t187.length : Int) := of_decide_eq_true Hd.a_
          obtain ⟨ad190, e190, hx190_0, hx190_1, hx190_2, hx190_3⟩ := at_T60 (Kd.R_reads' HO_3.out).2.2 x19_2 p190 q190
          cases e190
          replace p190 := eq_true p190
          replace q190 := eq_true q190
          go_wp2_with (first | ((with_reducible refine gate_callee (f := 96) rfl ?_); refine goesL_ (some 26) rfl rfl Try.func96 (by kernel_rfl) rfl #[.agg #[.int .i64 ((rd_T60 t187 x19_2).f0.f0), .int .i64 ((rd_T60 t187 x19_2).f0.f1), .int .i64 ((rd_T60 t187 x19_2).f1.f0), .int .i64 ((rd_T60 t187 x19_2).f1.f1)]] rfl Hd.m_ ?_; (with_reducible refine (impl_IsSegment.calls ((rd_T60 t187 x19_2).f0.f0) ((rd_T60 t187 x19_2).f0.f1) ((rd_T60 t187 x19_2).f1.f0) ((rd_T60 t187 x19_2).f1.f1) false _ A11.out).mono ?_); rintro e w39 ⟨rfl, hb⟩; refine ⟨_, rfl, ?_⟩; replace HO_3 := Aside0.mk (Kd.R_below (Hd.r_ HO_3) hb); replace HB := Aside0.mk (below_step Hd.b_ hb); (try clear hb); (try clear hb2); (try clear hk); (try clear hi)))
          go_ret
          exact ⟨Hd.e_, Hd.b_⟩
        ·
         rw [if_neg c10] at H
         exact absurd H (by simp)
       ·
        rw [if_neg c9] at H
        exact absurd H (by simp)
      ·
       rw [if_neg c8] at H
       have c8b0 : decide (x19_2 < (t187.length : Int)) = false := decide_eq_false c8
       clear c8
       obtain rfl := Option.some.inj H
       go_wp2
       go_ret
       exact ⟨Hd.e_, Hd.b_⟩

/-! ### impl_RingSegments: function 64 -/
def impl_RingSegments.f (k : Nat) (l0 : List (S27)) : Option ((List (S60))) := (impl_IsRing.f k l0).bind fun t198 => (if t198 = true then ((impl_around.f k l0).bind fun t199 => (some t199)) else (some (([] : List (S60)))))
theorem impl_RingSegments.mono : ∀ a0 k, LeO (impl_RingSegments.f k a0) (impl_RingSegments.f (k + 1) a0) := by
 intro a0 k
 unfold impl_RingSegments.f
 repeat' first
   | (with_reducible exact impl_IsRing.mono _ _)
   | (with_reducible exact impl_around.mono _ _)
   | (with_reducible exact LeO.refl _)
   | (with_reducible exact LeO.none _)
   | (with_reducible refine LeO.ite ?_ ?_)
   | (with_reducible refine LeO.bind ?_ (fun _ => ?_))
   | exact impl_IsRing.mono _ _
   | exact impl_around.mono _ _
   | exact LeO.none _
   | refine LeO.ite ?_ ?_
   | refine LeO.bind ?_ (fun _ => ?_)
set_option maxHeartbeats 8000000 in
set_option maxRecDepth 100000 in
theorem impl_RingSegments.calls (k : Nat) (A0 : Option Addr) (c0 : Nat) (l0 : List (S27)) (r : List (S60)) (w : World) (hr0 : Kd.C k27 w A0 l0.length l0) (hc0 : l0.length ≤ c0) (h : impl_RingSegments.f k l0 = some r) :
  Calls Try.prog 64 #[.slice A0 l0.length c0] w fun e w' => ∃ v0_ : Value, e = .returned (v0_) ∧ Kd.R k60 60 w' w.heap.size (fun _ => True) v0_ r ∧ Below w.heap.size w w' := by
 have HR0 := Aside0.mk hr0
 have HC0 := Aside0.mk hc0
 clear hr0 hc0
 have HB := Aside0.mk (Below.refl w.heap.size w)
 have H : ((impl_IsRing.f k l0).bind fun t198 => (if t198 = true then ((impl_around.f k l0).bind fun t199 => (some t199)) else (some (([] : List (S60)))))) = some r := h
 clear h
 replace H := Option.bind_eq_some_iff.mp H
 obtain ⟨t198, A20, H⟩ := H
 replace H : (if t198 = true then ((impl_around.f k l0).bind fun t199 => (some t199)) else (some (([] : List (S60))))) = some r := H
 have A2 := Aside0.mk A20
 clear A20
 by_cases c3 : t198 = true
 ·
  subst c3
  have H1 : ((impl_around.f k l0).bind fun t199 => (some t199)) = some r := by rw [if_pos rfl] at H; exact H
  clear H
  have H := H1
  clear H1
  replace H := Option.bind_eq_some_iff.mp H
  obtain ⟨t199, A40, H⟩ := H
  replace H : (some t199) = some r := H
  have A4 := Aside0.mk A40
  clear A40
  obtain rfl := Option.some.inj H
  go_enter Try.func64, Try.ntmps64
  go_wp2_with (first | ((with_reducible refine gate_callee (f := 57) rfl ?_); refine goesL_ (some 4) rfl rfl Try.func57 (by kernel_rfl) rfl #[.slice A0 l0.length c0] rfl Hd.m_ ?_; (with_reducible refine (impl_IsRing.calls k _ _ l0 true _ ?side1 ?side2 A2.out).mono ?_); (case side1 => repeat (first | exact HR0.out | (with_reducible refine Kd.C_alloc ?_ _) | (with_reducible refine Kd.C_drewN ?_ _) | (with_reducible refine Kd.C_drew ?_))); (case side2 => exact HC0.out); rintro e w5 ⟨rfl, hb⟩; refine ⟨_, rfl, ?_⟩; replace HB := Aside0.mk (below_step Hd.b_ hb); (try clear hb); (try clear hb2); (try clear hk); (try clear hi)) | ((with_reducible refine gate_callee (f := 105) rfl ?_); refine goesL_ (some 8) rfl rfl Try.func105 (by kernel_rfl) rfl #[.slice A0 l0.length c0] rfl Hd.m_ ?_; (with_reducible refine (impl_around.calls k _ _ l0 t199 _ ?side1 ?side2 A4.out).mono ?_); (case side1 => repeat (first | exact (Kd.C_below HR0.out HB.out) | (with_reducible refine Kd.C_alloc ?_ _) | (with_reducible refine Kd.C_drewN ?_ _) | (with_reducible refine Kd.C_drew ?_))); (case side2 => exact HC0.out); rintro e w6 ⟨v200, rfl, ho0, hb⟩; refine ⟨_, rfl, ?_⟩; have HO201 := Aside0.mk (Kd.R_lower ho0 (below_size Hd.b_)); replace HB := Aside0.mk (below_step Hd.b_ hb); (try clear hb); (try clear hb2); (try clear hk); (try clear hi); (try clear ho0)))
  go_ret
  exact ⟨_, Hd.e_, by (with_reducible repeat (first | apply Kd.R_alloc | apply Kd.R_drewN | apply Kd.R_drew)); exact HO201.out, Hd.b_⟩
 ·
  replace c3 := Bool.eq_false_iff.mpr c3
  subst c3
  have H1 : (some (([] : List (S60)))) = some r := by rw [if_neg (show ¬ (false = true) by decide)] at H; exact H
  clear H
  have H := H1
  clear H1
  obtain ⟨y202, hy202⟩ : ∃ y_ : List (S60), y_ = (([] : List (S60))) := ⟨_, rfl⟩
  replace H : (some y202) = some r := by first | (rw [hy202]; with_reducible exact H) | (have H2_ := (Option.bind_some _ _).symm.trans H; rw [hy202]; with_reducible exact H2_) | (have H2_ := (Option.bind_some _ _).symm.trans H; with_reducible exact H2_) | with_reducible exact H | (rw [hy202]; exact H) | exact H
  have Ny202 := Aside0.mk hy202
  clear hy202
  obtain rfl := Option.some.inj H
  go_enter Try.func64, Try.ntmps64
  go_wp2_with (first | ((with_reducible refine gate_callee (f := 57) rfl ?_); refine goesL_ (some 4) rfl rfl Try.func57 (by kernel_rfl) rfl #[.slice A0 l0.length c0] rfl Hd.m_ ?_; (with_reducible refine (impl_IsRing.calls k _ _ l0 false _ ?side1 ?side2 A2.out).mono ?_); (case side1 => repeat (first | exact HR0.out | (with_reducible refine Kd.C_alloc ?_ _) | (with_reducible refine Kd.C_drewN ?_ _) | (with_reducible refine Kd.C_drew ?_))); (case side2 => exact HC0.out); rintro e w7 ⟨rfl, hb⟩; refine ⟨_, rfl, ?_⟩; replace HB := Aside0.mk (below_step Hd.b_ hb); (try clear hb); (try clear hb2); (try clear hk); (try clear hi)) | ((with_reducible refine gate_dst (N := 6) rfl ?_); refine Kd.R_lit k60 _ 60 ?hg (N := 6) ?hd (xs := ([] : List (S60))) (inner := []) (ok := fun _ => True) (okp := fun _ => True) ?hr ?hp (fun _ hk => hk) trivial (Below.refl _ _) (Nat.le_refl _) (by simp) ?_; (case hd => rfl); (case hg => rfl); (case hr => first | (go_simp; done) | (go_simp; rfl)); (case hp => exact (Reps.none _ _)); intro v203 w8 ho9 hb hg_ hnew_; clear hg_ hnew_; (first | rw [← Ny202.out] at ho9 | (simp only [Int.reduceToNat] at ho9; rw [← Ny202.out] at ho9)); have HO204 := Aside0.mk (Kd.R_lower ho9 (below_size Hd.b_)); replace HB := Aside0.mk (below_step Hd.b_ hb); clear hb ho9))
  go_ret
  exact ⟨_, Hd.e_, by (with_reducible repeat (first | apply Kd.R_alloc | apply Kd.R_drewN | apply Kd.R_drew)); exact HO204.out, Hd.b_⟩

end Go.Proofs.Ytchmbcembbbplab.MFnExactIsInside
