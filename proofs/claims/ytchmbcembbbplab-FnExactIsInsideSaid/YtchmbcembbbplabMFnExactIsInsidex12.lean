-- Laid by this session's program pp.py, after the kit's print and texts of the session's own. Not trusted: Lean checks it.
import Derived.Test.YtchmbcembbbplabMFnExactIsInsidex0
import Derived.Test.YtchmbcembbbplabMFnExactIsInsidex7
import Derived.Test.YtchmbcembbbplabMFnExactIsInsidex8
import Derived.Test.YtchmbcembbbplabMFnExactIsInsidex11
namespace Go.Proofs.Ytchmbcembbbplab.MFnExactIsInside
open Go.RowKit Go.Proofs.YtchmbcembbbplabW.PrintWords Go.Proofs.YtchmbcembbbplabW.PrintLast Go.Proofs.YtchmbcembbbplabW.PrintMore
attribute [local go_sem] max2_int min2_int max_two min_two max_three min_three max_four min_four   -- for this text's walks alone
set_option linter.unusedVariables false
set_option linter.unusedSimpArgs false

/-! ### spec_IsInside: function 65 -/
mutual
def spec_IsInside.j0 : Nat → List (S27) → Bool → Int → Int → Option (Bool)
 | 0, _, _, _, _ => none
 | k + 1, x0, x18, x299000, x299001 => if x18 = true then (some false) else ((spec_l7Segments.f k x0).bind fun t301 => (spec_IsInside.l0 k false t301 0 x299000 x299001))
def spec_IsInside.l0 : Nat → Bool → List (S60) → Int → Int → Int → Option (Bool)
 | 0, _, _, _, _, _ => none
 | k + 1, x5, x6, x7, x299000, x299001 => if x7 < (x6.length : Int) then (if 0 ≤ x7 then ((spec_IsOn.f ((rd_T60 x6 x7).f0.f0) ((rd_T60 x6 x7).f0.f1) ((rd_T60 x6 x7).f1.f0) ((rd_T60 x6 x7).f1.f1) x299000 x299001).bind fun t305 => (if t305 = true then (some true) else (if ((decide (((rd_T60 x6 x7).f0.f1) > x299001)) != (decide (((rd_T60 x6 x7).f1.f1) > x299001))) = true then ((spec_l4Cross.f ((rd_T60 x6 x7).f0.f0) ((rd_T60 x6 x7).f0.f1) ((rd_T60 x6 x7).f1.f0) ((rd_T60 x6 x7).f1.f1) x299000 x299001).bind fun t310 => (if ((rd_T60 x6 x7).f1.f1) > ((rd_T60 x6 x7).f0.f1) then (if t310 > 0 then (spec_IsInside.l0 k (!x5) x6 (wrap64 (x7 + 1)) x299000 x299001) else (if ((rd_T60 x6 x7).f1.f1) < ((rd_T60 x6 x7).f0.f1) then (if t310 < 0 then (spec_IsInside.l0 k (!x5) x6 (wrap64 (x7 + 1)) x299000 x299001) else (spec_IsInside.l0 k x5 x6 (wrap64 (x7 + 1)) x299000 x299001)) else (spec_IsInside.l0 k x5 x6 (wrap64 (x7 + 1)) x299000 x299001))) else (if ((rd_T60 x6 x7).f1.f1) < ((rd_T60 x6 x7).f0.f1) then (if t310 < 0 then (spec_IsInside.l0 k (!x5) x6 (wrap64 (x7 + 1)) x299000 x299001) else (spec_IsInside.l0 k x5 x6 (wrap64 (x7 + 1)) x299000 x299001)) else (spec_IsInside.l0 k x5 x6 (wrap64 (x7 + 1)) x299000 x299001)))) else (spec_IsInside.l0 k x5 x6 (wrap64 (x7 + 1)) x299000 x299001)))) else (none)) else (some x5)
end
def spec_IsInside.f (k : Nat) (l0 : List (S27)) (a1_0 : Int) (a1_1 : Int) : Option (Bool) := (spec_IsRing.f k l0).bind fun t299 => (if t299 = true then ((spec_IsPoint.f a1_0 a1_1).bind fun t300 => (spec_IsInside.j0 k l0 (!t300) a1_0 a1_1)) else (spec_IsInside.j0 k l0 true a1_0 a1_1))
theorem spec_IsInside.mono_l : ∀ k, (∀ y0 y1 y2 y3, LeO (spec_IsInside.j0 k y0 y1 y2 y3) (spec_IsInside.j0 (k + 1) y0 y1 y2 y3)) ∧ (∀ y0 y1 y2 y3 y4, LeO (spec_IsInside.l0 k y0 y1 y2 y3 y4) (spec_IsInside.l0 (k + 1) y0 y1 y2 y3 y4))
 | 0 => ⟨fun _ _ _ _ r h => by simp [spec_IsInside.j0] at h, fun _ _ _ _ _ r h => by simp [spec_IsInside.l0] at h⟩
 | k + 1 => by
  obtain ⟨ih0, ih1⟩ := spec_IsInside.mono_l k
  refine ⟨?_, ?_⟩
  ·
   intro y0 y1 y2 y3
   unfold spec_IsInside.j0
   repeat' first
   | (with_reducible exact ih0 _ _ _ _)
   | (with_reducible exact ih1 _ _ _ _ _)
   | (with_reducible exact spec_IsRing.mono _ _)
   | (with_reducible exact spec_l7Segments.mono _ _)
   | (with_reducible exact LeO.refl _)
   | (with_reducible exact LeO.none _)
   | (with_reducible refine LeO.ite ?_ ?_)
   | (with_reducible refine LeO.bind ?_ (fun _ => ?_))
   | exact ih0 _ _ _ _
   | exact ih1 _ _ _ _ _
   | exact spec_IsRing.mono _ _
   | exact spec_l7Segments.mono _ _
   | exact LeO.none _
   | refine LeO.ite ?_ ?_
   | refine LeO.bind ?_ (fun _ => ?_)
  ·
   intro y0 y1 y2 y3 y4
   unfold spec_IsInside.l0
   repeat' first
   | (with_reducible exact ih0 _ _ _ _)
   | (with_reducible exact ih1 _ _ _ _ _)
   | (with_reducible exact spec_IsRing.mono _ _)
   | (with_reducible exact spec_l7Segments.mono _ _)
   | (with_reducible exact LeO.refl _)
   | (with_reducible exact LeO.none _)
   | (with_reducible refine LeO.ite ?_ ?_)
   | (with_reducible refine LeO.bind ?_ (fun _ => ?_))
   | exact ih0 _ _ _ _
   | exact ih1 _ _ _ _ _
   | exact spec_IsRing.mono _ _
   | exact spec_l7Segments.mono _ _
   | exact LeO.none _
   | refine LeO.ite ?_ ?_
   | refine LeO.bind ?_ (fun _ => ?_)
theorem spec_IsInside.mono : ∀ a0 a1 a2 k, LeO (spec_IsInside.f k a0 a1 a2) (spec_IsInside.f (k + 1) a0 a1 a2) := by
 intro a0 a1 a2 k
 obtain ⟨ih0, ih1⟩ := spec_IsInside.mono_l k
 unfold spec_IsInside.f
 repeat' first
   | (with_reducible exact ih0 _ _ _ _)
   | (with_reducible exact ih1 _ _ _ _ _)
   | (with_reducible exact spec_IsRing.mono _ _)
   | (with_reducible exact spec_l7Segments.mono _ _)
   | (with_reducible exact LeO.refl _)
   | (with_reducible exact LeO.none _)
   | (with_reducible refine LeO.ite ?_ ?_)
   | (with_reducible refine LeO.bind ?_ (fun _ => ?_))
   | exact ih0 _ _ _ _
   | exact ih1 _ _ _ _ _
   | exact spec_IsRing.mono _ _
   | exact spec_l7Segments.mono _ _
   | exact LeO.none _
   | refine LeO.ite ?_ ?_
   | refine LeO.bind ?_ (fun _ => ?_)
set_option maxHeartbeats 8000000 in
set_option maxRecDepth 100000 in
theorem spec_IsInside.calls (k : Nat) (A0 : Option Addr) (c0 : Nat) (l0 : List (S27)) (a1_0 : Int) (a1_1 : Int) (r : Bool) (w : World) (hr0 : Kd.C k27 w A0 l0.length l0) (hc0 : l0.length ≤ c0) (h : spec_IsInside.f k l0 a1_0 a1_1 = some r) :
  Calls Try.prog 65 #[.slice A0 l0.length c0, .agg #[.int .i64 a1_0, .int .i64 a1_1]] w fun e w' => e = .returned (.bool r) ∧ Below w.heap.size w w' := by
 have hu27 := Try.underlying27
 have hu60 := Try.underlying60
 have HR0 := Aside0.mk hr0
 have HC0 := Aside0.mk hc0
 clear hr0 hc0
 have HB := Aside0.mk (Below.refl w.heap.size w)
 have H : ((spec_IsRing.f k l0).bind fun t299 => (if t299 = true then ((spec_IsPoint.f a1_0 a1_1).bind fun t300 => (spec_IsInside.j0 k l0 (!t300) a1_0 a1_1)) else (spec_IsInside.j0 k l0 true a1_0 a1_1))) = some r := h
 clear h
 have HC3 := Aside0.mk H
 clear H
 go_enter Try.func65, Try.ntmps65
 go_upto_region 1 with (first | ((with_reducible refine gate_dst (N := 3) rfl ?_); refine Hd.box_ 3 (#[.int .i64 a1_0, .int .i64 a1_1]) 27 ?_; intro gb298 hg w4 hbox hb; have BK298 := Aside0.mk (hbox); have GW298 := Aside0.mk ((Hd.g_ hg Hd.b_ : w.heap.size ≤ gb298)); have GE298 := Aside0.mk ((Hd.g_ hg Hd.b_ : w.heap.size ≤ gb298)); replace HB := Aside0.mk (below_step Hd.b_ hb); clear hb hbox hg))
 (try simp only [Act.put, List.setIfInBounds_toArray, List.set_cons_zero, List.set_cons_succ])
 go_cut [18] (fun v18 wc => ∃ (kq : Nat) (x18_2 : Bool), v18 = .bool x18_2 ∧ Aside0 (spec_IsInside.j0 kq l0 x18_2 a1_0 a1_1 = some r) ∧ Aside0 (kq ≤ k) ∧ Aside0 (wc.heap[gb298]? = some (.cells #[.int .i64 a1_0, .int .i64 a1_1] 27 (0, 0))) ∧ Aside0 (Below w.heap.size w wc))
 case first =>
  have H := HC3.out
  clear HC3
  replace H := Option.bind_eq_some_iff.mp H
  obtain ⟨t299, A50, H⟩ := H
  replace H : (if t299 = true then ((spec_IsPoint.f a1_0 a1_1).bind fun t300 => (spec_IsInside.j0 k l0 (!t300) a1_0 a1_1)) else (spec_IsInside.j0 k l0 true a1_0 a1_1)) = some r := H
  have A5 := Aside0.mk A50
  clear A50
  by_cases c6 : t299 = true
  ·
   subst c6
   have H1 : ((spec_IsPoint.f a1_0 a1_1).bind fun t300 => (spec_IsInside.j0 k l0 (!t300) a1_0 a1_1)) = some r := by rw [if_pos rfl] at H; exact H
   clear H
   have H := H1
   clear H1
   replace H := Option.bind_eq_some_iff.mp H
   obtain ⟨t300, A70, H⟩ := H
   replace H : (spec_IsInside.j0 k l0 (!t300) a1_0 a1_1) = some r := H
   have A7 := Aside0.mk A70
   clear A70
   have H' := Aside0.mk H
   clear H
   go_wp2_with (first | ((with_reducible refine gate_callee (f := 98) rfl ?_); refine goesL_ (some 12) rfl rfl Try.func98 (by kernel_rfl) rfl #[.slice A0 l0.length c0] rfl Hd.m_ ?_; (with_reducible refine (spec_IsRing.calls k _ _ l0 true _ ?side1 ?side2 A5.out).mono ?_); (case side1 => repeat (first | exact (Kd.C_below HR0.out HB.out) | (with_reducible refine Kd.C_alloc ?_ _) | (with_reducible refine Kd.C_drewN ?_ _) | (with_reducible refine Kd.C_drew ?_))); (case side2 => exact HC0.out); rintro e w8 ⟨rfl, hb⟩; refine ⟨_, rfl, ?_⟩; replace BK298 := Aside0.mk (Hd.kb_ BK298 hb); replace HB := Aside0.mk (below_step Hd.b_ hb); (try clear hb); (try clear hb2); (try clear hk); (try clear hi); obtain ⟨hcz9_0, hcz9_1⟩ := Hd.c2_ BK298.out; obtain ⟨hfz9_0, hfz9_1⟩ := Hd.f2_ BK298.out) | (go_at_call 111; (with_reducible refine (spec_IsPoint.calls a1_0 a1_1 t300 _ A7.out).mono ?_); rintro e w10 ⟨rfl, hb⟩; replace BK298 := Aside0.mk (Hd.kb_ BK298 hb); replace HB := Aside0.mk (below_step Hd.b_ hb); (try clear hb); (try clear hb2); (try clear hk); (try clear hi)))
   go_meet
   case rel => exact ⟨_, (!t300), (by first | rfl | (simp; done) | (simp [*]; done)), H', ⟨by first | omega | exact Nat.le_refl _⟩, ⟨by (with_reducible repeat (first | refine blk_drewN ?_ _ | refine blk_drew ?_ | refine blk_alloc ?_ _)); exact BK298.out⟩, ⟨Hd.b_⟩⟩
  ·
   replace c6 := Bool.eq_false_iff.mpr c6
   subst c6
   have H1 : (spec_IsInside.j0 k l0 true a1_0 a1_1) = some r := by rw [if_neg (show ¬ (false = true) by decide)] at H; exact H
   clear H
   have H := H1
   clear H1
   have H' := Aside0.mk H
   clear H
   go_wp2_with (first | ((with_reducible refine gate_callee (f := 98) rfl ?_); refine goesL_ (some 12) rfl rfl Try.func98 (by kernel_rfl) rfl #[.slice A0 l0.length c0] rfl Hd.m_ ?_; (with_reducible refine (spec_IsRing.calls k _ _ l0 false _ ?side1 ?side2 A5.out).mono ?_); (case side1 => repeat (first | exact (Kd.C_below HR0.out HB.out) | (with_reducible refine Kd.C_alloc ?_ _) | (with_reducible refine Kd.C_drewN ?_ _) | (with_reducible refine Kd.C_drew ?_))); (case side2 => exact HC0.out); rintro e w11 ⟨rfl, hb⟩; refine ⟨_, rfl, ?_⟩; replace BK298 := Aside0.mk (Hd.kb_ BK298 hb); replace HB := Aside0.mk (below_step Hd.b_ hb); (try clear hb); (try clear hb2); (try clear hk); (try clear hi)))
   go_meet
   case rel => exact ⟨_, (true), (by first | rfl | (simp; done) | (simp [*]; done)), H', ⟨by first | omega | exact Nat.le_refl _⟩, ⟨by (with_reducible repeat (first | refine blk_drewN ?_ _ | refine blk_drew ?_ | refine blk_alloc ?_ _)); exact BK298.out⟩, ⟨Hd.b_⟩⟩
 case rest =>
  clear HC3
  try clear p2
  try clear c6
  try clear c9
  try clear hcz9_0
  try clear hcz9_1
  try clear hfz9_0
  try clear hfz9_1
  obtain ⟨kq, x18_2, rfl, HA, HJ2, BK298, HB⟩ := hcut
  cases kq with
  | zero => exact absurd HA.out (by simp [spec_IsInside.j0])
  | succ kj2 =>
   have H := HA.out
   clear HA
   simp only [spec_IsInside.j0] at H
   by_cases c12 : x18_2 = true
   ·
    subst c12
    have H1 : (some false) = some r := by rw [if_pos rfl] at H; exact H
    clear H
    have H := H1
    clear H1
    obtain rfl := Option.some.inj H
    go_wp2
    go_ret
    exact ⟨Hd.e_, Hd.b_⟩
   ·
    replace c12 := Bool.eq_false_iff.mpr c12
    subst c12
    have H1 : ((spec_l7Segments.f kj2 l0).bind fun t301 => (spec_IsInside.l0 kj2 false t301 0 a1_0 a1_1)) = some r := by rw [if_neg (show ¬ (false = true) by decide)] at H; exact H
    clear H
    have H := H1
    clear H1
    replace H := Option.bind_eq_some_iff.mp H
    obtain ⟨t301, A130, H⟩ := H
    replace H : (spec_IsInside.l0 kj2 false t301 0 a1_0 a1_1) = some r := H
    have A13 := Aside0.mk A130
    clear A130
    have H' := Aside0.mk H
    clear H
    go_wp2_with (first | ((with_reducible refine gate_callee (f := 112) rfl ?_); refine goesL_ (some 20) rfl rfl Try.func112 (by kernel_rfl) rfl #[.slice A0 l0.length c0] rfl Hd.m_ ?_; (with_reducible refine (spec_l7Segments.calls kj2 _ _ l0 t301 _ ?side1 ?side2 A13.out).mono ?_); (case side1 => repeat (first | exact (Kd.C_below HR0.out HB.out) | (with_reducible refine Kd.C_alloc ?_ _) | (with_reducible refine Kd.C_drewN ?_ _) | (with_reducible refine Kd.C_drew ?_))); (case side2 => exact HC0.out); rintro e w14 ⟨v302, rfl, ho0, hb⟩; refine ⟨_, rfl, ?_⟩; have HO303 := Aside0.mk (Kd.R_lower ho0 (below_size Hd.b_)); replace BK298 := Aside0.mk (Hd.kb_ BK298 hb); replace HB := Aside0.mk (below_step Hd.b_ hb); (try clear hb); (try clear hb2); (try clear hk); (try clear hi); (try clear ho0)))
    go_loopg [5, 7] kj2 (fun kq v5 v7 w' => ∃ (x5_2 : Bool) (x7_2 : Int), v5 = .bool x5_2 ∧ v7 = .int .i64 x7_2 ∧ Aside0 (spec_IsInside.l0 kq x5_2 t301 x7_2 a1_0 a1_1 = some r) ∧ Aside0 (kq ≤ kj2) ∧ Aside0 (Kd.R k60 60 w' w.heap.size (fun _ => True) v302 t301) ∧ Aside0 (w'.heap[gb298]? = some (.cells #[.int .i64 a1_0, .int .i64 a1_1] 27 (0, 0))) ∧ Aside0 (Below w.heap.size w w'))
    case atStart => exact ⟨(false), (0), (by first | rfl | (simp; done) | (simp [*]; done)), (by first | rfl | (simp; done) | (simp [*]; done)), H', ⟨Nat.le_refl _⟩, ⟨by (with_reducible repeat (first | apply Kd.R_alloc | apply Kd.R_drewN | apply Kd.R_drew)); exact HO303.out⟩, ⟨by (with_reducible repeat (first | refine blk_drewN ?_ _ | refine blk_drew ?_ | refine blk_alloc ?_ _)); exact BK298.out⟩, ⟨Hd.b_⟩⟩
    case round =>
     clear H'
     try clear c1
     try clear p2
     try clear c6
     try clear c9
     try clear c11
     try clear c12
     try clear hcz9_0
     try clear hcz9_1
     try clear hfz9_0
     try clear hfz9_1
     try clear p2
     obtain ⟨x5_2, x7_2, rfl, rfl, HA, HK2, HO_6, BK298, HB⟩ := hrel
     cases gk with
     | zero => exact absurd HA.out (by simp [spec_IsInside.l0])
     | succ k2 =>
      have H := HA.out
      clear HA
      simp only [spec_IsInside.l0] at H
      by_cases c15 : x7_2 < (t301.length : Int)
      ·
       rw [if_pos c15] at H
       have c15b0 : decide (x7_2 < (t301.length : Int)) = true := decide_eq_true c15
       clear c15
       by_cases c16 : 0 ≤ x7_2
       ·
        rw [if_pos c16] at H
        have c16b0 : decide (0 ≤ x7_2) = true := decide_eq_true c16
        clear c16
        replace H := Option.bind_eq_some_iff.mp H
        obtain ⟨t305, A170, H⟩ := H
        replace H : (if t305 = true then (some true) else (if ((decide (((rd_T60 t301 x7_2).f0.f1) > a1_1)) != (decide (((rd_T60 t301 x7_2).f1.f1) > a1_1))) = true then ((spec_l4Cross.f ((rd_T60 t301 x7_2).f0.f0) ((rd_T60 t301 x7_2).f0.f1) ((rd_T60 t301 x7_2).f1.f0) ((rd_T60 t301 x7_2).f1.f1) a1_0 a1_1).bind fun t310 => (if ((rd_T60 t301 x7_2).f1.f1) > ((rd_T60 t301 x7_2).f0.f1) then (if t310 > 0 then (spec_IsInside.l0 k2 (!x5_2) t301 (wrap64 (x7_2 + 1)) a1_0 a1_1) else (if ((rd_T60 t301 x7_2).f1.f1) < ((rd_T60 t301 x7_2).f0.f1) then (if t310 < 0 then (spec_IsInside.l0 k2 (!x5_2) t301 (wrap64 (x7_2 + 1)) a1_0 a1_1) else (spec_IsInside.l0 k2 x5_2 t301 (wrap64 (x7_2 + 1)) a1_0 a1_1)) else (spec_IsInside.l0 k2 x5_2 t301 (wrap64 (x7_2 + 1)) a1_0 a1_1))) else (if ((rd_T60 t301 x7_2).f1.f1) < ((rd_T60 t301 x7_2).f0.f1) then (if t310 < 0 then (spec_IsInside.l0 k2 (!x5_2) t301 (wrap64 (x7_2 + 1)) a1_0 a1_1) else (spec_IsInside.l0 k2 x5_2 t301 (wrap64 (x7_2 + 1)) a1_0 a1_1)) else (spec_IsInside.l0 k2 x5_2 t301 (wrap64 (x7_2 + 1)) a1_0 a1_1)))) else (spec_IsInside.l0 k2 x5_2 t301 (wrap64 (x7_2 + 1)) a1_0 a1_1))) = some r := H
        have A17 := Aside0.mk A170
        clear A170
        by_cases c18 : t305 = true
        ·
         subst c18
         have H1 : (some true) = some r := by rw [if_pos rfl] at H; exact H
         clear H
         have H := H1
         clear H1
         obtain rfl := Option.some.inj H
         obtain ⟨Ao19, co19, eo19⟩ := Kd.R_slice HO_6.out
         subst eo19
         try go_wp2
         replace HO_6 := Aside0.mk (Kd.R_drew HO_6.out)
         replace BK298 := Aside0.mk (blk_drew BK298.out)
         replace HB := Aside0.mk (below_drew1 HB.out)
         have p304 : 0 ≤ (x7_2 : Int) := of_decide_eq_true Hd.a_
         have q304 : x7_2 < (t301.length : Int) := of_decide_eq_true Hd.a_
         obtain ⟨ad304, e304, hx304_0, hx304_1, hx304_2, hx304_3⟩ := at_T60 (Kd.R_reads' HO_6.out).2.2 x7_2 p304 q304
         cases e304
         replace p304 := eq_true p304
         replace q304 := eq_true q304
         have S_ : (fun w' : World => w'.cell? ⟨gb298, 0, none⟩ = some (.int .i64 a1_0) ∧ w'.cell? ⟨gb298, 1, none⟩ = some (.int .i64 a1_1) ∧ w'.cell? (ad304.add ((x7_2).toNat * 4)) = some (.int .i64 ((rd_T60 t301 x7_2).f0.f0)) ∧ w'.cell? ⟨(ad304.add ((x7_2).toNat * 4)).block, (ad304.add ((x7_2).toNat * 4)).off + 1, none⟩ = some (.int .i64 ((rd_T60 t301 x7_2).f0.f1)) ∧ w'.cell? ⟨(ad304.add ((x7_2).toNat * 4)).block, (ad304.add ((x7_2).toNat * 4)).off + 2, none⟩ = some (.int .i64 ((rd_T60 t301 x7_2).f1.f0)) ∧ w'.cell? ⟨(ad304.add ((x7_2).toNat * 4)).block, (ad304.add ((x7_2).toNat * 4)).off + 3, none⟩ = some (.int .i64 ((rd_T60 t301 x7_2).f1.f1))) wr.drew := ⟨(blk_cell BK298.out 0).trans rfl, (blk_cell BK298.out 1).trans rfl, hx304_0, hx304_1, hx304_2, hx304_3⟩
         obtain ⟨s0_, s1_, s2_, s3_, s4_, s5_⟩ := S_
         replace s0_ := fun q : Hd.HW wr.drew => q.cell s0_
         replace s1_ := fun q : Hd.HW wr.drew => q.cell s1_
         replace s2_ := fun q : Hd.HW wr.drew => q.cell s2_
         replace s3_ := fun q : Hd.HW wr.drew => q.cell s3_
         replace s4_ := fun q : Hd.HW wr.drew => q.cell s4_
         replace s5_ := fun q : Hd.HW wr.drew => q.cell s5_
         refine Hd.HW.region (by kernel_rfl) (by kernel_rfl) ?_
         repeat (go_big_quiet_step ((first | (go_at_call 113; with_reducible exact Hd.HW.c (spec_IsOn.calls ((rd_T60 t301 x7_2).f0.f0) ((rd_T60 t301 x7_2).f0.f1) ((rd_T60 t301 x7_2).f1.f0) ((rd_T60 t301 x7_2).f1.f1) a1_0 a1_1 true _ A17.out)))))
         refine wpQuiet_nil ?_
         intro _ hq_
         obtain ⟨q_, rfl⟩ := hq_
         clear s0_ s1_ s2_ s3_ s4_ s5_
         replace HO_6 := Aside0.mk (Kd.R_below HO_6.out q_.b)
         replace BK298 := Aside0.mk (blk_below BK298.out q_.b)
         replace HB := Aside0.mk (below_step HB.out q_.b)
         replace hx304_0 := q_.cell hx304_0
         replace hx304_1 := q_.cell hx304_1
         replace hx304_2 := q_.cell hx304_2
         replace hx304_3 := q_.cell hx304_3
         generalize q_.W = w21 at HO_6 BK298 HB hx304_0 hx304_1 hx304_2 hx304_3 ⊢
         try simp only [i64_w, i32_w]
         try go_wp2
         go_ret
         exact ⟨Hd.e_, Hd.b_⟩
        ·
         replace c18 := Bool.eq_false_iff.mpr c18
         subst c18
         have H1 : (if ((decide (((rd_T60 t301 x7_2).f0.f1) > a1_1)) != (decide (((rd_T60 t301 x7_2).f1.f1) > a1_1))) = true then ((spec_l4Cross.f ((rd_T60 t301 x7_2).f0.f0) ((rd_T60 t301 x7_2).f0.f1) ((rd_T60 t301 x7_2).f1.f0) ((rd_T60 t301 x7_2).f1.f1) a1_0 a1_1).bind fun t310 => (if ((rd_T60 t301 x7_2).f1.f1) > ((rd_T60 t301 x7_2).f0.f1) then (if t310 > 0 then (spec_IsInside.l0 k2 (!x5_2) t301 (wrap64 (x7_2 + 1)) a1_0 a1_1) else (if ((rd_T60 t301 x7_2).f1.f1) < ((rd_T60 t301 x7_2).f0.f1) then (if t310 < 0 then (spec_IsInside.l0 k2 (!x5_2) t301 (wrap64 (x7_2 + 1)) a1_0 a1_1) else (spec_IsInside.l0 k2 x5_2 t301 (wrap64 (x7_2 + 1)) a1_0 a1_1)) else (spec_IsInside.l0 k2 x5_2 t301 (wrap64 (x7_2 + 1)) a1_0 a1_1))) else (if ((rd_T60 t301 x7_2).f1.f1) < ((rd_T60 t301 x7_2).f0.f1) then (if t310 < 0 then (spec_IsInside.l0 k2 (!x5_2) t301 (wrap64 (x7_2 + 1)) a1_0 a1_1) else (spec_IsInside.l0 k2 x5_2 t301 (wrap64 (x7_2 + 1)) a1_0 a1_1)) else (spec_IsInside.l0 k2 x5_2 t301 (wrap64 (x7_2 + 1)) a1_0 a1_1)))) else (spec_IsInside.l0 k2 x5_2 t301 (wrap64 (x7_2 + 1)) a1_0 a1_1)) = some r := by rw [if_neg (show ¬ (false = true) by decide)] at H; exact H
         clear H
         have H := H1
         clear H1
         by_cases c22 : ((decide (((rd_T60 t301 x7_2).f0.f1) > a1_1)) != (decide (((rd_T60 t301 x7_2).f1.f1) > a1_1))) = true
         ·
          rw [if_pos c22] at H
          have c22b0 : ((decide (((rd_T60 t301 x7_2).f0.f1) > a1_1)) != (decide (((rd_T60 t301 x7_2).f1.f1) > a1_1))) = true := c22
          (try (have c22b1 : decide ((decide (((rd_T60 t301 x7_2).f0.f1) > a1_1)) = (decide (((rd_T60 t301 x7_2).f1.f1) > a1_1))) = false := by simpa using c22))
          (try (have c22b2 : ((decide (((rd_T60 t301 x7_2).f0.f1) > a1_1)) == (decide (((rd_T60 t301 x7_2).f1.f1) > a1_1))) = false := by simpa using c22))
          (try (have c22b3 : ¬ ((decide (((rd_T60 t301 x7_2).f0.f1) > a1_1)) = (decide (((rd_T60 t301 x7_2).f1.f1) > a1_1))) := by simpa using c22))
          clear c22
          replace H := Option.bind_eq_some_iff.mp H
          obtain ⟨t310, A230, H⟩ := H
          replace H : (if ((rd_T60 t301 x7_2).f1.f1) > ((rd_T60 t301 x7_2).f0.f1) then (if t310 > 0 then (spec_IsInside.l0 k2 (!x5_2) t301 (wrap64 (x7_2 + 1)) a1_0 a1_1) else (if ((rd_T60 t301 x7_2).f1.f1) < ((rd_T60 t301 x7_2).f0.f1) then (if t310 < 0 then (spec_IsInside.l0 k2 (!x5_2) t301 (wrap64 (x7_2 + 1)) a1_0 a1_1) else (spec_IsInside.l0 k2 x5_2 t301 (wrap64 (x7_2 + 1)) a1_0 a1_1)) else (spec_IsInside.l0 k2 x5_2 t301 (wrap64 (x7_2 + 1)) a1_0 a1_1))) else (if ((rd_T60 t301 x7_2).f1.f1) < ((rd_T60 t301 x7_2).f0.f1) then (if t310 < 0 then (spec_IsInside.l0 k2 (!x5_2) t301 (wrap64 (x7_2 + 1)) a1_0 a1_1) else (spec_IsInside.l0 k2 x5_2 t301 (wrap64 (x7_2 + 1)) a1_0 a1_1)) else (spec_IsInside.l0 k2 x5_2 t301 (wrap64 (x7_2 + 1)) a1_0 a1_1))) = some r := H
          have A23 := Aside0.mk A230
          clear A230
          by_cases c24 : ((rd_T60 t301 x7_2).f1.f1) > ((rd_T60 t301 x7_2).f0.f1)
          ·
           rw [if_pos c24] at H
           have c24b0 : decide (((rd_T60 t301 x7_2).f0.f1) < ((rd_T60 t301 x7_2).f1.f1)) = true := decide_eq_true c24
           clear c24
           by_cases c25 : t310 > 0
           ·
            rw [if_pos c25] at H
            have c25b0 : decide (0 < t310) = true := decide_eq_true c25
            clear c25
            have H' := Aside0.mk H
            clear H
            obtain ⟨Ao26, co26, eo26⟩ := Kd.R_slice HO_6.out
            subst eo26
            try go_wp2
            replace HO_6 := Aside0.mk (Kd.R_drew HO_6.out)
            replace BK298 := Aside0.mk (blk_drew BK298.out)
            replace HB := Aside0.mk (below_drew1 HB.out)
            have p304 : 0 ≤ (x7_2 : Int) := of_decide_eq_true Hd.a_
            have q304 : x7_2 < (t301.length : Int) := of_decide_eq_true Hd.a_
            obtain ⟨ad304, e304, hx304_0, hx304_1, hx304_2, hx304_3⟩ := at_T60 (Kd.R_reads' HO_6.out).2.2 x7_2 p304 q304
            cases e304
            replace p304 := eq_true p304
            replace q304 := eq_true q304
            have S_ : (fun w' : World => w'.cell? ⟨gb298, 0, none⟩ = some (.int .i64 a1_0) ∧ w'.cell? ⟨gb298, 1, none⟩ = some (.int .i64 a1_1) ∧ w'.cell? (ad304.add ((x7_2).toNat * 4)) = some (.int .i64 ((rd_T60 t301 x7_2).f0.f0)) ∧ w'.cell? ⟨(ad304.add ((x7_2).toNat * 4)).block, (ad304.add ((x7_2).toNat * 4)).off + 1, none⟩ = some (.int .i64 ((rd_T60 t301 x7_2).f0.f1)) ∧ w'.cell? ⟨(ad304.add ((x7_2).toNat * 4)).block, (ad304.add ((x7_2).toNat * 4)).off + 2, none⟩ = some (.int .i64 ((rd_T60 t301 x7_2).f1.f0)) ∧ w'.cell? ⟨(ad304.add ((x7_2).toNat * 4)).block, (ad304.add ((x7_2).toNat * 4)).off + 3, none⟩ = some (.int .i64 ((rd_T60 t301 x7_2).f1.f1))) wr.drew := ⟨(blk_cell BK298.out 0).trans rfl, (blk_cell BK298.out 1).trans rfl, hx304_0, hx304_1, hx304_2, hx304_3⟩
            obtain ⟨s0_, s1_, s2_, s3_, s4_, s5_⟩ := S_
            replace s0_ := fun q : Hd.HW wr.drew => q.cell s0_
            replace s1_ := fun q : Hd.HW wr.drew => q.cell s1_
            replace s2_ := fun q : Hd.HW wr.drew => q.cell s2_
            replace s3_ := fun q : Hd.HW wr.drew => q.cell s3_
            replace s4_ := fun q : Hd.HW wr.drew => q.cell s4_
            replace s5_ := fun q : Hd.HW wr.drew => q.cell s5_
            refine Hd.HW.region (by kernel_rfl) (by kernel_rfl) ?_
            repeat (go_big_quiet_step ((first | (go_at_call 113; with_reducible exact Hd.HW.c (spec_IsOn.calls ((rd_T60 t301 x7_2).f0.f0) ((rd_T60 t301 x7_2).f0.f1) ((rd_T60 t301 x7_2).f1.f0) ((rd_T60 t301 x7_2).f1.f1) a1_0 a1_1 false _ A17.out)))))
            refine wpQuiet_nil ?_
            intro _ hq_
            obtain ⟨q_, rfl⟩ := hq_
            clear s0_ s1_ s2_ s3_ s4_ s5_
            replace HO_6 := Aside0.mk (Kd.R_below HO_6.out q_.b)
            replace BK298 := Aside0.mk (blk_below BK298.out q_.b)
            replace HB := Aside0.mk (below_step HB.out q_.b)
            replace hx304_0 := q_.cell hx304_0
            replace hx304_1 := q_.cell hx304_1
            replace hx304_2 := q_.cell hx304_2
            replace hx304_3 := q_.cell hx304_3
            generalize q_.W = w28 at HO_6 BK298 HB hx304_0 hx304_1 hx304_2 hx304_3 ⊢
            try simp only [i64_w, i32_w]
            have p306 : 0 ≤ (x7_2 : Int) := of_decide_eq_true Hd.a_
            have q306 : x7_2 < (t301.length : Int) := of_decide_eq_true Hd.a_
            obtain ⟨ad306, e306, hx306_0, hx306_1, hx306_2, hx306_3⟩ := at_T60 (Kd.R_reads' HO_6.out).2.2 x7_2 p306 q306
            obtain rfl : ad304 = ad306 := (by injection e306)
            replace p306 := eq_true p306
            replace q306 := eq_true q306
            try go_wp2_with (first | ((with_reducible refine gate_dst (N := 8) rfl ?_); refine Hd.box_ 8 (#[.int .i64 0, .int .i64 0]) 27 ?_; intro gb307 hg w29 hbox hb; replace HO_6 := Aside0.mk (Kd.R_below (Hd.r_ HO_6) hb); have BK307 := Aside0.mk (hbox); have GW307 := Aside0.mk ((Hd.g_ hg Hd.b_ : w.heap.size ≤ gb307)); have GE307 := Aside0.mk ((Hd.g_ hg Hd.b_ : w.heap.size ≤ gb307)); replace HB := Aside0.mk (below_step Hd.b_ hb); have NB298_307 := Aside0.mk ((Hd.lt_ BK298 hg)); have NB307_298 := Aside0.mk ((Hd.gt_ BK298 hg)); replace BK298 := Aside0.mk (Hd.kb_ BK298 hb); clear hb hbox hg; have hnb30 := NB307_298.out; have hnc30 := NB298_307.out; obtain ⟨hcz31_0, hcz31_1⟩ := Hd.c2_ BK307.out; obtain ⟨hfz31_0, hfz31_1⟩ := Hd.f2_ BK307.out; have p308 : 0 ≤ (x7_2 : Int) := of_decide_eq_true Hd.a_; have q308 : x7_2 < (t301.length : Int) := of_decide_eq_true Hd.a_; obtain ⟨ad308, e308, hx308_0, hx308_1, hx308_2, hx308_3⟩ := at_T60 (Kd.R_reads' HO_6.out).2.2 x7_2 p308 q308; obtain rfl : ad304 = ad308 := (by injection e308); have hn308_0 : ad304.block ≠ gb307 := Kd.own_blk (Kd.R_ne HO_6.out BK307.out (by decide)); have hn308_1 : ad304.block ≠ gb307 := Kd.own_blk (Kd.R_ne HO_6.out BK307.out (by decide)); replace hx308_0 := (cell_far (p := ⟨gb307, 0, none⟩) (by first | (rw [add_block]; exact hn308_0) | (show (Addr.add _ _).block ≠ _; rw [add_block]; exact hn308_0) | exact hn308_0) (.int .i64 ((rd_T60 t301 x7_2).f0.f0))).trans hx308_0; replace hx308_1 := (cell_far (p := ⟨gb307, 0, none⟩) (by first | (rw [add_block]; exact hn308_0) | (show (Addr.add _ _).block ≠ _; rw [add_block]; exact hn308_0) | exact hn308_0) (.int .i64 ((rd_T60 t301 x7_2).f0.f0))).trans hx308_1; replace hx308_2 := (cell_far (p := ⟨gb307, 0, none⟩) (by first | (rw [add_block]; exact hn308_0) | (show (Addr.add _ _).block ≠ _; rw [add_block]; exact hn308_0) | exact hn308_0) (.int .i64 ((rd_T60 t301 x7_2).f0.f0))).trans hx308_2; replace hx308_3 := (cell_far (p := ⟨gb307, 0, none⟩) (by first | (rw [add_block]; exact hn308_0) | (show (Addr.add _ _).block ≠ _; rw [add_block]; exact hn308_0) | exact hn308_0) (.int .i64 ((rd_T60 t301 x7_2).f0.f0))).trans hx308_3; replace hx308_0 := (cell_far (p := ⟨gb307, 1, none⟩) (by first | (rw [add_block]; exact hn308_1) | (show (Addr.add _ _).block ≠ _; rw [add_block]; exact hn308_1) | exact hn308_1) (.int .i64 ((rd_T60 t301 x7_2).f0.f1))).trans hx308_0; replace hx308_1 := (cell_far (p := ⟨gb307, 1, none⟩) (by first | (rw [add_block]; exact hn308_1) | (show (Addr.add _ _).block ≠ _; rw [add_block]; exact hn308_1) | exact hn308_1) (.int .i64 ((rd_T60 t301 x7_2).f0.f1))).trans hx308_1; replace hx308_2 := (cell_far (p := ⟨gb307, 1, none⟩) (by first | (rw [add_block]; exact hn308_1) | (show (Addr.add _ _).block ≠ _; rw [add_block]; exact hn308_1) | exact hn308_1) (.int .i64 ((rd_T60 t301 x7_2).f0.f1))).trans hx308_2; replace hx308_3 := (cell_far (p := ⟨gb307, 1, none⟩) (by first | (rw [add_block]; exact hn308_1) | (show (Addr.add _ _).block ≠ _; rw [add_block]; exact hn308_1) | exact hn308_1) (.int .i64 ((rd_T60 t301 x7_2).f0.f1))).trans hx308_3; clear hn308_0; clear hn308_1; replace p308 := eq_true p308; replace q308 := eq_true q308) | ((with_reducible refine gate_dst (N := 9) rfl ?_); refine Hd.box_ 9 (#[.int .i64 0, .int .i64 0]) 27 ?_; intro gb309 hg w32 hbox hb; replace HO_6 := Aside0.mk (Kd.R_below (by (with_reducible repeat (first | apply Kd.R_alloc | apply Kd.R_drewN | apply Kd.R_drew)); exact (Kd.R_mono (Kd.R_far (p := ⟨gb307, 1, none⟩) (Kd.R_far (p := ⟨gb307, 0, none⟩) (Kd.R_types HO_6.out BK307.out (by decide)) (fun _ hk => hk.2) (.int .i64 ((rd_T60 t301 x7_2).f0.f0))) (fun _ hk => hk.2) (.int .i64 ((rd_T60 t301 x7_2).f0.f1))) (fun _ h_ => h_.1))) hb); have BK309 := Aside0.mk (hbox); have GW309 := Aside0.mk ((Hd.g_ hg Hd.b_ : w.heap.size ≤ gb309)); have GE309 := Aside0.mk ((Hd.g_ hg Hd.b_ : w.heap.size ≤ gb309)); replace HB := Aside0.mk (below_step Hd.b_ hb); have NB298_309 := Aside0.mk ((by rw [hg]; exact Nat.ne_of_lt (blk_lt (g := gb298) (o := .cells #[.int .i64 a1_0, .int .i64 a1_1] 27 (0, 0)) (by (with_reducible repeat (first | refine blk_drewN ?_ _ | refine blk_drew ?_ | refine blk_alloc ?_ _)); refine blk_far ?_ NB298_307.out _; (with_reducible repeat (first | refine blk_drewN ?_ _ | refine blk_drew ?_ | refine blk_alloc ?_ _)); refine blk_far ?_ NB298_307.out _; (with_reducible repeat (first | refine blk_drewN ?_ _ | refine blk_drew ?_ | refine blk_alloc ?_ _)); exact BK298.out)) : gb298 ≠ gb309)); have NB309_298 := Aside0.mk ((by rw [hg]; exact Nat.ne_of_gt (blk_lt (g := gb298) (o := .cells #[.int .i64 a1_0, .int .i64 a1_1] 27 (0, 0)) (by (with_reducible repeat (first | refine blk_drewN ?_ _ | refine blk_drew ?_ | refine blk_alloc ?_ _)); refine blk_far ?_ NB298_307.out _; (with_reducible repeat (first | refine blk_drewN ?_ _ | refine blk_drew ?_ | refine blk_alloc ?_ _)); refine blk_far ?_ NB298_307.out _; (with_reducible repeat (first | refine blk_drewN ?_ _ | refine blk_drew ?_ | refine blk_alloc ?_ _)); exact BK298.out)) : gb309 ≠ gb298)); replace BK298 := Aside0.mk (blk_below (g := gb298) (o := .cells #[.int .i64 a1_0, .int .i64 a1_1] 27 (0, 0)) (by (with_reducible repeat (first | refine blk_drewN ?_ _ | refine blk_drew ?_ | refine blk_alloc ?_ _)); refine blk_far ?_ NB298_307.out _; (with_reducible repeat (first | refine blk_drewN ?_ _ | refine blk_drew ?_ | refine blk_alloc ?_ _)); refine blk_far ?_ NB298_307.out _; (with_reducible repeat (first | refine blk_drewN ?_ _ | refine blk_drew ?_ | refine blk_alloc ?_ _)); exact BK298.out) hb); have NB307_309 := Aside0.mk ((by rw [hg]; exact Nat.ne_of_lt (blk_lt (g := gb307) (o := .cells #[.int .i64 ((rd_T60 t301 x7_2).f0.f0), .int .i64 ((rd_T60 t301 x7_2).f0.f1)] 27 (0, 0)) (by (with_reducible repeat (first | refine blk_drewN ?_ _ | refine blk_drew ?_ | refine blk_alloc ?_ _)); refine blk_put (cs := #[.int .i64 ((rd_T60 t301 x7_2).f0.f0), .int .i64 0]) ?_ 1 _ rfl; (with_reducible repeat (first | refine blk_drewN ?_ _ | refine blk_drew ?_ | refine blk_alloc ?_ _)); refine blk_put (cs := #[.int .i64 0, .int .i64 0]) ?_ 0 _ rfl; (with_reducible repeat (first | refine blk_drewN ?_ _ | refine blk_drew ?_ | refine blk_alloc ?_ _)); exact BK307.out)) : gb307 ≠ gb309)); have NB309_307 := Aside0.mk ((by rw [hg]; exact Nat.ne_of_gt (blk_lt (g := gb307) (o := .cells #[.int .i64 ((rd_T60 t301 x7_2).f0.f0), .int .i64 ((rd_T60 t301 x7_2).f0.f1)] 27 (0, 0)) (by (with_reducible repeat (first | refine blk_drewN ?_ _ | refine blk_drew ?_ | refine blk_alloc ?_ _)); refine blk_put (cs := #[.int .i64 ((rd_T60 t301 x7_2).f0.f0), .int .i64 0]) ?_ 1 _ rfl; (with_reducible repeat (first | refine blk_drewN ?_ _ | refine blk_drew ?_ | refine blk_alloc ?_ _)); refine blk_put (cs := #[.int .i64 0, .int .i64 0]) ?_ 0 _ rfl; (with_reducible repeat (first | refine blk_drewN ?_ _ | refine blk_drew ?_ | refine blk_alloc ?_ _)); exact BK307.out)) : gb309 ≠ gb307)); replace BK307 := Aside0.mk (blk_below (g := gb307) (o := .cells #[.int .i64 ((rd_T60 t301 x7_2).f0.f0), .int .i64 ((rd_T60 t301 x7_2).f0.f1)] 27 (0, 0)) (by (with_reducible repeat (first | refine blk_drewN ?_ _ | refine blk_drew ?_ | refine blk_alloc ?_ _)); refine blk_put (cs := #[.int .i64 ((rd_T60 t301 x7_2).f0.f0), .int .i64 0]) ?_ 1 _ rfl; (with_reducible repeat (first | refine blk_drewN ?_ _ | refine blk_drew ?_ | refine blk_alloc ?_ _)); refine blk_put (cs := #[.int .i64 0, .int .i64 0]) ?_ 0 _ rfl; (with_reducible repeat (first | refine blk_drewN ?_ _ | refine blk_drew ?_ | refine blk_alloc ?_ _)); exact BK307.out) hb); clear hb hbox hg; have hnb33 := NB309_298.out; have hnc33 := NB298_309.out; have hnb34 := NB309_307.out; have hnc34 := NB307_309.out; obtain ⟨hcz35_0, hcz35_1⟩ := Hd.c2_ BK309.out; obtain ⟨hfz35_0, hfz35_1⟩ := Hd.f2_ BK309.out; obtain ⟨hcz36_0, hcz36_1⟩ := Hd.c2_ BK307.out; obtain ⟨hfz36_0, hfz36_1⟩ := Hd.f2_ BK307.out; obtain ⟨hcz37_0, hcz37_1⟩ := Hd.c2_ BK298.out; obtain ⟨hfz37_0, hfz37_1⟩ := Hd.f2_ BK298.out) | ((with_reducible refine gate_callee (f := 99) rfl ?_); refine goesL_ (some 57) rfl rfl Try.func99 (by kernel_rfl) rfl #[.agg #[.int .i64 ((rd_T60 t301 x7_2).f0.f0), .int .i64 ((rd_T60 t301 x7_2).f0.f1)], .agg #[.int .i64 ((rd_T60 t301 x7_2).f1.f0), .int .i64 ((rd_T60 t301 x7_2).f1.f1)], .agg #[.int .i64 a1_0, .int .i64 a1_1]] rfl Hd.m_ ?_; (with_reducible refine (spec_l4Cross.calls ((rd_T60 t301 x7_2).f0.f0) ((rd_T60 t301 x7_2).f0.f1) ((rd_T60 t301 x7_2).f1.f0) ((rd_T60 t301 x7_2).f1.f1) a1_0 a1_1 t310 _ A23.out).mono ?_); rintro e w38 ⟨rfl, hb⟩; refine ⟨_, rfl, ?_⟩; replace HO_6 := Aside0.mk (Kd.R_below (by (with_reducible repeat (first | apply Kd.R_alloc | apply Kd.R_drewN | apply Kd.R_drew)); exact (Kd.R_mono (Kd.R_far (p := ⟨gb309, 1, none⟩) (Kd.R_far (p := ⟨gb309, 0, none⟩) (Kd.R_types HO_6.out BK309.out (by decide)) (fun _ hk => hk.2) (.int .i64 ((rd_T60 t301 x7_2).f1.f0))) (fun _ hk => hk.2) (.int .i64 ((rd_T60 t301 x7_2).f1.f1))) (fun _ h_ => h_.1))) hb); replace BK298 := Aside0.mk (blk_below (g := gb298) (o := .cells #[.int .i64 a1_0, .int .i64 a1_1] 27 (0, 0)) (by (with_reducible repeat (first | refine blk_drewN ?_ _ | refine blk_drew ?_ | refine blk_alloc ?_ _)); refine blk_far ?_ NB298_309.out _; (with_reducible repeat (first | refine blk_drewN ?_ _ | refine blk_drew ?_ | refine blk_alloc ?_ _)); refine blk_far ?_ NB298_309.out _; (with_reducible repeat (first | refine blk_drewN ?_ _ | refine blk_drew ?_ | refine blk_alloc ?_ _)); exact BK298.out) hb); replace BK307 := Aside0.mk (blk_below (g := gb307) (o := .cells #[.int .i64 ((rd_T60 t301 x7_2).f0.f0), .int .i64 ((rd_T60 t301 x7_2).f0.f1)] 27 (0, 0)) (by (with_reducible repeat (first | refine blk_drewN ?_ _ | refine blk_drew ?_ | refine blk_alloc ?_ _)); refine blk_far ?_ NB307_309.out _; (with_reducible repeat (first | refine blk_drewN ?_ _ | refine blk_drew ?_ | refine blk_alloc ?_ _)); refine blk_far ?_ NB307_309.out _; (with_reducible repeat (first | refine blk_drewN ?_ _ | refine blk_drew ?_ | refine blk_alloc ?_ _)); exact BK307.out) hb); replace BK309 := Aside0.mk (blk_below (g := gb309) (o := .cells #[.int .i64 ((rd_T60 t301 x7_2).f1.f0), .int .i64 ((rd_T60 t301 x7_2).f1.f1)] 27 (0, 0)) (by (with_reducible repeat (first | refine blk_drewN ?_ _ | refine blk_drew ?_ | refine blk_alloc ?_ _)); refine blk_put (cs := #[.int .i64 ((rd_T60 t301 x7_2).f1.f0), .int .i64 0]) ?_ 1 _ rfl; (with_reducible repeat (first | refine blk_drewN ?_ _ | refine blk_drew ?_ | refine blk_alloc ?_ _)); refine blk_put (cs := #[.int .i64 0, .int .i64 0]) ?_ 0 _ rfl; (with_reducible repeat (first | refine blk_drewN ?_ _ | refine blk_drew ?_ | refine blk_alloc ?_ _)); exact BK309.out) hb); replace HB := Aside0.mk (below_step Hd.b_ hb); (try clear hb); (try clear hb2); (try clear hk); (try clear hi); obtain ⟨hcz39_0, hcz39_1⟩ := Hd.c2_ BK309.out; obtain ⟨hfz39_0, hfz39_1⟩ := Hd.f2_ BK309.out; obtain ⟨hcz40_0, hcz40_1⟩ := Hd.c2_ BK307.out; obtain ⟨hfz40_0, hfz40_1⟩ := Hd.f2_ BK307.out))
            go_roundg k2
            case measure => have := HJ2.out; have := HK2.out; omega
            case rel => exact ⟨(!x5_2), (wrap64 (x7_2 + 1)), (by first | rfl | (simp; done) | (simp [*]; done)), (by first | rfl | (simp; done) | (simp [*]; done)), H', ⟨by have := HJ2.out; have := HK2.out; omega⟩, ⟨by (with_reducible repeat (first | apply Kd.R_alloc | apply Kd.R_drewN | apply Kd.R_drew)); exact HO_6.out⟩, ⟨by (with_reducible repeat (first | refine blk_drewN ?_ _ | refine blk_drew ?_ | refine blk_alloc ?_ _)); exact BK298.out⟩, ⟨Hd.b_⟩⟩
           ·
            rw [if_neg c25] at H
            have c25b0 : decide (0 < t310) = false := decide_eq_false c25
            clear c25
            by_cases c41 : ((rd_T60 t301 x7_2).f1.f1) < ((rd_T60 t301 x7_2).f0.f1)
            ·
             rw [if_pos c41] at H
             have c41b0 : decide (((rd_T60 t301 x7_2).f1.f1) < ((rd_T60 t301 x7_2).f0.f1)) = true := decide_eq_true c41
             clear c41
             by_cases c42 : t310 < 0
             ·
              rw [if_pos c42] at H
              have c42b0 : decide (t310 < 0) = true := decide_eq_true c42
              clear c42
              have H' := Aside0.mk H
              clear H
              obtain ⟨Ao43, co43, eo43⟩ := Kd.R_slice HO_6.out
              subst eo43
              try go_wp2
              replace HO_6 := Aside0.mk (Kd.R_drew HO_6.out)
              replace BK298 := Aside0.mk (blk_drew BK298.out)
              replace HB := Aside0.mk (below_drew1 HB.out)
              have p304 : 0 ≤ (x7_2 : Int) := of_decide_eq_true Hd.a_
              have q304 : x7_2 < (t301.length : Int) := of_decide_eq_true Hd.a_
              obtain ⟨ad304, e304, hx304_0, hx304_1, hx304_2, hx304_3⟩ := at_T60 (Kd.R_reads' HO_6.out).2.2 x7_2 p304 q304
              cases e304
              replace p304 := eq_true p304
              replace q304 := eq_true q304
              have S_ : (fun w' : World => w'.cell? ⟨gb298, 0, none⟩ = some (.int .i64 a1_0) ∧ w'.cell? ⟨gb298, 1, none⟩ = some (.int .i64 a1_1) ∧ w'.cell? (ad304.add ((x7_2).toNat * 4)) = some (.int .i64 ((rd_T60 t301 x7_2).f0.f0)) ∧ w'.cell? ⟨(ad304.add ((x7_2).toNat * 4)).block, (ad304.add ((x7_2).toNat * 4)).off + 1, none⟩ = some (.int .i64 ((rd_T60 t301 x7_2).f0.f1)) ∧ w'.cell? ⟨(ad304.add ((x7_2).toNat * 4)).block, (ad304.add ((x7_2).toNat * 4)).off + 2, none⟩ = some (.int .i64 ((rd_T60 t301 x7_2).f1.f0)) ∧ w'.cell? ⟨(ad304.add ((x7_2).toNat * 4)).block, (ad304.add ((x7_2).toNat * 4)).off + 3, none⟩ = some (.int .i64 ((rd_T60 t301 x7_2).f1.f1))) wr.drew := ⟨(blk_cell BK298.out 0).trans rfl, (blk_cell BK298.out 1).trans rfl, hx304_0, hx304_1, hx304_2, hx304_3⟩
              obtain ⟨s0_, s1_, s2_, s3_, s4_, s5_⟩ := S_
              replace s0_ := fun q : Hd.HW wr.drew => q.cell s0_
              replace s1_ := fun q : Hd.HW wr.drew => q.cell s1_
              replace s2_ := fun q : Hd.HW wr.drew => q.cell s2_
              replace s3_ := fun q : Hd.HW wr.drew => q.cell s3_
              replace s4_ := fun q : Hd.HW wr.drew => q.cell s4_
              replace s5_ := fun q : Hd.HW wr.drew => q.cell s5_
              refine Hd.HW.region (by kernel_rfl) (by kernel_rfl) ?_
              repeat (go_big_quiet_step ((first | (go_at_call 113; with_reducible exact Hd.HW.c (spec_IsOn.calls ((rd_T60 t301 x7_2).f0.f0) ((rd_T60 t301 x7_2).f0.f1) ((rd_T60 t301 x7_2).f1.f0) ((rd_T60 t301 x7_2).f1.f1) a1_0 a1_1 false _ A17.out)))))
              refine wpQuiet_nil ?_
              intro _ hq_
              obtain ⟨q_, rfl⟩ := hq_
              clear s0_ s1_ s2_ s3_ s4_ s5_
              replace HO_6 := Aside0.mk (Kd.R_below HO_6.out q_.b)
              replace BK298 := Aside0.mk (blk_below BK298.out q_.b)
              replace HB := Aside0.mk (below_step HB.out q_.b)
              replace hx304_0 := q_.cell hx304_0
              replace hx304_1 := q_.cell hx304_1
              replace hx304_2 := q_.cell hx304_2
              replace hx304_3 := q_.cell hx304_3
              generalize q_.W = w45 at HO_6 BK298 HB hx304_0 hx304_1 hx304_2 hx304_3 ⊢
              try simp only [i64_w, i32_w]
              have p306 : 0 ≤ (x7_2 : Int) := of_decide_eq_true Hd.a_
              have q306 : x7_2 < (t301.length : Int) := of_decide_eq_true Hd.a_
              obtain ⟨ad306, e306, hx306_0, hx306_1, hx306_2, hx306_3⟩ := at_T60 (Kd.R_reads' HO_6.out).2.2 x7_2 p306 q306
              obtain rfl : ad304 = ad306 := (by injection e306)
              replace p306 := eq_true p306
              replace q306 := eq_true q306
              try go_wp2_with (first | ((with_reducible refine gate_dst (N := 8) rfl ?_); refine Hd.box_ 8 (#[.int .i64 0, .int .i64 0]) 27 ?_; intro gb307 hg w46 hbox hb; replace HO_6 := Aside0.mk (Kd.R_below (Hd.r_ HO_6) hb); have BK307 := Aside0.mk (hbox); have GW307 := Aside0.mk ((Hd.g_ hg Hd.b_ : w.heap.size ≤ gb307)); have GE307 := Aside0.mk ((Hd.g_ hg Hd.b_ : w.heap.size ≤ gb307)); replace HB := Aside0.mk (below_step Hd.b_ hb); have NB298_307 := Aside0.mk ((Hd.lt_ BK298 hg)); have NB307_298 := Aside0.mk ((Hd.gt_ BK298 hg)); replace BK298 := Aside0.mk (Hd.kb_ BK298 hb); clear hb hbox hg; have hnb47 := NB307_298.out; have hnc47 := NB298_307.out; obtain ⟨hcz48_0, hcz48_1⟩ := Hd.c2_ BK307.out; obtain ⟨hfz48_0, hfz48_1⟩ := Hd.f2_ BK307.out; have p308 : 0 ≤ (x7_2 : Int) := of_decide_eq_true Hd.a_; have q308 : x7_2 < (t301.length : Int) := of_decide_eq_true Hd.a_; obtain ⟨ad308, e308, hx308_0, hx308_1, hx308_2, hx308_3⟩ := at_T60 (Kd.R_reads' HO_6.out).2.2 x7_2 p308 q308; obtain rfl : ad304 = ad308 := (by injection e308); have hn308_0 : ad304.block ≠ gb307 := Kd.own_blk (Kd.R_ne HO_6.out BK307.out (by decide)); have hn308_1 : ad304.block ≠ gb307 := Kd.own_blk (Kd.R_ne HO_6.out BK307.out (by decide)); replace hx308_0 := (cell_far (p := ⟨gb307, 0, none⟩) (by first | (rw [add_block]; exact hn308_0) | (show (Addr.add _ _).block ≠ _; rw [add_block]; exact hn308_0) | exact hn308_0) (.int .i64 ((rd_T60 t301 x7_2).f0.f0))).trans hx308_0; replace hx308_1 := (cell_far (p := ⟨gb307, 0, none⟩) (by first | (rw [add_block]; exact hn308_0) | (show (Addr.add _ _).block ≠ _; rw [add_block]; exact hn308_0) | exact hn308_0) (.int .i64 ((rd_T60 t301 x7_2).f0.f0))).trans hx308_1; replace hx308_2 := (cell_far (p := ⟨gb307, 0, none⟩) (by first | (rw [add_block]; exact hn308_0) | (show (Addr.add _ _).block ≠ _; rw [add_block]; exact hn308_0) | exact hn308_0) (.int .i64 ((rd_T60 t301 x7_2).f0.f0))).trans hx308_2; replace hx308_3 := (cell_far (p := ⟨gb307, 0, none⟩) (by first | (rw [add_block]; exact hn308_0) | (show (Addr.add _ _).block ≠ _; rw [add_block]; exact hn308_0) | exact hn308_0) (.int .i64 ((rd_T60 t301 x7_2).f0.f0))).trans hx308_3; replace hx308_0 := (cell_far (p := ⟨gb307, 1, none⟩) (by first | (rw [add_block]; exact hn308_1) | (show (Addr.add _ _).block ≠ _; rw [add_block]; exact hn308_1) | exact hn308_1) (.int .i64 ((rd_T60 t301 x7_2).f0.f1))).trans hx308_0; replace hx308_1 := (cell_far (p := ⟨gb307, 1, none⟩) (by first | (rw [add_block]; exact hn308_1) | (show (Addr.add _ _).block ≠ _; rw [add_block]; exact hn308_1) | exact hn308_1) (.int .i64 ((rd_T60 t301 x7_2).f0.f1))).trans hx308_1; replace hx308_2 := (cell_far (p := ⟨gb307, 1, none⟩) (by first | (rw [add_block]; exact hn308_1) | (show (Addr.add _ _).block ≠ _; rw [add_block]; exact hn308_1) | exact hn308_1) (.int .i64 ((rd_T60 t301 x7_2).f0.f1))).trans hx308_2; replace hx308_3 := (cell_far (p := ⟨gb307, 1, none⟩) (by first | (rw [add_block]; exact hn308_1) | (show (Addr.add _ _).block ≠ _; rw [add_block]; exact hn308_1) | exact hn308_1) (.int .i64 ((rd_T60 t301 x7_2).f0.f1))).trans hx308_3; clear hn308_0; clear hn308_1; replace p308 := eq_true p308; replace q308 := eq_true q308) | ((with_reducible refine gate_dst (N := 9) rfl ?_); refine Hd.box_ 9 (#[.int .i64 0, .int .i64 0]) 27 ?_; intro gb309 hg w49 hbox hb; replace HO_6 := Aside0.mk (Kd.R_below (by (with_reducible repeat (first | apply Kd.R_alloc | apply Kd.R_drewN | apply Kd.R_drew)); exact (Kd.R_mono (Kd.R_far (p := ⟨gb307, 1, none⟩) (Kd.R_far (p := ⟨gb307, 0, none⟩) (Kd.R_types HO_6.out BK307.out (by decide)) (fun _ hk => hk.2) (.int .i64 ((rd_T60 t301 x7_2).f0.f0))) (fun _ hk => hk.2) (.int .i64 ((rd_T60 t301 x7_2).f0.f1))) (fun _ h_ => h_.1))) hb); have BK309 := Aside0.mk (hbox); have GW309 := Aside0.mk ((Hd.g_ hg Hd.b_ : w.heap.size ≤ gb309)); have GE309 := Aside0.mk ((Hd.g_ hg Hd.b_ : w.heap.size ≤ gb309)); replace HB := Aside0.mk (below_step Hd.b_ hb); have NB298_309 := Aside0.mk ((by rw [hg]; exact Nat.ne_of_lt (blk_lt (g := gb298) (o := .cells #[.int .i64 a1_0, .int .i64 a1_1] 27 (0, 0)) (by (with_reducible repeat (first | refine blk_drewN ?_ _ | refine blk_drew ?_ | refine blk_alloc ?_ _)); refine blk_far ?_ NB298_307.out _; (with_reducible repeat (first | refine blk_drewN ?_ _ | refine blk_drew ?_ | refine blk_alloc ?_ _)); refine blk_far ?_ NB298_307.out _; (with_reducible repeat (first | refine blk_drewN ?_ _ | refine blk_drew ?_ | refine blk_alloc ?_ _)); exact BK298.out)) : gb298 ≠ gb309)); have NB309_298 := Aside0.mk ((by rw [hg]; exact Nat.ne_of_gt (blk_lt (g := gb298) (o := .cells #[.int .i64 a1_0, .int .i64 a1_1] 27 (0, 0)) (by (with_reducible repeat (first | refine blk_drewN ?_ _ | refine blk_drew ?_ | refine blk_alloc ?_ _)); refine blk_far ?_ NB298_307.out _; (with_reducible repeat (first | refine blk_drewN ?_ _ | refine blk_drew ?_ | refine blk_alloc ?_ _)); refine blk_far ?_ NB298_307.out _; (with_reducible repeat (first | refine blk_drewN ?_ _ | refine blk_drew ?_ | refine blk_alloc ?_ _)); exact BK298.out)) : gb309 ≠ gb298)); replace BK298 := Aside0.mk (blk_below (g := gb298) (o := .cells #[.int .i64 a1_0, .int .i64 a1_1] 27 (0, 0)) (by (with_reducible repeat (first | refine blk_drewN ?_ _ | refine blk_drew ?_ | refine blk_alloc ?_ _)); refine blk_far ?_ NB298_307.out _; (with_reducible repeat (first | refine blk_drewN ?_ _ | refine blk_drew ?_ | refine blk_alloc ?_ _)); refine blk_far ?_ NB298_307.out _; (with_reducible repeat (first | refine blk_drewN ?_ _ | refine blk_drew ?_ | refine blk_alloc ?_ _)); exact BK298.out) hb); have NB307_309 := Aside0.mk ((by rw [hg]; exact Nat.ne_of_lt (blk_lt (g := gb307) (o := .cells #[.int .i64 ((rd_T60 t301 x7_2).f0.f0), .int .i64 ((rd_T60 t301 x7_2).f0.f1)] 27 (0, 0)) (by (with_reducible repeat (first | refine blk_drewN ?_ _ | refine blk_drew ?_ | refine blk_alloc ?_ _)); refine blk_put (cs := #[.int .i64 ((rd_T60 t301 x7_2).f0.f0), .int .i64 0]) ?_ 1 _ rfl; (with_reducible repeat (first | refine blk_drewN ?_ _ | refine blk_drew ?_ | refine blk_alloc ?_ _)); refine blk_put (cs := #[.int .i64 0, .int .i64 0]) ?_ 0 _ rfl; (with_reducible repeat (first | refine blk_drewN ?_ _ | refine blk_drew ?_ | refine blk_alloc ?_ _)); exact BK307.out)) : gb307 ≠ gb309)); have NB309_307 := Aside0.mk ((by rw [hg]; exact Nat.ne_of_gt (blk_lt (g := gb307) (o := .cells #[.int .i64 ((rd_T60 t301 x7_2).f0.f0), .int .i64 ((rd_T60 t301 x7_2).f0.f1)] 27 (0, 0)) (by (with_reducible repeat (first | refine blk_drewN ?_ _ | refine blk_drew ?_ | refine blk_alloc ?_ _)); refine blk_put (cs := #[.int .i64 ((rd_T60 t301 x7_2).f0.f0), .int .i64 0]) ?_ 1 _ rfl; (with_reducible repeat (first | refine blk_drewN ?_ _ | refine blk_drew ?_ | refine blk_alloc ?_ _)); refine blk_put (cs := #[.int .i64 0, .int .i64 0]) ?_ 0 _ rfl; (with_reducible repeat (first | refine blk_drewN ?_ _ | refine blk_drew ?_ | refine blk_alloc ?_ _)); exact BK307.out)) : gb309 ≠ gb307)); replace BK307 := Aside0.mk (blk_below (g := gb307) (o := .cells #[.int .i64 ((rd_T60 t301 x7_2).f0.f0), .int .i64 ((rd_T60 t301 x7_2).f0.f1)] 27 (0, 0)) (by (with_reducible repeat (first | refine blk_drewN ?_ _ | refine blk_drew ?_ | refine blk_alloc ?_ _)); refine blk_put (cs := #[.int .i64 ((rd_T60 t301 x7_2).f0.f0), .int .i64 0]) ?_ 1 _ rfl; (with_reducible repeat (first | refine blk_drewN ?_ _ | refine blk_drew ?_ | refine blk_alloc ?_ _)); refine blk_put (cs := #[.int .i64 0, .int .i64 0]) ?_ 0 _ rfl; (with_reducible repeat (first | refine blk_drewN ?_ _ | refine blk_drew ?_ | refine blk_alloc ?_ _)); exact BK307.out) hb); clear hb hbox hg; have hnb50 := NB309_298.out; have hnc50 := NB298_309.out; have hnb51 := NB309_307.out; have hnc51 := NB307_309.out; obtain ⟨hcz52_0, hcz52_1⟩ := Hd.c2_ BK309.out; obtain ⟨hfz52_0, hfz52_1⟩ := Hd.f2_ BK309.out; obtain ⟨hcz53_0, hcz53_1⟩ := Hd.c2_ BK307.out; obtain ⟨hfz53_0, hfz53_1⟩ := Hd.f2_ BK307.out; obtain ⟨hcz54_0, hcz54_1⟩ := Hd.c2_ BK298.out; obtain ⟨hfz54_0, hfz54_1⟩ := Hd.f2_ BK298.out) | ((with_reducible refine gate_callee (f := 99) rfl ?_); refine goesL_ (some 57) rfl rfl Try.func99 (by kernel_rfl) rfl #[.agg #[.int .i64 ((rd_T60 t301 x7_2).f0.f0), .int .i64 ((rd_T60 t301 x7_2).f0.f1)], .agg #[.int .i64 ((rd_T60 t301 x7_2).f1.f0), .int .i64 ((rd_T60 t301 x7_2).f1.f1)], .agg #[.int .i64 a1_0, .int .i64 a1_1]] rfl Hd.m_ ?_; (with_reducible refine (spec_l4Cross.calls ((rd_T60 t301 x7_2).f0.f0) ((rd_T60 t301 x7_2).f0.f1) ((rd_T60 t301 x7_2).f1.f0) ((rd_T60 t301 x7_2).f1.f1) a1_0 a1_1 t310 _ A23.out).mono ?_); rintro e w55 ⟨rfl, hb⟩; refine ⟨_, rfl, ?_⟩; replace HO_6 := Aside0.mk (Kd.R_below (by (with_reducible repeat (first | apply Kd.R_alloc | apply Kd.R_drewN | apply Kd.R_drew)); exact (Kd.R_mono (Kd.R_far (p := ⟨gb309, 1, none⟩) (Kd.R_far (p := ⟨gb309, 0, none⟩) (Kd.R_types HO_6.out BK309.out (by decide)) (fun _ hk => hk.2) (.int .i64 ((rd_T60 t301 x7_2).f1.f0))) (fun _ hk => hk.2) (.int .i64 ((rd_T60 t301 x7_2).f1.f1))) (fun _ h_ => h_.1))) hb); replace BK298 := Aside0.mk (blk_below (g := gb298) (o := .cells #[.int .i64 a1_0, .int .i64 a1_1] 27 (0, 0)) (by (with_reducible repeat (first | refine blk_drewN ?_ _ | refine blk_drew ?_ | refine blk_alloc ?_ _)); refine blk_far ?_ NB298_309.out _; (with_reducible repeat (first | refine blk_drewN ?_ _ | refine blk_drew ?_ | refine blk_alloc ?_ _)); refine blk_far ?_ NB298_309.out _; (with_reducible repeat (first | refine blk_drewN ?_ _ | refine blk_drew ?_ | refine blk_alloc ?_ _)); exact BK298.out) hb); replace BK307 := Aside0.mk (blk_below (g := gb307) (o := .cells #[.int .i64 ((rd_T60 t301 x7_2).f0.f0), .int .i64 ((rd_T60 t301 x7_2).f0.f1)] 27 (0, 0)) (by (with_reducible repeat (first | refine blk_drewN ?_ _ | refine blk_drew ?_ | refine blk_alloc ?_ _)); refine blk_far ?_ NB307_309.out _; (with_reducible repeat (first | refine blk_drewN ?_ _ | refine blk_drew ?_ | refine blk_alloc ?_ _)); refine blk_far ?_ NB307_309.out _; (with_reducible repeat (first | refine blk_drewN ?_ _ | refine blk_drew ?_ | refine blk_alloc ?_ _)); exact BK307.out) hb); replace BK309 := Aside0.mk (blk_below (g := gb309) (o := .cells #[.int .i64 ((rd_T60 t301 x7_2).f1.f0), .int .i64 ((rd_T60 t301 x7_2).f1.f1)] 27 (0, 0)) (by (with_reducible repeat (first | refine blk_drewN ?_ _ | refine blk_drew ?_ | refine blk_alloc ?_ _)); refine blk_put (cs := #[.int .i64 ((rd_T60 t301 x7_2).f1.f0), .int .i64 0]) ?_ 1 _ rfl; (with_reducible repeat (first | refine blk_drewN ?_ _ | refine blk_drew ?_ | refine blk_alloc ?_ _)); refine blk_put (cs := #[.int .i64 0, .int .i64 0]) ?_ 0 _ rfl; (with_reducible repeat (first | refine blk_drewN ?_ _ | refine blk_drew ?_ | refine blk_alloc ?_ _)); exact BK309.out) hb); replace HB := Aside0.mk (below_step Hd.b_ hb); (try clear hb); (try clear hb2); (try clear hk); (try clear hi); obtain ⟨hcz56_0, hcz56_1⟩ := Hd.c2_ BK309.out; obtain ⟨hfz56_0, hfz56_1⟩ := Hd.f2_ BK309.out; obtain ⟨hcz57_0, hcz57_1⟩ := Hd.c2_ BK307.out; obtain ⟨hfz57_0, hfz57_1⟩ := Hd.f2_ BK307.out))
              go_roundg k2
              case measure => have := HJ2.out; have := HK2.out; omega
              case rel => exact ⟨(!x5_2), (wrap64 (x7_2 + 1)), (by first | rfl | (simp; done) | (simp [*]; done)), (by first | rfl | (simp; done) | (simp [*]; done)), H', ⟨by have := HJ2.out; have := HK2.out; omega⟩, ⟨by (with_reducible repeat (first | apply Kd.R_alloc | apply Kd.R_drewN | apply Kd.R_drew)); exact HO_6.out⟩, ⟨by (with_reducible repeat (first | refine blk_drewN ?_ _ | refine blk_drew ?_ | refine blk_alloc ?_ _)); exact BK298.out⟩, ⟨Hd.b_⟩⟩
             ·
              rw [if_neg c42] at H
              have c42b0 : decide (t310 < 0) = false := decide_eq_false c42
              clear c42
              have H' := Aside0.mk H
              clear H
              obtain ⟨Ao58, co58, eo58⟩ := Kd.R_slice HO_6.out
              subst eo58
              try go_wp2
              replace HO_6 := Aside0.mk (Kd.R_drew HO_6.out)
              replace BK298 := Aside0.mk (blk_drew BK298.out)
              replace HB := Aside0.mk (below_drew1 HB.out)
              have p304 : 0 ≤ (x7_2 : Int) := of_decide_eq_true Hd.a_
              have q304 : x7_2 < (t301.length : Int) := of_decide_eq_true Hd.a_
              obtain ⟨ad304, e304, hx304_0, hx304_1, hx304_2, hx304_3⟩ := at_T60 (Kd.R_reads' HO_6.out).2.2 x7_2 p304 q304
              cases e304
              replace p304 := eq_true p304
              replace q304 := eq_true q304
              have S_ : (fun w' : World => w'.cell? ⟨gb298, 0, none⟩ = some (.int .i64 a1_0) ∧ w'.cell? ⟨gb298, 1, none⟩ = some (.int .i64 a1_1) ∧ w'.cell? (ad304.add ((x7_2).toNat * 4)) = some (.int .i64 ((rd_T60 t301 x7_2).f0.f0)) ∧ w'.cell? ⟨(ad304.add ((x7_2).toNat * 4)).block, (ad304.add ((x7_2).toNat * 4)).off + 1, none⟩ = some (.int .i64 ((rd_T60 t301 x7_2).f0.f1)) ∧ w'.cell? ⟨(ad304.add ((x7_2).toNat * 4)).block, (ad304.add ((x7_2).toNat * 4)).off + 2, none⟩ = some (.int .i64 ((rd_T60 t301 x7_2).f1.f0)) ∧ w'.cell? ⟨(ad304.add ((x7_2).toNat * 4)).block, (ad304.add ((x7_2).toNat * 4)).off + 3, none⟩ = some (.int .i64 ((rd_T60 t301 x7_2).f1.f1))) wr.drew := ⟨(blk_cell BK298.out 0).trans rfl, (blk_cell BK298.out 1).trans rfl, hx304_0, hx304_1, hx304_2, hx304_3⟩
              obtain ⟨s0_, s1_, s2_, s3_, s4_, s5_⟩ := S_
              replace s0_ := fun q : Hd.HW wr.drew => q.cell s0_
              replace s1_ := fun q : Hd.HW wr.drew => q.cell s1_
              replace s2_ := fun q : Hd.HW wr.drew => q.cell s2_
              replace s3_ := fun q : Hd.HW wr.drew => q.cell s3_
              replace s4_ := fun q : Hd.HW wr.drew => q.cell s4_
              replace s5_ := fun q : Hd.HW wr.drew => q.cell s5_
              refine Hd.HW.region (by kernel_rfl) (by kernel_rfl) ?_
              repeat (go_big_quiet_step ((first | (go_at_call 113; with_reducible exact Hd.HW.c (spec_IsOn.calls ((rd_T60 t301 x7_2).f0.f0) ((rd_T60 t301 x7_2).f0.f1) ((rd_T60 t301 x7_2).f1.f0) ((rd_T60 t301 x7_2).f1.f1) a1_0 a1_1 false _ A17.out)))))
              refine wpQuiet_nil ?_
              intro _ hq_
              obtain ⟨q_, rfl⟩ := hq_
              clear s0_ s1_ s2_ s3_ s4_ s5_
              replace HO_6 := Aside0.mk (Kd.R_below HO_6.out q_.b)
              replace BK298 := Aside0.mk (blk_below BK298.out q_.b)
              replace HB := Aside0.mk (below_step HB.out q_.b)
              replace hx304_0 := q_.cell hx304_0
              replace hx304_1 := q_.cell hx304_1
              replace hx304_2 := q_.cell hx304_2
              replace hx304_3 := q_.cell hx304_3
              generalize q_.W = w60 at HO_6 BK298 HB hx304_0 hx304_1 hx304_2 hx304_3 ⊢
              try simp only [i64_w, i32_w]
              have p306 : 0 ≤ (x7_2 : Int) := of_decide_eq_true Hd.a_
              have q306 : x7_2 < (t301.length : Int) := of_decide_eq_true Hd.a_
              obtain ⟨ad306, e306, hx306_0, hx306_1, hx306_2, hx306_3⟩ := at_T60 (Kd.R_reads' HO_6.out).2.2 x7_2 p306 q306
              obtain rfl : ad304 = ad306 := (by injection e306)
              replace p306 := eq_true p306
              replace q306 := eq_true q306
              try go_wp2_with (first | ((with_reducible refine gate_dst (N := 8) rfl ?_); refine Hd.box_ 8 (#[.int .i64 0, .int .i64 0]) 27 ?_; intro gb307 hg w61 hbox hb; replace HO_6 := Aside0.mk (Kd.R_below (Hd.r_ HO_6) hb); have BK307 := Aside0.mk (hbox); have GW307 := Aside0.mk ((Hd.g_ hg Hd.b_ : w.heap.size ≤ gb307)); have GE307 := Aside0.mk ((Hd.g_ hg Hd.b_ : w.heap.size ≤ gb307)); replace HB := Aside0.mk (below_step Hd.b_ hb); have NB298_307 := Aside0.mk ((Hd.lt_ BK298 hg)); have NB307_298 := Aside0.mk ((Hd.gt_ BK298 hg)); replace BK298 := Aside0.mk (Hd.kb_ BK298 hb); clear hb hbox hg; have hnb62 := NB307_298.out; have hnc62 := NB298_307.out; obtain ⟨hcz63_0, hcz63_1⟩ := Hd.c2_ BK307.out; obtain ⟨hfz63_0, hfz63_1⟩ := Hd.f2_ BK307.out; have p308 : 0 ≤ (x7_2 : Int) := of_decide_eq_true Hd.a_; have q308 : x7_2 < (t301.length : Int) := of_decide_eq_true Hd.a_; obtain ⟨ad308, e308, hx308_0, hx308_1, hx308_2, hx308_3⟩ := at_T60 (Kd.R_reads' HO_6.out).2.2 x7_2 p308 q308; obtain rfl : ad304 = ad308 := (by injection e308); have hn308_0 : ad304.block ≠ gb307 := Kd.own_blk (Kd.R_ne HO_6.out BK307.out (by decide)); have hn308_1 : ad304.block ≠ gb307 := Kd.own_blk (Kd.R_ne HO_6.out BK307.out (by decide)); replace hx308_0 := (cell_far (p := ⟨gb307, 0, none⟩) (by first | (rw [add_block]; exact hn308_0) | (show (Addr.add _ _).block ≠ _; rw [add_block]; exact hn308_0) | exact hn308_0) (.int .i64 ((rd_T60 t301 x7_2).f0.f0))).trans hx308_0; replace hx308_1 := (cell_far (p := ⟨gb307, 0, none⟩) (by first | (rw [add_block]; exact hn308_0) | (show (Addr.add _ _).block ≠ _; rw [add_block]; exact hn308_0) | exact hn308_0) (.int .i64 ((rd_T60 t301 x7_2).f0.f0))).trans hx308_1; replace hx308_2 := (cell_far (p := ⟨gb307, 0, none⟩) (by first | (rw [add_block]; exact hn308_0) | (show (Addr.add _ _).block ≠ _; rw [add_block]; exact hn308_0) | exact hn308_0) (.int .i64 ((rd_T60 t301 x7_2).f0.f0))).trans hx308_2; replace hx308_3 := (cell_far (p := ⟨gb307, 0, none⟩) (by first | (rw [add_block]; exact hn308_0) | (show (Addr.add _ _).block ≠ _; rw [add_block]; exact hn308_0) | exact hn308_0) (.int .i64 ((rd_T60 t301 x7_2).f0.f0))).trans hx308_3; replace hx308_0 := (cell_far (p := ⟨gb307, 1, none⟩) (by first | (rw [add_block]; exact hn308_1) | (show (Addr.add _ _).block ≠ _; rw [add_block]; exact hn308_1) | exact hn308_1) (.int .i64 ((rd_T60 t301 x7_2).f0.f1))).trans hx308_0; replace hx308_1 := (cell_far (p := ⟨gb307, 1, none⟩) (by first | (rw [add_block]; exact hn308_1) | (show (Addr.add _ _).block ≠ _; rw [add_block]; exact hn308_1) | exact hn308_1) (.int .i64 ((rd_T60 t301 x7_2).f0.f1))).trans hx308_1; replace hx308_2 := (cell_far (p := ⟨gb307, 1, none⟩) (by first | (rw [add_block]; exact hn308_1) | (show (Addr.add _ _).block ≠ _; rw [add_block]; exact hn308_1) | exact hn308_1) (.int .i64 ((rd_T60 t301 x7_2).f0.f1))).trans hx308_2; replace hx308_3 := (cell_far (p := ⟨gb307, 1, none⟩) (by first | (rw [add_block]; exact hn308_1) | (show (Addr.add _ _).block ≠ _; rw [add_block]; exact hn308_1) | exact hn308_1) (.int .i64 ((rd_T60 t301 x7_2).f0.f1))).trans hx308_3; clear hn308_0; clear hn308_1; replace p308 := eq_true p308; replace q308 := eq_true q308) | ((with_reducible refine gate_dst (N := 9) rfl ?_); refine Hd.box_ 9 (#[.int .i64 0, .int .i64 0]) 27 ?_; intro gb309 hg w64 hbox hb; replace HO_6 := Aside0.mk (Kd.R_below (by (with_reducible repeat (first | apply Kd.R_alloc | apply Kd.R_drewN | apply Kd.R_drew)); exact (Kd.R_mono (Kd.R_far (p := ⟨gb307, 1, none⟩) (Kd.R_far (p := ⟨gb307, 0, none⟩) (Kd.R_types HO_6.out BK307.out (by decide)) (fun _ hk => hk.2) (.int .i64 ((rd_T60 t301 x7_2).f0.f0))) (fun _ hk => hk.2) (.int .i64 ((rd_T60 t301 x7_2).f0.f1))) (fun _ h_ => h_.1))) hb); have BK309 := Aside0.mk (hbox); have GW309 := Aside0.mk ((Hd.g_ hg Hd.b_ : w.heap.size ≤ gb309)); have GE309 := Aside0.mk ((Hd.g_ hg Hd.b_ : w.heap.size ≤ gb309)); replace HB := Aside0.mk (below_step Hd.b_ hb); have NB298_309 := Aside0.mk ((by rw [hg]; exact Nat.ne_of_lt (blk_lt (g := gb298) (o := .cells #[.int .i64 a1_0, .int .i64 a1_1] 27 (0, 0)) (by (with_reducible repeat (first | refine blk_drewN ?_ _ | refine blk_drew ?_ | refine blk_alloc ?_ _)); refine blk_far ?_ NB298_307.out _; (with_reducible repeat (first | refine blk_drewN ?_ _ | refine blk_drew ?_ | refine blk_alloc ?_ _)); refine blk_far ?_ NB298_307.out _; (with_reducible repeat (first | refine blk_drewN ?_ _ | refine blk_drew ?_ | refine blk_alloc ?_ _)); exact BK298.out)) : gb298 ≠ gb309)); have NB309_298 := Aside0.mk ((by rw [hg]; exact Nat.ne_of_gt (blk_lt (g := gb298) (o := .cells #[.int .i64 a1_0, .int .i64 a1_1] 27 (0, 0)) (by (with_reducible repeat (first | refine blk_drewN ?_ _ | refine blk_drew ?_ | refine blk_alloc ?_ _)); refine blk_far ?_ NB298_307.out _; (with_reducible repeat (first | refine blk_drewN ?_ _ | refine blk_drew ?_ | refine blk_alloc ?_ _)); refine blk_far ?_ NB298_307.out _; (with_reducible repeat (first | refine blk_drewN ?_ _ | refine blk_drew ?_ | refine blk_alloc ?_ _)); exact BK298.out)) : gb309 ≠ gb298)); replace BK298 := Aside0.mk (blk_below (g := gb298) (o := .cells #[.int .i64 a1_0, .int .i64 a1_1] 27 (0, 0)) (by (with_reducible repeat (first | refine blk_drewN ?_ _ | refine blk_drew ?_ | refine blk_alloc ?_ _)); refine blk_far ?_ NB298_307.out _; (with_reducible repeat (first | refine blk_drewN ?_ _ | refine blk_drew ?_ | refine blk_alloc ?_ _)); refine blk_far ?_ NB298_307.out _; (with_reducible repeat (first | refine blk_drewN ?_ _ | refine blk_drew ?_ | refine blk_alloc ?_ _)); exact BK298.out) hb); have NB307_309 := Aside0.mk ((by rw [hg]; exact Nat.ne_of_lt (blk_lt (g := gb307) (o := .cells #[.int .i64 ((rd_T60 t301 x7_2).f0.f0), .int .i64 ((rd_T60 t301 x7_2).f0.f1)] 27 (0, 0)) (by (with_reducible repeat (first | refine blk_drewN ?_ _ | refine blk_drew ?_ | refine blk_alloc ?_ _)); refine blk_put (cs := #[.int .i64 ((rd_T60 t301 x7_2).f0.f0), .int .i64 0]) ?_ 1 _ rfl; (with_reducible repeat (first | refine blk_drewN ?_ _ | refine blk_drew ?_ | refine blk_alloc ?_ _)); refine blk_put (cs := #[.int .i64 0, .int .i64 0]) ?_ 0 _ rfl; (with_reducible repeat (first | refine blk_drewN ?_ _ | refine blk_drew ?_ | refine blk_alloc ?_ _)); exact BK307.out)) : gb307 ≠ gb309)); have NB309_307 := Aside0.mk ((by rw [hg]; exact Nat.ne_of_gt (blk_lt (g := gb307) (o := .cells #[.int .i64 ((rd_T60 t301 x7_2).f0.f0), .int .i64 ((rd_T60 t301 x7_2).f0.f1)] 27 (0, 0)) (by (with_reducible repeat (first | refine blk_drewN ?_ _ | refine blk_drew ?_ | refine blk_alloc ?_ _)); refine blk_put (cs := #[.int .i64 ((rd_T60 t301 x7_2).f0.f0), .int .i64 0]) ?_ 1 _ rfl; (with_reducible repeat (first | refine blk_drewN ?_ _ | refine blk_drew ?_ | refine blk_alloc ?_ _)); refine blk_put (cs := #[.int .i64 0, .int .i64 0]) ?_ 0 _ rfl; (with_reducible repeat (first | refine blk_drewN ?_ _ | refine blk_drew ?_ | refine blk_alloc ?_ _)); exact BK307.out)) : gb309 ≠ gb307)); replace BK307 := Aside0.mk (blk_below (g := gb307) (o := .cells #[.int .i64 ((rd_T60 t301 x7_2).f0.f0), .int .i64 ((rd_T60 t301 x7_2).f0.f1)] 27 (0, 0)) (by (with_reducible repeat (first | refine blk_drewN ?_ _ | refine blk_drew ?_ | refine blk_alloc ?_ _)); refine blk_put (cs := #[.int .i64 ((rd_T60 t301 x7_2).f0.f0), .int .i64 0]) ?_ 1 _ rfl; (with_reducible repeat (first | refine blk_drewN ?_ _ | refine blk_drew ?_ | refine blk_alloc ?_ _)); refine blk_put (cs := #[.int .i64 0, .int .i64 0]) ?_ 0 _ rfl; (with_reducible repeat (first | refine blk_drewN ?_ _ | refine blk_drew ?_ | refine blk_alloc ?_ _)); exact BK307.out) hb); clear hb hbox hg; have hnb65 := NB309_298.out; have hnc65 := NB298_309.out; have hnb66 := NB309_307.out; have hnc66 := NB307_309.out; obtain ⟨hcz67_0, hcz67_1⟩ := Hd.c2_ BK309.out; obtain ⟨hfz67_0, hfz67_1⟩ := Hd.f2_ BK309.out; obtain ⟨hcz68_0, hcz68_1⟩ := Hd.c2_ BK307.out; obtain ⟨hfz68_0, hfz68_1⟩ := Hd.f2_ BK307.out; obtain ⟨hcz69_0, hcz69_1⟩ := Hd.c2_ BK298.out; obtain ⟨hfz69_0, hfz69_1⟩ := Hd.f2_ BK298.out) | ((with_reducible refine gate_callee (f := 99) rfl ?_); refine goesL_ (some 57) rfl rfl Try.func99 (by kernel_rfl) rfl #[.agg #[.int .i64 ((rd_T60 t301 x7_2).f0.f0), .int .i64 ((rd_T60 t301 x7_2).f0.f1)], .agg #[.int .i64 ((rd_T60 t301 x7_2).f1.f0), .int .i64 ((rd_T60 t301 x7_2).f1.f1)], .agg #[.int .i64 a1_0, .int .i64 a1_1]] rfl Hd.m_ ?_; (with_reducible refine (spec_l4Cross.calls ((rd_T60 t301 x7_2).f0.f0) ((rd_T60 t301 x7_2).f0.f1) ((rd_T60 t301 x7_2).f1.f0) ((rd_T60 t301 x7_2).f1.f1) a1_0 a1_1 t310 _ A23.out).mono ?_); rintro e w70 ⟨rfl, hb⟩; refine ⟨_, rfl, ?_⟩; replace HO_6 := Aside0.mk (Kd.R_below (by (with_reducible repeat (first | apply Kd.R_alloc | apply Kd.R_drewN | apply Kd.R_drew)); exact (Kd.R_mono (Kd.R_far (p := ⟨gb309, 1, none⟩) (Kd.R_far (p := ⟨gb309, 0, none⟩) (Kd.R_types HO_6.out BK309.out (by decide)) (fun _ hk => hk.2) (.int .i64 ((rd_T60 t301 x7_2).f1.f0))) (fun _ hk => hk.2) (.int .i64 ((rd_T60 t301 x7_2).f1.f1))) (fun _ h_ => h_.1))) hb); replace BK298 := Aside0.mk (blk_below (g := gb298) (o := .cells #[.int .i64 a1_0, .int .i64 a1_1] 27 (0, 0)) (by (with_reducible repeat (first | refine blk_drewN ?_ _ | refine blk_drew ?_ | refine blk_alloc ?_ _)); refine blk_far ?_ NB298_309.out _; (with_reducible repeat (first | refine blk_drewN ?_ _ | refine blk_drew ?_ | refine blk_alloc ?_ _)); refine blk_far ?_ NB298_309.out _; (with_reducible repeat (first | refine blk_drewN ?_ _ | refine blk_drew ?_ | refine blk_alloc ?_ _)); exact BK298.out) hb); replace BK307 := Aside0.mk (blk_below (g := gb307) (o := .cells #[.int .i64 ((rd_T60 t301 x7_2).f0.f0), .int .i64 ((rd_T60 t301 x7_2).f0.f1)] 27 (0, 0)) (by (with_reducible repeat (first | refine blk_drewN ?_ _ | refine blk_drew ?_ | refine blk_alloc ?_ _)); refine blk_far ?_ NB307_309.out _; (with_reducible repeat (first | refine blk_drewN ?_ _ | refine blk_drew ?_ | refine blk_alloc ?_ _)); refine blk_far ?_ NB307_309.out _; (with_reducible repeat (first | refine blk_drewN ?_ _ | refine blk_drew ?_ | refine blk_alloc ?_ _)); exact BK307.out) hb); replace BK309 := Aside0.mk (blk_below (g := gb309) (o := .cells #[.int .i64 ((rd_T60 t301 x7_2).f1.f0), .int .i64 ((rd_T60 t301 x7_2).f1.f1)] 27 (0, 0)) (by (with_reducible repeat (first | refine blk_drewN ?_ _ | refine blk_drew ?_ | refine blk_alloc ?_ _)); refine blk_put (cs := #[.int .i64 ((rd_T60 t301 x7_2).f1.f0), .int .i64 0]) ?_ 1 _ rfl; (with_reducible repeat (first | refine blk_drewN ?_ _ | refine blk_drew ?_ | refine blk_alloc ?_ _)); refine blk_put (cs := #[.int .i64 0, .int .i64 0]) ?_ 0 _ rfl; (with_reducible repeat (first | refine blk_drewN ?_ _ | refine blk_drew ?_ | refine blk_alloc ?_ _)); exact BK309.out) hb); replace HB := Aside0.mk (below_step Hd.b_ hb); (try clear hb); (try clear hb2); (try clear hk); (try clear hi); obtain ⟨hcz71_0, hcz71_1⟩ := Hd.c2_ BK309.out; obtain ⟨hfz71_0, hfz71_1⟩ := Hd.f2_ BK309.out; obtain ⟨hcz72_0, hcz72_1⟩ := Hd.c2_ BK307.out; obtain ⟨hfz72_0, hfz72_1⟩ := Hd.f2_ BK307.out))
              go_roundg k2
              case measure => have := HJ2.out; have := HK2.out; omega
              case rel => exact ⟨(x5_2), (wrap64 (x7_2 + 1)), (by first | rfl | (simp; done) | (simp [*]; done)), (by first | rfl | (simp; done) | (simp [*]; done)), H', ⟨by have := HJ2.out; have := HK2.out; omega⟩, ⟨by (with_reducible repeat (first | apply Kd.R_alloc | apply Kd.R_drewN | apply Kd.R_drew)); exact HO_6.out⟩, ⟨by (with_reducible repeat (first | refine blk_drewN ?_ _ | refine blk_drew ?_ | refine blk_alloc ?_ _)); exact BK298.out⟩, ⟨Hd.b_⟩⟩
            ·
             rw [if_neg c41] at H
             have c41b0 : decide (((rd_T60 t301 x7_2).f1.f1) < ((rd_T60 t301 x7_2).f0.f1)) = false := decide_eq_false c41
             clear c41
             have H' := Aside0.mk H
             clear H
             obtain ⟨Ao73, co73, eo73⟩ := Kd.R_slice HO_6.out
             subst eo73
             try go_wp2
             replace HO_6 := Aside0.mk (Kd.R_drew HO_6.out)
             replace BK298 := Aside0.mk (blk_drew BK298.out)
             replace HB := Aside0.mk (below_drew1 HB.out)
             have p304 : 0 ≤ (x7_2 : Int) := of_decide_eq_true Hd.a_
             have q304 : x7_2 < (t301.length : Int) := of_decide_eq_true Hd.a_
             obtain ⟨ad304, e304, hx304_0, hx304_1, hx304_2, hx304_3⟩ := at_T60 (Kd.R_reads' HO_6.out).2.2 x7_2 p304 q304
             cases e304
             replace p304 := eq_true p304
             replace q304 := eq_true q304
             have S_ : (fun w' : World => w'.cell? ⟨gb298, 0, none⟩ = some (.int .i64 a1_0) ∧ w'.cell? ⟨gb298, 1, none⟩ = some (.int .i64 a1_1) ∧ w'.cell? (ad304.add ((x7_2).toNat * 4)) = some (.int .i64 ((rd_T60 t301 x7_2).f0.f0)) ∧ w'.cell? ⟨(ad304.add ((x7_2).toNat * 4)).block, (ad304.add ((x7_2).toNat * 4)).off + 1, none⟩ = some (.int .i64 ((rd_T60 t301 x7_2).f0.f1)) ∧ w'.cell? ⟨(ad304.add ((x7_2).toNat * 4)).block, (ad304.add ((x7_2).toNat * 4)).off + 2, none⟩ = some (.int .i64 ((rd_T60 t301 x7_2).f1.f0)) ∧ w'.cell? ⟨(ad304.add ((x7_2).toNat * 4)).block, (ad304.add ((x7_2).toNat * 4)).off + 3, none⟩ = some (.int .i64 ((rd_T60 t301 x7_2).f1.f1))) wr.drew := ⟨(blk_cell BK298.out 0).trans rfl, (blk_cell BK298.out 1).trans rfl, hx304_0, hx304_1, hx304_2, hx304_3⟩
             obtain ⟨s0_, s1_, s2_, s3_, s4_, s5_⟩ := S_
             replace s0_ := fun q : Hd.HW wr.drew => q.cell s0_
             replace s1_ := fun q : Hd.HW wr.drew => q.cell s1_
             replace s2_ := fun q : Hd.HW wr.drew => q.cell s2_
             replace s3_ := fun q : Hd.HW wr.drew => q.cell s3_
             replace s4_ := fun q : Hd.HW wr.drew => q.cell s4_
             replace s5_ := fun q : Hd.HW wr.drew => q.cell s5_
             refine Hd.HW.region (by kernel_rfl) (by kernel_rfl) ?_
             repeat (go_big_quiet_step ((first | (go_at_call 113; with_reducible exact Hd.HW.c (spec_IsOn.calls ((rd_T60 t301 x7_2).f0.f0) ((rd_T60 t301 x7_2).f0.f1) ((rd_T60 t301 x7_2).f1.f0) ((rd_T60 t301 x7_2).f1.f1) a1_0 a1_1 false _ A17.out)))))
             refine wpQuiet_nil ?_
             intro _ hq_
             obtain ⟨q_, rfl⟩ := hq_
             clear s0_ s1_ s2_ s3_ s4_ s5_
             replace HO_6 := Aside0.mk (Kd.R_below HO_6.out q_.b)
             replace BK298 := Aside0.mk (blk_below BK298.out q_.b)
             replace HB := Aside0.mk (below_step HB.out q_.b)
             replace hx304_0 := q_.cell hx304_0
             replace hx304_1 := q_.cell hx304_1
             replace hx304_2 := q_.cell hx304_2
             replace hx304_3 := q_.cell hx304_3
             generalize q_.W = w75 at HO_6 BK298 HB hx304_0 hx304_1 hx304_2 hx304_3 ⊢
             try simp only [i64_w, i32_w]
             have p306 : 0 ≤ (x7_2 : Int) := of_decide_eq_true Hd.a_
             have q306 : x7_2 < (t301.length : Int) := of_decide_eq_true Hd.a_
             obtain ⟨ad306, e306, hx306_0, hx306_1, hx306_2, hx306_3⟩ := at_T60 (Kd.R_reads' HO_6.out).2.2 x7_2 p306 q306
             obtain rfl : ad304 = ad306 := (by injection e306)
             replace p306 := eq_true p306
             replace q306 := eq_true q306
             try go_wp2_with (first | ((with_reducible refine gate_dst (N := 8) rfl ?_); refine Hd.box_ 8 (#[.int .i64 0, .int .i64 0]) 27 ?_; intro gb307 hg w76 hbox hb; replace HO_6 := Aside0.mk (Kd.R_below (Hd.r_ HO_6) hb); have BK307 := Aside0.mk (hbox); have GW307 := Aside0.mk ((Hd.g_ hg Hd.b_ : w.heap.size ≤ gb307)); have GE307 := Aside0.mk ((Hd.g_ hg Hd.b_ : w.heap.size ≤ gb307)); replace HB := Aside0.mk (below_step Hd.b_ hb); have NB298_307 := Aside0.mk ((Hd.lt_ BK298 hg)); have NB307_298 := Aside0.mk ((Hd.gt_ BK298 hg)); replace BK298 := Aside0.mk (Hd.kb_ BK298 hb); clear hb hbox hg; have hnb77 := NB307_298.out; have hnc77 := NB298_307.out; obtain ⟨hcz78_0, hcz78_1⟩ := Hd.c2_ BK307.out; obtain ⟨hfz78_0, hfz78_1⟩ := Hd.f2_ BK307.out; have p308 : 0 ≤ (x7_2 : Int) := of_decide_eq_true Hd.a_; have q308 : x7_2 < (t301.length : Int) := of_decide_eq_true Hd.a_; obtain ⟨ad308, e308, hx308_0, hx308_1, hx308_2, hx308_3⟩ := at_T60 (Kd.R_reads' HO_6.out).2.2 x7_2 p308 q308; obtain rfl : ad304 = ad308 := (by injection e308); have hn308_0 : ad304.block ≠ gb307 := Kd.own_blk (Kd.R_ne HO_6.out BK307.out (by decide)); have hn308_1 : ad304.block ≠ gb307 := Kd.own_blk (Kd.R_ne HO_6.out BK307.out (by decide)); replace hx308_0 := (cell_far (p := ⟨gb307, 0, none⟩) (by first | (rw [add_block]; exact hn308_0) | (show (Addr.add _ _).block ≠ _; rw [add_block]; exact hn308_0) | exact hn308_0) (.int .i64 ((rd_T60 t301 x7_2).f0.f0))).trans hx308_0; replace hx308_1 := (cell_far (p := ⟨gb307, 0, none⟩) (by first | (rw [add_block]; exact hn308_0) | (show (Addr.add _ _).block ≠ _; rw [add_block]; exact hn308_0) | exact hn308_0) (.int .i64 ((rd_T60 t301 x7_2).f0.f0))).trans hx308_1; replace hx308_2 := (cell_far (p := ⟨gb307, 0, none⟩) (by first | (rw [add_block]; exact hn308_0) | (show (Addr.add _ _).block ≠ _; rw [add_block]; exact hn308_0) | exact hn308_0) (.int .i64 ((rd_T60 t301 x7_2).f0.f0))).trans hx308_2; replace hx308_3 := (cell_far (p := ⟨gb307, 0, none⟩) (by first | (rw [add_block]; exact hn308_0) | (show (Addr.add _ _).block ≠ _; rw [add_block]; exact hn308_0) | exact hn308_0) (.int .i64 ((rd_T60 t301 x7_2).f0.f0))).trans hx308_3; replace hx308_0 := (cell_far (p := ⟨gb307, 1, none⟩) (by first | (rw [add_block]; exact hn308_1) | (show (Addr.add _ _).block ≠ _; rw [add_block]; exact hn308_1) | exact hn308_1) (.int .i64 ((rd_T60 t301 x7_2).f0.f1))).trans hx308_0; replace hx308_1 := (cell_far (p := ⟨gb307, 1, none⟩) (by first | (rw [add_block]; exact hn308_1) | (show (Addr.add _ _).block ≠ _; rw [add_block]; exact hn308_1) | exact hn308_1) (.int .i64 ((rd_T60 t301 x7_2).f0.f1))).trans hx308_1; replace hx308_2 := (cell_far (p := ⟨gb307, 1, none⟩) (by first | (rw [add_block]; exact hn308_1) | (show (Addr.add _ _).block ≠ _; rw [add_block]; exact hn308_1) | exact hn308_1) (.int .i64 ((rd_T60 t301 x7_2).f0.f1))).trans hx308_2; replace hx308_3 := (cell_far (p := ⟨gb307, 1, none⟩) (by first | (rw [add_block]; exact hn308_1) | (show (Addr.add _ _).block ≠ _; rw [add_block]; exact hn308_1) | exact hn308_1) (.int .i64 ((rd_T60 t301 x7_2).f0.f1))).trans hx308_3; clear hn308_0; clear hn308_1; replace p308 := eq_true p308; replace q308 := eq_true q308) | ((with_reducible refine gate_dst (N := 9) rfl ?_); refine Hd.box_ 9 (#[.int .i64 0, .int .i64 0]) 27 ?_; intro gb309 hg w79 hbox hb; replace HO_6 := Aside0.mk (Kd.R_below (by (with_reducible repeat (first | apply Kd.R_alloc | apply Kd.R_drewN | apply Kd.R_drew)); exact (Kd.R_mono (Kd.R_far (p := ⟨gb307, 1, none⟩) (Kd.R_far (p := ⟨gb307, 0, none⟩) (Kd.R_types HO_6.out BK307.out (by decide)) (fun _ hk => hk.2) (.int .i64 ((rd_T60 t301 x7_2).f0.f0))) (fun _ hk => hk.2) (.int .i64 ((rd_T60 t301 x7_2).f0.f1))) (fun _ h_ => h_.1))) hb); have BK309 := Aside0.mk (hbox); have GW309 := Aside0.mk ((Hd.g_ hg Hd.b_ : w.heap.size ≤ gb309)); have GE309 := Aside0.mk ((Hd.g_ hg Hd.b_ : w.heap.size ≤ gb309)); replace HB := Aside0.mk (below_step Hd.b_ hb); have NB298_309 := Aside0.mk ((by rw [hg]; exact Nat.ne_of_lt (blk_lt (g := gb298) (o := .cells #[.int .i64 a1_0, .int .i64 a1_1] 27 (0, 0)) (by (with_reducible repeat (first | refine blk_drewN ?_ _ | refine blk_drew ?_ | refine blk_alloc ?_ _)); refine blk_far ?_ NB298_307.out _; (with_reducible repeat (first | refine blk_drewN ?_ _ | refine blk_drew ?_ | refine blk_alloc ?_ _)); refine blk_far ?_ NB298_307.out _; (with_reducible repeat (first | refine blk_drewN ?_ _ | refine blk_drew ?_ | refine blk_alloc ?_ _)); exact BK298.out)) : gb298 ≠ gb309)); have NB309_298 := Aside0.mk ((by rw [hg]; exact Nat.ne_of_gt (blk_lt (g := gb298) (o := .cells #[.int .i64 a1_0, .int .i64 a1_1] 27 (0, 0)) (by (with_reducible repeat (first | refine blk_drewN ?_ _ | refine blk_drew ?_ | refine blk_alloc ?_ _)); refine blk_far ?_ NB298_307.out _; (with_reducible repeat (first | refine blk_drewN ?_ _ | refine blk_drew ?_ | refine blk_alloc ?_ _)); refine blk_far ?_ NB298_307.out _; (with_reducible repeat (first | refine blk_drewN ?_ _ | refine blk_drew ?_ | refine blk_alloc ?_ _)); exact BK298.out)) : gb309 ≠ gb298)); replace BK298 := Aside0.mk (blk_below (g := gb298) (o := .cells #[.int .i64 a1_0, .int .i64 a1_1] 27 (0, 0)) (by (with_reducible repeat (first | refine blk_drewN ?_ _ | refine blk_drew ?_ | refine blk_alloc ?_ _)); refine blk_far ?_ NB298_307.out _; (with_reducible repeat (first | refine blk_drewN ?_ _ | refine blk_drew ?_ | refine blk_alloc ?_ _)); refine blk_far ?_ NB298_307.out _; (with_reducible repeat (first | refine blk_drewN ?_ _ | refine blk_drew ?_ | refine blk_alloc ?_ _)); exact BK298.out) hb); have NB307_309 := Aside0.mk ((by rw [hg]; exact Nat.ne_of_lt (blk_lt (g := gb307) (o := .cells #[.int .i64 ((rd_T60 t301 x7_2).f0.f0), .int .i64 ((rd_T60 t301 x7_2).f0.f1)] 27 (0, 0)) (by (with_reducible repeat (first | refine blk_drewN ?_ _ | refine blk_drew ?_ | refine blk_alloc ?_ _)); refine blk_put (cs := #[.int .i64 ((rd_T60 t301 x7_2).f0.f0), .int .i64 0]) ?_ 1 _ rfl; (with_reducible repeat (first | refine blk_drewN ?_ _ | refine blk_drew ?_ | refine blk_alloc ?_ _)); refine blk_put (cs := #[.int .i64 0, .int .i64 0]) ?_ 0 _ rfl; (with_reducible repeat (first | refine blk_drewN ?_ _ | refine blk_drew ?_ | refine blk_alloc ?_ _)); exact BK307.out)) : gb307 ≠ gb309)); have NB309_307 := Aside0.mk ((by rw [hg]; exact Nat.ne_of_gt (blk_lt (g := gb307) (o := .cells #[.int .i64 ((rd_T60 t301 x7_2).f0.f0), .int .i64 ((rd_T60 t301 x7_2).f0.f1)] 27 (0, 0)) (by (with_reducible repeat (first | refine blk_drewN ?_ _ | refine blk_drew ?_ | refine blk_alloc ?_ _)); refine blk_put (cs := #[.int .i64 ((rd_T60 t301 x7_2).f0.f0), .int .i64 0]) ?_ 1 _ rfl; (with_reducible repeat (first | refine blk_drewN ?_ _ | refine blk_drew ?_ | refine blk_alloc ?_ _)); refine blk_put (cs := #[.int .i64 0, .int .i64 0]) ?_ 0 _ rfl; (with_reducible repeat (first | refine blk_drewN ?_ _ | refine blk_drew ?_ | refine blk_alloc ?_ _)); exact BK307.out)) : gb309 ≠ gb307)); replace BK307 := Aside0.mk (blk_below (g := gb307) (o := .cells #[.int .i64 ((rd_T60 t301 x7_2).f0.f0), .int .i64 ((rd_T60 t301 x7_2).f0.f1)] 27 (0, 0)) (by (with_reducible repeat (first | refine blk_drewN ?_ _ | refine blk_drew ?_ | refine blk_alloc ?_ _)); refine blk_put (cs := #[.int .i64 ((rd_T60 t301 x7_2).f0.f0), .int .i64 0]) ?_ 1 _ rfl; (with_reducible repeat (first | refine blk_drewN ?_ _ | refine blk_drew ?_ | refine blk_alloc ?_ _)); refine blk_put (cs := #[.int .i64 0, .int .i64 0]) ?_ 0 _ rfl; (with_reducible repeat (first | refine blk_drewN ?_ _ | refine blk_drew ?_ | refine blk_alloc ?_ _)); exact BK307.out) hb); clear hb hbox hg; have hnb80 := NB309_298.out; have hnc80 := NB298_309.out; have hnb81 := NB309_307.out; have hnc81 := NB307_309.out; obtain ⟨hcz82_0, hcz82_1⟩ := Hd.c2_ BK309.out; obtain ⟨hfz82_0, hfz82_1⟩ := Hd.f2_ BK309.out; obtain ⟨hcz83_0, hcz83_1⟩ := Hd.c2_ BK307.out; obtain ⟨hfz83_0, hfz83_1⟩ := Hd.f2_ BK307.out; obtain ⟨hcz84_0, hcz84_1⟩ := Hd.c2_ BK298.out; obtain ⟨hfz84_0, hfz84_1⟩ := Hd.f2_ BK298.out) | ((with_reducible refine gate_callee (f := 99) rfl ?_); refine goesL_ (some 57) rfl rfl Try.func99 (by kernel_rfl) rfl #[.agg #[.int .i64 ((rd_T60 t301 x7_2).f0.f0), .int .i64 ((rd_T60 t301 x7_2).f0.f1)], .agg #[.int .i64 ((rd_T60 t301 x7_2).f1.f0), .int .i64 ((rd_T60 t301 x7_2).f1.f1)], .agg #[.int .i64 a1_0, .int .i64 a1_1]] rfl Hd.m_ ?_; (with_reducible refine (spec_l4Cross.calls ((rd_T60 t301 x7_2).f0.f0) ((rd_T60 t301 x7_2).f0.f1) ((rd_T60 t301 x7_2).f1.f0) ((rd_T60 t301 x7_2).f1.f1) a1_0 a1_1 t310 _ A23.out).mono ?_); rintro e w85 ⟨rfl, hb⟩; refine ⟨_, rfl, ?_⟩; replace HO_6 := Aside0.mk (Kd.R_below (by (with_reducible repeat (first | apply Kd.R_alloc | apply Kd.R_drewN | apply Kd.R_drew)); exact (Kd.R_mono (Kd.R_far (p := ⟨gb309, 1, none⟩) (Kd.R_far (p := ⟨gb309, 0, none⟩) (Kd.R_types HO_6.out BK309.out (by decide)) (fun _ hk => hk.2) (.int .i64 ((rd_T60 t301 x7_2).f1.f0))) (fun _ hk => hk.2) (.int .i64 ((rd_T60 t301 x7_2).f1.f1))) (fun _ h_ => h_.1))) hb); replace BK298 := Aside0.mk (blk_below (g := gb298) (o := .cells #[.int .i64 a1_0, .int .i64 a1_1] 27 (0, 0)) (by (with_reducible repeat (first | refine blk_drewN ?_ _ | refine blk_drew ?_ | refine blk_alloc ?_ _)); refine blk_far ?_ NB298_309.out _; (with_reducible repeat (first | refine blk_drewN ?_ _ | refine blk_drew ?_ | refine blk_alloc ?_ _)); refine blk_far ?_ NB298_309.out _; (with_reducible repeat (first | refine blk_drewN ?_ _ | refine blk_drew ?_ | refine blk_alloc ?_ _)); exact BK298.out) hb); replace BK307 := Aside0.mk (blk_below (g := gb307) (o := .cells #[.int .i64 ((rd_T60 t301 x7_2).f0.f0), .int .i64 ((rd_T60 t301 x7_2).f0.f1)] 27 (0, 0)) (by (with_reducible repeat (first | refine blk_drewN ?_ _ | refine blk_drew ?_ | refine blk_alloc ?_ _)); refine blk_far ?_ NB307_309.out _; (with_reducible repeat (first | refine blk_drewN ?_ _ | refine blk_drew ?_ | refine blk_alloc ?_ _)); refine blk_far ?_ NB307_309.out _; (with_reducible repeat (first | refine blk_drewN ?_ _ | refine blk_drew ?_ | refine blk_alloc ?_ _)); exact BK307.out) hb); replace BK309 := Aside0.mk (blk_below (g := gb309) (o := .cells #[.int .i64 ((rd_T60 t301 x7_2).f1.f0), .int .i64 ((rd_T60 t301 x7_2).f1.f1)] 27 (0, 0)) (by (with_reducible repeat (first | refine blk_drewN ?_ _ | refine blk_drew ?_ | refine blk_alloc ?_ _)); refine blk_put (cs := #[.int .i64 ((rd_T60 t301 x7_2).f1.f0), .int .i64 0]) ?_ 1 _ rfl; (with_reducible repeat (first | refine blk_drewN ?_ _ | refine blk_drew ?_ | refine blk_alloc ?_ _)); refine blk_put (cs := #[.int .i64 0, .int .i64 0]) ?_ 0 _ rfl; (with_reducible repeat (first | refine blk_drewN ?_ _ | refine blk_drew ?_ | refine blk_alloc ?_ _)); exact BK309.out) hb); replace HB := Aside0.mk (below_step Hd.b_ hb); (try clear hb); (try clear hb2); (try clear hk); (try clear hi); obtain ⟨hcz86_0, hcz86_1⟩ := Hd.c2_ BK309.out; obtain ⟨hfz86_0, hfz86_1⟩ := Hd.f2_ BK309.out; obtain ⟨hcz87_0, hcz87_1⟩ := Hd.c2_ BK307.out; obtain ⟨hfz87_0, hfz87_1⟩ := Hd.f2_ BK307.out))
             go_roundg k2
             case measure => have := HJ2.out; have := HK2.out; omega
             case rel => exact ⟨(x5_2), (wrap64 (x7_2 + 1)), (by first | rfl | (simp; done) | (simp [*]; done)), (by first | rfl | (simp; done) | (simp [*]; done)), H', ⟨by have := HJ2.out; have := HK2.out; omega⟩, ⟨by (with_reducible repeat (first | apply Kd.R_alloc | apply Kd.R_drewN | apply Kd.R_drew)); exact HO_6.out⟩, ⟨by (with_reducible repeat (first | refine blk_drewN ?_ _ | refine blk_drew ?_ | refine blk_alloc ?_ _)); exact BK298.out⟩, ⟨Hd.b_⟩⟩
          ·
           rw [if_neg c24] at H
           have c24b0 : decide (((rd_T60 t301 x7_2).f0.f1) < ((rd_T60 t301 x7_2).f1.f1)) = false := decide_eq_false c24
           clear c24
           by_cases c88 : ((rd_T60 t301 x7_2).f1.f1) < ((rd_T60 t301 x7_2).f0.f1)
           ·
            rw [if_pos c88] at H
            have c88b0 : decide (((rd_T60 t301 x7_2).f1.f1) < ((rd_T60 t301 x7_2).f0.f1)) = true := decide_eq_true c88
            clear c88
            by_cases c89 : t310 < 0
            ·
             rw [if_pos c89] at H
             have c89b0 : decide (t310 < 0) = true := decide_eq_true c89
             clear c89
             have H' := Aside0.mk H
             clear H
             obtain ⟨Ao90, co90, eo90⟩ := Kd.R_slice HO_6.out
             subst eo90
             try go_wp2
             replace HO_6 := Aside0.mk (Kd.R_drew HO_6.out)
             replace BK298 := Aside0.mk (blk_drew BK298.out)
             replace HB := Aside0.mk (below_drew1 HB.out)
             have p304 : 0 ≤ (x7_2 : Int) := of_decide_eq_true Hd.a_
             have q304 : x7_2 < (t301.length : Int) := of_decide_eq_true Hd.a_
             obtain ⟨ad304, e304, hx304_0, hx304_1, hx304_2, hx304_3⟩ := at_T60 (Kd.R_reads' HO_6.out).2.2 x7_2 p304 q304
             cases e304
             replace p304 := eq_true p304
             replace q304 := eq_true q304
             have S_ : (fun w' : World => w'.cell? ⟨gb298, 0, none⟩ = some (.int .i64 a1_0) ∧ w'.cell? ⟨gb298, 1, none⟩ = some (.int .i64 a1_1) ∧ w'.cell? (ad304.add ((x7_2).toNat * 4)) = some (.int .i64 ((rd_T60 t301 x7_2).f0.f0)) ∧ w'.cell? ⟨(ad304.add ((x7_2).toNat * 4)).block, (ad304.add ((x7_2).toNat * 4)).off + 1, none⟩ = some (.int .i64 ((rd_T60 t301 x7_2).f0.f1)) ∧ w'.cell? ⟨(ad304.add ((x7_2).toNat * 4)).block, (ad304.add ((x7_2).toNat * 4)).off + 2, none⟩ = some (.int .i64 ((rd_T60 t301 x7_2).f1.f0)) ∧ w'.cell? ⟨(ad304.add ((x7_2).toNat * 4)).block, (ad304.add ((x7_2).toNat * 4)).off + 3, none⟩ = some (.int .i64 ((rd_T60 t301 x7_2).f1.f1))) wr.drew := ⟨(blk_cell BK298.out 0).trans rfl, (blk_cell BK298.out 1).trans rfl, hx304_0, hx304_1, hx304_2, hx304_3⟩
             obtain ⟨s0_, s1_, s2_, s3_, s4_, s5_⟩ := S_
             replace s0_ := fun q : Hd.HW wr.drew => q.cell s0_
             replace s1_ := fun q : Hd.HW wr.drew => q.cell s1_
             replace s2_ := fun q : Hd.HW wr.drew => q.cell s2_
             replace s3_ := fun q : Hd.HW wr.drew => q.cell s3_
             replace s4_ := fun q : Hd.HW wr.drew => q.cell s4_
             replace s5_ := fun q : Hd.HW wr.drew => q.cell s5_
             refine Hd.HW.region (by kernel_rfl) (by kernel_rfl) ?_
             repeat (go_big_quiet_step ((first | (go_at_call 113; with_reducible exact Hd.HW.c (spec_IsOn.calls ((rd_T60 t301 x7_2).f0.f0) ((rd_T60 t301 x7_2).f0.f1) ((rd_T60 t301 x7_2).f1.f0) ((rd_T60 t301 x7_2).f1.f1) a1_0 a1_1 false _ A17.out)))))
             refine wpQuiet_nil ?_
             intro _ hq_
             obtain ⟨q_, rfl⟩ := hq_
             clear s0_ s1_ s2_ s3_ s4_ s5_
             replace HO_6 := Aside0.mk (Kd.R_below HO_6.out q_.b)
             replace BK298 := Aside0.mk (blk_below BK298.out q_.b)
             replace HB := Aside0.mk (below_step HB.out q_.b)
             replace hx304_0 := q_.cell hx304_0
             replace hx304_1 := q_.cell hx304_1
             replace hx304_2 := q_.cell hx304_2
             replace hx304_3 := q_.cell hx304_3
             generalize q_.W = w92 at HO_6 BK298 HB hx304_0 hx304_1 hx304_2 hx304_3 ⊢
             try simp only [i64_w, i32_w]
             have p306 : 0 ≤ (x7_2 : Int) := of_decide_eq_true Hd.a_
             have q306 : x7_2 < (t301.length : Int) := of_decide_eq_true Hd.a_
             obtain ⟨ad306, e306, hx306_0, hx306_1, hx306_2, hx306_3⟩ := at_T60 (Kd.R_reads' HO_6.out).2.2 x7_2 p306 q306
             obtain rfl : ad304 = ad306 := (by injection e306)
             replace p306 := eq_true p306
             replace q306 := eq_true q306
             try go_wp2_with (first | ((with_reducible refine gate_dst (N := 8) rfl ?_); refine Hd.box_ 8 (#[.int .i64 0, .int .i64 0]) 27 ?_; intro gb307 hg w93 hbox hb; replace HO_6 := Aside0.mk (Kd.R_below (Hd.r_ HO_6) hb); have BK307 := Aside0.mk (hbox); have GW307 := Aside0.mk ((Hd.g_ hg Hd.b_ : w.heap.size ≤ gb307)); have GE307 := Aside0.mk ((Hd.g_ hg Hd.b_ : w.heap.size ≤ gb307)); replace HB := Aside0.mk (below_step Hd.b_ hb); have NB298_307 := Aside0.mk ((Hd.lt_ BK298 hg)); have NB307_298 := Aside0.mk ((Hd.gt_ BK298 hg)); replace BK298 := Aside0.mk (Hd.kb_ BK298 hb); clear hb hbox hg; have hnb94 := NB307_298.out; have hnc94 := NB298_307.out; obtain ⟨hcz95_0, hcz95_1⟩ := Hd.c2_ BK307.out; obtain ⟨hfz95_0, hfz95_1⟩ := Hd.f2_ BK307.out; have p308 : 0 ≤ (x7_2 : Int) := of_decide_eq_true Hd.a_; have q308 : x7_2 < (t301.length : Int) := of_decide_eq_true Hd.a_; obtain ⟨ad308, e308, hx308_0, hx308_1, hx308_2, hx308_3⟩ := at_T60 (Kd.R_reads' HO_6.out).2.2 x7_2 p308 q308; obtain rfl : ad304 = ad308 := (by injection e308); have hn308_0 : ad304.block ≠ gb307 := Kd.own_blk (Kd.R_ne HO_6.out BK307.out (by decide)); have hn308_1 : ad304.block ≠ gb307 := Kd.own_blk (Kd.R_ne HO_6.out BK307.out (by decide)); replace hx308_0 := (cell_far (p := ⟨gb307, 0, none⟩) (by first | (rw [add_block]; exact hn308_0) | (show (Addr.add _ _).block ≠ _; rw [add_block]; exact hn308_0) | exact hn308_0) (.int .i64 ((rd_T60 t301 x7_2).f0.f0))).trans hx308_0; replace hx308_1 := (cell_far (p := ⟨gb307, 0, none⟩) (by first | (rw [add_block]; exact hn308_0) | (show (Addr.add _ _).block ≠ _; rw [add_block]; exact hn308_0) | exact hn308_0) (.int .i64 ((rd_T60 t301 x7_2).f0.f0))).trans hx308_1; replace hx308_2 := (cell_far (p := ⟨gb307, 0, none⟩) (by first | (rw [add_block]; exact hn308_0) | (show (Addr.add _ _).block ≠ _; rw [add_block]; exact hn308_0) | exact hn308_0) (.int .i64 ((rd_T60 t301 x7_2).f0.f0))).trans hx308_2; replace hx308_3 := (cell_far (p := ⟨gb307, 0, none⟩) (by first | (rw [add_block]; exact hn308_0) | (show (Addr.add _ _).block ≠ _; rw [add_block]; exact hn308_0) | exact hn308_0) (.int .i64 ((rd_T60 t301 x7_2).f0.f0))).trans hx308_3; replace hx308_0 := (cell_far (p := ⟨gb307, 1, none⟩) (by first | (rw [add_block]; exact hn308_1) | (show (Addr.add _ _).block ≠ _; rw [add_block]; exact hn308_1) | exact hn308_1) (.int .i64 ((rd_T60 t301 x7_2).f0.f1))).trans hx308_0; replace hx308_1 := (cell_far (p := ⟨gb307, 1, none⟩) (by first | (rw [add_block]; exact hn308_1) | (show (Addr.add _ _).block ≠ _; rw [add_block]; exact hn308_1) | exact hn308_1) (.int .i64 ((rd_T60 t301 x7_2).f0.f1))).trans hx308_1; replace hx308_2 := (cell_far (p := ⟨gb307, 1, none⟩) (by first | (rw [add_block]; exact hn308_1) | (show (Addr.add _ _).block ≠ _; rw [add_block]; exact hn308_1) | exact hn308_1) (.int .i64 ((rd_T60 t301 x7_2).f0.f1))).trans hx308_2; replace hx308_3 := (cell_far (p := ⟨gb307, 1, none⟩) (by first | (rw [add_block]; exact hn308_1) | (show (Addr.add _ _).block ≠ _; rw [add_block]; exact hn308_1) | exact hn308_1) (.int .i64 ((rd_T60 t301 x7_2).f0.f1))).trans hx308_3; clear hn308_0; clear hn308_1; replace p308 := eq_true p308; replace q308 := eq_true q308) | ((with_reducible refine gate_dst (N := 9) rfl ?_); refine Hd.box_ 9 (#[.int .i64 0, .int .i64 0]) 27 ?_; intro gb309 hg w96 hbox hb; replace HO_6 := Aside0.mk (Kd.R_below (by (with_reducible repeat (first | apply Kd.R_alloc | apply Kd.R_drewN | apply Kd.R_drew)); exact (Kd.R_mono (Kd.R_far (p := ⟨gb307, 1, none⟩) (Kd.R_far (p := ⟨gb307, 0, none⟩) (Kd.R_types HO_6.out BK307.out (by decide)) (fun _ hk => hk.2) (.int .i64 ((rd_T60 t301 x7_2).f0.f0))) (fun _ hk => hk.2) (.int .i64 ((rd_T60 t301 x7_2).f0.f1))) (fun _ h_ => h_.1))) hb); have BK309 := Aside0.mk (hbox); have GW309 := Aside0.mk ((Hd.g_ hg Hd.b_ : w.heap.size ≤ gb309)); have GE309 := Aside0.mk ((Hd.g_ hg Hd.b_ : w.heap.size ≤ gb309)); replace HB := Aside0.mk (below_step Hd.b_ hb); have NB298_309 := Aside0.mk ((by rw [hg]; exact Nat.ne_of_lt (blk_lt (g := gb298) (o := .cells #[.int .i64 a1_0, .int .i64 a1_1] 27 (0, 0)) (by (with_reducible repeat (first | refine blk_drewN ?_ _ | refine blk_drew ?_ | refine blk_alloc ?_ _)); refine blk_far ?_ NB298_307.out _; (with_reducible repeat (first | refine blk_drewN ?_ _ | refine blk_drew ?_ | refine blk_alloc ?_ _)); refine blk_far ?_ NB298_307.out _; (with_reducible repeat (first | refine blk_drewN ?_ _ | refine blk_drew ?_ | refine blk_alloc ?_ _)); exact BK298.out)) : gb298 ≠ gb309)); have NB309_298 := Aside0.mk ((by rw [hg]; exact Nat.ne_of_gt (blk_lt (g := gb298) (o := .cells #[.int .i64 a1_0, .int .i64 a1_1] 27 (0, 0)) (by (with_reducible repeat (first | refine blk_drewN ?_ _ | refine blk_drew ?_ | refine blk_alloc ?_ _)); refine blk_far ?_ NB298_307.out _; (with_reducible repeat (first | refine blk_drewN ?_ _ | refine blk_drew ?_ | refine blk_alloc ?_ _)); refine blk_far ?_ NB298_307.out _; (with_reducible repeat (first | refine blk_drewN ?_ _ | refine blk_drew ?_ | refine blk_alloc ?_ _)); exact BK298.out)) : gb309 ≠ gb298)); replace BK298 := Aside0.mk (blk_below (g := gb298) (o := .cells #[.int .i64 a1_0, .int .i64 a1_1] 27 (0, 0)) (by (with_reducible repeat (first | refine blk_drewN ?_ _ | refine blk_drew ?_ | refine blk_alloc ?_ _)); refine blk_far ?_ NB298_307.out _; (with_reducible repeat (first | refine blk_drewN ?_ _ | refine blk_drew ?_ | refine blk_alloc ?_ _)); refine blk_far ?_ NB298_307.out _; (with_reducible repeat (first | refine blk_drewN ?_ _ | refine blk_drew ?_ | refine blk_alloc ?_ _)); exact BK298.out) hb); have NB307_309 := Aside0.mk ((by rw [hg]; exact Nat.ne_of_lt (blk_lt (g := gb307) (o := .cells #[.int .i64 ((rd_T60 t301 x7_2).f0.f0), .int .i64 ((rd_T60 t301 x7_2).f0.f1)] 27 (0, 0)) (by (with_reducible repeat (first | refine blk_drewN ?_ _ | refine blk_drew ?_ | refine blk_alloc ?_ _)); refine blk_put (cs := #[.int .i64 ((rd_T60 t301 x7_2).f0.f0), .int .i64 0]) ?_ 1 _ rfl; (with_reducible repeat (first | refine blk_drewN ?_ _ | refine blk_drew ?_ | refine blk_alloc ?_ _)); refine blk_put (cs := #[.int .i64 0, .int .i64 0]) ?_ 0 _ rfl; (with_reducible repeat (first | refine blk_drewN ?_ _ | refine blk_drew ?_ | refine blk_alloc ?_ _)); exact BK307.out)) : gb307 ≠ gb309)); have NB309_307 := Aside0.mk ((by rw [hg]; exact Nat.ne_of_gt (blk_lt (g := gb307) (o := .cells #[.int .i64 ((rd_T60 t301 x7_2).f0.f0), .int .i64 ((rd_T60 t301 x7_2).f0.f1)] 27 (0, 0)) (by (with_reducible repeat (first | refine blk_drewN ?_ _ | refine blk_drew ?_ | refine blk_alloc ?_ _)); refine blk_put (cs := #[.int .i64 ((rd_T60 t301 x7_2).f0.f0), .int .i64 0]) ?_ 1 _ rfl; (with_reducible repeat (first | refine blk_drewN ?_ _ | refine blk_drew ?_ | refine blk_alloc ?_ _)); refine blk_put (cs := #[.int .i64 0, .int .i64 0]) ?_ 0 _ rfl; (with_reducible repeat (first | refine blk_drewN ?_ _ | refine blk_drew ?_ | refine blk_alloc ?_ _)); exact BK307.out)) : gb309 ≠ gb307)); replace BK307 := Aside0.mk (blk_below (g := gb307) (o := .cells #[.int .i64 ((rd_T60 t301 x7_2).f0.f0), .int .i64 ((rd_T60 t301 x7_2).f0.f1)] 27 (0, 0)) (by (with_reducible repeat (first | refine blk_drewN ?_ _ | refine blk_drew ?_ | refine blk_alloc ?_ _)); refine blk_put (cs := #[.int .i64 ((rd_T60 t301 x7_2).f0.f0), .int .i64 0]) ?_ 1 _ rfl; (with_reducible repeat (first | refine blk_drewN ?_ _ | refine blk_drew ?_ | refine blk_alloc ?_ _)); refine blk_put (cs := #[.int .i64 0, .int .i64 0]) ?_ 0 _ rfl; (with_reducible repeat (first | refine blk_drewN ?_ _ | refine blk_drew ?_ | refine blk_alloc ?_ _)); exact BK307.out) hb); clear hb hbox hg; have hnb97 := NB309_298.out; have hnc97 := NB298_309.out; have hnb98 := NB309_307.out; have hnc98 := NB307_309.out; obtain ⟨hcz99_0, hcz99_1⟩ := Hd.c2_ BK309.out; obtain ⟨hfz99_0, hfz99_1⟩ := Hd.f2_ BK309.out; obtain ⟨hcz100_0, hcz100_1⟩ := Hd.c2_ BK307.out; obtain ⟨hfz100_0, hfz100_1⟩ := Hd.f2_ BK307.out; obtain ⟨hcz101_0, hcz101_1⟩ := Hd.c2_ BK298.out; obtain ⟨hfz101_0, hfz101_1⟩ := Hd.f2_ BK298.out) | ((with_reducible refine gate_callee (f := 99) rfl ?_); refine goesL_ (some 57) rfl rfl Try.func99 (by kernel_rfl) rfl #[.agg #[.int .i64 ((rd_T60 t301 x7_2).f0.f0), .int .i64 ((rd_T60 t301 x7_2).f0.f1)], .agg #[.int .i64 ((rd_T60 t301 x7_2).f1.f0), .int .i64 ((rd_T60 t301 x7_2).f1.f1)], .agg #[.int .i64 a1_0, .int .i64 a1_1]] rfl Hd.m_ ?_; (with_reducible refine (spec_l4Cross.calls ((rd_T60 t301 x7_2).f0.f0) ((rd_T60 t301 x7_2).f0.f1) ((rd_T60 t301 x7_2).f1.f0) ((rd_T60 t301 x7_2).f1.f1) a1_0 a1_1 t310 _ A23.out).mono ?_); rintro e w102 ⟨rfl, hb⟩; refine ⟨_, rfl, ?_⟩; replace HO_6 := Aside0.mk (Kd.R_below (by (with_reducible repeat (first | apply Kd.R_alloc | apply Kd.R_drewN | apply Kd.R_drew)); exact (Kd.R_mono (Kd.R_far (p := ⟨gb309, 1, none⟩) (Kd.R_far (p := ⟨gb309, 0, none⟩) (Kd.R_types HO_6.out BK309.out (by decide)) (fun _ hk => hk.2) (.int .i64 ((rd_T60 t301 x7_2).f1.f0))) (fun _ hk => hk.2) (.int .i64 ((rd_T60 t301 x7_2).f1.f1))) (fun _ h_ => h_.1))) hb); replace BK298 := Aside0.mk (blk_below (g := gb298) (o := .cells #[.int .i64 a1_0, .int .i64 a1_1] 27 (0, 0)) (by (with_reducible repeat (first | refine blk_drewN ?_ _ | refine blk_drew ?_ | refine blk_alloc ?_ _)); refine blk_far ?_ NB298_309.out _; (with_reducible repeat (first | refine blk_drewN ?_ _ | refine blk_drew ?_ | refine blk_alloc ?_ _)); refine blk_far ?_ NB298_309.out _; (with_reducible repeat (first | refine blk_drewN ?_ _ | refine blk_drew ?_ | refine blk_alloc ?_ _)); exact BK298.out) hb); replace BK307 := Aside0.mk (blk_below (g := gb307) (o := .cells #[.int .i64 ((rd_T60 t301 x7_2).f0.f0), .int .i64 ((rd_T60 t301 x7_2).f0.f1)] 27 (0, 0)) (by (with_reducible repeat (first | refine blk_drewN ?_ _ | refine blk_drew ?_ | refine blk_alloc ?_ _)); refine blk_far ?_ NB307_309.out _; (with_reducible repeat (first | refine blk_drewN ?_ _ | refine blk_drew ?_ | refine blk_alloc ?_ _)); refine blk_far ?_ NB307_309.out _; (with_reducible repeat (first | refine blk_drewN ?_ _ | refine blk_drew ?_ | refine blk_alloc ?_ _)); exact BK307.out) hb); replace BK309 := Aside0.mk (blk_below (g := gb309) (o := .cells #[.int .i64 ((rd_T60 t301 x7_2).f1.f0), .int .i64 ((rd_T60 t301 x7_2).f1.f1)] 27 (0, 0)) (by (with_reducible repeat (first | refine blk_drewN ?_ _ | refine blk_drew ?_ | refine blk_alloc ?_ _)); refine blk_put (cs := #[.int .i64 ((rd_T60 t301 x7_2).f1.f0), .int .i64 0]) ?_ 1 _ rfl; (with_reducible repeat (first | refine blk_drewN ?_ _ | refine blk_drew ?_ | refine blk_alloc ?_ _)); refine blk_put (cs := #[.int .i64 0, .int .i64 0]) ?_ 0 _ rfl; (with_reducible repeat (first | refine blk_drewN ?_ _ | refine blk_drew ?_ | refine blk_alloc ?_ _)); exact BK309.out) hb); replace HB := Aside0.mk (below_step Hd.b_ hb); (try clear hb); (try clear hb2); (try clear hk); (try clear hi); obtain ⟨hcz103_0, hcz103_1⟩ := Hd.c2_ BK309.out; obtain ⟨hfz103_0, hfz103_1⟩ := Hd.f2_ BK309.out; obtain ⟨hcz104_0, hcz104_1⟩ := Hd.c2_ BK307.out; obtain ⟨hfz104_0, hfz104_1⟩ := Hd.f2_ BK307.out))
             go_roundg k2
             case measure => have := HJ2.out; have := HK2.out; omega
             case rel => exact ⟨(!x5_2), (wrap64 (x7_2 + 1)), (by first | rfl | (simp; done) | (simp [*]; done)), (by first | rfl | (simp; done) | (simp [*]; done)), H', ⟨by have := HJ2.out; have := HK2.out; omega⟩, ⟨by (with_reducible repeat (first | apply Kd.R_alloc | apply Kd.R_drewN | apply Kd.R_drew)); exact HO_6.out⟩, ⟨by (with_reducible repeat (first | refine blk_drewN ?_ _ | refine blk_drew ?_ | refine blk_alloc ?_ _)); exact BK298.out⟩, ⟨Hd.b_⟩⟩
            ·
             rw [if_neg c89] at H
             have c89b0 : decide (t310 < 0) = false := decide_eq_false c89
             clear c89
             have H' := Aside0.mk H
             clear H
             obtain ⟨Ao105, co105, eo105⟩ := Kd.R_slice HO_6.out
             subst eo105
             try go_wp2
             replace HO_6 := Aside0.mk (Kd.R_drew HO_6.out)
             replace BK298 := Aside0.mk (blk_drew BK298.out)
             replace HB := Aside0.mk (below_drew1 HB.out)
             have p304 : 0 ≤ (x7_2 : Int) := of_decide_eq_true Hd.a_
             have q304 : x7_2 < (t301.length : Int) := of_decide_eq_true Hd.a_
             obtain ⟨ad304, e304, hx304_0, hx304_1, hx304_2, hx304_3⟩ := at_T60 (Kd.R_reads' HO_6.out).2.2 x7_2 p304 q304
             cases e304
             replace p304 := eq_true p304
             replace q304 := eq_true q304
             have S_ : (fun w' : World => w'.cell? ⟨gb298, 0, none⟩ = some (.int .i64 a1_0) ∧ w'.cell? ⟨gb298, 1, none⟩ = some (.int .i64 a1_1) ∧ w'.cell? (ad304.add ((x7_2).toNat * 4)) = some (.int .i64 ((rd_T60 t301 x7_2).f0.f0)) ∧ w'.cell? ⟨(ad304.add ((x7_2).toNat * 4)).block, (ad304.add ((x7_2).toNat * 4)).off + 1, none⟩ = some (.int .i64 ((rd_T60 t301 x7_2).f0.f1)) ∧ w'.cell? ⟨(ad304.add ((x7_2).toNat * 4)).block, (ad304.add ((x7_2).toNat * 4)).off + 2, none⟩ = some (.int .i64 ((rd_T60 t301 x7_2).f1.f0)) ∧ w'.cell? ⟨(ad304.add ((x7_2).toNat * 4)).block, (ad304.add ((x7_2).toNat * 4)).off + 3, none⟩ = some (.int .i64 ((rd_T60 t301 x7_2).f1.f1))) wr.drew := ⟨(blk_cell BK298.out 0).trans rfl, (blk_cell BK298.out 1).trans rfl, hx304_0, hx304_1, hx304_2, hx304_3⟩
             obtain ⟨s0_, s1_, s2_, s3_, s4_, s5_⟩ := S_
             replace s0_ := fun q : Hd.HW wr.drew => q.cell s0_
             replace s1_ := fun q : Hd.HW wr.drew => q.cell s1_
             replace s2_ := fun q : Hd.HW wr.drew => q.cell s2_
             replace s3_ := fun q : Hd.HW wr.drew => q.cell s3_
             replace s4_ := fun q : Hd.HW wr.drew => q.cell s4_
             replace s5_ := fun q : Hd.HW wr.drew => q.cell s5_
             refine Hd.HW.region (by kernel_rfl) (by kernel_rfl) ?_
             repeat (go_big_quiet_step ((first | (go_at_call 113; with_reducible exact Hd.HW.c (spec_IsOn.calls ((rd_T60 t301 x7_2).f0.f0) ((rd_T60 t301 x7_2).f0.f1) ((rd_T60 t301 x7_2).f1.f0) ((rd_T60 t301 x7_2).f1.f1) a1_0 a1_1 false _ A17.out)))))
             refine wpQuiet_nil ?_
             intro _ hq_
             obtain ⟨q_, rfl⟩ := hq_
             clear s0_ s1_ s2_ s3_ s4_ s5_
             replace HO_6 := Aside0.mk (Kd.R_below HO_6.out q_.b)
             replace BK298 := Aside0.mk (blk_below BK298.out q_.b)
             replace HB := Aside0.mk (below_step HB.out q_.b)
             replace hx304_0 := q_.cell hx304_0
             replace hx304_1 := q_.cell hx304_1
             replace hx304_2 := q_.cell hx304_2
             replace hx304_3 := q_.cell hx304_3
             generalize q_.W = w107 at HO_6 BK298 HB hx304_0 hx304_1 hx304_2 hx304_3 ⊢
             try simp only [i64_w, i32_w]
             have p306 : 0 ≤ (x7_2 : Int) := of_decide_eq_true Hd.a_
             have q306 : x7_2 < (t301.length : Int) := of_decide_eq_true Hd.a_
             obtain ⟨ad306, e306, hx306_0, hx306_1, hx306_2, hx306_3⟩ := at_T60 (Kd.R_reads' HO_6.out).2.2 x7_2 p306 q306
             obtain rfl : ad304 = ad306 := (by injection e306)
             replace p306 := eq_true p306
             replace q306 := eq_true q306
             try go_wp2_with (first | ((with_reducible refine gate_dst (N := 8) rfl ?_); refine Hd.box_ 8 (#[.int .i64 0, .int .i64 0]) 27 ?_; intro gb307 hg w108 hbox hb; replace HO_6 := Aside0.mk (Kd.R_below (Hd.r_ HO_6) hb); have BK307 := Aside0.mk (hbox); have GW307 := Aside0.mk ((Hd.g_ hg Hd.b_ : w.heap.size ≤ gb307)); have GE307 := Aside0.mk ((Hd.g_ hg Hd.b_ : w.heap.size ≤ gb307)); replace HB := Aside0.mk (below_step Hd.b_ hb); have NB298_307 := Aside0.mk ((Hd.lt_ BK298 hg)); have NB307_298 := Aside0.mk ((Hd.gt_ BK298 hg)); replace BK298 := Aside0.mk (Hd.kb_ BK298 hb); clear hb hbox hg; have hnb109 := NB307_298.out; have hnc109 := NB298_307.out; obtain ⟨hcz110_0, hcz110_1⟩ := Hd.c2_ BK307.out; obtain ⟨hfz110_0, hfz110_1⟩ := Hd.f2_ BK307.out; have p308 : 0 ≤ (x7_2 : Int) := of_decide_eq_true Hd.a_; have q308 : x7_2 < (t301.length : Int) := of_decide_eq_true Hd.a_; obtain ⟨ad308, e308, hx308_0, hx308_1, hx308_2, hx308_3⟩ := at_T60 (Kd.R_reads' HO_6.out).2.2 x7_2 p308 q308; obtain rfl : ad304 = ad308 := (by injection e308); have hn308_0 : ad304.block ≠ gb307 := Kd.own_blk (Kd.R_ne HO_6.out BK307.out (by decide)); have hn308_1 : ad304.block ≠ gb307 := Kd.own_blk (Kd.R_ne HO_6.out BK307.out (by decide)); replace hx308_0 := (cell_far (p := ⟨gb307, 0, none⟩) (by first | (rw [add_block]; exact hn308_0) | (show (Addr.add _ _).block ≠ _; rw [add_block]; exact hn308_0) | exact hn308_0) (.int .i64 ((rd_T60 t301 x7_2).f0.f0))).trans hx308_0; replace hx308_1 := (cell_far (p := ⟨gb307, 0, none⟩) (by first | (rw [add_block]; exact hn308_0) | (show (Addr.add _ _).block ≠ _; rw [add_block]; exact hn308_0) | exact hn308_0) (.int .i64 ((rd_T60 t301 x7_2).f0.f0))).trans hx308_1; replace hx308_2 := (cell_far (p := ⟨gb307, 0, none⟩) (by first | (rw [add_block]; exact hn308_0) | (show (Addr.add _ _).block ≠ _; rw [add_block]; exact hn308_0) | exact hn308_0) (.int .i64 ((rd_T60 t301 x7_2).f0.f0))).trans hx308_2; replace hx308_3 := (cell_far (p := ⟨gb307, 0, none⟩) (by first | (rw [add_block]; exact hn308_0) | (show (Addr.add _ _).block ≠ _; rw [add_block]; exact hn308_0) | exact hn308_0) (.int .i64 ((rd_T60 t301 x7_2).f0.f0))).trans hx308_3; replace hx308_0 := (cell_far (p := ⟨gb307, 1, none⟩) (by first | (rw [add_block]; exact hn308_1) | (show (Addr.add _ _).block ≠ _; rw [add_block]; exact hn308_1) | exact hn308_1) (.int .i64 ((rd_T60 t301 x7_2).f0.f1))).trans hx308_0; replace hx308_1 := (cell_far (p := ⟨gb307, 1, none⟩) (by first | (rw [add_block]; exact hn308_1) | (show (Addr.add _ _).block ≠ _; rw [add_block]; exact hn308_1) | exact hn308_1) (.int .i64 ((rd_T60 t301 x7_2).f0.f1))).trans hx308_1; replace hx308_2 := (cell_far (p := ⟨gb307, 1, none⟩) (by first | (rw [add_block]; exact hn308_1) | (show (Addr.add _ _).block ≠ _; rw [add_block]; exact hn308_1) | exact hn308_1) (.int .i64 ((rd_T60 t301 x7_2).f0.f1))).trans hx308_2; replace hx308_3 := (cell_far (p := ⟨gb307, 1, none⟩) (by first | (rw [add_block]; exact hn308_1) | (show (Addr.add _ _).block ≠ _; rw [add_block]; exact hn308_1) | exact hn308_1) (.int .i64 ((rd_T60 t301 x7_2).f0.f1))).trans hx308_3; clear hn308_0; clear hn308_1; replace p308 := eq_true p308; replace q308 := eq_true q308) | ((with_reducible refine gate_dst (N := 9) rfl ?_); refine Hd.box_ 9 (#[.int .i64 0, .int .i64 0]) 27 ?_; intro gb309 hg w111 hbox hb; replace HO_6 := Aside0.mk (Kd.R_below (by (with_reducible repeat (first | apply Kd.R_alloc | apply Kd.R_drewN | apply Kd.R_drew)); exact (Kd.R_mono (Kd.R_far (p := ⟨gb307, 1, none⟩) (Kd.R_far (p := ⟨gb307, 0, none⟩) (Kd.R_types HO_6.out BK307.out (by decide)) (fun _ hk => hk.2) (.int .i64 ((rd_T60 t301 x7_2).f0.f0))) (fun _ hk => hk.2) (.int .i64 ((rd_T60 t301 x7_2).f0.f1))) (fun _ h_ => h_.1))) hb); have BK309 := Aside0.mk (hbox); have GW309 := Aside0.mk ((Hd.g_ hg Hd.b_ : w.heap.size ≤ gb309)); have GE309 := Aside0.mk ((Hd.g_ hg Hd.b_ : w.heap.size ≤ gb309)); replace HB := Aside0.mk (below_step Hd.b_ hb); have NB298_309 := Aside0.mk ((by rw [hg]; exact Nat.ne_of_lt (blk_lt (g := gb298) (o := .cells #[.int .i64 a1_0, .int .i64 a1_1] 27 (0, 0)) (by (with_reducible repeat (first | refine blk_drewN ?_ _ | refine blk_drew ?_ | refine blk_alloc ?_ _)); refine blk_far ?_ NB298_307.out _; (with_reducible repeat (first | refine blk_drewN ?_ _ | refine blk_drew ?_ | refine blk_alloc ?_ _)); refine blk_far ?_ NB298_307.out _; (with_reducible repeat (first | refine blk_drewN ?_ _ | refine blk_drew ?_ | refine blk_alloc ?_ _)); exact BK298.out)) : gb298 ≠ gb309)); have NB309_298 := Aside0.mk ((by rw [hg]; exact Nat.ne_of_gt (blk_lt (g := gb298) (o := .cells #[.int .i64 a1_0, .int .i64 a1_1] 27 (0, 0)) (by (with_reducible repeat (first | refine blk_drewN ?_ _ | refine blk_drew ?_ | refine blk_alloc ?_ _)); refine blk_far ?_ NB298_307.out _; (with_reducible repeat (first | refine blk_drewN ?_ _ | refine blk_drew ?_ | refine blk_alloc ?_ _)); refine blk_far ?_ NB298_307.out _; (with_reducible repeat (first | refine blk_drewN ?_ _ | refine blk_drew ?_ | refine blk_alloc ?_ _)); exact BK298.out)) : gb309 ≠ gb298)); replace BK298 := Aside0.mk (blk_below (g := gb298) (o := .cells #[.int .i64 a1_0, .int .i64 a1_1] 27 (0, 0)) (by (with_reducible repeat (first | refine blk_drewN ?_ _ | refine blk_drew ?_ | refine blk_alloc ?_ _)); refine blk_far ?_ NB298_307.out _; (with_reducible repeat (first | refine blk_drewN ?_ _ | refine blk_drew ?_ | refine blk_alloc ?_ _)); refine blk_far ?_ NB298_307.out _; (with_reducible repeat (first | refine blk_drewN ?_ _ | refine blk_drew ?_ | refine blk_alloc ?_ _)); exact BK298.out) hb); have NB307_309 := Aside0.mk ((by rw [hg]; exact Nat.ne_of_lt (blk_lt (g := gb307) (o := .cells #[.int .i64 ((rd_T60 t301 x7_2).f0.f0), .int .i64 ((rd_T60 t301 x7_2).f0.f1)] 27 (0, 0)) (by (with_reducible repeat (first | refine blk_drewN ?_ _ | refine blk_drew ?_ | refine blk_alloc ?_ _)); refine blk_put (cs := #[.int .i64 ((rd_T60 t301 x7_2).f0.f0), .int .i64 0]) ?_ 1 _ rfl; (with_reducible repeat (first | refine blk_drewN ?_ _ | refine blk_drew ?_ | refine blk_alloc ?_ _)); refine blk_put (cs := #[.int .i64 0, .int .i64 0]) ?_ 0 _ rfl; (with_reducible repeat (first | refine blk_drewN ?_ _ | refine blk_drew ?_ | refine blk_alloc ?_ _)); exact BK307.out)) : gb307 ≠ gb309)); have NB309_307 := Aside0.mk ((by rw [hg]; exact Nat.ne_of_gt (blk_lt (g := gb307) (o := .cells #[.int .i64 ((rd_T60 t301 x7_2).f0.f0), .int .i64 ((rd_T60 t301 x7_2).f0.f1)] 27 (0, 0)) (by (with_reducible repeat (first | refine blk_drewN ?_ _ | refine blk_drew ?_ | refine blk_alloc ?_ _)); refine blk_put (cs := #[.int .i64 ((rd_T60 t301 x7_2).f0.f0), .int .i64 0]) ?_ 1 _ rfl; (with_reducible repeat (first | refine blk_drewN ?_ _ | refine blk_drew ?_ | refine blk_alloc ?_ _)); refine blk_put (cs := #[.int .i64 0, .int .i64 0]) ?_ 0 _ rfl; (with_reducible repeat (first | refine blk_drewN ?_ _ | refine blk_drew ?_ | refine blk_alloc ?_ _)); exact BK307.out)) : gb309 ≠ gb307)); replace BK307 := Aside0.mk (blk_below (g := gb307) (o := .cells #[.int .i64 ((rd_T60 t301 x7_2).f0.f0), .int .i64 ((rd_T60 t301 x7_2).f0.f1)] 27 (0, 0)) (by (with_reducible repeat (first | refine blk_drewN ?_ _ | refine blk_drew ?_ | refine blk_alloc ?_ _)); refine blk_put (cs := #[.int .i64 ((rd_T60 t301 x7_2).f0.f0), .int .i64 0]) ?_ 1 _ rfl; (with_reducible repeat (first | refine blk_drewN ?_ _ | refine blk_drew ?_ | refine blk_alloc ?_ _)); refine blk_put (cs := #[.int .i64 0, .int .i64 0]) ?_ 0 _ rfl; (with_reducible repeat (first | refine blk_drewN ?_ _ | refine blk_drew ?_ | refine blk_alloc ?_ _)); exact BK307.out) hb); clear hb hbox hg; have hnb112 := NB309_298.out; have hnc112 := NB298_309.out; have hnb113 := NB309_307.out; have hnc113 := NB307_309.out; obtain ⟨hcz114_0, hcz114_1⟩ := Hd.c2_ BK309.out; obtain ⟨hfz114_0, hfz114_1⟩ := Hd.f2_ BK309.out; obtain ⟨hcz115_0, hcz115_1⟩ := Hd.c2_ BK307.out; obtain ⟨hfz115_0, hfz115_1⟩ := Hd.f2_ BK307.out; obtain ⟨hcz116_0, hcz116_1⟩ := Hd.c2_ BK298.out; obtain ⟨hfz116_0, hfz116_1⟩ := Hd.f2_ BK298.out) | ((with_reducible refine gate_callee (f := 99) rfl ?_); refine goesL_ (some 57) rfl rfl Try.func99 (by kernel_rfl) rfl #[.agg #[.int .i64 ((rd_T60 t301 x7_2).f0.f0), .int .i64 ((rd_T60 t301 x7_2).f0.f1)], .agg #[.int .i64 ((rd_T60 t301 x7_2).f1.f0), .int .i64 ((rd_T60 t301 x7_2).f1.f1)], .agg #[.int .i64 a1_0, .int .i64 a1_1]] rfl Hd.m_ ?_; (with_reducible refine (spec_l4Cross.calls ((rd_T60 t301 x7_2).f0.f0) ((rd_T60 t301 x7_2).f0.f1) ((rd_T60 t301 x7_2).f1.f0) ((rd_T60 t301 x7_2).f1.f1) a1_0 a1_1 t310 _ A23.out).mono ?_); rintro e w117 ⟨rfl, hb⟩; refine ⟨_, rfl, ?_⟩; replace HO_6 := Aside0.mk (Kd.R_below (by (with_reducible repeat (first | apply Kd.R_alloc | apply Kd.R_drewN | apply Kd.R_drew)); exact (Kd.R_mono (Kd.R_far (p := ⟨gb309, 1, none⟩) (Kd.R_far (p := ⟨gb309, 0, none⟩) (Kd.R_types HO_6.out BK309.out (by decide)) (fun _ hk => hk.2) (.int .i64 ((rd_T60 t301 x7_2).f1.f0))) (fun _ hk => hk.2) (.int .i64 ((rd_T60 t301 x7_2).f1.f1))) (fun _ h_ => h_.1))) hb); replace BK298 := Aside0.mk (blk_below (g := gb298) (o := .cells #[.int .i64 a1_0, .int .i64 a1_1] 27 (0, 0)) (by (with_reducible repeat (first | refine blk_drewN ?_ _ | refine blk_drew ?_ | refine blk_alloc ?_ _)); refine blk_far ?_ NB298_309.out _; (with_reducible repeat (first | refine blk_drewN ?_ _ | refine blk_drew ?_ | refine blk_alloc ?_ _)); refine blk_far ?_ NB298_309.out _; (with_reducible repeat (first | refine blk_drewN ?_ _ | refine blk_drew ?_ | refine blk_alloc ?_ _)); exact BK298.out) hb); replace BK307 := Aside0.mk (blk_below (g := gb307) (o := .cells #[.int .i64 ((rd_T60 t301 x7_2).f0.f0), .int .i64 ((rd_T60 t301 x7_2).f0.f1)] 27 (0, 0)) (by (with_reducible repeat (first | refine blk_drewN ?_ _ | refine blk_drew ?_ | refine blk_alloc ?_ _)); refine blk_far ?_ NB307_309.out _; (with_reducible repeat (first | refine blk_drewN ?_ _ | refine blk_drew ?_ | refine blk_alloc ?_ _)); refine blk_far ?_ NB307_309.out _; (with_reducible repeat (first | refine blk_drewN ?_ _ | refine blk_drew ?_ | refine blk_alloc ?_ _)); exact BK307.out) hb); replace BK309 := Aside0.mk (blk_below (g := gb309) (o := .cells #[.int .i64 ((rd_T60 t301 x7_2).f1.f0), .int .i64 ((rd_T60 t301 x7_2).f1.f1)] 27 (0, 0)) (by (with_reducible repeat (first | refine blk_drewN ?_ _ | refine blk_drew ?_ | refine blk_alloc ?_ _)); refine blk_put (cs := #[.int .i64 ((rd_T60 t301 x7_2).f1.f0), .int .i64 0]) ?_ 1 _ rfl; (with_reducible repeat (first | refine blk_drewN ?_ _ | refine blk_drew ?_ | refine blk_alloc ?_ _)); refine blk_put (cs := #[.int .i64 0, .int .i64 0]) ?_ 0 _ rfl; (with_reducible repeat (first | refine blk_drewN ?_ _ | refine blk_drew ?_ | refine blk_alloc ?_ _)); exact BK309.out) hb); replace HB := Aside0.mk (below_step Hd.b_ hb); (try clear hb); (try clear hb2); (try clear hk); (try clear hi); obtain ⟨hcz118_0, hcz118_1⟩ := Hd.c2_ BK309.out; obtain ⟨hfz118_0, hfz118_1⟩ := Hd.f2_ BK309.out; obtain ⟨hcz119_0, hcz119_1⟩ := Hd.c2_ BK307.out; obtain ⟨hfz119_0, hfz119_1⟩ := Hd.f2_ BK307.out))
             go_roundg k2
             case measure => have := HJ2.out; have := HK2.out; omega
             case rel => exact ⟨(x5_2), (wrap64 (x7_2 + 1)), (by first | rfl | (simp; done) | (simp [*]; done)), (by first | rfl | (simp; done) | (simp [*]; done)), H', ⟨by have := HJ2.out; have := HK2.out; omega⟩, ⟨by (with_reducible repeat (first | apply Kd.R_alloc | apply Kd.R_drewN | apply Kd.R_drew)); exact HO_6.out⟩, ⟨by (with_reducible repeat (first | refine blk_drewN ?_ _ | refine blk_drew ?_ | refine blk_alloc ?_ _)); exact BK298.out⟩, ⟨Hd.b_⟩⟩
           ·
            rw [if_neg c88] at H
            have c88b0 : decide (((rd_T60 t301 x7_2).f1.f1) < ((rd_T60 t301 x7_2).f0.f1)) = false := decide_eq_false c88
            clear c88
            have H' := Aside0.mk H
            clear H
            obtain ⟨Ao120, co120, eo120⟩ := Kd.R_slice HO_6.out
            subst eo120
            try go_wp2
            replace HO_6 := Aside0.mk (Kd.R_drew HO_6.out)
            replace BK298 := Aside0.mk (blk_drew BK298.out)
            replace HB := Aside0.mk (below_drew1 HB.out)
            have p304 : 0 ≤ (x7_2 : Int) := of_decide_eq_true Hd.a_
            have q304 : x7_2 < (t301.length : Int) := of_decide_eq_true Hd.a_
            obtain ⟨ad304, e304, hx304_0, hx304_1, hx304_2, hx304_3⟩ := at_T60 (Kd.R_reads' HO_6.out).2.2 x7_2 p304 q304
            cases e304
            replace p304 := eq_true p304
            replace q304 := eq_true q304
            have S_ : (fun w' : World => w'.cell? ⟨gb298, 0, none⟩ = some (.int .i64 a1_0) ∧ w'.cell? ⟨gb298, 1, none⟩ = some (.int .i64 a1_1) ∧ w'.cell? (ad304.add ((x7_2).toNat * 4)) = some (.int .i64 ((rd_T60 t301 x7_2).f0.f0)) ∧ w'.cell? ⟨(ad304.add ((x7_2).toNat * 4)).block, (ad304.add ((x7_2).toNat * 4)).off + 1, none⟩ = some (.int .i64 ((rd_T60 t301 x7_2).f0.f1)) ∧ w'.cell? ⟨(ad304.add ((x7_2).toNat * 4)).block, (ad304.add ((x7_2).toNat * 4)).off + 2, none⟩ = some (.int .i64 ((rd_T60 t301 x7_2).f1.f0)) ∧ w'.cell? ⟨(ad304.add ((x7_2).toNat * 4)).block, (ad304.add ((x7_2).toNat * 4)).off + 3, none⟩ = some (.int .i64 ((rd_T60 t301 x7_2).f1.f1))) wr.drew := ⟨(blk_cell BK298.out 0).trans rfl, (blk_cell BK298.out 1).trans rfl, hx304_0, hx304_1, hx304_2, hx304_3⟩
            obtain ⟨s0_, s1_, s2_, s3_, s4_, s5_⟩ := S_
            replace s0_ := fun q : Hd.HW wr.drew => q.cell s0_
            replace s1_ := fun q : Hd.HW wr.drew => q.cell s1_
            replace s2_ := fun q : Hd.HW wr.drew => q.cell s2_
            replace s3_ := fun q : Hd.HW wr.drew => q.cell s3_
            replace s4_ := fun q : Hd.HW wr.drew => q.cell s4_
            replace s5_ := fun q : Hd.HW wr.drew => q.cell s5_
            refine Hd.HW.region (by kernel_rfl) (by kernel_rfl) ?_
            repeat (go_big_quiet_step ((first | (go_at_call 113; with_reducible exact Hd.HW.c (spec_IsOn.calls ((rd_T60 t301 x7_2).f0.f0) ((rd_T60 t301 x7_2).f0.f1) ((rd_T60 t301 x7_2).f1.f0) ((rd_T60 t301 x7_2).f1.f1) a1_0 a1_1 false _ A17.out)))))
            refine wpQuiet_nil ?_
            intro _ hq_
            obtain ⟨q_, rfl⟩ := hq_
            clear s0_ s1_ s2_ s3_ s4_ s5_
            replace HO_6 := Aside0.mk (Kd.R_below HO_6.out q_.b)
            replace BK298 := Aside0.mk (blk_below BK298.out q_.b)
            replace HB := Aside0.mk (below_step HB.out q_.b)
            replace hx304_0 := q_.cell hx304_0
            replace hx304_1 := q_.cell hx304_1
            replace hx304_2 := q_.cell hx304_2
            replace hx304_3 := q_.cell hx304_3
            generalize q_.W = w122 at HO_6 BK298 HB hx304_0 hx304_1 hx304_2 hx304_3 ⊢
            try simp only [i64_w, i32_w]
            have p306 : 0 ≤ (x7_2 : Int) := of_decide_eq_true Hd.a_
            have q306 : x7_2 < (t301.length : Int) := of_decide_eq_true Hd.a_
            obtain ⟨ad306, e306, hx306_0, hx306_1, hx306_2, hx306_3⟩ := at_T60 (Kd.R_reads' HO_6.out).2.2 x7_2 p306 q306
            obtain rfl : ad304 = ad306 := (by injection e306)
            replace p306 := eq_true p306
            replace q306 := eq_true q306
            try go_wp2_with (first | ((with_reducible refine gate_dst (N := 8) rfl ?_); refine Hd.box_ 8 (#[.int .i64 0, .int .i64 0]) 27 ?_; intro gb307 hg w123 hbox hb; replace HO_6 := Aside0.mk (Kd.R_below (Hd.r_ HO_6) hb); have BK307 := Aside0.mk (hbox); have GW307 := Aside0.mk ((Hd.g_ hg Hd.b_ : w.heap.size ≤ gb307)); have GE307 := Aside0.mk ((Hd.g_ hg Hd.b_ : w.heap.size ≤ gb307)); replace HB := Aside0.mk (below_step Hd.b_ hb); have NB298_307 := Aside0.mk ((Hd.lt_ BK298 hg)); have NB307_298 := Aside0.mk ((Hd.gt_ BK298 hg)); replace BK298 := Aside0.mk (Hd.kb_ BK298 hb); clear hb hbox hg; have hnb124 := NB307_298.out; have hnc124 := NB298_307.out; obtain ⟨hcz125_0, hcz125_1⟩ := Hd.c2_ BK307.out; obtain ⟨hfz125_0, hfz125_1⟩ := Hd.f2_ BK307.out; have p308 : 0 ≤ (x7_2 : Int) := of_decide_eq_true Hd.a_; have q308 : x7_2 < (t301.length : Int) := of_decide_eq_true Hd.a_; obtain ⟨ad308, e308, hx308_0, hx308_1, hx308_2, hx308_3⟩ := at_T60 (Kd.R_reads' HO_6.out).2.2 x7_2 p308 q308; obtain rfl : ad304 = ad308 := (by injection e308); have hn308_0 : ad304.block ≠ gb307 := Kd.own_blk (Kd.R_ne HO_6.out BK307.out (by decide)); have hn308_1 : ad304.block ≠ gb307 := Kd.own_blk (Kd.R_ne HO_6.out BK307.out (by decide)); replace hx308_0 := (cell_far (p := ⟨gb307, 0, none⟩) (by first | (rw [add_block]; exact hn308_0) | (show (Addr.add _ _).block ≠ _; rw [add_block]; exact hn308_0) | exact hn308_0) (.int .i64 ((rd_T60 t301 x7_2).f0.f0))).trans hx308_0; replace hx308_1 := (cell_far (p := ⟨gb307, 0, none⟩) (by first | (rw [add_block]; exact hn308_0) | (show (Addr.add _ _).block ≠ _; rw [add_block]; exact hn308_0) | exact hn308_0) (.int .i64 ((rd_T60 t301 x7_2).f0.f0))).trans hx308_1; replace hx308_2 := (cell_far (p := ⟨gb307, 0, none⟩) (by first | (rw [add_block]; exact hn308_0) | (show (Addr.add _ _).block ≠ _; rw [add_block]; exact hn308_0) | exact hn308_0) (.int .i64 ((rd_T60 t301 x7_2).f0.f0))).trans hx308_2; replace hx308_3 := (cell_far (p := ⟨gb307, 0, none⟩) (by first | (rw [add_block]; exact hn308_0) | (show (Addr.add _ _).block ≠ _; rw [add_block]; exact hn308_0) | exact hn308_0) (.int .i64 ((rd_T60 t301 x7_2).f0.f0))).trans hx308_3; replace hx308_0 := (cell_far (p := ⟨gb307, 1, none⟩) (by first | (rw [add_block]; exact hn308_1) | (show (Addr.add _ _).block ≠ _; rw [add_block]; exact hn308_1) | exact hn308_1) (.int .i64 ((rd_T60 t301 x7_2).f0.f1))).trans hx308_0; replace hx308_1 := (cell_far (p := ⟨gb307, 1, none⟩) (by first | (rw [add_block]; exact hn308_1) | (show (Addr.add _ _).block ≠ _; rw [add_block]; exact hn308_1) | exact hn308_1) (.int .i64 ((rd_T60 t301 x7_2).f0.f1))).trans hx308_1; replace hx308_2 := (cell_far (p := ⟨gb307, 1, none⟩) (by first | (rw [add_block]; exact hn308_1) | (show (Addr.add _ _).block ≠ _; rw [add_block]; exact hn308_1) | exact hn308_1) (.int .i64 ((rd_T60 t301 x7_2).f0.f1))).trans hx308_2; replace hx308_3 := (cell_far (p := ⟨gb307, 1, none⟩) (by first | (rw [add_block]; exact hn308_1) | (show (Addr.add _ _).block ≠ _; rw [add_block]; exact hn308_1) | exact hn308_1) (.int .i64 ((rd_T60 t301 x7_2).f0.f1))).trans hx308_3; clear hn308_0; clear hn308_1; replace p308 := eq_true p308; replace q308 := eq_true q308) | ((with_reducible refine gate_dst (N := 9) rfl ?_); refine Hd.box_ 9 (#[.int .i64 0, .int .i64 0]) 27 ?_; intro gb309 hg w126 hbox hb; replace HO_6 := Aside0.mk (Kd.R_below (by (with_reducible repeat (first | apply Kd.R_alloc | apply Kd.R_drewN | apply Kd.R_drew)); exact (Kd.R_mono (Kd.R_far (p := ⟨gb307, 1, none⟩) (Kd.R_far (p := ⟨gb307, 0, none⟩) (Kd.R_types HO_6.out BK307.out (by decide)) (fun _ hk => hk.2) (.int .i64 ((rd_T60 t301 x7_2).f0.f0))) (fun _ hk => hk.2) (.int .i64 ((rd_T60 t301 x7_2).f0.f1))) (fun _ h_ => h_.1))) hb); have BK309 := Aside0.mk (hbox); have GW309 := Aside0.mk ((Hd.g_ hg Hd.b_ : w.heap.size ≤ gb309)); have GE309 := Aside0.mk ((Hd.g_ hg Hd.b_ : w.heap.size ≤ gb309)); replace HB := Aside0.mk (below_step Hd.b_ hb); have NB298_309 := Aside0.mk ((by rw [hg]; exact Nat.ne_of_lt (blk_lt (g := gb298) (o := .cells #[.int .i64 a1_0, .int .i64 a1_1] 27 (0, 0)) (by (with_reducible repeat (first | refine blk_drewN ?_ _ | refine blk_drew ?_ | refine blk_alloc ?_ _)); refine blk_far ?_ NB298_307.out _; (with_reducible repeat (first | refine blk_drewN ?_ _ | refine blk_drew ?_ | refine blk_alloc ?_ _)); refine blk_far ?_ NB298_307.out _; (with_reducible repeat (first | refine blk_drewN ?_ _ | refine blk_drew ?_ | refine blk_alloc ?_ _)); exact BK298.out)) : gb298 ≠ gb309)); have NB309_298 := Aside0.mk ((by rw [hg]; exact Nat.ne_of_gt (blk_lt (g := gb298) (o := .cells #[.int .i64 a1_0, .int .i64 a1_1] 27 (0, 0)) (by (with_reducible repeat (first | refine blk_drewN ?_ _ | refine blk_drew ?_ | refine blk_alloc ?_ _)); refine blk_far ?_ NB298_307.out _; (with_reducible repeat (first | refine blk_drewN ?_ _ | refine blk_drew ?_ | refine blk_alloc ?_ _)); refine blk_far ?_ NB298_307.out _; (with_reducible repeat (first | refine blk_drewN ?_ _ | refine blk_drew ?_ | refine blk_alloc ?_ _)); exact BK298.out)) : gb309 ≠ gb298)); replace BK298 := Aside0.mk (blk_below (g := gb298) (o := .cells #[.int .i64 a1_0, .int .i64 a1_1] 27 (0, 0)) (by (with_reducible repeat (first | refine blk_drewN ?_ _ | refine blk_drew ?_ | refine blk_alloc ?_ _)); refine blk_far ?_ NB298_307.out _; (with_reducible repeat (first | refine blk_drewN ?_ _ | refine blk_drew ?_ | refine blk_alloc ?_ _)); refine blk_far ?_ NB298_307.out _; (with_reducible repeat (first | refine blk_drewN ?_ _ | refine blk_drew ?_ | refine blk_alloc ?_ _)); exact BK298.out) hb); have NB307_309 := Aside0.mk ((by rw [hg]; exact Nat.ne_of_lt (blk_lt (g := gb307) (o := .cells #[.int .i64 ((rd_T60 t301 x7_2).f0.f0), .int .i64 ((rd_T60 t301 x7_2).f0.f1)] 27 (0, 0)) (by (with_reducible repeat (first | refine blk_drewN ?_ _ | refine blk_drew ?_ | refine blk_alloc ?_ _)); refine blk_put (cs := #[.int .i64 ((rd_T60 t301 x7_2).f0.f0), .int .i64 0]) ?_ 1 _ rfl; (with_reducible repeat (first | refine blk_drewN ?_ _ | refine blk_drew ?_ | refine blk_alloc ?_ _)); refine blk_put (cs := #[.int .i64 0, .int .i64 0]) ?_ 0 _ rfl; (with_reducible repeat (first | refine blk_drewN ?_ _ | refine blk_drew ?_ | refine blk_alloc ?_ _)); exact BK307.out)) : gb307 ≠ gb309)); have NB309_307 := Aside0.mk ((by rw [hg]; exact Nat.ne_of_gt (blk_lt (g := gb307) (o := .cells #[.int .i64 ((rd_T60 t301 x7_2).f0.f0), .int .i64 ((rd_T60 t301 x7_2).f0.f1)] 27 (0, 0)) (by (with_reducible repeat (first | refine blk_drewN ?_ _ | refine blk_drew ?_ | refine blk_alloc ?_ _)); refine blk_put (cs := #[.int .i64 ((rd_T60 t301 x7_2).f0.f0), .int .i64 0]) ?_ 1 _ rfl; (with_reducible repeat (first | refine blk_drewN ?_ _ | refine blk_drew ?_ | refine blk_alloc ?_ _)); refine blk_put (cs := #[.int .i64 0, .int .i64 0]) ?_ 0 _ rfl; (with_reducible repeat (first | refine blk_drewN ?_ _ | refine blk_drew ?_ | refine blk_alloc ?_ _)); exact BK307.out)) : gb309 ≠ gb307)); replace BK307 := Aside0.mk (blk_below (g := gb307) (o := .cells #[.int .i64 ((rd_T60 t301 x7_2).f0.f0), .int .i64 ((rd_T60 t301 x7_2).f0.f1)] 27 (0, 0)) (by (with_reducible repeat (first | refine blk_drewN ?_ _ | refine blk_drew ?_ | refine blk_alloc ?_ _)); refine blk_put (cs := #[.int .i64 ((rd_T60 t301 x7_2).f0.f0), .int .i64 0]) ?_ 1 _ rfl; (with_reducible repeat (first | refine blk_drewN ?_ _ | refine blk_drew ?_ | refine blk_alloc ?_ _)); refine blk_put (cs := #[.int .i64 0, .int .i64 0]) ?_ 0 _ rfl; (with_reducible repeat (first | refine blk_drewN ?_ _ | refine blk_drew ?_ | refine blk_alloc ?_ _)); exact BK307.out) hb); clear hb hbox hg; have hnb127 := NB309_298.out; have hnc127 := NB298_309.out; have hnb128 := NB309_307.out; have hnc128 := NB307_309.out; obtain ⟨hcz129_0, hcz129_1⟩ := Hd.c2_ BK309.out; obtain ⟨hfz129_0, hfz129_1⟩ := Hd.f2_ BK309.out; obtain ⟨hcz130_0, hcz130_1⟩ := Hd.c2_ BK307.out; obtain ⟨hfz130_0, hfz130_1⟩ := Hd.f2_ BK307.out; obtain ⟨hcz131_0, hcz131_1⟩ := Hd.c2_ BK298.out; obtain ⟨hfz131_0, hfz131_1⟩ := Hd.f2_ BK298.out) | ((with_reducible refine gate_callee (f := 99) rfl ?_); refine goesL_ (some 57) rfl rfl Try.func99 (by kernel_rfl) rfl #[.agg #[.int .i64 ((rd_T60 t301 x7_2).f0.f0), .int .i64 ((rd_T60 t301 x7_2).f0.f1)], .agg #[.int .i64 ((rd_T60 t301 x7_2).f1.f0), .int .i64 ((rd_T60 t301 x7_2).f1.f1)], .agg #[.int .i64 a1_0, .int .i64 a1_1]] rfl Hd.m_ ?_; (with_reducible refine (spec_l4Cross.calls ((rd_T60 t301 x7_2).f0.f0) ((rd_T60 t301 x7_2).f0.f1) ((rd_T60 t301 x7_2).f1.f0) ((rd_T60 t301 x7_2).f1.f1) a1_0 a1_1 t310 _ A23.out).mono ?_); rintro e w132 ⟨rfl, hb⟩; refine ⟨_, rfl, ?_⟩; replace HO_6 := Aside0.mk (Kd.R_below (by (with_reducible repeat (first | apply Kd.R_alloc | apply Kd.R_drewN | apply Kd.R_drew)); exact (Kd.R_mono (Kd.R_far (p := ⟨gb309, 1, none⟩) (Kd.R_far (p := ⟨gb309, 0, none⟩) (Kd.R_types HO_6.out BK309.out (by decide)) (fun _ hk => hk.2) (.int .i64 ((rd_T60 t301 x7_2).f1.f0))) (fun _ hk => hk.2) (.int .i64 ((rd_T60 t301 x7_2).f1.f1))) (fun _ h_ => h_.1))) hb); replace BK298 := Aside0.mk (blk_below (g := gb298) (o := .cells #[.int .i64 a1_0, .int .i64 a1_1] 27 (0, 0)) (by (with_reducible repeat (first | refine blk_drewN ?_ _ | refine blk_drew ?_ | refine blk_alloc ?_ _)); refine blk_far ?_ NB298_309.out _; (with_reducible repeat (first | refine blk_drewN ?_ _ | refine blk_drew ?_ | refine blk_alloc ?_ _)); refine blk_far ?_ NB298_309.out _; (with_reducible repeat (first | refine blk_drewN ?_ _ | refine blk_drew ?_ | refine blk_alloc ?_ _)); exact BK298.out) hb); replace BK307 := Aside0.mk (blk_below (g := gb307) (o := .cells #[.int .i64 ((rd_T60 t301 x7_2).f0.f0), .int .i64 ((rd_T60 t301 x7_2).f0.f1)] 27 (0, 0)) (by (with_reducible repeat (first | refine blk_drewN ?_ _ | refine blk_drew ?_ | refine blk_alloc ?_ _)); refine blk_far ?_ NB307_309.out _; (with_reducible repeat (first | refine blk_drewN ?_ _ | refine blk_drew ?_ | refine blk_alloc ?_ _)); refine blk_far ?_ NB307_309.out _; (with_reducible repeat (first | refine blk_drewN ?_ _ | refine blk_drew ?_ | refine blk_alloc ?_ _)); exact BK307.out) hb); replace BK309 := Aside0.mk (blk_below (g := gb309) (o := .cells #[.int .i64 ((rd_T60 t301 x7_2).f1.f0), .int .i64 ((rd_T60 t301 x7_2).f1.f1)] 27 (0, 0)) (by (with_reducible repeat (first | refine blk_drewN ?_ _ | refine blk_drew ?_ | refine blk_alloc ?_ _)); refine blk_put (cs := #[.int .i64 ((rd_T60 t301 x7_2).f1.f0), .int .i64 0]) ?_ 1 _ rfl; (with_reducible repeat (first | refine blk_drewN ?_ _ | refine blk_drew ?_ | refine blk_alloc ?_ _)); refine blk_put (cs := #[.int .i64 0, .int .i64 0]) ?_ 0 _ rfl; (with_reducible repeat (first | refine blk_drewN ?_ _ | refine blk_drew ?_ | refine blk_alloc ?_ _)); exact BK309.out) hb); replace HB := Aside0.mk (below_step Hd.b_ hb); (try clear hb); (try clear hb2); (try clear hk); (try clear hi); obtain ⟨hcz133_0, hcz133_1⟩ := Hd.c2_ BK309.out; obtain ⟨hfz133_0, hfz133_1⟩ := Hd.f2_ BK309.out; obtain ⟨hcz134_0, hcz134_1⟩ := Hd.c2_ BK307.out; obtain ⟨hfz134_0, hfz134_1⟩ := Hd.f2_ BK307.out))
            go_roundg k2
            case measure => have := HJ2.out; have := HK2.out; omega
            case rel => exact ⟨(x5_2), (wrap64 (x7_2 + 1)), (by first | rfl | (simp; done) | (simp [*]; done)), (by first | rfl | (simp; done) | (simp [*]; done)), H', ⟨by have := HJ2.out; have := HK2.out; omega⟩, ⟨by (with_reducible repeat (first | apply Kd.R_alloc | apply Kd.R_drewN | apply Kd.R_drew)); exact HO_6.out⟩, ⟨by (with_reducible repeat (first | refine blk_drewN ?_ _ | refine blk_drew ?_ | refine blk_alloc ?_ _)); exact BK298.out⟩, ⟨Hd.b_⟩⟩
         ·
          rw [if_neg c22] at H
          have c22b0 : ((decide (((rd_T60 t301 x7_2).f0.f1) > a1_1)) != (decide (((rd_T60 t301 x7_2).f1.f1) > a1_1))) = false := by simpa using c22
          (try (have c22b1 : decide ((decide (((rd_T60 t301 x7_2).f0.f1) > a1_1)) = (decide (((rd_T60 t301 x7_2).f1.f1) > a1_1))) = true := by simpa using c22))
          (try (have c22b2 : ((decide (((rd_T60 t301 x7_2).f0.f1) > a1_1)) == (decide (((rd_T60 t301 x7_2).f1.f1) > a1_1))) = true := by simpa using c22))
          clear c22
          have H' := Aside0.mk H
          clear H
          obtain ⟨Ao135, co135, eo135⟩ := Kd.R_slice HO_6.out
          subst eo135
          try go_wp2
          replace HO_6 := Aside0.mk (Kd.R_drew HO_6.out)
          replace BK298 := Aside0.mk (blk_drew BK298.out)
          replace HB := Aside0.mk (below_drew1 HB.out)
          have p304 : 0 ≤ (x7_2 : Int) := of_decide_eq_true Hd.a_
          have q304 : x7_2 < (t301.length : Int) := of_decide_eq_true Hd.a_
          obtain ⟨ad304, e304, hx304_0, hx304_1, hx304_2, hx304_3⟩ := at_T60 (Kd.R_reads' HO_6.out).2.2 x7_2 p304 q304
          cases e304
          replace p304 := eq_true p304
          replace q304 := eq_true q304
          have S_ : (fun w' : World => w'.cell? ⟨gb298, 0, none⟩ = some (.int .i64 a1_0) ∧ w'.cell? ⟨gb298, 1, none⟩ = some (.int .i64 a1_1) ∧ w'.cell? (ad304.add ((x7_2).toNat * 4)) = some (.int .i64 ((rd_T60 t301 x7_2).f0.f0)) ∧ w'.cell? ⟨(ad304.add ((x7_2).toNat * 4)).block, (ad304.add ((x7_2).toNat * 4)).off + 1, none⟩ = some (.int .i64 ((rd_T60 t301 x7_2).f0.f1)) ∧ w'.cell? ⟨(ad304.add ((x7_2).toNat * 4)).block, (ad304.add ((x7_2).toNat * 4)).off + 2, none⟩ = some (.int .i64 ((rd_T60 t301 x7_2).f1.f0)) ∧ w'.cell? ⟨(ad304.add ((x7_2).toNat * 4)).block, (ad304.add ((x7_2).toNat * 4)).off + 3, none⟩ = some (.int .i64 ((rd_T60 t301 x7_2).f1.f1))) wr.drew := ⟨(blk_cell BK298.out 0).trans rfl, (blk_cell BK298.out 1).trans rfl, hx304_0, hx304_1, hx304_2, hx304_3⟩
          obtain ⟨s0_, s1_, s2_, s3_, s4_, s5_⟩ := S_
          replace s0_ := fun q : Hd.HW wr.drew => q.cell s0_
          replace s1_ := fun q : Hd.HW wr.drew => q.cell s1_
          replace s2_ := fun q : Hd.HW wr.drew => q.cell s2_
          replace s3_ := fun q : Hd.HW wr.drew => q.cell s3_
          replace s4_ := fun q : Hd.HW wr.drew => q.cell s4_
          replace s5_ := fun q : Hd.HW wr.drew => q.cell s5_
          refine Hd.HW.region (by kernel_rfl) (by kernel_rfl) ?_
          repeat (go_big_quiet_step ((first | (go_at_call 113; with_reducible exact Hd.HW.c (spec_IsOn.calls ((rd_T60 t301 x7_2).f0.f0) ((rd_T60 t301 x7_2).f0.f1) ((rd_T60 t301 x7_2).f1.f0) ((rd_T60 t301 x7_2).f1.f1) a1_0 a1_1 false _ A17.out)))))
          refine wpQuiet_nil ?_
          intro _ hq_
          obtain ⟨q_, rfl⟩ := hq_
          clear s0_ s1_ s2_ s3_ s4_ s5_
          replace HO_6 := Aside0.mk (Kd.R_below HO_6.out q_.b)
          replace BK298 := Aside0.mk (blk_below BK298.out q_.b)
          replace HB := Aside0.mk (below_step HB.out q_.b)
          replace hx304_0 := q_.cell hx304_0
          replace hx304_1 := q_.cell hx304_1
          replace hx304_2 := q_.cell hx304_2
          replace hx304_3 := q_.cell hx304_3
          generalize q_.W = w137 at HO_6 BK298 HB hx304_0 hx304_1 hx304_2 hx304_3 ⊢
          try simp only [i64_w, i32_w]
          have p306 : 0 ≤ (x7_2 : Int) := of_decide_eq_true Hd.a_
          have q306 : x7_2 < (t301.length : Int) := of_decide_eq_true Hd.a_
          obtain ⟨ad306, e306, hx306_0, hx306_1, hx306_2, hx306_3⟩ := at_T60 (Kd.R_reads' HO_6.out).2.2 x7_2 p306 q306
          obtain rfl : ad304 = ad306 := (by injection e306)
          replace p306 := eq_true p306
          replace q306 := eq_true q306
          try go_wp2_with (first | ((with_reducible refine gate_dst (N := 8) rfl ?_); refine Hd.box_ 8 (#[.int .i64 0, .int .i64 0]) 27 ?_; intro gb307 hg w138 hbox hb; replace HO_6 := Aside0.mk (Kd.R_below (Hd.r_ HO_6) hb); have BK307 := Aside0.mk (hbox); have GW307 := Aside0.mk ((Hd.g_ hg Hd.b_ : w.heap.size ≤ gb307)); have GE307 := Aside0.mk ((Hd.g_ hg Hd.b_ : w.heap.size ≤ gb307)); replace HB := Aside0.mk (below_step Hd.b_ hb); have NB298_307 := Aside0.mk ((Hd.lt_ BK298 hg)); have NB307_298 := Aside0.mk ((Hd.gt_ BK298 hg)); replace BK298 := Aside0.mk (Hd.kb_ BK298 hb); clear hb hbox hg; have hnb139 := NB307_298.out; have hnc139 := NB298_307.out; obtain ⟨hcz140_0, hcz140_1⟩ := Hd.c2_ BK307.out; obtain ⟨hfz140_0, hfz140_1⟩ := Hd.f2_ BK307.out; have p308 : 0 ≤ (x7_2 : Int) := of_decide_eq_true Hd.a_; have q308 : x7_2 < (t301.length : Int) := of_decide_eq_true Hd.a_; obtain ⟨ad308, e308, hx308_0, hx308_1, hx308_2, hx308_3⟩ := at_T60 (Kd.R_reads' HO_6.out).2.2 x7_2 p308 q308; obtain rfl : ad304 = ad308 := (by injection e308); have hn308_0 : ad304.block ≠ gb307 := Kd.own_blk (Kd.R_ne HO_6.out BK307.out (by decide)); have hn308_1 : ad304.block ≠ gb307 := Kd.own_blk (Kd.R_ne HO_6.out BK307.out (by decide)); replace hx308_0 := (cell_far (p := ⟨gb307, 0, none⟩) (by first | (rw [add_block]; exact hn308_0) | (show (Addr.add _ _).block ≠ _; rw [add_block]; exact hn308_0) | exact hn308_0) (.int .i64 ((rd_T60 t301 x7_2).f0.f0))).trans hx308_0; replace hx308_1 := (cell_far (p := ⟨gb307, 0, none⟩) (by first | (rw [add_block]; exact hn308_0) | (show (Addr.add _ _).block ≠ _; rw [add_block]; exact hn308_0) | exact hn308_0) (.int .i64 ((rd_T60 t301 x7_2).f0.f0))).trans hx308_1; replace hx308_2 := (cell_far (p := ⟨gb307, 0, none⟩) (by first | (rw [add_block]; exact hn308_0) | (show (Addr.add _ _).block ≠ _; rw [add_block]; exact hn308_0) | exact hn308_0) (.int .i64 ((rd_T60 t301 x7_2).f0.f0))).trans hx308_2; replace hx308_3 := (cell_far (p := ⟨gb307, 0, none⟩) (by first | (rw [add_block]; exact hn308_0) | (show (Addr.add _ _).block ≠ _; rw [add_block]; exact hn308_0) | exact hn308_0) (.int .i64 ((rd_T60 t301 x7_2).f0.f0))).trans hx308_3; replace hx308_0 := (cell_far (p := ⟨gb307, 1, none⟩) (by first | (rw [add_block]; exact hn308_1) | (show (Addr.add _ _).block ≠ _; rw [add_block]; exact hn308_1) | exact hn308_1) (.int .i64 ((rd_T60 t301 x7_2).f0.f1))).trans hx308_0; replace hx308_1 := (cell_far (p := ⟨gb307, 1, none⟩) (by first | (rw [add_block]; exact hn308_1) | (show (Addr.add _ _).block ≠ _; rw [add_block]; exact hn308_1) | exact hn308_1) (.int .i64 ((rd_T60 t301 x7_2).f0.f1))).trans hx308_1; replace hx308_2 := (cell_far (p := ⟨gb307, 1, none⟩) (by first | (rw [add_block]; exact hn308_1) | (show (Addr.add _ _).block ≠ _; rw [add_block]; exact hn308_1) | exact hn308_1) (.int .i64 ((rd_T60 t301 x7_2).f0.f1))).trans hx308_2; replace hx308_3 := (cell_far (p := ⟨gb307, 1, none⟩) (by first | (rw [add_block]; exact hn308_1) | (show (Addr.add _ _).block ≠ _; rw [add_block]; exact hn308_1) | exact hn308_1) (.int .i64 ((rd_T60 t301 x7_2).f0.f1))).trans hx308_3; clear hn308_0; clear hn308_1; replace p308 := eq_true p308; replace q308 := eq_true q308) | ((with_reducible refine gate_dst (N := 9) rfl ?_); refine Hd.box_ 9 (#[.int .i64 0, .int .i64 0]) 27 ?_; intro gb309 hg w141 hbox hb; replace HO_6 := Aside0.mk (Kd.R_below (by (with_reducible repeat (first | apply Kd.R_alloc | apply Kd.R_drewN | apply Kd.R_drew)); exact (Kd.R_mono (Kd.R_far (p := ⟨gb307, 1, none⟩) (Kd.R_far (p := ⟨gb307, 0, none⟩) (Kd.R_types HO_6.out BK307.out (by decide)) (fun _ hk => hk.2) (.int .i64 ((rd_T60 t301 x7_2).f0.f0))) (fun _ hk => hk.2) (.int .i64 ((rd_T60 t301 x7_2).f0.f1))) (fun _ h_ => h_.1))) hb); have BK309 := Aside0.mk (hbox); have GW309 := Aside0.mk ((Hd.g_ hg Hd.b_ : w.heap.size ≤ gb309)); have GE309 := Aside0.mk ((Hd.g_ hg Hd.b_ : w.heap.size ≤ gb309)); replace HB := Aside0.mk (below_step Hd.b_ hb); have NB298_309 := Aside0.mk ((by rw [hg]; exact Nat.ne_of_lt (blk_lt (g := gb298) (o := .cells #[.int .i64 a1_0, .int .i64 a1_1] 27 (0, 0)) (by (with_reducible repeat (first | refine blk_drewN ?_ _ | refine blk_drew ?_ | refine blk_alloc ?_ _)); refine blk_far ?_ NB298_307.out _; (with_reducible repeat (first | refine blk_drewN ?_ _ | refine blk_drew ?_ | refine blk_alloc ?_ _)); refine blk_far ?_ NB298_307.out _; (with_reducible repeat (first | refine blk_drewN ?_ _ | refine blk_drew ?_ | refine blk_alloc ?_ _)); exact BK298.out)) : gb298 ≠ gb309)); have NB309_298 := Aside0.mk ((by rw [hg]; exact Nat.ne_of_gt (blk_lt (g := gb298) (o := .cells #[.int .i64 a1_0, .int .i64 a1_1] 27 (0, 0)) (by (with_reducible repeat (first | refine blk_drewN ?_ _ | refine blk_drew ?_ | refine blk_alloc ?_ _)); refine blk_far ?_ NB298_307.out _; (with_reducible repeat (first | refine blk_drewN ?_ _ | refine blk_drew ?_ | refine blk_alloc ?_ _)); refine blk_far ?_ NB298_307.out _; (with_reducible repeat (first | refine blk_drewN ?_ _ | refine blk_drew ?_ | refine blk_alloc ?_ _)); exact BK298.out)) : gb309 ≠ gb298)); replace BK298 := Aside0.mk (blk_below (g := gb298) (o := .cells #[.int .i64 a1_0, .int .i64 a1_1] 27 (0, 0)) (by (with_reducible repeat (first | refine blk_drewN ?_ _ | refine blk_drew ?_ | refine blk_alloc ?_ _)); refine blk_far ?_ NB298_307.out _; (with_reducible repeat (first | refine blk_drewN ?_ _ | refine blk_drew ?_ | refine blk_alloc ?_ _)); refine blk_far ?_ NB298_307.out _; (with_reducible repeat (first | refine blk_drewN ?_ _ | refine blk_drew ?_ | refine blk_alloc ?_ _)); exact BK298.out) hb); have NB307_309 := Aside0.mk ((by rw [hg]; exact Nat.ne_of_lt (blk_lt (g := gb307) (o := .cells #[.int .i64 ((rd_T60 t301 x7_2).f0.f0), .int .i64 ((rd_T60 t301 x7_2).f0.f1)] 27 (0, 0)) (by (with_reducible repeat (first | refine blk_drewN ?_ _ | refine blk_drew ?_ | refine blk_alloc ?_ _)); refine blk_put (cs := #[.int .i64 ((rd_T60 t301 x7_2).f0.f0), .int .i64 0]) ?_ 1 _ rfl; (with_reducible repeat (first | refine blk_drewN ?_ _ | refine blk_drew ?_ | refine blk_alloc ?_ _)); refine blk_put (cs := #[.int .i64 0, .int .i64 0]) ?_ 0 _ rfl; (with_reducible repeat (first | refine blk_drewN ?_ _ | refine blk_drew ?_ | refine blk_alloc ?_ _)); exact BK307.out)) : gb307 ≠ gb309)); have NB309_307 := Aside0.mk ((by rw [hg]; exact Nat.ne_of_gt (blk_lt (g := gb307) (o := .cells #[.int .i64 ((rd_T60 t301 x7_2).f0.f0), .int .i64 ((rd_T60 t301 x7_2).f0.f1)] 27 (0, 0)) (by (with_reducible repeat (first | refine blk_drewN ?_ _ | refine blk_drew ?_ | refine blk_alloc ?_ _)); refine blk_put (cs := #[.int .i64 ((rd_T60 t301 x7_2).f0.f0), .int .i64 0]) ?_ 1 _ rfl; (with_reducible repeat (first | refine blk_drewN ?_ _ | refine blk_drew ?_ | refine blk_alloc ?_ _)); refine blk_put (cs := #[.int .i64 0, .int .i64 0]) ?_ 0 _ rfl; (with_reducible repeat (first | refine blk_drewN ?_ _ | refine blk_drew ?_ | refine blk_alloc ?_ _)); exact BK307.out)) : gb309 ≠ gb307)); replace BK307 := Aside0.mk (blk_below (g := gb307) (o := .cells #[.int .i64 ((rd_T60 t301 x7_2).f0.f0), .int .i64 ((rd_T60 t301 x7_2).f0.f1)] 27 (0, 0)) (by (with_reducible repeat (first | refine blk_drewN ?_ _ | refine blk_drew ?_ | refine blk_alloc ?_ _)); refine blk_put (cs := #[.int .i64 ((rd_T60 t301 x7_2).f0.f0), .int .i64 0]) ?_ 1 _ rfl; (with_reducible repeat (first | refine blk_drewN ?_ _ | refine blk_drew ?_ | refine blk_alloc ?_ _)); refine blk_put (cs := #[.int .i64 0, .int .i64 0]) ?_ 0 _ rfl; (with_reducible repeat (first | refine blk_drewN ?_ _ | refine blk_drew ?_ | refine blk_alloc ?_ _)); exact BK307.out) hb); clear hb hbox hg; have hnb142 := NB309_298.out; have hnc142 := NB298_309.out; have hnb143 := NB309_307.out; have hnc143 := NB307_309.out; obtain ⟨hcz144_0, hcz144_1⟩ := Hd.c2_ BK309.out; obtain ⟨hfz144_0, hfz144_1⟩ := Hd.f2_ BK309.out; obtain ⟨hcz145_0, hcz145_1⟩ := Hd.c2_ BK307.out; obtain ⟨hfz145_0, hfz145_1⟩ := Hd.f2_ BK307.out; obtain ⟨hcz146_0, hcz146_1⟩ := Hd.c2_ BK298.out; obtain ⟨hfz146_0, hfz146_1⟩ := Hd.f2_ BK298.out))
          go_roundg k2
          case measure => have := HJ2.out; have := HK2.out; omega
          case rel => exact ⟨(x5_2), (wrap64 (x7_2 + 1)), (by first | rfl | (simp; done) | (simp [*]; done)), (by first | rfl | (simp; done) | (simp [*]; done)), H', ⟨by have := HJ2.out; have := HK2.out; omega⟩, ⟨by (with_reducible repeat (first | apply Kd.R_alloc | apply Kd.R_drewN | apply Kd.R_drew)); exact Kd.R_mono (Kd.R_far (p := ⟨gb309, 1, none⟩) (Kd.R_far (p := ⟨gb309, 0, none⟩) (Kd.R_types HO_6.out BK309.out (by decide)) (fun _ hk => hk.2) (.int .i64 ((rd_T60 t301 x7_2).f1.f0))) (fun _ hk => hk.2) (.int .i64 ((rd_T60 t301 x7_2).f1.f1))) (fun _ hk => trivial)⟩, ⟨by (with_reducible repeat (first | refine blk_drewN ?_ _ | refine blk_drew ?_ | refine blk_alloc ?_ _)); refine blk_far ?_ NB298_309.out _; (with_reducible repeat (first | refine blk_drewN ?_ _ | refine blk_drew ?_ | refine blk_alloc ?_ _)); refine blk_far ?_ NB298_309.out _; (with_reducible repeat (first | refine blk_drewN ?_ _ | refine blk_drew ?_ | refine blk_alloc ?_ _)); exact BK298.out⟩, ⟨Hd.b_⟩⟩
       ·
        rw [if_neg c16] at H
        exact absurd H (by simp)
      ·
       rw [if_neg c15] at H
       have c15b0 : decide (x7_2 < (t301.length : Int)) = false := decide_eq_false c15
       clear c15
       obtain rfl := Option.some.inj H
       obtain ⟨Ao147, co147, eo147⟩ := Kd.R_slice HO_6.out
       subst eo147
       go_wp2
       go_ret
       exact ⟨Hd.e_, Hd.b_⟩

end Go.Proofs.Ytchmbcembbbplab.MFnExactIsInside
