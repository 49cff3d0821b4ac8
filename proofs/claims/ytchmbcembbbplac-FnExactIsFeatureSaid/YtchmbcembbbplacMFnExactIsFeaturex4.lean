-- Laid by this session's program pp.py, after the kit's print and texts of the session's own. Not trusted: Lean checks it.
import Derived.Test.YtchmbcembbbplacMFnExactIsFeaturex0
import Derived.Test.YtchmbcembbbplacMFnExactIsFeaturex2
import Derived.Test.YtchmbcembbbplacMFnExactIsFeaturex3
namespace Go.Proofs.Ytchmbcembbbplac.MFnExactIsFeature
open Go.RowKit Go.Proofs.YtchmbcembbbplacW.PrintWords Go.Proofs.YtchmbcembbbplacW.PrintLast Go.Proofs.YtchmbcembbbplacW.PrintMore
attribute [local go_sem] max2_int min2_int max_two min_two max_three min_three max_four min_four   -- for this text's walks alone
set_option linter.unusedVariables false
set_option linter.unusedSimpArgs false

/-! ### spec_SideOf: function 158 -/
def spec_SideOf.j0 : Nat → Bool → Int → Int → Int → Int → Int → Int → Option (Int)
 | 0, _, _, _, _, _, _, _ => none
 | k + 1, x20, x144000, x144001, x145000, x145001, x146000, x146001 => if x20 = true then (some 0) else ((spec_l4Cross.f x144000 x144001 x145000 x145001 x146000 x146001).bind fun t149 => (if t149 > 0 then (some 1) else (if t149 < 0 then (some (-1)) else (some 0))))
def spec_SideOf.f (k : Nat) (a0_0 : Int) (a0_1 : Int) (a1_0 : Int) (a1_1 : Int) (a2_0 : Int) (a2_1 : Int) : Option (Int) := (spec_IsPoint.f a0_0 a0_1).bind fun t146 => (if t146 = true then ((spec_IsPoint.f a1_0 a1_1).bind fun t147 => (if t147 = true then ((spec_IsPoint.f a2_0 a2_1).bind fun t148 => (spec_SideOf.j0 k (!t148) a0_0 a0_1 a1_0 a1_1 a2_0 a2_1)) else (spec_SideOf.j0 k true a0_0 a0_1 a1_0 a1_1 a2_0 a2_1))) else (spec_SideOf.j0 k true a0_0 a0_1 a1_0 a1_1 a2_0 a2_1))
theorem spec_SideOf.mono_l : ∀ k, (∀ y0 y1 y2 y3 y4 y5 y6, LeO (spec_SideOf.j0 k y0 y1 y2 y3 y4 y5 y6) (spec_SideOf.j0 (k + 1) y0 y1 y2 y3 y4 y5 y6))
 | 0 => fun _ _ _ _ _ _ _ r h => by simp [spec_SideOf.j0] at h
 | k + 1 => by
  have ih0 := spec_SideOf.mono_l k
  ·
   intro y0 y1 y2 y3 y4 y5 y6
   unfold spec_SideOf.j0
   repeat' first
   | (with_reducible exact ih0 _ _ _ _ _ _ _)
   | (with_reducible exact LeO.refl _)
   | (with_reducible exact LeO.none _)
   | (with_reducible refine LeO.ite ?_ ?_)
   | (with_reducible refine LeO.bind ?_ (fun _ => ?_))
   | exact ih0 _ _ _ _ _ _ _
   | exact LeO.none _
   | refine LeO.ite ?_ ?_
   | refine LeO.bind ?_ (fun _ => ?_)
theorem spec_SideOf.mono : ∀ a0 a1 a2 a3 a4 a5 k, LeO (spec_SideOf.f k a0 a1 a2 a3 a4 a5) (spec_SideOf.f (k + 1) a0 a1 a2 a3 a4 a5) := by
 intro a0 a1 a2 a3 a4 a5 k
 have ih0 := spec_SideOf.mono_l k
 unfold spec_SideOf.f
 repeat' first
   | (with_reducible exact ih0 _ _ _ _ _ _ _)
   | (with_reducible exact LeO.refl _)
   | (with_reducible exact LeO.none _)
   | (with_reducible refine LeO.ite ?_ ?_)
   | (with_reducible refine LeO.bind ?_ (fun _ => ?_))
   | exact ih0 _ _ _ _ _ _ _
   | exact LeO.none _
   | refine LeO.ite ?_ ?_
   | refine LeO.bind ?_ (fun _ => ?_)
set_option maxHeartbeats 8000000 in
set_option maxRecDepth 100000 in
theorem spec_SideOf.calls (k : Nat) (a0_0 : Int) (a0_1 : Int) (a1_0 : Int) (a1_1 : Int) (a2_0 : Int) (a2_1 : Int) (r : Int) (w : World) (h : spec_SideOf.f k a0_0 a0_1 a1_0 a1_1 a2_0 a2_1 = some r) :
  Calls Try.prog 158 #[.agg #[.int .i64 a0_0, .int .i64 a0_1], .agg #[.int .i64 a1_0, .int .i64 a1_1], .agg #[.int .i64 a2_0, .int .i64 a2_1]] w fun e w' => e = .returned (.int .i64 r) ∧ Below w.heap.size w w' := by
 have hu49 := Try.underlying49
 have HB := Aside0.mk (Below.refl w.heap.size w)
 have H : ((spec_IsPoint.f a0_0 a0_1).bind fun t146 => (if t146 = true then ((spec_IsPoint.f a1_0 a1_1).bind fun t147 => (if t147 = true then ((spec_IsPoint.f a2_0 a2_1).bind fun t148 => (spec_SideOf.j0 k (!t148) a0_0 a0_1 a1_0 a1_1 a2_0 a2_1)) else (spec_SideOf.j0 k true a0_0 a0_1 a1_0 a1_1 a2_0 a2_1))) else (spec_SideOf.j0 k true a0_0 a0_1 a1_0 a1_1 a2_0 a2_1))) = some r := h
 clear h
 have HC4 := Aside0.mk H
 clear H
 go_enter Try.func158, Try.ntmps158
 go_upto_region 1 with (first | ((with_reducible refine gate_dst (N := 3) rfl ?_); refine Hd.box_ 3 (#[.int .i64 a0_0, .int .i64 a0_1]) 49 ?_; intro gb143 hg w5 hbox hb; have BK143 := Aside0.mk (hbox); have GW143 := Aside0.mk ((Hd.g_ hg Hd.b_ : w.heap.size ≤ gb143)); have GE143 := Aside0.mk ((Hd.g_ hg Hd.b_ : w.heap.size ≤ gb143)); replace HB := Aside0.mk (below_step Hd.b_ hb); clear hb hbox hg) | ((with_reducible refine gate_dst (N := 4) rfl ?_); refine Hd.box_ 4 (#[.int .i64 a1_0, .int .i64 a1_1]) 49 ?_; intro gb144 hg w6 hbox hb; have BK144 := Aside0.mk (hbox); have GW144 := Aside0.mk ((Hd.g_ hg Hd.b_ : w.heap.size ≤ gb144)); have GE144 := Aside0.mk ((Hd.g_ hg Hd.b_ : w.heap.size ≤ gb144)); replace HB := Aside0.mk (below_step Hd.b_ hb); have NB143_144 := Aside0.mk ((Hd.lt_ BK143 hg)); have NB144_143 := Aside0.mk ((Hd.gt_ BK143 hg)); replace BK143 := Aside0.mk (Hd.kb_ BK143 hb); clear hb hbox hg) | ((with_reducible refine gate_dst (N := 5) rfl ?_); refine Hd.box_ 5 (#[.int .i64 a2_0, .int .i64 a2_1]) 49 ?_; intro gb145 hg w7 hbox hb; have BK145 := Aside0.mk (hbox); have GW145 := Aside0.mk ((Hd.g_ hg Hd.b_ : w.heap.size ≤ gb145)); have GE145 := Aside0.mk ((Hd.g_ hg Hd.b_ : w.heap.size ≤ gb145)); replace HB := Aside0.mk (below_step Hd.b_ hb); have NB143_145 := Aside0.mk ((Hd.lt_ BK143 hg)); have NB145_143 := Aside0.mk ((Hd.gt_ BK143 hg)); replace BK143 := Aside0.mk (Hd.kb_ BK143 hb); have NB144_145 := Aside0.mk ((Hd.lt_ BK144 hg)); have NB145_144 := Aside0.mk ((Hd.gt_ BK144 hg)); replace BK144 := Aside0.mk (Hd.kb_ BK144 hb); clear hb hbox hg))
 (try simp only [Act.put, List.setIfInBounds_toArray, List.set_cons_zero, List.set_cons_succ])
 go_cut [20] (fun v20 wc => ∃ (kq : Nat) (x20_3 : Bool), v20 = .bool x20_3 ∧ Aside0 (spec_SideOf.j0 kq x20_3 a0_0 a0_1 a1_0 a1_1 a2_0 a2_1 = some r) ∧ Aside0 (kq ≤ k) ∧ Aside0 (wc.heap[gb143]? = some (.cells #[.int .i64 a0_0, .int .i64 a0_1] 49 (0, 0))) ∧ Aside0 (wc.heap[gb144]? = some (.cells #[.int .i64 a1_0, .int .i64 a1_1] 49 (0, 0))) ∧ Aside0 (wc.heap[gb145]? = some (.cells #[.int .i64 a2_0, .int .i64 a2_1] 49 (0, 0))) ∧ Aside0 (Below w.heap.size w wc))
 case first =>
  have H := HC4.out
  clear HC4
  replace H := Option.bind_eq_some_iff.mp H
  obtain ⟨t146, A80, H⟩ := H
  replace H : (if t146 = true then ((spec_IsPoint.f a1_0 a1_1).bind fun t147 => (if t147 = true then ((spec_IsPoint.f a2_0 a2_1).bind fun t148 => (spec_SideOf.j0 k (!t148) a0_0 a0_1 a1_0 a1_1 a2_0 a2_1)) else (spec_SideOf.j0 k true a0_0 a0_1 a1_0 a1_1 a2_0 a2_1))) else (spec_SideOf.j0 k true a0_0 a0_1 a1_0 a1_1 a2_0 a2_1)) = some r := H
  have A8 := Aside0.mk A80
  clear A80
  by_cases c9 : t146 = true
  ·
   subst c9
   have H1 : ((spec_IsPoint.f a1_0 a1_1).bind fun t147 => (if t147 = true then ((spec_IsPoint.f a2_0 a2_1).bind fun t148 => (spec_SideOf.j0 k (!t148) a0_0 a0_1 a1_0 a1_1 a2_0 a2_1)) else (spec_SideOf.j0 k true a0_0 a0_1 a1_0 a1_1 a2_0 a2_1))) = some r := by rw [if_pos rfl] at H; exact H
   clear H
   have H := H1
   clear H1
   replace H := Option.bind_eq_some_iff.mp H
   obtain ⟨t147, A100, H⟩ := H
   replace H : (if t147 = true then ((spec_IsPoint.f a2_0 a2_1).bind fun t148 => (spec_SideOf.j0 k (!t148) a0_0 a0_1 a1_0 a1_1 a2_0 a2_1)) else (spec_SideOf.j0 k true a0_0 a0_1 a1_0 a1_1 a2_0 a2_1)) = some r := H
   have A10 := Aside0.mk A100
   clear A100
   by_cases c11 : t147 = true
   ·
    subst c11
    have H1 : ((spec_IsPoint.f a2_0 a2_1).bind fun t148 => (spec_SideOf.j0 k (!t148) a0_0 a0_1 a1_0 a1_1 a2_0 a2_1)) = some r := by rw [if_pos rfl] at H; exact H
    clear H
    have H := H1
    clear H1
    replace H := Option.bind_eq_some_iff.mp H
    obtain ⟨t148, A120, H⟩ := H
    replace H : (spec_SideOf.j0 k (!t148) a0_0 a0_1 a1_0 a1_1 a2_0 a2_1) = some r := H
    have A12 := Aside0.mk A120
    clear A120
    have H' := Aside0.mk H
    clear H
    have hnb13 := NB143_144.out
    have hnc13 := NB144_143.out
    have hnb14 := NB143_145.out
    have hnc14 := NB145_143.out
    obtain ⟨hcz15_0, hcz15_1⟩ := Hd.c2_ BK143.out
    obtain ⟨hfz15_0, hfz15_1⟩ := Hd.f2_ BK143.out
    go_wp2_with (first | ((with_reducible refine gate_callee (f := 125) rfl ?_); refine goesL_ (some 9) rfl rfl Try.func125 (by kernel_rfl) rfl #[.agg #[.int .i64 a0_0, .int .i64 a0_1]] rfl Hd.m_ ?_; (with_reducible refine (spec_IsPoint.calls a0_0 a0_1 true _ A8.out).mono ?_); rintro e w16 ⟨rfl, hb⟩; refine ⟨_, rfl, ?_⟩; replace BK143 := Aside0.mk (Hd.kb_ BK143 hb); replace BK144 := Aside0.mk (Hd.kb_ BK144 hb); replace BK145 := Aside0.mk (Hd.kb_ BK145 hb); replace HB := Aside0.mk (below_step Hd.b_ hb); (try clear hb); (try clear hb2); (try clear hk); (try clear hi); have hnb17 := NB144_145.out; have hnc17 := NB145_144.out; obtain ⟨hcz18_0, hcz18_1⟩ := Hd.c2_ BK144.out; obtain ⟨hfz18_0, hfz18_1⟩ := Hd.f2_ BK144.out) | (go_at_call 125; (with_reducible refine (spec_IsPoint.calls a1_0 a1_1 true _ A10.out).mono ?_); rintro e w19 ⟨rfl, hb⟩; replace BK143 := Aside0.mk (Hd.kb_ BK143 hb); replace BK144 := Aside0.mk (Hd.kb_ BK144 hb); replace BK145 := Aside0.mk (Hd.kb_ BK145 hb); replace HB := Aside0.mk (below_step Hd.b_ hb); (try clear hb); (try clear hb2); (try clear hk); (try clear hi); obtain ⟨hcz20_0, hcz20_1⟩ := Hd.c2_ BK145.out; obtain ⟨hfz20_0, hfz20_1⟩ := Hd.f2_ BK145.out) | (go_at_call 125; (with_reducible refine (spec_IsPoint.calls a2_0 a2_1 t148 _ A12.out).mono ?_); rintro e w21 ⟨rfl, hb⟩; replace BK143 := Aside0.mk (Hd.kb_ BK143 hb); replace BK144 := Aside0.mk (Hd.kb_ BK144 hb); replace BK145 := Aside0.mk (Hd.kb_ BK145 hb); replace HB := Aside0.mk (below_step Hd.b_ hb); (try clear hb); (try clear hb2); (try clear hk); (try clear hi)))
    go_meet
    case rel => exact ⟨_, (!t148), (by first | rfl | (simp; done) | (simp [*]; done)), H', ⟨by first | omega | exact Nat.le_refl _⟩, ⟨by (with_reducible repeat (first | refine blk_drewN ?_ _ | refine blk_drew ?_ | refine blk_alloc ?_ _)); exact BK143.out⟩, ⟨by (with_reducible repeat (first | refine blk_drewN ?_ _ | refine blk_drew ?_ | refine blk_alloc ?_ _)); exact BK144.out⟩, ⟨by (with_reducible repeat (first | refine blk_drewN ?_ _ | refine blk_drew ?_ | refine blk_alloc ?_ _)); exact BK145.out⟩, ⟨Hd.b_⟩⟩
   ·
    replace c11 := Bool.eq_false_iff.mpr c11
    subst c11
    have H1 : (spec_SideOf.j0 k true a0_0 a0_1 a1_0 a1_1 a2_0 a2_1) = some r := by rw [if_neg (show ¬ (false = true) by decide)] at H; exact H
    clear H
    have H := H1
    clear H1
    have H' := Aside0.mk H
    clear H
    have hnb22 := NB143_144.out
    have hnc22 := NB144_143.out
    have hnb23 := NB143_145.out
    have hnc23 := NB145_143.out
    obtain ⟨hcz24_0, hcz24_1⟩ := Hd.c2_ BK143.out
    obtain ⟨hfz24_0, hfz24_1⟩ := Hd.f2_ BK143.out
    go_wp2_with (first | ((with_reducible refine gate_callee (f := 125) rfl ?_); refine goesL_ (some 9) rfl rfl Try.func125 (by kernel_rfl) rfl #[.agg #[.int .i64 a0_0, .int .i64 a0_1]] rfl Hd.m_ ?_; (with_reducible refine (spec_IsPoint.calls a0_0 a0_1 true _ A8.out).mono ?_); rintro e w25 ⟨rfl, hb⟩; refine ⟨_, rfl, ?_⟩; replace BK143 := Aside0.mk (Hd.kb_ BK143 hb); replace BK144 := Aside0.mk (Hd.kb_ BK144 hb); replace BK145 := Aside0.mk (Hd.kb_ BK145 hb); replace HB := Aside0.mk (below_step Hd.b_ hb); (try clear hb); (try clear hb2); (try clear hk); (try clear hi); have hnb26 := NB144_145.out; have hnc26 := NB145_144.out; obtain ⟨hcz27_0, hcz27_1⟩ := Hd.c2_ BK144.out; obtain ⟨hfz27_0, hfz27_1⟩ := Hd.f2_ BK144.out) | (go_at_call 125; (with_reducible refine (spec_IsPoint.calls a1_0 a1_1 false _ A10.out).mono ?_); rintro e w28 ⟨rfl, hb⟩; replace BK143 := Aside0.mk (Hd.kb_ BK143 hb); replace BK144 := Aside0.mk (Hd.kb_ BK144 hb); replace BK145 := Aside0.mk (Hd.kb_ BK145 hb); replace HB := Aside0.mk (below_step Hd.b_ hb); (try clear hb); (try clear hb2); (try clear hk); (try clear hi)))
    go_meet
    case rel => exact ⟨_, (true), (by first | rfl | (simp; done) | (simp [*]; done)), H', ⟨by first | omega | exact Nat.le_refl _⟩, ⟨by (with_reducible repeat (first | refine blk_drewN ?_ _ | refine blk_drew ?_ | refine blk_alloc ?_ _)); exact BK143.out⟩, ⟨by (with_reducible repeat (first | refine blk_drewN ?_ _ | refine blk_drew ?_ | refine blk_alloc ?_ _)); exact BK144.out⟩, ⟨by (with_reducible repeat (first | refine blk_drewN ?_ _ | refine blk_drew ?_ | refine blk_alloc ?_ _)); exact BK145.out⟩, ⟨Hd.b_⟩⟩
  ·
   replace c9 := Bool.eq_false_iff.mpr c9
   subst c9
   have H1 : (spec_SideOf.j0 k true a0_0 a0_1 a1_0 a1_1 a2_0 a2_1) = some r := by rw [if_neg (show ¬ (false = true) by decide)] at H; exact H
   clear H
   have H := H1
   clear H1
   have H' := Aside0.mk H
   clear H
   have hnb29 := NB143_144.out
   have hnc29 := NB144_143.out
   have hnb30 := NB143_145.out
   have hnc30 := NB145_143.out
   obtain ⟨hcz31_0, hcz31_1⟩ := Hd.c2_ BK143.out
   obtain ⟨hfz31_0, hfz31_1⟩ := Hd.f2_ BK143.out
   go_wp2_with (first | ((with_reducible refine gate_callee (f := 125) rfl ?_); refine goesL_ (some 9) rfl rfl Try.func125 (by kernel_rfl) rfl #[.agg #[.int .i64 a0_0, .int .i64 a0_1]] rfl Hd.m_ ?_; (with_reducible refine (spec_IsPoint.calls a0_0 a0_1 false _ A8.out).mono ?_); rintro e w32 ⟨rfl, hb⟩; refine ⟨_, rfl, ?_⟩; replace BK143 := Aside0.mk (Hd.kb_ BK143 hb); replace BK144 := Aside0.mk (Hd.kb_ BK144 hb); replace BK145 := Aside0.mk (Hd.kb_ BK145 hb); replace HB := Aside0.mk (below_step Hd.b_ hb); (try clear hb); (try clear hb2); (try clear hk); (try clear hi)))
   go_meet
   case rel => exact ⟨_, (true), (by first | rfl | (simp; done) | (simp [*]; done)), H', ⟨by first | omega | exact Nat.le_refl _⟩, ⟨by (with_reducible repeat (first | refine blk_drewN ?_ _ | refine blk_drew ?_ | refine blk_alloc ?_ _)); exact BK143.out⟩, ⟨by (with_reducible repeat (first | refine blk_drewN ?_ _ | refine blk_drew ?_ | refine blk_alloc ?_ _)); exact BK144.out⟩, ⟨by (with_reducible repeat (first | refine blk_drewN ?_ _ | refine blk_drew ?_ | refine blk_alloc ?_ _)); exact BK145.out⟩, ⟨Hd.b_⟩⟩
 case rest =>
  clear HC4
  try clear c1
  try clear c2
  try clear p2
  try clear c3
  try clear c9
  try clear c11
  try clear c12
  try clear c13
  try clear c14
  try clear c15
  try clear c17
  try clear c22
  try clear c23
  try clear c26
  try clear c29
  try clear c30
  try clear hcz15_0
  try clear hcz15_1
  try clear hcz18_0
  try clear hcz18_1
  try clear hcz20_0
  try clear hcz20_1
  try clear hcz24_0
  try clear hcz24_1
  try clear hcz27_0
  try clear hcz27_1
  try clear hcz31_0
  try clear hcz31_1
  try clear hfz15_0
  try clear hfz15_1
  try clear hfz18_0
  try clear hfz18_1
  try clear hfz20_0
  try clear hfz20_1
  try clear hfz24_0
  try clear hfz24_1
  try clear hfz27_0
  try clear hfz27_1
  try clear hfz31_0
  try clear hfz31_1
  obtain ⟨kq, x20_3, rfl, HA, HJ3, BK143, BK144, BK145, HB⟩ := hcut
  cases kq with
  | zero => exact absurd HA.out (by simp [spec_SideOf.j0])
  | succ kj3 =>
   have H := HA.out
   clear HA
   simp only [spec_SideOf.j0] at H
   by_cases c33 : x20_3 = true
   ·
    subst c33
    have H1 : (some 0) = some r := by rw [if_pos rfl] at H; exact H
    clear H
    have H := H1
    clear H1
    obtain rfl := Option.some.inj H
    go_wp2
    go_ret
    exact ⟨Hd.e_, Hd.b_⟩
   ·
    replace c33 := Bool.eq_false_iff.mpr c33
    subst c33
    have H1 : ((spec_l4Cross.f a0_0 a0_1 a1_0 a1_1 a2_0 a2_1).bind fun t149 => (if t149 > 0 then (some 1) else (if t149 < 0 then (some (-1)) else (some 0)))) = some r := by rw [if_neg (show ¬ (false = true) by decide)] at H; exact H
    clear H
    have H := H1
    clear H1
    replace H := Option.bind_eq_some_iff.mp H
    obtain ⟨t149, A340, H⟩ := H
    replace H : (if t149 > 0 then (some 1) else (if t149 < 0 then (some (-1)) else (some 0))) = some r := H
    have A34 := Aside0.mk A340
    clear A340
    by_cases c35 : t149 > 0
    ·
     rw [if_pos c35] at H
     have c35b0 : decide (0 < t149) = true := decide_eq_true c35
     clear c35
     obtain rfl := Option.some.inj H
     have hnb36 := NB143_144.out
     have hnc36 := NB144_143.out
     have hnb37 := NB143_145.out
     have hnc37 := NB145_143.out
     obtain ⟨hcz38_0, hcz38_1⟩ := Hd.c2_ BK143.out
     obtain ⟨hfz38_0, hfz38_1⟩ := Hd.f2_ BK143.out
     have hnb39 := NB144_145.out
     have hnc39 := NB145_144.out
     obtain ⟨hcz40_0, hcz40_1⟩ := Hd.c2_ BK144.out
     obtain ⟨hfz40_0, hfz40_1⟩ := Hd.f2_ BK144.out
     obtain ⟨hcz41_0, hcz41_1⟩ := Hd.c2_ BK145.out
     obtain ⟨hfz41_0, hfz41_1⟩ := Hd.f2_ BK145.out
     go_wp2_with (first | ((with_reducible refine gate_callee (f := 155) rfl ?_); refine goesL_ (some 24) rfl rfl Try.func155 (by kernel_rfl) rfl #[.agg #[.int .i64 a0_0, .int .i64 a0_1], .agg #[.int .i64 a1_0, .int .i64 a1_1], .agg #[.int .i64 a2_0, .int .i64 a2_1]] rfl Hd.m_ ?_; (with_reducible refine (spec_l4Cross.calls a0_0 a0_1 a1_0 a1_1 a2_0 a2_1 t149 _ A34.out).mono ?_); rintro e w42 ⟨rfl, hb⟩; refine ⟨_, rfl, ?_⟩; replace BK143 := Aside0.mk (Hd.kb_ BK143 hb); replace BK144 := Aside0.mk (Hd.kb_ BK144 hb); replace BK145 := Aside0.mk (Hd.kb_ BK145 hb); replace HB := Aside0.mk (below_step Hd.b_ hb); (try clear hb); (try clear hb2); (try clear hk); (try clear hi)))
     go_ret
     exact ⟨Hd.e_, Hd.b_⟩
    ·
     rw [if_neg c35] at H
     have c35b0 : decide (0 < t149) = false := decide_eq_false c35
     clear c35
     by_cases c43 : t149 < 0
     ·
      rw [if_pos c43] at H
      have c43b0 : decide (t149 < 0) = true := decide_eq_true c43
      clear c43
      obtain rfl := Option.some.inj H
      have hnb44 := NB143_144.out
      have hnc44 := NB144_143.out
      have hnb45 := NB143_145.out
      have hnc45 := NB145_143.out
      obtain ⟨hcz46_0, hcz46_1⟩ := Hd.c2_ BK143.out
      obtain ⟨hfz46_0, hfz46_1⟩ := Hd.f2_ BK143.out
      have hnb47 := NB144_145.out
      have hnc47 := NB145_144.out
      obtain ⟨hcz48_0, hcz48_1⟩ := Hd.c2_ BK144.out
      obtain ⟨hfz48_0, hfz48_1⟩ := Hd.f2_ BK144.out
      obtain ⟨hcz49_0, hcz49_1⟩ := Hd.c2_ BK145.out
      obtain ⟨hfz49_0, hfz49_1⟩ := Hd.f2_ BK145.out
      go_wp2_with (first | ((with_reducible refine gate_callee (f := 155) rfl ?_); refine goesL_ (some 24) rfl rfl Try.func155 (by kernel_rfl) rfl #[.agg #[.int .i64 a0_0, .int .i64 a0_1], .agg #[.int .i64 a1_0, .int .i64 a1_1], .agg #[.int .i64 a2_0, .int .i64 a2_1]] rfl Hd.m_ ?_; (with_reducible refine (spec_l4Cross.calls a0_0 a0_1 a1_0 a1_1 a2_0 a2_1 t149 _ A34.out).mono ?_); rintro e w50 ⟨rfl, hb⟩; refine ⟨_, rfl, ?_⟩; replace BK143 := Aside0.mk (Hd.kb_ BK143 hb); replace BK144 := Aside0.mk (Hd.kb_ BK144 hb); replace BK145 := Aside0.mk (Hd.kb_ BK145 hb); replace HB := Aside0.mk (below_step Hd.b_ hb); (try clear hb); (try clear hb2); (try clear hk); (try clear hi)))
      go_ret
      exact ⟨Hd.e_, Hd.b_⟩
     ·
      rw [if_neg c43] at H
      have c43b0 : decide (t149 < 0) = false := decide_eq_false c43
      clear c43
      obtain rfl := Option.some.inj H
      have hnb51 := NB143_144.out
      have hnc51 := NB144_143.out
      have hnb52 := NB143_145.out
      have hnc52 := NB145_143.out
      obtain ⟨hcz53_0, hcz53_1⟩ := Hd.c2_ BK143.out
      obtain ⟨hfz53_0, hfz53_1⟩ := Hd.f2_ BK143.out
      have hnb54 := NB144_145.out
      have hnc54 := NB145_144.out
      obtain ⟨hcz55_0, hcz55_1⟩ := Hd.c2_ BK144.out
      obtain ⟨hfz55_0, hfz55_1⟩ := Hd.f2_ BK144.out
      obtain ⟨hcz56_0, hcz56_1⟩ := Hd.c2_ BK145.out
      obtain ⟨hfz56_0, hfz56_1⟩ := Hd.f2_ BK145.out
      go_wp2_with (first | ((with_reducible refine gate_callee (f := 155) rfl ?_); refine goesL_ (some 24) rfl rfl Try.func155 (by kernel_rfl) rfl #[.agg #[.int .i64 a0_0, .int .i64 a0_1], .agg #[.int .i64 a1_0, .int .i64 a1_1], .agg #[.int .i64 a2_0, .int .i64 a2_1]] rfl Hd.m_ ?_; (with_reducible refine (spec_l4Cross.calls a0_0 a0_1 a1_0 a1_1 a2_0 a2_1 t149 _ A34.out).mono ?_); rintro e w57 ⟨rfl, hb⟩; refine ⟨_, rfl, ?_⟩; replace BK143 := Aside0.mk (Hd.kb_ BK143 hb); replace BK144 := Aside0.mk (Hd.kb_ BK144 hb); replace BK145 := Aside0.mk (Hd.kb_ BK145 hb); replace HB := Aside0.mk (below_step Hd.b_ hb); (try clear hb); (try clear hb2); (try clear hk); (try clear hi)))
      go_ret
      exact ⟨Hd.e_, Hd.b_⟩

/-! ### spec_HowMeet: function 129 -/
mutual
def spec_HowMeet.j0 : Nat → Bool → Int → Int → Int → Int → Int → Int → Int → Int → Option (Int)
 | 0, _, _, _, _, _, _, _, _, _ => none
 | k + 1, x12, x151000, x151001, x151002, x151003, x152000, x152001, x152002, x152003 => if x12 = true then (some 0) else ((spec_Max.f x151000 x151002).bind fun t154 => ((spec_Min.f x152000 x152002).bind fun t155 => (if t154 < t155 then (spec_HowMeet.j1 k true x151000 x151001 x151002 x151003 x152000 x152001 x152002 x152003) else ((spec_Max.f x152000 x152002).bind fun t156 => ((spec_Min.f x151000 x151002).bind fun t157 => (if t156 < t157 then (spec_HowMeet.j1 k true x151000 x151001 x151002 x151003 x152000 x152001 x152002 x152003) else ((spec_Max.f x151001 x151003).bind fun t158 => ((spec_Min.f x152001 x152003).bind fun t159 => (if t158 < t159 then (spec_HowMeet.j1 k true x151000 x151001 x151002 x151003 x152000 x152001 x152002 x152003) else ((spec_Max.f x152001 x152003).bind fun t160 => ((spec_Min.f x151001 x151003).bind fun t161 => (spec_HowMeet.j1 k (decide (t160 < t161)) x151000 x151001 x151002 x151003 x152000 x152001 x152002 x152003))))))))))))
def spec_HowMeet.j1 : Nat → Bool → Int → Int → Int → Int → Int → Int → Int → Int → Option (Int)
 | 0, _, _, _, _, _, _, _, _, _ => none
 | k + 1, x78, x151000, x151001, x151002, x151003, x152000, x152001, x152002, x152003 => if x78 = true then (some 0) else ((spec_l5Shared.f k x151000 x151001 x151002 x151003 x152000 x152001 x152002 x152003).bind fun t162 => (if t162 = 0 then ((spec_SideOf.f k x151000 x151001 x151002 x151003 x152000 x152001).bind fun t163 => ((spec_SideOf.f k x151000 x151001 x151002 x151003 x152002 x152003).bind fun t164 => (if (wrap64 (t163 * t164)) < 0 then ((spec_SideOf.f k x152000 x152001 x152002 x152003 x151000 x151001).bind fun t165 => ((spec_SideOf.f k x152000 x152001 x152002 x152003 x151002 x151003).bind fun t166 => (if (wrap64 (t165 * t166)) < 0 then (some 2) else (some 0)))) else (some 0)))) else (if t162 = 1 then (some 1) else (some 3))))
end
def spec_HowMeet.f (k : Nat) (a0_0 : Int) (a0_1 : Int) (a0_2 : Int) (a0_3 : Int) (a1_0 : Int) (a1_1 : Int) (a1_2 : Int) (a1_3 : Int) : Option (Int) := (spec_IsSegment.f a0_0 a0_1 a0_2 a0_3).bind fun t152 => (if t152 = true then ((spec_IsSegment.f a1_0 a1_1 a1_2 a1_3).bind fun t153 => (spec_HowMeet.j0 k (!t153) a0_0 a0_1 a0_2 a0_3 a1_0 a1_1 a1_2 a1_3)) else (spec_HowMeet.j0 k true a0_0 a0_1 a0_2 a0_3 a1_0 a1_1 a1_2 a1_3))
theorem spec_HowMeet.mono_l : ∀ k, (∀ y0 y1 y2 y3 y4 y5 y6 y7 y8, LeO (spec_HowMeet.j0 k y0 y1 y2 y3 y4 y5 y6 y7 y8) (spec_HowMeet.j0 (k + 1) y0 y1 y2 y3 y4 y5 y6 y7 y8)) ∧ (∀ y0 y1 y2 y3 y4 y5 y6 y7 y8, LeO (spec_HowMeet.j1 k y0 y1 y2 y3 y4 y5 y6 y7 y8) (spec_HowMeet.j1 (k + 1) y0 y1 y2 y3 y4 y5 y6 y7 y8))
 | 0 => ⟨fun _ _ _ _ _ _ _ _ _ r h => by simp [spec_HowMeet.j0] at h, fun _ _ _ _ _ _ _ _ _ r h => by simp [spec_HowMeet.j1] at h⟩
 | k + 1 => by
  obtain ⟨ih0, ih1⟩ := spec_HowMeet.mono_l k
  refine ⟨?_, ?_⟩
  ·
   intro y0 y1 y2 y3 y4 y5 y6 y7 y8
   unfold spec_HowMeet.j0
   repeat' first
   | (with_reducible exact ih0 _ _ _ _ _ _ _ _ _)
   | (with_reducible exact ih1 _ _ _ _ _ _ _ _ _)
   | (with_reducible exact spec_SideOf.mono _ _ _ _ _ _ _)
   | (with_reducible exact spec_l5Shared.mono _ _ _ _ _ _ _ _ _)
   | (with_reducible exact LeO.refl _)
   | (with_reducible exact LeO.none _)
   | (with_reducible refine LeO.ite ?_ ?_)
   | (with_reducible refine LeO.bind ?_ (fun _ => ?_))
   | exact ih0 _ _ _ _ _ _ _ _ _
   | exact ih1 _ _ _ _ _ _ _ _ _
   | exact spec_SideOf.mono _ _ _ _ _ _ _
   | exact spec_l5Shared.mono _ _ _ _ _ _ _ _ _
   | exact LeO.none _
   | refine LeO.ite ?_ ?_
   | refine LeO.bind ?_ (fun _ => ?_)
  ·
   intro y0 y1 y2 y3 y4 y5 y6 y7 y8
   unfold spec_HowMeet.j1
   repeat' first
   | (with_reducible exact ih0 _ _ _ _ _ _ _ _ _)
   | (with_reducible exact ih1 _ _ _ _ _ _ _ _ _)
   | (with_reducible exact spec_SideOf.mono _ _ _ _ _ _ _)
   | (with_reducible exact spec_l5Shared.mono _ _ _ _ _ _ _ _ _)
   | (with_reducible exact LeO.refl _)
   | (with_reducible exact LeO.none _)
   | (with_reducible refine LeO.ite ?_ ?_)
   | (with_reducible refine LeO.bind ?_ (fun _ => ?_))
   | exact ih0 _ _ _ _ _ _ _ _ _
   | exact ih1 _ _ _ _ _ _ _ _ _
   | exact spec_SideOf.mono _ _ _ _ _ _ _
   | exact spec_l5Shared.mono _ _ _ _ _ _ _ _ _
   | exact LeO.none _
   | refine LeO.ite ?_ ?_
   | refine LeO.bind ?_ (fun _ => ?_)
theorem spec_HowMeet.mono : ∀ a0 a1 a2 a3 a4 a5 a6 a7 k, LeO (spec_HowMeet.f k a0 a1 a2 a3 a4 a5 a6 a7) (spec_HowMeet.f (k + 1) a0 a1 a2 a3 a4 a5 a6 a7) := by
 intro a0 a1 a2 a3 a4 a5 a6 a7 k
 obtain ⟨ih0, ih1⟩ := spec_HowMeet.mono_l k
 unfold spec_HowMeet.f
 repeat' first
   | (with_reducible exact ih0 _ _ _ _ _ _ _ _ _)
   | (with_reducible exact ih1 _ _ _ _ _ _ _ _ _)
   | (with_reducible exact spec_SideOf.mono _ _ _ _ _ _ _)
   | (with_reducible exact spec_l5Shared.mono _ _ _ _ _ _ _ _ _)
   | (with_reducible exact LeO.refl _)
   | (with_reducible exact LeO.none _)
   | (with_reducible refine LeO.ite ?_ ?_)
   | (with_reducible refine LeO.bind ?_ (fun _ => ?_))
   | exact ih0 _ _ _ _ _ _ _ _ _
   | exact ih1 _ _ _ _ _ _ _ _ _
   | exact spec_SideOf.mono _ _ _ _ _ _ _
   | exact spec_l5Shared.mono _ _ _ _ _ _ _ _ _
   | exact LeO.none _
   | refine LeO.ite ?_ ?_
   | refine LeO.bind ?_ (fun _ => ?_)
def spec_HowMeet.T3 : Bool × List (List Nat × List Nat) := (true, [([], []), ([0], [0]), ([1], [1]), ([], []), ([3], [3]), ([4], [4]), ([2, 5], [2, 5]), ([], []), ([7], [7]), ([8], [8]), ([], []), ([10], [10]), ([11], [11]), ([9, 12, 6], [9, 12]), ([6, 13], [6, 13]), ([14, 13], [14]), ([15], [15]), ([16, 15], [15, 16]), ([17, 15], [15, 17]), ([15], [15]), ([19, 15], [15, 19]), ([20, 15], [15, 20]), ([18, 21, 15, 15], [15, 18, 21]), ([15], [15]), ([23, 15], [15, 23]), ([24, 15], [15, 24]), ([15], [15]), ([26, 15], [15, 26]), ([27, 15], [15, 27]), ([25, 28, 22, 15], [15, 25, 28]), ([22, 29, 15], [15, 22, 29]), ([15, 30], [15, 30]), ([31, 29], [31]), ([32], [32]), ([33, 32], [32, 33]), ([34, 32], [32, 34]), ([32], [32]), ([36, 32], [32, 36]), ([37, 32], [32, 37]), ([35, 38, 32, 32], [32, 35, 38]), ([32], [32]), ([40, 32], [32, 40]), ([41, 32], [32, 41]), ([32], [32]), ([43, 32], [32, 43]), ([44, 32], [32, 44]), ([42, 45, 39, 32], [32, 42, 45]), ([39, 46, 32], [32, 39, 46]), ([32, 47], [32, 47]), ([48, 46], [48]), ([49], [49]), ([50, 49], [49, 50]), ([51, 49], [49, 51]), ([49], [49]), ([53, 49], [49, 53]), ([54, 49], [49, 54]), ([52, 55, 49, 49], [49, 52, 55]), ([49], [49]), ([57, 49], [49, 57]), ([58, 49], [49, 58]), ([49], [49]), ([60, 49], [49, 60]), ([61, 49], [49, 61]), ([59, 62, 56, 49], [49, 59, 62]), ([56, 63, 49], [49, 56, 63]), ([49, 64], [49, 64])])
def spec_HowMeet.B3 : List Nat := [0, 1, 3, 0, 8, 24, 63, 0, 128, 384, 0, 1024, 3072, 8191, 16383, 32767, 65535, 131071, 262143, 65535, 589823, 1638399, 4194303, 65535, 8454143, 25231359, 65535, 67174399, 201392127, 536870911, 1073741823, 2147483647, 4294967295, 8589934591, 17179869183, 34359738367, 8589934591, 77309411327, 214748364799, 549755813887, 8589934591, 1108101562367, 3307124817919, 8589934591, 8804682956799, 26396869001215, 70368744177663, 140737488355327, 281474976710655, 562949953421311, 1125899906842623, 2251799813685247, 4503599627370495, 1125899906842623, 10133099161583615, 28147497671065599, 72057594037927935, 1125899906842623, 145241087982698495, 433471464134410239, 1125899906842623, 1154047404513689599, 3459890413727383551, 9223372036854775807, 18446744073709551615, 36893488147419103231]
theorem spec_HowMeet.tab3 : rtab .any (opsOf Try.f129 3) = spec_HowMeet.T3 := by kernel_rfl
theorem spec_HowMeet.bits3 : waitsOk spec_HowMeet.T3.2 spec_HowMeet.B3 = true := by kernel_rfl
def spec_HowMeet.T7 : Bool × List (List Nat × List Nat) := (true, [([], []), ([0], [0]), ([], []), ([2], [2]), ([], []), ([4], [4]), ([1, 3, 5], [1, 3, 5]), ([], []), ([7], [7]), ([], []), ([9], [9]), ([], []), ([11], [11]), ([8, 10, 12, 6], [8, 10, 12]), ([6, 13], [6, 13]), ([14], [14]), ([15, 13], [15]), ([16], [16]), ([17, 16], [16, 17]), ([16], [16]), ([19, 16], [16, 19]), ([16], [16]), ([21, 16], [16, 21]), ([18, 20, 22, 16, 16], [16, 18, 20, 22]), ([16], [16]), ([24, 16], [16, 24]), ([16], [16]), ([26, 16], [16, 26]), ([16], [16]), ([28, 16], [16, 28]), ([25, 27, 29, 23, 16], [16, 25, 27, 29]), ([23, 30, 16], [16, 23, 30]), ([31, 16], [16, 31]), ([16, 32], [16, 32])])
def spec_HowMeet.B7 : List Nat := [0, 1, 0, 4, 0, 16, 63, 0, 128, 0, 512, 0, 2048, 8191, 16383, 32767, 65535, 131071, 262143, 131071, 655359, 131071, 2228223, 8388607, 131071, 16908287, 131071, 67239935, 131071, 268566527, 1073741823, 2147483647, 4294967295, 8589934591]
theorem spec_HowMeet.tab7 : rtab .any (opsOf Try.f129 7) = spec_HowMeet.T7 := by kernel_rfl
theorem spec_HowMeet.bits7 : waitsOk spec_HowMeet.T7.2 spec_HowMeet.B7 = true := by kernel_rfl
set_option maxHeartbeats 8000000 in
set_option maxRecDepth 100000 in
theorem spec_HowMeet.calls (k : Nat) (a0_0 : Int) (a0_1 : Int) (a0_2 : Int) (a0_3 : Int) (a1_0 : Int) (a1_1 : Int) (a1_2 : Int) (a1_3 : Int) (r : Int) (w : World) (h : spec_HowMeet.f k a0_0 a0_1 a0_2 a0_3 a1_0 a1_1 a1_2 a1_3 = some r) :
  Calls Try.prog 129 #[.agg #[.int .i64 a0_0, .int .i64 a0_1, .int .i64 a0_2, .int .i64 a0_3], .agg #[.int .i64 a1_0, .int .i64 a1_1, .int .i64 a1_2, .int .i64 a1_3]] w fun e w' => e = .returned (.int .i64 r) ∧ Below w.heap.size w w' := by
 have hu111 := Try.underlying111
 have hu49 := Try.underlying49
 have HB := Aside0.mk (Below.refl w.heap.size w)
 have H : ((spec_IsSegment.f a0_0 a0_1 a0_2 a0_3).bind fun t152 => (if t152 = true then ((spec_IsSegment.f a1_0 a1_1 a1_2 a1_3).bind fun t153 => (spec_HowMeet.j0 k (!t153) a0_0 a0_1 a0_2 a0_3 a1_0 a1_1 a1_2 a1_3)) else (spec_HowMeet.j0 k true a0_0 a0_1 a0_2 a0_3 a1_0 a1_1 a1_2 a1_3))) = some r := h
 clear h
 have HC3 := Aside0.mk H
 clear H
 go_enter Try.func129, Try.ntmps129
 go_upto_region 1 with (first | ((with_reducible refine gate_dst (N := 2) rfl ?_); refine Hd.box_ 2 (#[.int .i64 a0_0, .int .i64 a0_1, .int .i64 a0_2, .int .i64 a0_3]) 111 ?_; intro gb150 hg w4 hbox hb; have BK150 := Aside0.mk (hbox); have GW150 := Aside0.mk ((Hd.g_ hg Hd.b_ : w.heap.size ≤ gb150)); have GE150 := Aside0.mk ((Hd.g_ hg Hd.b_ : w.heap.size ≤ gb150)); replace HB := Aside0.mk (below_step Hd.b_ hb); clear hb hbox hg) | ((with_reducible refine gate_dst (N := 3) rfl ?_); refine Hd.box_ 3 (#[.int .i64 a1_0, .int .i64 a1_1, .int .i64 a1_2, .int .i64 a1_3]) 111 ?_; intro gb151 hg w5 hbox hb; have BK151 := Aside0.mk (hbox); have GW151 := Aside0.mk ((Hd.g_ hg Hd.b_ : w.heap.size ≤ gb151)); have GE151 := Aside0.mk ((Hd.g_ hg Hd.b_ : w.heap.size ≤ gb151)); replace HB := Aside0.mk (below_step Hd.b_ hb); have NB150_151 := Aside0.mk ((Hd.lt_ BK150 hg)); have NB151_150 := Aside0.mk ((Hd.gt_ BK150 hg)); replace BK150 := Aside0.mk (Hd.kb_ BK150 hb); clear hb hbox hg))
 (try simp only [Act.put, List.setIfInBounds_toArray, List.set_cons_zero, List.set_cons_succ])
 go_cut [12] (fun v12 wc => ∃ (kq : Nat) (x12_2 : Bool), v12 = .bool x12_2 ∧ Aside0 (spec_HowMeet.j0 kq x12_2 a0_0 a0_1 a0_2 a0_3 a1_0 a1_1 a1_2 a1_3 = some r) ∧ Aside0 (kq ≤ k) ∧ Aside0 (wc.heap[gb150]? = some (.cells #[.int .i64 a0_0, .int .i64 a0_1, .int .i64 a0_2, .int .i64 a0_3] 111 (0, 0))) ∧ Aside0 (wc.heap[gb151]? = some (.cells #[.int .i64 a1_0, .int .i64 a1_1, .int .i64 a1_2, .int .i64 a1_3] 111 (0, 0))) ∧ Aside0 (Below w.heap.size w wc))
 case first =>
  have H := HC3.out
  clear HC3
  replace H := Option.bind_eq_some_iff.mp H
  obtain ⟨t152, A60, H⟩ := H
  replace H : (if t152 = true then ((spec_IsSegment.f a1_0 a1_1 a1_2 a1_3).bind fun t153 => (spec_HowMeet.j0 k (!t153) a0_0 a0_1 a0_2 a0_3 a1_0 a1_1 a1_2 a1_3)) else (spec_HowMeet.j0 k true a0_0 a0_1 a0_2 a0_3 a1_0 a1_1 a1_2 a1_3)) = some r := H
  have A6 := Aside0.mk A60
  clear A60
  by_cases c7 : t152 = true
  ·
   subst c7
   have H1 : ((spec_IsSegment.f a1_0 a1_1 a1_2 a1_3).bind fun t153 => (spec_HowMeet.j0 k (!t153) a0_0 a0_1 a0_2 a0_3 a1_0 a1_1 a1_2 a1_3)) = some r := by rw [if_pos rfl] at H; exact H
   clear H
   have H := H1
   clear H1
   replace H := Option.bind_eq_some_iff.mp H
   obtain ⟨t153, A80, H⟩ := H
   replace H : (spec_HowMeet.j0 k (!t153) a0_0 a0_1 a0_2 a0_3 a1_0 a1_1 a1_2 a1_3) = some r := H
   have A8 := Aside0.mk A80
   clear A80
   have H' := Aside0.mk H
   clear H
   have hnb9 := NB150_151.out
   have hnc9 := NB151_150.out
   obtain ⟨hcz10_0, hcz10_1, hcz10_2, hcz10_3⟩ := Hd.c4_ BK150.out
   obtain ⟨hfz10_0, hfz10_1, hfz10_2, hfz10_3⟩ := Hd.f4_ BK150.out
   go_wp2_with (first | ((with_reducible refine gate_callee (f := 137) rfl ?_); refine goesL_ (some 6) rfl rfl Try.func137 (by kernel_rfl) rfl #[.agg #[.int .i64 a0_0, .int .i64 a0_1, .int .i64 a0_2, .int .i64 a0_3]] rfl Hd.m_ ?_; (with_reducible refine (spec_IsSegment.calls a0_0 a0_1 a0_2 a0_3 true _ A6.out).mono ?_); rintro e w11 ⟨rfl, hb⟩; refine ⟨_, rfl, ?_⟩; replace BK150 := Aside0.mk (Hd.kb_ BK150 hb); replace BK151 := Aside0.mk (Hd.kb_ BK151 hb); replace HB := Aside0.mk (below_step Hd.b_ hb); (try clear hb); (try clear hb2); (try clear hk); (try clear hi); obtain ⟨hcz12_0, hcz12_1, hcz12_2, hcz12_3⟩ := Hd.c4_ BK151.out; obtain ⟨hfz12_0, hfz12_1, hfz12_2, hfz12_3⟩ := Hd.f4_ BK151.out) | (go_at_call 137; (with_reducible refine (spec_IsSegment.calls a1_0 a1_1 a1_2 a1_3 t153 _ A8.out).mono ?_); rintro e w13 ⟨rfl, hb⟩; replace BK150 := Aside0.mk (Hd.kb_ BK150 hb); replace BK151 := Aside0.mk (Hd.kb_ BK151 hb); replace HB := Aside0.mk (below_step Hd.b_ hb); (try clear hb); (try clear hb2); (try clear hk); (try clear hi)))
   go_meet
   case rel => exact ⟨_, (!t153), (by first | rfl | (simp; done) | (simp [*]; done)), H', ⟨by first | omega | exact Nat.le_refl _⟩, ⟨by (with_reducible repeat (first | refine blk_drewN ?_ _ | refine blk_drew ?_ | refine blk_alloc ?_ _)); exact BK150.out⟩, ⟨by (with_reducible repeat (first | refine blk_drewN ?_ _ | refine blk_drew ?_ | refine blk_alloc ?_ _)); exact BK151.out⟩, ⟨Hd.b_⟩⟩
  ·
   replace c7 := Bool.eq_false_iff.mpr c7
   subst c7
   have H1 : (spec_HowMeet.j0 k true a0_0 a0_1 a0_2 a0_3 a1_0 a1_1 a1_2 a1_3) = some r := by rw [if_neg (show ¬ (false = true) by decide)] at H; exact H
   clear H
   have H := H1
   clear H1
   have H' := Aside0.mk H
   clear H
   have hnb14 := NB150_151.out
   have hnc14 := NB151_150.out
   obtain ⟨hcz15_0, hcz15_1, hcz15_2, hcz15_3⟩ := Hd.c4_ BK150.out
   obtain ⟨hfz15_0, hfz15_1, hfz15_2, hfz15_3⟩ := Hd.f4_ BK150.out
   go_wp2_with (first | ((with_reducible refine gate_callee (f := 137) rfl ?_); refine goesL_ (some 6) rfl rfl Try.func137 (by kernel_rfl) rfl #[.agg #[.int .i64 a0_0, .int .i64 a0_1, .int .i64 a0_2, .int .i64 a0_3]] rfl Hd.m_ ?_; (with_reducible refine (spec_IsSegment.calls a0_0 a0_1 a0_2 a0_3 false _ A6.out).mono ?_); rintro e w16 ⟨rfl, hb⟩; refine ⟨_, rfl, ?_⟩; replace BK150 := Aside0.mk (Hd.kb_ BK150 hb); replace BK151 := Aside0.mk (Hd.kb_ BK151 hb); replace HB := Aside0.mk (below_step Hd.b_ hb); (try clear hb); (try clear hb2); (try clear hk); (try clear hi)))
   go_meet
   case rel => exact ⟨_, (true), (by first | rfl | (simp; done) | (simp [*]; done)), H', ⟨by first | omega | exact Nat.le_refl _⟩, ⟨by (with_reducible repeat (first | refine blk_drewN ?_ _ | refine blk_drew ?_ | refine blk_alloc ?_ _)); exact BK150.out⟩, ⟨by (with_reducible repeat (first | refine blk_drewN ?_ _ | refine blk_drew ?_ | refine blk_alloc ?_ _)); exact BK151.out⟩, ⟨Hd.b_⟩⟩
 case rest =>
  clear HC3
  try clear c1
  try clear p2
  try clear c7
  try clear c9
  try clear c12
  try clear c13
  try clear c14
  try clear hcz10_0
  try clear hcz10_1
  try clear hcz10_2
  try clear hcz10_3
  try clear hcz12_0
  try clear hcz12_1
  try clear hcz12_2
  try clear hcz12_3
  try clear hcz15_0
  try clear hcz15_1
  try clear hcz15_2
  try clear hcz15_3
  try clear hfz10_0
  try clear hfz10_1
  try clear hfz10_2
  try clear hfz10_3
  try clear hfz12_0
  try clear hfz12_1
  try clear hfz12_2
  try clear hfz12_3
  try clear hfz15_0
  try clear hfz15_1
  try clear hfz15_2
  try clear hfz15_3
  obtain ⟨kq, x12_2, rfl, HA, HJ2, BK150, BK151, HB⟩ := hcut
  cases kq with
  | zero => exact absurd HA.out (by simp [spec_HowMeet.j0])
  | succ kj2 =>
   have H := HA.out
   clear HA
   simp only [spec_HowMeet.j0] at H
   by_cases c17 : x12_2 = true
   ·
    subst c17
    have H1 : (some 0) = some r := by rw [if_pos rfl] at H; exact H
    clear H
    have H := H1
    clear H1
    obtain rfl := Option.some.inj H
    go_wp2
    go_ret
    exact ⟨Hd.e_, Hd.b_⟩
   ·
    replace c17 := Bool.eq_false_iff.mpr c17
    subst c17
    have H1 : ((spec_Max.f a0_0 a0_2).bind fun t154 => ((spec_Min.f a1_0 a1_2).bind fun t155 => (if t154 < t155 then (spec_HowMeet.j1 kj2 true a0_0 a0_1 a0_2 a0_3 a1_0 a1_1 a1_2 a1_3) else ((spec_Max.f a1_0 a1_2).bind fun t156 => ((spec_Min.f a0_0 a0_2).bind fun t157 => (if t156 < t157 then (spec_HowMeet.j1 kj2 true a0_0 a0_1 a0_2 a0_3 a1_0 a1_1 a1_2 a1_3) else ((spec_Max.f a0_1 a0_3).bind fun t158 => ((spec_Min.f a1_1 a1_3).bind fun t159 => (if t158 < t159 then (spec_HowMeet.j1 kj2 true a0_0 a0_1 a0_2 a0_3 a1_0 a1_1 a1_2 a1_3) else ((spec_Max.f a1_1 a1_3).bind fun t160 => ((spec_Min.f a0_1 a0_3).bind fun t161 => (spec_HowMeet.j1 kj2 (decide (t160 < t161)) a0_0 a0_1 a0_2 a0_3 a1_0 a1_1 a1_2 a1_3)))))))))))) = some r := by rw [if_neg (show ¬ (false = true) by decide)] at H; exact H
    clear H
    have H := H1
    clear H1
    have HC18 := Aside0.mk H
    clear H
    go_upto_region 3 with (fail)
    go_cut [78] (fun v78 wc => ∃ (kq : Nat) (x78_17 : Bool), v78 = .bool x78_17 ∧ Aside0 (spec_HowMeet.j1 kq x78_17 a0_0 a0_1 a0_2 a0_3 a1_0 a1_1 a1_2 a1_3 = some r) ∧ Aside0 (kq ≤ kj2) ∧ Aside0 (wc.heap[gb150]? = some (.cells #[.int .i64 a0_0, .int .i64 a0_1, .int .i64 a0_2, .int .i64 a0_3] 111 (0, 0))) ∧ Aside0 (wc.heap[gb151]? = some (.cells #[.int .i64 a1_0, .int .i64 a1_1, .int .i64 a1_2, .int .i64 a1_3] 111 (0, 0))) ∧ Aside0 (Below w.heap.size w wc))
    case first =>
     have H := HC18.out
     clear HC18
     replace H := Option.bind_eq_some_iff.mp H
     obtain ⟨t154, A190, H⟩ := H
     replace H : ((spec_Min.f a1_0 a1_2).bind fun t155 => (if t154 < t155 then (spec_HowMeet.j1 kj2 true a0_0 a0_1 a0_2 a0_3 a1_0 a1_1 a1_2 a1_3) else ((spec_Max.f a1_0 a1_2).bind fun t156 => ((spec_Min.f a0_0 a0_2).bind fun t157 => (if t156 < t157 then (spec_HowMeet.j1 kj2 true a0_0 a0_1 a0_2 a0_3 a1_0 a1_1 a1_2 a1_3) else ((spec_Max.f a0_1 a0_3).bind fun t158 => ((spec_Min.f a1_1 a1_3).bind fun t159 => (if t158 < t159 then (spec_HowMeet.j1 kj2 true a0_0 a0_1 a0_2 a0_3 a1_0 a1_1 a1_2 a1_3) else ((spec_Max.f a1_1 a1_3).bind fun t160 => ((spec_Min.f a0_1 a0_3).bind fun t161 => (spec_HowMeet.j1 kj2 (decide (t160 < t161)) a0_0 a0_1 a0_2 a0_3 a1_0 a1_1 a1_2 a1_3))))))))))) = some r := H
     have A19 := Aside0.mk A190
     clear A190
     replace H := Option.bind_eq_some_iff.mp H
     obtain ⟨t155, A200, H⟩ := H
     replace H : (if t154 < t155 then (spec_HowMeet.j1 kj2 true a0_0 a0_1 a0_2 a0_3 a1_0 a1_1 a1_2 a1_3) else ((spec_Max.f a1_0 a1_2).bind fun t156 => ((spec_Min.f a0_0 a0_2).bind fun t157 => (if t156 < t157 then (spec_HowMeet.j1 kj2 true a0_0 a0_1 a0_2 a0_3 a1_0 a1_1 a1_2 a1_3) else ((spec_Max.f a0_1 a0_3).bind fun t158 => ((spec_Min.f a1_1 a1_3).bind fun t159 => (if t158 < t159 then (spec_HowMeet.j1 kj2 true a0_0 a0_1 a0_2 a0_3 a1_0 a1_1 a1_2 a1_3) else ((spec_Max.f a1_1 a1_3).bind fun t160 => ((spec_Min.f a0_1 a0_3).bind fun t161 => (spec_HowMeet.j1 kj2 (decide (t160 < t161)) a0_0 a0_1 a0_2 a0_3 a1_0 a1_1 a1_2 a1_3)))))))))) = some r := H
     have A20 := Aside0.mk A200
     clear A200
     by_cases c21 : t154 < t155
     ·
      rw [if_pos c21] at H
      have c21b0 : decide (t154 < t155) = true := decide_eq_true c21
      clear c21
      (first | rw [c21b0] | (simp only [i64_w, i32_w]; rw [c21b0]) | skip)
      have H' := Aside0.mk H
      clear H
      try go_wp2
      replace BK150 := Aside0.mk (blk_drew BK150.out)
      replace BK151 := Aside0.mk (blk_drew BK151.out)
      replace HB := Aside0.mk (below_drew1 HB.out)
      have S_ : (fun w' : World => w'.cell? ⟨gb150, 0, none⟩ = some (.int .i64 a0_0) ∧ w'.cell? ⟨gb150, 1, none⟩ = some (.int .i64 a0_1) ∧ w'.cell? ⟨gb150, 2, none⟩ = some (.int .i64 a0_2) ∧ w'.cell? ⟨gb150, 3, none⟩ = some (.int .i64 a0_3) ∧ w'.cell? ⟨gb151, 0, none⟩ = some (.int .i64 a1_0) ∧ w'.cell? ⟨gb151, 1, none⟩ = some (.int .i64 a1_1) ∧ w'.cell? ⟨gb151, 2, none⟩ = some (.int .i64 a1_2) ∧ w'.cell? ⟨gb151, 3, none⟩ = some (.int .i64 a1_3)) wc.drew := ⟨(blk_cell BK150.out 0).trans rfl, (blk_cell BK150.out 1).trans rfl, (blk_cell BK150.out 2).trans rfl, (blk_cell BK150.out 3).trans rfl, (blk_cell BK151.out 0).trans rfl, (blk_cell BK151.out 1).trans rfl, (blk_cell BK151.out 2).trans rfl, (blk_cell BK151.out 3).trans rfl⟩
      obtain ⟨s0_, s1_, s2_, s3_, s4_, s5_, s6_, s7_⟩ := S_
      replace s0_ := fun q : Hd.HW wc.drew => q.cell s0_
      replace s1_ := fun q : Hd.HW wc.drew => q.cell s1_
      replace s2_ := fun q : Hd.HW wc.drew => q.cell s2_
      replace s3_ := fun q : Hd.HW wc.drew => q.cell s3_
      replace s4_ := fun q : Hd.HW wc.drew => q.cell s4_
      replace s5_ := fun q : Hd.HW wc.drew => q.cell s5_
      replace s6_ := fun q : Hd.HW wc.drew => q.cell s6_
      replace s7_ := fun q : Hd.HW wc.drew => q.cell s7_
      refine Hd.HW.region (by kernel_rfl) (by kernel_rfl) ?_
      try dsimp only [List.append]
      repeat (go_big_quiet_step ((first | (go_at_call 128; with_reducible exact Hd.HW.d (spec_Max.calls a0_0 a0_2 t154 _ A19.out)) | (go_at_call 156; with_reducible exact Hd.HW.d (spec_Min.calls a1_0 a1_2 t155 _ A20.out)))))
      refine wpQuiet_nil ?_
      intro _ hq_
      obtain ⟨q_, rfl⟩ := hq_
      clear s0_ s1_ s2_ s3_ s4_ s5_ s6_ s7_
      replace BK150 := Aside0.mk (blk_below BK150.out q_.b)
      replace BK151 := Aside0.mk (blk_below BK151.out q_.b)
      replace HB := Aside0.mk (below_step HB.out q_.b)
      generalize q_.W = w22 at BK150 BK151 HB ⊢
      try simp only [i64_w, i32_w]
      try go_wp2
      go_meet
      case rel => exact ⟨_, (true), (by first | rfl | (simp; done) | (simp [*]; done)), H', ⟨by have := HJ2.out; first | omega | exact Nat.le_refl _⟩, ⟨by (with_reducible repeat (first | refine blk_drewN ?_ _ | refine blk_drew ?_ | refine blk_alloc ?_ _)); exact BK150.out⟩, ⟨by (with_reducible repeat (first | refine blk_drewN ?_ _ | refine blk_drew ?_ | refine blk_alloc ?_ _)); exact BK151.out⟩, ⟨Hd.b_⟩⟩
     ·
      rw [if_neg c21] at H
      have c21b0 : decide (t154 < t155) = false := decide_eq_false c21
      clear c21
      (first | rw [c21b0] | (simp only [i64_w, i32_w]; rw [c21b0]) | skip)
      replace H := Option.bind_eq_some_iff.mp H
      obtain ⟨t156, A230, H⟩ := H
      replace H : ((spec_Min.f a0_0 a0_2).bind fun t157 => (if t156 < t157 then (spec_HowMeet.j1 kj2 true a0_0 a0_1 a0_2 a0_3 a1_0 a1_1 a1_2 a1_3) else ((spec_Max.f a0_1 a0_3).bind fun t158 => ((spec_Min.f a1_1 a1_3).bind fun t159 => (if t158 < t159 then (spec_HowMeet.j1 kj2 true a0_0 a0_1 a0_2 a0_3 a1_0 a1_1 a1_2 a1_3) else ((spec_Max.f a1_1 a1_3).bind fun t160 => ((spec_Min.f a0_1 a0_3).bind fun t161 => (spec_HowMeet.j1 kj2 (decide (t160 < t161)) a0_0 a0_1 a0_2 a0_3 a1_0 a1_1 a1_2 a1_3)))))))) = some r := H
      have A23 := Aside0.mk A230
      clear A230
      replace H := Option.bind_eq_some_iff.mp H
      obtain ⟨t157, A240, H⟩ := H
      replace H : (if t156 < t157 then (spec_HowMeet.j1 kj2 true a0_0 a0_1 a0_2 a0_3 a1_0 a1_1 a1_2 a1_3) else ((spec_Max.f a0_1 a0_3).bind fun t158 => ((spec_Min.f a1_1 a1_3).bind fun t159 => (if t158 < t159 then (spec_HowMeet.j1 kj2 true a0_0 a0_1 a0_2 a0_3 a1_0 a1_1 a1_2 a1_3) else ((spec_Max.f a1_1 a1_3).bind fun t160 => ((spec_Min.f a0_1 a0_3).bind fun t161 => (spec_HowMeet.j1 kj2 (decide (t160 < t161)) a0_0 a0_1 a0_2 a0_3 a1_0 a1_1 a1_2 a1_3))))))) = some r := H
      have A24 := Aside0.mk A240
      clear A240
      by_cases c25 : t156 < t157
      ·
       rw [if_pos c25] at H
       have c25b0 : decide (t156 < t157) = true := decide_eq_true c25
       clear c25
       have H' := Aside0.mk H
       clear H
       try go_wp2
       replace BK150 := Aside0.mk (blk_drew BK150.out)
       replace BK151 := Aside0.mk (blk_drew BK151.out)
       replace HB := Aside0.mk (below_drew1 HB.out)
       have S_ : (fun w' : World => w'.cell? ⟨gb150, 0, none⟩ = some (.int .i64 a0_0) ∧ w'.cell? ⟨gb150, 1, none⟩ = some (.int .i64 a0_1) ∧ w'.cell? ⟨gb150, 2, none⟩ = some (.int .i64 a0_2) ∧ w'.cell? ⟨gb150, 3, none⟩ = some (.int .i64 a0_3) ∧ w'.cell? ⟨gb151, 0, none⟩ = some (.int .i64 a1_0) ∧ w'.cell? ⟨gb151, 1, none⟩ = some (.int .i64 a1_1) ∧ w'.cell? ⟨gb151, 2, none⟩ = some (.int .i64 a1_2) ∧ w'.cell? ⟨gb151, 3, none⟩ = some (.int .i64 a1_3)) wc.drew := ⟨(blk_cell BK150.out 0).trans rfl, (blk_cell BK150.out 1).trans rfl, (blk_cell BK150.out 2).trans rfl, (blk_cell BK150.out 3).trans rfl, (blk_cell BK151.out 0).trans rfl, (blk_cell BK151.out 1).trans rfl, (blk_cell BK151.out 2).trans rfl, (blk_cell BK151.out 3).trans rfl⟩
       obtain ⟨s0_, s1_, s2_, s3_, s4_, s5_, s6_, s7_⟩ := S_
       replace s0_ := fun q : Hd.HW wc.drew => q.cell s0_
       replace s1_ := fun q : Hd.HW wc.drew => q.cell s1_
       replace s2_ := fun q : Hd.HW wc.drew => q.cell s2_
       replace s3_ := fun q : Hd.HW wc.drew => q.cell s3_
       replace s4_ := fun q : Hd.HW wc.drew => q.cell s4_
       replace s5_ := fun q : Hd.HW wc.drew => q.cell s5_
       replace s6_ := fun q : Hd.HW wc.drew => q.cell s6_
       replace s7_ := fun q : Hd.HW wc.drew => q.cell s7_
       refine Hd.HW.region (by kernel_rfl) (by kernel_rfl) ?_
       try dsimp only [List.append]
       repeat (go_big_quiet_step ((first | (go_at_call 128; with_reducible exact Hd.HW.d (spec_Max.calls a0_0 a0_2 t154 _ A19.out)) | (go_at_call 156; with_reducible exact Hd.HW.d (spec_Min.calls a1_0 a1_2 t155 _ A20.out)) | (go_at_call 128; with_reducible exact Hd.HW.d (spec_Max.calls a1_0 a1_2 t156 _ A23.out)) | (go_at_call 156; with_reducible exact Hd.HW.d (spec_Min.calls a0_0 a0_2 t157 _ A24.out)))))
       refine wpQuiet_nil ?_
       intro _ hq_
       obtain ⟨q_, rfl⟩ := hq_
       clear s0_ s1_ s2_ s3_ s4_ s5_ s6_ s7_
       replace BK150 := Aside0.mk (blk_below BK150.out q_.b)
       replace BK151 := Aside0.mk (blk_below BK151.out q_.b)
       replace HB := Aside0.mk (below_step HB.out q_.b)
       generalize q_.W = w26 at BK150 BK151 HB ⊢
       try simp only [i64_w, i32_w]
       try go_wp2
       go_meet
       case rel => exact ⟨_, (true), (by first | rfl | (simp; done) | (simp [*]; done)), H', ⟨by have := HJ2.out; first | omega | exact Nat.le_refl _⟩, ⟨by (with_reducible repeat (first | refine blk_drewN ?_ _ | refine blk_drew ?_ | refine blk_alloc ?_ _)); exact BK150.out⟩, ⟨by (with_reducible repeat (first | refine blk_drewN ?_ _ | refine blk_drew ?_ | refine blk_alloc ?_ _)); exact BK151.out⟩, ⟨Hd.b_⟩⟩
      ·
       rw [if_neg c25] at H
       have c25b0 : decide (t156 < t157) = false := decide_eq_false c25
       clear c25
       replace H := Option.bind_eq_some_iff.mp H
       obtain ⟨t158, A270, H⟩ := H
       replace H : ((spec_Min.f a1_1 a1_3).bind fun t159 => (if t158 < t159 then (spec_HowMeet.j1 kj2 true a0_0 a0_1 a0_2 a0_3 a1_0 a1_1 a1_2 a1_3) else ((spec_Max.f a1_1 a1_3).bind fun t160 => ((spec_Min.f a0_1 a0_3).bind fun t161 => (spec_HowMeet.j1 kj2 (decide (t160 < t161)) a0_0 a0_1 a0_2 a0_3 a1_0 a1_1 a1_2 a1_3))))) = some r := H
       have A27 := Aside0.mk A270
       clear A270
       replace H := Option.bind_eq_some_iff.mp H
       obtain ⟨t159, A280, H⟩ := H
       replace H : (if t158 < t159 then (spec_HowMeet.j1 kj2 true a0_0 a0_1 a0_2 a0_3 a1_0 a1_1 a1_2 a1_3) else ((spec_Max.f a1_1 a1_3).bind fun t160 => ((spec_Min.f a0_1 a0_3).bind fun t161 => (spec_HowMeet.j1 kj2 (decide (t160 < t161)) a0_0 a0_1 a0_2 a0_3 a1_0 a1_1 a1_2 a1_3)))) = some r := H
       have A28 := Aside0.mk A280
       clear A280
       by_cases c29 : t158 < t159
       ·
        rw [if_pos c29] at H
        have c29b0 : decide (t158 < t159) = true := decide_eq_true c29
        clear c29
        have H' := Aside0.mk H
        clear H
        try go_wp2
        replace BK150 := Aside0.mk (blk_drew BK150.out)
        replace BK151 := Aside0.mk (blk_drew BK151.out)
        replace HB := Aside0.mk (below_drew1 HB.out)
        have S_ : (fun w' : World => w'.cell? ⟨gb150, 0, none⟩ = some (.int .i64 a0_0) ∧ w'.cell? ⟨gb150, 1, none⟩ = some (.int .i64 a0_1) ∧ w'.cell? ⟨gb150, 2, none⟩ = some (.int .i64 a0_2) ∧ w'.cell? ⟨gb150, 3, none⟩ = some (.int .i64 a0_3) ∧ w'.cell? ⟨gb151, 0, none⟩ = some (.int .i64 a1_0) ∧ w'.cell? ⟨gb151, 1, none⟩ = some (.int .i64 a1_1) ∧ w'.cell? ⟨gb151, 2, none⟩ = some (.int .i64 a1_2) ∧ w'.cell? ⟨gb151, 3, none⟩ = some (.int .i64 a1_3)) wc.drew := ⟨(blk_cell BK150.out 0).trans rfl, (blk_cell BK150.out 1).trans rfl, (blk_cell BK150.out 2).trans rfl, (blk_cell BK150.out 3).trans rfl, (blk_cell BK151.out 0).trans rfl, (blk_cell BK151.out 1).trans rfl, (blk_cell BK151.out 2).trans rfl, (blk_cell BK151.out 3).trans rfl⟩
        obtain ⟨s0_, s1_, s2_, s3_, s4_, s5_, s6_, s7_⟩ := S_
        replace s0_ := fun q : Hd.HW wc.drew => q.cell s0_
        replace s1_ := fun q : Hd.HW wc.drew => q.cell s1_
        replace s2_ := fun q : Hd.HW wc.drew => q.cell s2_
        replace s3_ := fun q : Hd.HW wc.drew => q.cell s3_
        replace s4_ := fun q : Hd.HW wc.drew => q.cell s4_
        replace s5_ := fun q : Hd.HW wc.drew => q.cell s5_
        replace s6_ := fun q : Hd.HW wc.drew => q.cell s6_
        replace s7_ := fun q : Hd.HW wc.drew => q.cell s7_
        refine Hd.HW.region (by kernel_rfl) (by kernel_rfl) ?_
        try dsimp only [List.append]
        repeat (go_big_quiet_step ((first | (go_at_call 128; with_reducible exact Hd.HW.d (spec_Max.calls a0_0 a0_2 t154 _ A19.out)) | (go_at_call 156; with_reducible exact Hd.HW.d (spec_Min.calls a1_0 a1_2 t155 _ A20.out)) | (go_at_call 128; with_reducible exact Hd.HW.d (spec_Max.calls a1_0 a1_2 t156 _ A23.out)) | (go_at_call 156; with_reducible exact Hd.HW.d (spec_Min.calls a0_0 a0_2 t157 _ A24.out)) | (go_at_call 128; with_reducible exact Hd.HW.d (spec_Max.calls a0_1 a0_3 t158 _ A27.out)) | (go_at_call 156; with_reducible exact Hd.HW.d (spec_Min.calls a1_1 a1_3 t159 _ A28.out)))))
        refine wpQuiet_nil ?_
        intro _ hq_
        obtain ⟨q_, rfl⟩ := hq_
        clear s0_ s1_ s2_ s3_ s4_ s5_ s6_ s7_
        replace BK150 := Aside0.mk (blk_below BK150.out q_.b)
        replace BK151 := Aside0.mk (blk_below BK151.out q_.b)
        replace HB := Aside0.mk (below_step HB.out q_.b)
        generalize q_.W = w30 at BK150 BK151 HB ⊢
        try simp only [i64_w, i32_w]
        try go_wp2
        go_meet
        case rel => exact ⟨_, (true), (by first | rfl | (simp; done) | (simp [*]; done)), H', ⟨by have := HJ2.out; first | omega | exact Nat.le_refl _⟩, ⟨by (with_reducible repeat (first | refine blk_drewN ?_ _ | refine blk_drew ?_ | refine blk_alloc ?_ _)); exact BK150.out⟩, ⟨by (with_reducible repeat (first | refine blk_drewN ?_ _ | refine blk_drew ?_ | refine blk_alloc ?_ _)); exact BK151.out⟩, ⟨Hd.b_⟩⟩
       ·
        rw [if_neg c29] at H
        have c29b0 : decide (t158 < t159) = false := decide_eq_false c29
        clear c29
        replace H := Option.bind_eq_some_iff.mp H
        obtain ⟨t160, A310, H⟩ := H
        replace H : ((spec_Min.f a0_1 a0_3).bind fun t161 => (spec_HowMeet.j1 kj2 (decide (t160 < t161)) a0_0 a0_1 a0_2 a0_3 a1_0 a1_1 a1_2 a1_3)) = some r := H
        have A31 := Aside0.mk A310
        clear A310
        replace H := Option.bind_eq_some_iff.mp H
        obtain ⟨t161, A320, H⟩ := H
        replace H : (spec_HowMeet.j1 kj2 (decide (t160 < t161)) a0_0 a0_1 a0_2 a0_3 a1_0 a1_1 a1_2 a1_3) = some r := H
        have A32 := Aside0.mk A320
        clear A320
        have H' := Aside0.mk H
        clear H
        try go_wp2
        replace BK150 := Aside0.mk (blk_drew BK150.out)
        replace BK151 := Aside0.mk (blk_drew BK151.out)
        replace HB := Aside0.mk (below_drew1 HB.out)
        have S_ : (fun w' : World => w'.cell? ⟨gb150, 0, none⟩ = some (.int .i64 a0_0) ∧ w'.cell? ⟨gb150, 1, none⟩ = some (.int .i64 a0_1) ∧ w'.cell? ⟨gb150, 2, none⟩ = some (.int .i64 a0_2) ∧ w'.cell? ⟨gb150, 3, none⟩ = some (.int .i64 a0_3) ∧ w'.cell? ⟨gb151, 0, none⟩ = some (.int .i64 a1_0) ∧ w'.cell? ⟨gb151, 1, none⟩ = some (.int .i64 a1_1) ∧ w'.cell? ⟨gb151, 2, none⟩ = some (.int .i64 a1_2) ∧ w'.cell? ⟨gb151, 3, none⟩ = some (.int .i64 a1_3)) wc.drew := ⟨(blk_cell BK150.out 0).trans rfl, (blk_cell BK150.out 1).trans rfl, (blk_cell BK150.out 2).trans rfl, (blk_cell BK150.out 3).trans rfl, (blk_cell BK151.out 0).trans rfl, (blk_cell BK151.out 1).trans rfl, (blk_cell BK151.out 2).trans rfl, (blk_cell BK151.out 3).trans rfl⟩
        obtain ⟨s0_, s1_, s2_, s3_, s4_, s5_, s6_, s7_⟩ := S_
        replace s0_ := fun q : Hd.HW wc.drew => q.cell s0_
        replace s1_ := fun q : Hd.HW wc.drew => q.cell s1_
        replace s2_ := fun q : Hd.HW wc.drew => q.cell s2_
        replace s3_ := fun q : Hd.HW wc.drew => q.cell s3_
        replace s4_ := fun q : Hd.HW wc.drew => q.cell s4_
        replace s5_ := fun q : Hd.HW wc.drew => q.cell s5_
        replace s6_ := fun q : Hd.HW wc.drew => q.cell s6_
        replace s7_ := fun q : Hd.HW wc.drew => q.cell s7_
        refine Hd.HW.region (by kernel_rfl) (by kernel_rfl) ?_
        try dsimp only [List.append]
        repeat (go_big_quiet_step ((first | (go_at_call 128; with_reducible exact Hd.HW.d (spec_Max.calls a0_0 a0_2 t154 _ A19.out)) | (go_at_call 156; with_reducible exact Hd.HW.d (spec_Min.calls a1_0 a1_2 t155 _ A20.out)) | (go_at_call 128; with_reducible exact Hd.HW.d (spec_Max.calls a1_0 a1_2 t156 _ A23.out)) | (go_at_call 156; with_reducible exact Hd.HW.d (spec_Min.calls a0_0 a0_2 t157 _ A24.out)) | (go_at_call 128; with_reducible exact Hd.HW.d (spec_Max.calls a0_1 a0_3 t158 _ A27.out)) | (go_at_call 156; with_reducible exact Hd.HW.d (spec_Min.calls a1_1 a1_3 t159 _ A28.out)) | (go_at_call 128; with_reducible exact Hd.HW.d (spec_Max.calls a1_1 a1_3 t160 _ A31.out)) | (go_at_call 156; with_reducible exact Hd.HW.d (spec_Min.calls a0_1 a0_3 t161 _ A32.out)))))
        refine wpQuiet_nil ?_
        intro _ hq_
        obtain ⟨q_, rfl⟩ := hq_
        clear s0_ s1_ s2_ s3_ s4_ s5_ s6_ s7_
        replace BK150 := Aside0.mk (blk_below BK150.out q_.b)
        replace BK151 := Aside0.mk (blk_below BK151.out q_.b)
        replace HB := Aside0.mk (below_step HB.out q_.b)
        generalize q_.W = w33 at BK150 BK151 HB ⊢
        try simp only [i64_w, i32_w]
        try go_wp2
        go_meet
        case rel => exact ⟨_, (decide (t160 < t161)), (by first | rfl | (simp; done) | (simp [*]; done)), H', ⟨by have := HJ2.out; first | omega | exact Nat.le_refl _⟩, ⟨by (with_reducible repeat (first | refine blk_drewN ?_ _ | refine blk_drew ?_ | refine blk_alloc ?_ _)); exact BK150.out⟩, ⟨by (with_reducible repeat (first | refine blk_drewN ?_ _ | refine blk_drew ?_ | refine blk_alloc ?_ _)); exact BK151.out⟩, ⟨Hd.b_⟩⟩
    case rest =>
     clear HC18
     try clear c1
     try clear c2
     try clear p2
     try clear c12
     try clear c15
     try clear c29
     try clear c29b0
     obtain ⟨kq, x78_17, rfl, HA, HJ17, BK150, BK151, HB⟩ := hcut
     cases kq with
     | zero => exact absurd HA.out (by simp [spec_HowMeet.j1])
     | succ kj17 =>
      have H := HA.out
      clear HA
      simp only [spec_HowMeet.j1] at H
      by_cases c34 : x78_17 = true
      ·
       subst c34
       have H1 : (some 0) = some r := by rw [if_pos rfl] at H; exact H
       clear H
       have H := H1
       clear H1
       obtain rfl := Option.some.inj H
       go_wp2
       go_ret
       exact ⟨Hd.e_, Hd.b_⟩
      ·
       replace c34 := Bool.eq_false_iff.mpr c34
       subst c34
       have H1 : ((spec_l5Shared.f kj17 a0_0 a0_1 a0_2 a0_3 a1_0 a1_1 a1_2 a1_3).bind fun t162 => (if t162 = 0 then ((spec_SideOf.f kj17 a0_0 a0_1 a0_2 a0_3 a1_0 a1_1).bind fun t163 => ((spec_SideOf.f kj17 a0_0 a0_1 a0_2 a0_3 a1_2 a1_3).bind fun t164 => (if (wrap64 (t163 * t164)) < 0 then ((spec_SideOf.f kj17 a1_0 a1_1 a1_2 a1_3 a0_0 a0_1).bind fun t165 => ((spec_SideOf.f kj17 a1_0 a1_1 a1_2 a1_3 a0_2 a0_3).bind fun t166 => (if (wrap64 (t165 * t166)) < 0 then (some 2) else (some 0)))) else (some 0)))) else (if t162 = 1 then (some 1) else (some 3)))) = some r := by rw [if_neg (show ¬ (false = true) by decide)] at H; exact H
       clear H
       have H := H1
       clear H1
       replace H := Option.bind_eq_some_iff.mp H
       obtain ⟨t162, A350, H⟩ := H
       replace H : (if t162 = 0 then ((spec_SideOf.f kj17 a0_0 a0_1 a0_2 a0_3 a1_0 a1_1).bind fun t163 => ((spec_SideOf.f kj17 a0_0 a0_1 a0_2 a0_3 a1_2 a1_3).bind fun t164 => (if (wrap64 (t163 * t164)) < 0 then ((spec_SideOf.f kj17 a1_0 a1_1 a1_2 a1_3 a0_0 a0_1).bind fun t165 => ((spec_SideOf.f kj17 a1_0 a1_1 a1_2 a1_3 a0_2 a0_3).bind fun t166 => (if (wrap64 (t165 * t166)) < 0 then (some 2) else (some 0)))) else (some 0)))) else (if t162 = 1 then (some 1) else (some 3))) = some r := H
       have A35 := Aside0.mk A350
       clear A350
       by_cases c36 : t162 = 0
       ·
        rw [if_pos c36] at H
        have c36b0 : (t162 == 0) = true := beq_iff_eq.mpr c36
        have c36b1 : (t162 != 0) = false := bne_eq_false_iff_eq.mpr c36
        clear c36
        replace H := Option.bind_eq_some_iff.mp H
        obtain ⟨t163, A370, H⟩ := H
        replace H : ((spec_SideOf.f kj17 a0_0 a0_1 a0_2 a0_3 a1_2 a1_3).bind fun t164 => (if (wrap64 (t163 * t164)) < 0 then ((spec_SideOf.f kj17 a1_0 a1_1 a1_2 a1_3 a0_0 a0_1).bind fun t165 => ((spec_SideOf.f kj17 a1_0 a1_1 a1_2 a1_3 a0_2 a0_3).bind fun t166 => (if (wrap64 (t165 * t166)) < 0 then (some 2) else (some 0)))) else (some 0))) = some r := H
        have A37 := Aside0.mk A370
        clear A370
        replace H := Option.bind_eq_some_iff.mp H
        obtain ⟨t164, A380, H⟩ := H
        replace H : (if (wrap64 (t163 * t164)) < 0 then ((spec_SideOf.f kj17 a1_0 a1_1 a1_2 a1_3 a0_0 a0_1).bind fun t165 => ((spec_SideOf.f kj17 a1_0 a1_1 a1_2 a1_3 a0_2 a0_3).bind fun t166 => (if (wrap64 (t165 * t166)) < 0 then (some 2) else (some 0)))) else (some 0)) = some r := H
        have A38 := Aside0.mk A380
        clear A380
        by_cases c39 : (wrap64 (t163 * t164)) < 0
        ·
         rw [if_pos c39] at H
         have c39b0 : decide ((wrap64 (t163 * t164)) < 0) = true := decide_eq_true c39
         clear c39
         replace H := Option.bind_eq_some_iff.mp H
         obtain ⟨t165, A400, H⟩ := H
         replace H : ((spec_SideOf.f kj17 a1_0 a1_1 a1_2 a1_3 a0_2 a0_3).bind fun t166 => (if (wrap64 (t165 * t166)) < 0 then (some 2) else (some 0))) = some r := H
         have A40 := Aside0.mk A400
         clear A400
         replace H := Option.bind_eq_some_iff.mp H
         obtain ⟨t166, A410, H⟩ := H
         replace H : (if (wrap64 (t165 * t166)) < 0 then (some 2) else (some 0)) = some r := H
         have A41 := Aside0.mk A410
         clear A410
         by_cases c42 : (wrap64 (t165 * t166)) < 0
         ·
          rw [if_pos c42] at H
          have c42b0 : decide ((wrap64 (t165 * t166)) < 0) = true := decide_eq_true c42
          clear c42
          obtain rfl := Option.some.inj H
          have hnb43 := NB150_151.out
          have hnc43 := NB151_150.out
          obtain ⟨hcz44_0, hcz44_1, hcz44_2, hcz44_3⟩ := Hd.c4_ BK150.out
          obtain ⟨hfz44_0, hfz44_1, hfz44_2, hfz44_3⟩ := Hd.f4_ BK150.out
          obtain ⟨hcz45_0, hcz45_1, hcz45_2, hcz45_3⟩ := Hd.c4_ BK151.out
          obtain ⟨hfz45_0, hfz45_1, hfz45_2, hfz45_3⟩ := Hd.f4_ BK151.out
          try go_wp2_with (first | ((with_reducible refine gate_callee (f := 157) rfl ?_); refine goesL_ (some 81) rfl rfl Try.func157 (by kernel_rfl) rfl #[.agg #[.int .i64 a0_0, .int .i64 a0_1, .int .i64 a0_2, .int .i64 a0_3], .agg #[.int .i64 a1_0, .int .i64 a1_1, .int .i64 a1_2, .int .i64 a1_3]] rfl Hd.m_ ?_; (with_reducible refine (spec_l5Shared.calls kj17 a0_0 a0_1 a0_2 a0_3 a1_0 a1_1 a1_2 a1_3 t162 _ A35.out).mono ?_); rintro e w46 ⟨rfl, hb⟩; refine ⟨_, rfl, ?_⟩; replace BK150 := Aside0.mk (Hd.kb_ BK150 hb); replace BK151 := Aside0.mk (Hd.kb_ BK151 hb); replace HB := Aside0.mk (below_step Hd.b_ hb); (try clear hb); (try clear hb2); (try clear hk); (try clear hi)))
          replace BK150 := Aside0.mk (blk_drew BK150.out)
          replace BK151 := Aside0.mk (blk_drew BK151.out)
          replace HB := Aside0.mk (below_drew1 HB.out)
          have S_ : (fun w' : World => w'.cell? ⟨gb150, 0, none⟩ = some (.int .i64 a0_0) ∧ w'.cell? ⟨gb150, 1, none⟩ = some (.int .i64 a0_1) ∧ w'.cell? ⟨gb150, 2, none⟩ = some (.int .i64 a0_2) ∧ w'.cell? ⟨gb150, 3, none⟩ = some (.int .i64 a0_3) ∧ w'.cell? ⟨gb151, 0, none⟩ = some (.int .i64 a1_0) ∧ w'.cell? ⟨gb151, 1, none⟩ = some (.int .i64 a1_1) ∧ w'.cell? ⟨gb151, 2, none⟩ = some (.int .i64 a1_2) ∧ w'.cell? ⟨gb151, 3, none⟩ = some (.int .i64 a1_3)) w46.drew := ⟨(blk_cell BK150.out 0).trans rfl, (blk_cell BK150.out 1).trans rfl, (blk_cell BK150.out 2).trans rfl, (blk_cell BK150.out 3).trans rfl, (blk_cell BK151.out 0).trans rfl, (blk_cell BK151.out 1).trans rfl, (blk_cell BK151.out 2).trans rfl, (blk_cell BK151.out 3).trans rfl⟩
          obtain ⟨s0_, s1_, s2_, s3_, s4_, s5_, s6_, s7_⟩ := S_
          replace s0_ := fun q : Hd.HW w46.drew => q.cell s0_
          replace s1_ := fun q : Hd.HW w46.drew => q.cell s1_
          replace s2_ := fun q : Hd.HW w46.drew => q.cell s2_
          replace s3_ := fun q : Hd.HW w46.drew => q.cell s3_
          replace s4_ := fun q : Hd.HW w46.drew => q.cell s4_
          replace s5_ := fun q : Hd.HW w46.drew => q.cell s5_
          replace s6_ := fun q : Hd.HW w46.drew => q.cell s6_
          replace s7_ := fun q : Hd.HW w46.drew => q.cell s7_
          refine Hd.HW.region (by kernel_rfl) (by kernel_rfl) ?_
          try dsimp only [List.append]
          repeat (go_big_quiet_step ((first | (go_at_call 158; with_reducible exact Hd.HW.c (spec_SideOf.calls kj17 a0_0 a0_1 a0_2 a0_3 a1_0 a1_1 t163 _ A37.out)) | (go_at_call 158; with_reducible exact Hd.HW.c (spec_SideOf.calls kj17 a0_0 a0_1 a0_2 a0_3 a1_2 a1_3 t164 _ A38.out)) | (go_at_call 158; with_reducible exact Hd.HW.c (spec_SideOf.calls kj17 a1_0 a1_1 a1_2 a1_3 a0_0 a0_1 t165 _ A40.out)) | (go_at_call 158; with_reducible exact Hd.HW.c (spec_SideOf.calls kj17 a1_0 a1_1 a1_2 a1_3 a0_2 a0_3 t166 _ A41.out)))))
          refine wpQuiet_nil ?_
          intro _ hq_
          obtain ⟨q_, rfl⟩ := hq_
          clear s0_ s1_ s2_ s3_ s4_ s5_ s6_ s7_
          replace BK150 := Aside0.mk (blk_below BK150.out q_.b)
          replace BK151 := Aside0.mk (blk_below BK151.out q_.b)
          replace HB := Aside0.mk (below_step HB.out q_.b)
          generalize q_.W = w51 at BK150 BK151 HB ⊢
          try simp only [i64_w, i32_w]
          try go_wp2
          go_ret
          exact ⟨Hd.e_, Hd.b_⟩
         ·
          rw [if_neg c42] at H
          have c42b0 : decide ((wrap64 (t165 * t166)) < 0) = false := decide_eq_false c42
          clear c42
          obtain rfl := Option.some.inj H
          have hnb52 := NB150_151.out
          have hnc52 := NB151_150.out
          obtain ⟨hcz53_0, hcz53_1, hcz53_2, hcz53_3⟩ := Hd.c4_ BK150.out
          obtain ⟨hfz53_0, hfz53_1, hfz53_2, hfz53_3⟩ := Hd.f4_ BK150.out
          obtain ⟨hcz54_0, hcz54_1, hcz54_2, hcz54_3⟩ := Hd.c4_ BK151.out
          obtain ⟨hfz54_0, hfz54_1, hfz54_2, hfz54_3⟩ := Hd.f4_ BK151.out
          try go_wp2_with (first | ((with_reducible refine gate_callee (f := 157) rfl ?_); refine goesL_ (some 81) rfl rfl Try.func157 (by kernel_rfl) rfl #[.agg #[.int .i64 a0_0, .int .i64 a0_1, .int .i64 a0_2, .int .i64 a0_3], .agg #[.int .i64 a1_0, .int .i64 a1_1, .int .i64 a1_2, .int .i64 a1_3]] rfl Hd.m_ ?_; (with_reducible refine (spec_l5Shared.calls kj17 a0_0 a0_1 a0_2 a0_3 a1_0 a1_1 a1_2 a1_3 t162 _ A35.out).mono ?_); rintro e w55 ⟨rfl, hb⟩; refine ⟨_, rfl, ?_⟩; replace BK150 := Aside0.mk (Hd.kb_ BK150 hb); replace BK151 := Aside0.mk (Hd.kb_ BK151 hb); replace HB := Aside0.mk (below_step Hd.b_ hb); (try clear hb); (try clear hb2); (try clear hk); (try clear hi)))
          replace BK150 := Aside0.mk (blk_drew BK150.out)
          replace BK151 := Aside0.mk (blk_drew BK151.out)
          replace HB := Aside0.mk (below_drew1 HB.out)
          have S_ : (fun w' : World => w'.cell? ⟨gb150, 0, none⟩ = some (.int .i64 a0_0) ∧ w'.cell? ⟨gb150, 1, none⟩ = some (.int .i64 a0_1) ∧ w'.cell? ⟨gb150, 2, none⟩ = some (.int .i64 a0_2) ∧ w'.cell? ⟨gb150, 3, none⟩ = some (.int .i64 a0_3) ∧ w'.cell? ⟨gb151, 0, none⟩ = some (.int .i64 a1_0) ∧ w'.cell? ⟨gb151, 1, none⟩ = some (.int .i64 a1_1) ∧ w'.cell? ⟨gb151, 2, none⟩ = some (.int .i64 a1_2) ∧ w'.cell? ⟨gb151, 3, none⟩ = some (.int .i64 a1_3)) w55.drew := ⟨(blk_cell BK150.out 0).trans rfl, (blk_cell BK150.out 1).trans rfl, (blk_cell BK150.out 2).trans rfl, (blk_cell BK150.out 3).trans rfl, (blk_cell BK151.out 0).trans rfl, (blk_cell BK151.out 1).trans rfl, (blk_cell BK151.out 2).trans rfl, (blk_cell BK151.out 3).trans rfl⟩
          obtain ⟨s0_, s1_, s2_, s3_, s4_, s5_, s6_, s7_⟩ := S_
          replace s0_ := fun q : Hd.HW w55.drew => q.cell s0_
          replace s1_ := fun q : Hd.HW w55.drew => q.cell s1_
          replace s2_ := fun q : Hd.HW w55.drew => q.cell s2_
          replace s3_ := fun q : Hd.HW w55.drew => q.cell s3_
          replace s4_ := fun q : Hd.HW w55.drew => q.cell s4_
          replace s5_ := fun q : Hd.HW w55.drew => q.cell s5_
          replace s6_ := fun q : Hd.HW w55.drew => q.cell s6_
          replace s7_ := fun q : Hd.HW w55.drew => q.cell s7_
          refine Hd.HW.region (by kernel_rfl) (by kernel_rfl) ?_
          try dsimp only [List.append]
          repeat (go_big_quiet_step ((first | (go_at_call 158; with_reducible exact Hd.HW.c (spec_SideOf.calls kj17 a0_0 a0_1 a0_2 a0_3 a1_0 a1_1 t163 _ A37.out)) | (go_at_call 158; with_reducible exact Hd.HW.c (spec_SideOf.calls kj17 a0_0 a0_1 a0_2 a0_3 a1_2 a1_3 t164 _ A38.out)) | (go_at_call 158; with_reducible exact Hd.HW.c (spec_SideOf.calls kj17 a1_0 a1_1 a1_2 a1_3 a0_0 a0_1 t165 _ A40.out)) | (go_at_call 158; with_reducible exact Hd.HW.c (spec_SideOf.calls kj17 a1_0 a1_1 a1_2 a1_3 a0_2 a0_3 t166 _ A41.out)))))
          refine wpQuiet_nil ?_
          intro _ hq_
          obtain ⟨q_, rfl⟩ := hq_
          clear s0_ s1_ s2_ s3_ s4_ s5_ s6_ s7_
          replace BK150 := Aside0.mk (blk_below BK150.out q_.b)
          replace BK151 := Aside0.mk (blk_below BK151.out q_.b)
          replace HB := Aside0.mk (below_step HB.out q_.b)
          generalize q_.W = w60 at BK150 BK151 HB ⊢
          try simp only [i64_w, i32_w]
          try go_wp2
          go_ret
          exact ⟨Hd.e_, Hd.b_⟩
        ·
         rw [if_neg c39] at H
         have c39b0 : decide ((wrap64 (t163 * t164)) < 0) = false := decide_eq_false c39
         clear c39
         obtain rfl := Option.some.inj H
         have hnb61 := NB150_151.out
         have hnc61 := NB151_150.out
         obtain ⟨hcz62_0, hcz62_1, hcz62_2, hcz62_3⟩ := Hd.c4_ BK150.out
         obtain ⟨hfz62_0, hfz62_1, hfz62_2, hfz62_3⟩ := Hd.f4_ BK150.out
         obtain ⟨hcz63_0, hcz63_1, hcz63_2, hcz63_3⟩ := Hd.c4_ BK151.out
         obtain ⟨hfz63_0, hfz63_1, hfz63_2, hfz63_3⟩ := Hd.f4_ BK151.out
         try go_wp2_with (first | ((with_reducible refine gate_callee (f := 157) rfl ?_); refine goesL_ (some 81) rfl rfl Try.func157 (by kernel_rfl) rfl #[.agg #[.int .i64 a0_0, .int .i64 a0_1, .int .i64 a0_2, .int .i64 a0_3], .agg #[.int .i64 a1_0, .int .i64 a1_1, .int .i64 a1_2, .int .i64 a1_3]] rfl Hd.m_ ?_; (with_reducible refine (spec_l5Shared.calls kj17 a0_0 a0_1 a0_2 a0_3 a1_0 a1_1 a1_2 a1_3 t162 _ A35.out).mono ?_); rintro e w64 ⟨rfl, hb⟩; refine ⟨_, rfl, ?_⟩; replace BK150 := Aside0.mk (Hd.kb_ BK150 hb); replace BK151 := Aside0.mk (Hd.kb_ BK151 hb); replace HB := Aside0.mk (below_step Hd.b_ hb); (try clear hb); (try clear hb2); (try clear hk); (try clear hi)))
         replace BK150 := Aside0.mk (blk_drew BK150.out)
         replace BK151 := Aside0.mk (blk_drew BK151.out)
         replace HB := Aside0.mk (below_drew1 HB.out)
         have S_ : (fun w' : World => w'.cell? ⟨gb150, 0, none⟩ = some (.int .i64 a0_0) ∧ w'.cell? ⟨gb150, 1, none⟩ = some (.int .i64 a0_1) ∧ w'.cell? ⟨gb150, 2, none⟩ = some (.int .i64 a0_2) ∧ w'.cell? ⟨gb150, 3, none⟩ = some (.int .i64 a0_3) ∧ w'.cell? ⟨gb151, 0, none⟩ = some (.int .i64 a1_0) ∧ w'.cell? ⟨gb151, 1, none⟩ = some (.int .i64 a1_1) ∧ w'.cell? ⟨gb151, 2, none⟩ = some (.int .i64 a1_2) ∧ w'.cell? ⟨gb151, 3, none⟩ = some (.int .i64 a1_3)) w64.drew := ⟨(blk_cell BK150.out 0).trans rfl, (blk_cell BK150.out 1).trans rfl, (blk_cell BK150.out 2).trans rfl, (blk_cell BK150.out 3).trans rfl, (blk_cell BK151.out 0).trans rfl, (blk_cell BK151.out 1).trans rfl, (blk_cell BK151.out 2).trans rfl, (blk_cell BK151.out 3).trans rfl⟩
         obtain ⟨s0_, s1_, s2_, s3_, s4_, s5_, s6_, s7_⟩ := S_
         replace s0_ := fun q : Hd.HW w64.drew => q.cell s0_
         replace s1_ := fun q : Hd.HW w64.drew => q.cell s1_
         replace s2_ := fun q : Hd.HW w64.drew => q.cell s2_
         replace s3_ := fun q : Hd.HW w64.drew => q.cell s3_
         replace s4_ := fun q : Hd.HW w64.drew => q.cell s4_
         replace s5_ := fun q : Hd.HW w64.drew => q.cell s5_
         replace s6_ := fun q : Hd.HW w64.drew => q.cell s6_
         replace s7_ := fun q : Hd.HW w64.drew => q.cell s7_
         refine Hd.HW.region (by kernel_rfl) (by kernel_rfl) ?_
         try dsimp only [List.append]
         repeat (go_big_quiet_step ((first | (go_at_call 158; with_reducible exact Hd.HW.c (spec_SideOf.calls kj17 a0_0 a0_1 a0_2 a0_3 a1_0 a1_1 t163 _ A37.out)) | (go_at_call 158; with_reducible exact Hd.HW.c (spec_SideOf.calls kj17 a0_0 a0_1 a0_2 a0_3 a1_2 a1_3 t164 _ A38.out)))))
         refine wpQuiet_nil ?_
         intro _ hq_
         obtain ⟨q_, rfl⟩ := hq_
         clear s0_ s1_ s2_ s3_ s4_ s5_ s6_ s7_
         replace BK150 := Aside0.mk (blk_below BK150.out q_.b)
         replace BK151 := Aside0.mk (blk_below BK151.out q_.b)
         replace HB := Aside0.mk (below_step HB.out q_.b)
         generalize q_.W = w67 at BK150 BK151 HB ⊢
         try simp only [i64_w, i32_w]
         try go_wp2
         go_ret
         exact ⟨Hd.e_, Hd.b_⟩
       ·
        rw [if_neg c36] at H
        have c36b0 : (t162 == 0) = false := beq_eq_false_iff_ne.mpr c36
        have c36b1 : (t162 != 0) = true := bne_iff_ne.mpr c36
        by_cases c68 : t162 = 1
        ·
         rw [if_pos c68] at H
         have c68b0 : (t162 == 1) = true := beq_iff_eq.mpr c68
         have c68b1 : (t162 != 1) = false := bne_eq_false_iff_eq.mpr c68
         clear c68
         obtain rfl := Option.some.inj H
         have hnb69 := NB150_151.out
         have hnc69 := NB151_150.out
         obtain ⟨hcz70_0, hcz70_1, hcz70_2, hcz70_3⟩ := Hd.c4_ BK150.out
         obtain ⟨hfz70_0, hfz70_1, hfz70_2, hfz70_3⟩ := Hd.f4_ BK150.out
         obtain ⟨hcz71_0, hcz71_1, hcz71_2, hcz71_3⟩ := Hd.c4_ BK151.out
         obtain ⟨hfz71_0, hfz71_1, hfz71_2, hfz71_3⟩ := Hd.f4_ BK151.out
         go_wp2_with (first | ((with_reducible refine gate_callee (f := 157) rfl ?_); refine goesL_ (some 81) rfl rfl Try.func157 (by kernel_rfl) rfl #[.agg #[.int .i64 a0_0, .int .i64 a0_1, .int .i64 a0_2, .int .i64 a0_3], .agg #[.int .i64 a1_0, .int .i64 a1_1, .int .i64 a1_2, .int .i64 a1_3]] rfl Hd.m_ ?_; (with_reducible refine (spec_l5Shared.calls kj17 a0_0 a0_1 a0_2 a0_3 a1_0 a1_1 a1_2 a1_3 t162 _ A35.out).mono ?_); rintro e w72 ⟨rfl, hb⟩; refine ⟨_, rfl, ?_⟩; replace BK150 := Aside0.mk (Hd.kb_ BK150 hb); replace BK151 := Aside0.mk (Hd.kb_ BK151 hb); replace HB := Aside0.mk (below_step Hd.b_ hb); (try clear hb); (try clear hb2); (try clear hk); (try clear hi)))
         go_ret
         exact ⟨Hd.e_, Hd.b_⟩
        ·
         rw [if_neg c68] at H
         have c68b0 : (t162 == 1) = false := beq_eq_false_iff_ne.mpr c68
         have c68b1 : (t162 != 1) = true := bne_iff_ne.mpr c68
         obtain rfl := Option.some.inj H
         have hnb73 := NB150_151.out
         have hnc73 := NB151_150.out
         obtain ⟨hcz74_0, hcz74_1, hcz74_2, hcz74_3⟩ := Hd.c4_ BK150.out
         obtain ⟨hfz74_0, hfz74_1, hfz74_2, hfz74_3⟩ := Hd.f4_ BK150.out
         obtain ⟨hcz75_0, hcz75_1, hcz75_2, hcz75_3⟩ := Hd.c4_ BK151.out
         obtain ⟨hfz75_0, hfz75_1, hfz75_2, hfz75_3⟩ := Hd.f4_ BK151.out
         go_wp2_with (first | ((with_reducible refine gate_callee (f := 157) rfl ?_); refine goesL_ (some 81) rfl rfl Try.func157 (by kernel_rfl) rfl #[.agg #[.int .i64 a0_0, .int .i64 a0_1, .int .i64 a0_2, .int .i64 a0_3], .agg #[.int .i64 a1_0, .int .i64 a1_1, .int .i64 a1_2, .int .i64 a1_3]] rfl Hd.m_ ?_; (with_reducible refine (spec_l5Shared.calls kj17 a0_0 a0_1 a0_2 a0_3 a1_0 a1_1 a1_2 a1_3 t162 _ A35.out).mono ?_); rintro e w76 ⟨rfl, hb⟩; refine ⟨_, rfl, ?_⟩; replace BK150 := Aside0.mk (Hd.kb_ BK150 hb); replace BK151 := Aside0.mk (Hd.kb_ BK151 hb); replace HB := Aside0.mk (below_step Hd.b_ hb); (try clear hb); (try clear hb2); (try clear hk); (try clear hi)))
         go_ret
         exact ⟨Hd.e_, Hd.b_⟩

end Go.Proofs.Ytchmbcembbbplac.MFnExactIsFeature
