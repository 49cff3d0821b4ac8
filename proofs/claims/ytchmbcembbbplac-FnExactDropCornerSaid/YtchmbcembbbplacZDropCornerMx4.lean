-- Laid by this session's program pp.py, after the kit's print and texts of the session's own. Not trusted: Lean checks it.
import Derived.Test.YtchmbcembbbplacZDropCornerMx0
import Derived.Test.YtchmbcembbbplacZDropCornerMx2
import Derived.Test.YtchmbcembbbplacZDropCornerMx3
namespace Go.Proofs.Ytchmbcembbbplac.MFnExactDropCorner
open Go.RowKit Go.Proofs.YtchmbcembbbplacW.PrintWords Go.Proofs.YtchmbcembbbplacW.PrintLast Go.Proofs.YtchmbcembbbplacW.PrintMore
attribute [local go_sem] max2_int min2_int max_two min_two max_three min_three max_four min_four   -- for this text's walks alone
set_option linter.unusedVariables false
set_option linter.unusedSimpArgs false
def spec_SideOf.j0 : Nat → Bool → Int → Int → Int → Int → Int → Int → Option (Int)
 | 0, _, _, _, _, _, _, _ => none
 | k + 1, x20, x159000, x159001, x160000, x160001, x161000, x161001 => if x20 = true then (some 0) else ((spec_l4Cross.f x159000 x159001 x160000 x160001 x161000 x161001).bind fun t164 => (if t164 > 0 then (some 1) else (if t164 < 0 then (some (-1)) else (some 0))))
def spec_SideOf.f (k : Nat) (a0_0 : Int) (a0_1 : Int) (a1_0 : Int) (a1_1 : Int) (a2_0 : Int) (a2_1 : Int) : Option (Int) := (spec_IsPoint.f a0_0 a0_1).bind fun t161 => (if t161 = true then ((spec_IsPoint.f a1_0 a1_1).bind fun t162 => (if t162 = true then ((spec_IsPoint.f a2_0 a2_1).bind fun t163 => (spec_SideOf.j0 k (!t163) a0_0 a0_1 a1_0 a1_1 a2_0 a2_1)) else (spec_SideOf.j0 k true a0_0 a0_1 a1_0 a1_1 a2_0 a2_1))) else (spec_SideOf.j0 k true a0_0 a0_1 a1_0 a1_1 a2_0 a2_1))
set_option maxHeartbeats 8000000 in
set_option maxRecDepth 100000 in
theorem spec_SideOf.calls (k : Nat) (a0_0 : Int) (a0_1 : Int) (a1_0 : Int) (a1_1 : Int) (a2_0 : Int) (a2_1 : Int) (r : Int) (w : World) (h : spec_SideOf.f k a0_0 a0_1 a1_0 a1_1 a2_0 a2_1 = some r) :
  Calls Try.prog 158 #[.agg #[.int .i64 a0_0, .int .i64 a0_1], .agg #[.int .i64 a1_0, .int .i64 a1_1], .agg #[.int .i64 a2_0, .int .i64 a2_1]] w fun e w' => e = .returned (.int .i64 r) ∧ Below w.heap.size w w' := by
 have hu49 := Try.underlying49
 have HB := Aside0.mk (Below.refl w.heap.size w)
 have H : ((spec_IsPoint.f a0_0 a0_1).bind fun t161 => (if t161 = true then ((spec_IsPoint.f a1_0 a1_1).bind fun t162 => (if t162 = true then ((spec_IsPoint.f a2_0 a2_1).bind fun t163 => (spec_SideOf.j0 k (!t163) a0_0 a0_1 a1_0 a1_1 a2_0 a2_1)) else (spec_SideOf.j0 k true a0_0 a0_1 a1_0 a1_1 a2_0 a2_1))) else (spec_SideOf.j0 k true a0_0 a0_1 a1_0 a1_1 a2_0 a2_1))) = some r := h
 clear h
 have HC4 := Aside0.mk H
 clear H
 go_enter Try.func158, Try.ntmps158
 go_upto_region 1 with (first | ((with_reducible refine gate_dst (N := 3) rfl ?_); refine Hd.box_ 3 (#[.int .i64 a0_0, .int .i64 a0_1]) 49 ?_; intro gb158 hg w5 hbox hb; have BK158 := Aside0.mk (hbox); have GW158 := Aside0.mk ((Hd.g_ hg Hd.b_ : w.heap.size ≤ gb158)); have GE158 := Aside0.mk ((Hd.g_ hg Hd.b_ : w.heap.size ≤ gb158)); replace HB := Aside0.mk (below_step Hd.b_ hb); clear hb hbox hg) | ((with_reducible refine gate_dst (N := 4) rfl ?_); refine Hd.box_ 4 (#[.int .i64 a1_0, .int .i64 a1_1]) 49 ?_; intro gb159 hg w6 hbox hb; have BK159 := Aside0.mk (hbox); have GW159 := Aside0.mk ((Hd.g_ hg Hd.b_ : w.heap.size ≤ gb159)); have GE159 := Aside0.mk ((Hd.g_ hg Hd.b_ : w.heap.size ≤ gb159)); replace HB := Aside0.mk (below_step Hd.b_ hb); have NB158_159 := Aside0.mk ((Hd.lt_ BK158 hg)); have NB159_158 := Aside0.mk ((Hd.gt_ BK158 hg)); replace BK158 := Aside0.mk (Hd.kb_ BK158 hb); clear hb hbox hg) | ((with_reducible refine gate_dst (N := 5) rfl ?_); refine Hd.box_ 5 (#[.int .i64 a2_0, .int .i64 a2_1]) 49 ?_; intro gb160 hg w7 hbox hb; have BK160 := Aside0.mk (hbox); have GW160 := Aside0.mk ((Hd.g_ hg Hd.b_ : w.heap.size ≤ gb160)); have GE160 := Aside0.mk ((Hd.g_ hg Hd.b_ : w.heap.size ≤ gb160)); replace HB := Aside0.mk (below_step Hd.b_ hb); have NB158_160 := Aside0.mk ((Hd.lt_ BK158 hg)); have NB160_158 := Aside0.mk ((Hd.gt_ BK158 hg)); replace BK158 := Aside0.mk (Hd.kb_ BK158 hb); have NB159_160 := Aside0.mk ((Hd.lt_ BK159 hg)); have NB160_159 := Aside0.mk ((Hd.gt_ BK159 hg)); replace BK159 := Aside0.mk (Hd.kb_ BK159 hb); clear hb hbox hg))
 (try simp only [Act.put, List.setIfInBounds_toArray, List.set_cons_zero, List.set_cons_succ])
 go_cut [20] (fun v20 wc => ∃ (kq : Nat) (x20_3 : Bool), v20 = .bool x20_3 ∧ Aside0 (spec_SideOf.j0 kq x20_3 a0_0 a0_1 a1_0 a1_1 a2_0 a2_1 = some r) ∧ Aside0 (kq ≤ k) ∧ Aside0 (wc.heap[gb158]? = some (.cells #[.int .i64 a0_0, .int .i64 a0_1] 49 (0, 0))) ∧ Aside0 (wc.heap[gb159]? = some (.cells #[.int .i64 a1_0, .int .i64 a1_1] 49 (0, 0))) ∧ Aside0 (wc.heap[gb160]? = some (.cells #[.int .i64 a2_0, .int .i64 a2_1] 49 (0, 0))) ∧ Aside0 (Below w.heap.size w wc))
 case first =>
  have H := HC4.out
  clear HC4
  replace H := Option.bind_eq_some_iff.mp H
  obtain ⟨t161, A80, H⟩ := H
  replace H : (if t161 = true then ((spec_IsPoint.f a1_0 a1_1).bind fun t162 => (if t162 = true then ((spec_IsPoint.f a2_0 a2_1).bind fun t163 => (spec_SideOf.j0 k (!t163) a0_0 a0_1 a1_0 a1_1 a2_0 a2_1)) else (spec_SideOf.j0 k true a0_0 a0_1 a1_0 a1_1 a2_0 a2_1))) else (spec_SideOf.j0 k true a0_0 a0_1 a1_0 a1_1 a2_0 a2_1)) = some r := H
  have A8 := Aside0.mk A80
  clear A80
  by_cases c9 : t161 = true
  ·
   subst c9
   have H1 : ((spec_IsPoint.f a1_0 a1_1).bind fun t162 => (if t162 = true then ((spec_IsPoint.f a2_0 a2_1).bind fun t163 => (spec_SideOf.j0 k (!t163) a0_0 a0_1 a1_0 a1_1 a2_0 a2_1)) else (spec_SideOf.j0 k true a0_0 a0_1 a1_0 a1_1 a2_0 a2_1))) = some r := by rw [if_pos rfl] at H; exact H
   clear H
   have H := H1
   clear H1
   replace H := Option.bind_eq_some_iff.mp H
   obtain ⟨t162, A100, H⟩ := H
   replace H : (if t162 = true then ((spec_IsPoint.f a2_0 a2_1).bind fun t163 => (spec_SideOf.j0 k (!t163) a0_0 a0_1 a1_0 a1_1 a2_0 a2_1)) else (spec_SideOf.j0 k true a0_0 a0_1 a1_0 a1_1 a2_0 a2_1)) = some r := H
   have A10 := Aside0.mk A100
   clear A100
   by_cases c11 : t162 = true
   ·
    subst c11
    have H1 : ((spec_IsPoint.f a2_0 a2_1).bind fun t163 => (spec_SideOf.j0 k (!t163) a0_0 a0_1 a1_0 a1_1 a2_0 a2_1)) = some r := by rw [if_pos rfl] at H; exact H
    clear H
    have H := H1
    clear H1
    replace H := Option.bind_eq_some_iff.mp H
    obtain ⟨t163, A120, H⟩ := H
    replace H : (spec_SideOf.j0 k (!t163) a0_0 a0_1 a1_0 a1_1 a2_0 a2_1) = some r := H
    have A12 := Aside0.mk A120
    clear A120
    have H' := Aside0.mk H
    clear H
    have hnb13 := NB158_159.out
    have hnc13 := NB159_158.out
    have hnb14 := NB158_160.out
    have hnc14 := NB160_158.out
    obtain ⟨hcz15_0, hcz15_1⟩ := Hd.c2_ BK158.out
    obtain ⟨hfz15_0, hfz15_1⟩ := Hd.f2_ BK158.out
    go_wp2_with (first | ((with_reducible refine gate_callee (f := 125) rfl ?_); refine goesL_ (some 9) rfl rfl Try.func125 (by kernel_rfl) rfl #[.agg #[.int .i64 a0_0, .int .i64 a0_1]] rfl Hd.m_ ?_; (with_reducible refine (spec_IsPoint.calls a0_0 a0_1 true _ A8.out).mono ?_); rintro e w16 ⟨rfl, hb⟩; refine ⟨_, rfl, ?_⟩; replace BK158 := Aside0.mk (Hd.kb_ BK158 hb); replace BK159 := Aside0.mk (Hd.kb_ BK159 hb); replace BK160 := Aside0.mk (Hd.kb_ BK160 hb); replace HB := Aside0.mk (below_step Hd.b_ hb); (try clear hb); (try clear hb2); (try clear hk); (try clear hi); have hnb17 := NB159_160.out; have hnc17 := NB160_159.out; obtain ⟨hcz18_0, hcz18_1⟩ := Hd.c2_ BK159.out; obtain ⟨hfz18_0, hfz18_1⟩ := Hd.f2_ BK159.out) | (go_at_call 125; (with_reducible refine (spec_IsPoint.calls a1_0 a1_1 true _ A10.out).mono ?_); rintro e w19 ⟨rfl, hb⟩; replace BK158 := Aside0.mk (Hd.kb_ BK158 hb); replace BK159 := Aside0.mk (Hd.kb_ BK159 hb); replace BK160 := Aside0.mk (Hd.kb_ BK160 hb); replace HB := Aside0.mk (below_step Hd.b_ hb); (try clear hb); (try clear hb2); (try clear hk); (try clear hi); obtain ⟨hcz20_0, hcz20_1⟩ := Hd.c2_ BK160.out; obtain ⟨hfz20_0, hfz20_1⟩ := Hd.f2_ BK160.out) | (go_at_call 125; (with_reducible refine (spec_IsPoint.calls a2_0 a2_1 t163 _ A12.out).mono ?_); rintro e w21 ⟨rfl, hb⟩; replace BK158 := Aside0.mk (Hd.kb_ BK158 hb); replace BK159 := Aside0.mk (Hd.kb_ BK159 hb); replace BK160 := Aside0.mk (Hd.kb_ BK160 hb); replace HB := Aside0.mk (below_step Hd.b_ hb); (try clear hb); (try clear hb2); (try clear hk); (try clear hi)))
    go_meet
    case rel => exact ⟨_, (!t163), (by first | rfl | (simp; done) | (simp [*]; done)), H', ⟨by first | omega | exact Nat.le_refl _⟩, ⟨by (with_reducible repeat (first | refine blk_drewN ?_ _ | refine blk_drew ?_ | refine blk_alloc ?_ _)); exact BK158.out⟩, ⟨by (with_reducible repeat (first | refine blk_drewN ?_ _ | refine blk_drew ?_ | refine blk_alloc ?_ _)); exact BK159.out⟩, ⟨by (with_reducible repeat (first | refine blk_drewN ?_ _ | refine blk_drew ?_ | refine blk_alloc ?_ _)); exact BK160.out⟩, ⟨Hd.b_⟩⟩
   ·
    replace c11 := Bool.eq_false_iff.mpr c11
    subst c11
    have H1 : (spec_SideOf.j0 k true a0_0 a0_1 a1_0 a1_1 a2_0 a2_1) = some r := by rw [if_neg (show ¬ (false = true) by decide)] at H; exact H
    clear H
    have H := H1
    clear H1
    have H' := Aside0.mk H
    clear H
    have hnb22 := NB158_159.out
    have hnc22 := NB159_158.out
    have hnb23 := NB158_160.out
    have hnc23 := NB160_158.out
    obtain ⟨hcz24_0, hcz24_1⟩ := Hd.c2_ BK158.out
    obtain ⟨hfz24_0, hfz24_1⟩ := Hd.f2_ BK158.out
    go_wp2_with (first | ((with_reducible refine gate_callee (f := 125) rfl ?_); refine goesL_ (some 9) rfl rfl Try.func125 (by kernel_rfl) rfl #[.agg #[.int .i64 a0_0, .int .i64 a0_1]] rfl Hd.m_ ?_; (with_reducible refine (spec_IsPoint.calls a0_0 a0_1 true _ A8.out).mono ?_); rintro e w25 ⟨rfl, hb⟩; refine ⟨_, rfl, ?_⟩; replace BK158 := Aside0.mk (Hd.kb_ BK158 hb); replace BK159 := Aside0.mk (Hd.kb_ BK159 hb); replace BK160 := Aside0.mk (Hd.kb_ BK160 hb); replace HB := Aside0.mk (below_step Hd.b_ hb); (try clear hb); (try clear hb2); (try clear hk); (try clear hi); have hnb26 := NB159_160.out; have hnc26 := NB160_159.out; obtain ⟨hcz27_0, hcz27_1⟩ := Hd.c2_ BK159.out; obtain ⟨hfz27_0, hfz27_1⟩ := Hd.f2_ BK159.out) | (go_at_call 125; (with_reducible refine (spec_IsPoint.calls a1_0 a1_1 false _ A10.out).mono ?_); rintro e w28 ⟨rfl, hb⟩; replace BK158 := Aside0.mk (Hd.kb_ BK158 hb); replace BK159 := Aside0.mk (Hd.kb_ BK159 hb); replace BK160 := Aside0.mk (Hd.kb_ BK160 hb); replace HB := Aside0.mk (below_step Hd.b_ hb); (try clear hb); (try clear hb2); (try clear hk); (try clear hi)))
    go_meet
    case rel => exact ⟨_, (true), (by first | rfl | (simp; done) | (simp [*]; done)), H', ⟨by first | omega | exact Nat.le_refl _⟩, ⟨by (with_reducible repeat (first | refine blk_drewN ?_ _ | refine blk_drew ?_ | refine blk_alloc ?_ _)); exact BK158.out⟩, ⟨by (with_reducible repeat (first | refine blk_drewN ?_ _ | refine blk_drew ?_ | refine blk_alloc ?_ _)); exact BK159.out⟩, ⟨by (with_reducible repeat (first | refine blk_drewN ?_ _ | refine blk_drew ?_ | refine blk_alloc ?_ _)); exact BK160.out⟩, ⟨Hd.b_⟩⟩
  ·
   replace c9 := Bool.eq_false_iff.mpr c9
   subst c9
   have H1 : (spec_SideOf.j0 k true a0_0 a0_1 a1_0 a1_1 a2_0 a2_1) = some r := by rw [if_neg (show ¬ (false = true) by decide)] at H; exact H
   clear H
   have H := H1
   clear H1
   have H' := Aside0.mk H
   clear H
   have hnb29 := NB158_159.out
   have hnc29 := NB159_158.out
   have hnb30 := NB158_160.out
   have hnc30 := NB160_158.out
   obtain ⟨hcz31_0, hcz31_1⟩ := Hd.c2_ BK158.out
   obtain ⟨hfz31_0, hfz31_1⟩ := Hd.f2_ BK158.out
   go_wp2_with (first | ((with_reducible refine gate_callee (f := 125) rfl ?_); refine goesL_ (some 9) rfl rfl Try.func125 (by kernel_rfl) rfl #[.agg #[.int .i64 a0_0, .int .i64 a0_1]] rfl Hd.m_ ?_; (with_reducible refine (spec_IsPoint.calls a0_0 a0_1 false _ A8.out).mono ?_); rintro e w32 ⟨rfl, hb⟩; refine ⟨_, rfl, ?_⟩; replace BK158 := Aside0.mk (Hd.kb_ BK158 hb); replace BK159 := Aside0.mk (Hd.kb_ BK159 hb); replace BK160 := Aside0.mk (Hd.kb_ BK160 hb); replace HB := Aside0.mk (below_step Hd.b_ hb); (try clear hb); (try clear hb2); (try clear hk); (try clear hi)))
   go_meet
   case rel => exact ⟨_, (true), (by first | rfl | (simp; done) | (simp [*]; done)), H', ⟨by first | omega | exact Nat.le_refl _⟩, ⟨by (with_reducible repeat (first | refine blk_drewN ?_ _ | refine blk_drew ?_ | refine blk_alloc ?_ _)); exact BK158.out⟩, ⟨by (with_reducible repeat (first | refine blk_drewN ?_ _ | refine blk_drew ?_ | refine blk_alloc ?_ _)); exact BK159.out⟩, ⟨by (with_reducible repeat (first | refine blk_drewN ?_ _ | refine blk_drew ?_ | refine blk_alloc ?_ _)); exact BK160.out⟩, ⟨Hd.b_⟩⟩
 case rest =>
  clear HC4
  try clear c1
  try clear c2
  try clear p2
  try clear c3
  try clear c9
  try clear c11
  try clear c12
  try clear c13
  try clear c14
  try clear c15
  try clear c17
  try clear c22
  try clear c23
  try clear c26
  try clear c29
  try clear c30
  try clear hcz15_0
  try clear hcz15_1
  try clear hcz18_0
  try clear hcz18_1
  try clear hcz20_0
  try clear hcz20_1
  try clear hcz24_0
  try clear hcz24_1
  try clear hcz27_0
  try clear hcz27_1
  try clear hcz31_0
  try clear hcz31_1
  try clear hfz15_0
  try clear hfz15_1
  try clear hfz18_0
  try clear hfz18_1
  try clear hfz20_0
  try clear hfz20_1
  try clear hfz24_0
  try clear hfz24_1
  try clear hfz27_0
  try clear hfz27_1
  try clear hfz31_0
  try clear hfz31_1
  obtain ⟨kq, x20_3, rfl, HA, HJ3, BK158, BK159, BK160, HB⟩ := hcut
  cases kq with
  | zero => exact absurd HA.out (by simp [spec_SideOf.j0])
  | succ kj3 =>
   have H := HA.out
   clear HA
   simp only [spec_SideOf.j0] at H
   by_cases c33 : x20_3 = true
   ·
    subst c33
    have H1 : (some 0) = some r := by rw [if_pos rfl] at H; exact H
    clear H
    have H := H1
    clear H1
    obtain rfl := Option.some.inj H
    go_wp2
    go_ret
    exact ⟨Hd.e_, Hd.b_⟩
   ·
    replace c33 := Bool.eq_false_iff.mpr c33
    subst c33
    have H1 : ((spec_l4Cross.f a0_0 a0_1 a1_0 a1_1 a2_0 a2_1).bind fun t164 => (if t164 > 0 then (some 1) else (if t164 < 0 then (some (-1)) else (some 0)))) = some r := by rw [if_neg (show ¬ (false = true) by decide)] at H; exact H
    clear H
    have H := H1
    clear H1
    replace H := Option.bind_eq_some_iff.mp H
    obtain ⟨t164, A340, H⟩ := H
    replace H : (if t164 > 0 then (some 1) else (if t164 < 0 then (some (-1)) else (some 0))) = some r := H
    have A34 := Aside0.mk A340
    clear A340
    by_cases c35 : t164 > 0
    ·
     rw [if_pos c35] at H
     have c35b0 : decide (0 < t164) = true := decide_eq_true c35
     clear c35
     obtain rfl := Option.some.inj H
     have hnb36 := NB158_159.out
     have hnc36 := NB159_158.out
     have hnb37 := NB158_160.out
     have hnc37 := NB160_158.out
     obtain ⟨hcz38_0, hcz38_1⟩ := Hd.c2_ BK158.out
     obtain ⟨hfz38_0, hfz38_1⟩ := Hd.f2_ BK158.out
     have hnb39 := NB159_160.out
     have hnc39 := NB160_159.out
     obtain ⟨hcz40_0, hcz40_1⟩ := Hd.c2_ BK159.out
     obtain ⟨hfz40_0, hfz40_1⟩ := Hd.f2_ BK159.out
     obtain ⟨hcz41_0, hcz41_1⟩ := Hd.c2_ BK160.out
     obtain ⟨hfz41_0, hfz41_1⟩ := Hd.f2_ BK160.out
     go_wp2_with (first | ((with_reducible refine gate_callee (f := 155) rfl ?_); refine goesL_ (some 24) rfl rfl Try.func155 (by kernel_rfl) rfl #[.agg #[.int .i64 a0_0, .int .i64 a0_1], .agg #[.int .i64 a1_0, .int .i64 a1_1], .agg #[.int .i64 a2_0, .int .i64 a2_1]] rfl Hd.m_ ?_; (with_reducible refine (spec_l4Cross.calls a0_0 a0_1 a1_0 a1_1 a2_0 a2_1 t164 _ A34.out).mono ?_); rintro e w42 ⟨rfl, hb⟩; refine ⟨_, rfl, ?_⟩; replace BK158 := Aside0.mk (Hd.kb_ BK158 hb); replace BK159 := Aside0.mk (Hd.kb_ BK159 hb); replace BK160 := Aside0.mk (Hd.kb_ BK160 hb); replace HB := Aside0.mk (below_step Hd.b_ hb); (try clear hb); (try clear hb2); (try clear hk); (try clear hi)))
     go_ret
     exact ⟨Hd.e_, Hd.b_⟩
    ·
     rw [if_neg c35] at H
     have c35b0 : decide (0 < t164) = false := decide_eq_false c35
     clear c35
     by_cases c43 : t164 < 0
     ·
      rw [if_pos c43] at H
      have c43b0 : decide (t164 < 0) = true := decide_eq_true c43
      clear c43
      obtain rfl := Option.some.inj H
      have hnb44 := NB158_159.out
      have hnc44 := NB159_158.out
      have hnb45 := NB158_160.out
      have hnc45 := NB160_158.out
      obtain ⟨hcz46_0, hcz46_1⟩ := Hd.c2_ BK158.out
      obtain ⟨hfz46_0, hfz46_1⟩ := Hd.f2_ BK158.out
      have hnb47 := NB159_160.out
      have hnc47 := NB160_159.out
      obtain ⟨hcz48_0, hcz48_1⟩ := Hd.c2_ BK159.out
      obtain ⟨hfz48_0, hfz48_1⟩ := Hd.f2_ BK159.out
      obtain ⟨hcz49_0, hcz49_1⟩ := Hd.c2_ BK160.out
      obtain ⟨hfz49_0, hfz49_1⟩ := Hd.f2_ BK160.out
      go_wp2_with (first | ((with_reducible refine gate_callee (f := 155) rfl ?_); refine goesL_ (some 24) rfl rfl Try.func155 (by kernel_rfl) rfl #[.agg #[.int .i64 a0_0, .int .i64 a0_1], .agg #[.int .i64 a1_0, .int .i64 a1_1], .agg #[.int .i64 a2_0, .int .i64 a2_1]] rfl Hd.m_ ?_; (with_reducible refine (spec_l4Cross.calls a0_0 a0_1 a1_0 a1_1 a2_0 a2_1 t164 _ A34.out).mono ?_); rintro e w50 ⟨rfl, hb⟩; refine ⟨_, rfl, ?_⟩; replace BK158 := Aside0.mk (Hd.kb_ BK158 hb); replace BK159 := Aside0.mk (Hd.kb_ BK159 hb); replace BK160 := Aside0.mk (Hd.kb_ BK160 hb); replace HB := Aside0.mk (below_step Hd.b_ hb); (try clear hb); (try clear hb2); (try clear hk); (try clear hi)))
      go_ret
      exact ⟨Hd.e_, Hd.b_⟩
     ·
      rw [if_neg c43] at H
      have c43b0 : decide (t164 < 0) = false := decide_eq_false c43
      clear c43
      obtain rfl := Option.some.inj H
      have hnb51 := NB158_159.out
      have hnc51 := NB159_158.out
      have hnb52 := NB158_160.out
      have hnc52 := NB160_158.out
      obtain ⟨hcz53_0, hcz53_1⟩ := Hd.c2_ BK158.out
      obtain ⟨hfz53_0, hfz53_1⟩ := Hd.f2_ BK158.out
      have hnb54 := NB159_160.out
      have hnc54 := NB160_159.out
      obtain ⟨hcz55_0, hcz55_1⟩ := Hd.c2_ BK159.out
      obtain ⟨hfz55_0, hfz55_1⟩ := Hd.f2_ BK159.out
      obtain ⟨hcz56_0, hcz56_1⟩ := Hd.c2_ BK160.out
      obtain ⟨hfz56_0, hfz56_1⟩ := Hd.f2_ BK160.out
      go_wp2_with (first | ((with_reducible refine gate_callee (f := 155) rfl ?_); refine goesL_ (some 24) rfl rfl Try.func155 (by kernel_rfl) rfl #[.agg #[.int .i64 a0_0, .int .i64 a0_1], .agg #[.int .i64 a1_0, .int .i64 a1_1], .agg #[.int .i64 a2_0, .int .i64 a2_1]] rfl Hd.m_ ?_; (with_reducible refine (spec_l4Cross.calls a0_0 a0_1 a1_0 a1_1 a2_0 a2_1 t164 _ A34.out).mono ?_); rintro e w57 ⟨rfl, hb⟩; refine ⟨_, rfl, ?_⟩; replace BK158 := Aside0.mk (Hd.kb_ BK158 hb); replace BK159 := Aside0.mk (Hd.kb_ BK159 hb); replace BK160 := Aside0.mk (Hd.kb_ BK160 hb); replace HB := Aside0.mk (below_step Hd.b_ hb); (try clear hb); (try clear hb2); (try clear hk); (try clear hi)))
      go_ret
      exact ⟨Hd.e_, Hd.b_⟩
mutual
def spec_HowMeet.j0 : Nat → Bool → Int → Int → Int → Int → Int → Int → Int → Int → Option (Int)
 | 0, _, _, _, _, _, _, _, _, _ => none
 | k + 1, x12, x166000, x166001, x166002, x166003, x167000, x167001, x167002, x167003 => if x12 = true then (some 0) else ((spec_Max.f x166000 x166002).bind fun t169 => ((spec_Min.f x167000 x167002).bind fun t170 => (if t169 < t170 then (spec_HowMeet.j1 k true x166000 x166001 x166002 x166003 x167000 x167001 x167002 x167003) else ((spec_Max.f x167000 x167002).bind fun t171 => ((spec_Min.f x166000 x166002).bind fun t172 => (if t171 < t172 then (spec_HowMeet.j1 k true x166000 x166001 x166002 x166003 x167000 x167001 x167002 x167003) else ((spec_Max.f x166001 x166003).bind fun t173 => ((spec_Min.f x167001 x167003).bind fun t174 => (if t173 < t174 then (spec_HowMeet.j1 k true x166000 x166001 x166002 x166003 x167000 x167001 x167002 x167003) else ((spec_Max.f x167001 x167003).bind fun t175 => ((spec_Min.f x166001 x166003).bind fun t176 => (spec_HowMeet.j1 k (decide (t175 < t176)) x166000 x166001 x166002 x166003 x167000 x167001 x167002 x167003))))))))))))
def spec_HowMeet.j1 : Nat → Bool → Int → Int → Int → Int → Int → Int → Int → Int → Option (Int)
 | 0, _, _, _, _, _, _, _, _, _ => none
 | k + 1, x78, x166000, x166001, x166002, x166003, x167000, x167001, x167002, x167003 => if x78 = true then (some 0) else ((spec_l5Shared.f k x166000 x166001 x166002 x166003 x167000 x167001 x167002 x167003).bind fun t177 => (if t177 = 0 then ((spec_SideOf.f k x166000 x166001 x166002 x166003 x167000 x167001).bind fun t178 => ((spec_SideOf.f k x166000 x166001 x166002 x166003 x167002 x167003).bind fun t179 => (if (wrap64 (t178 * t179)) < 0 then ((spec_SideOf.f k x167000 x167001 x167002 x167003 x166000 x166001).bind fun t180 => ((spec_SideOf.f k x167000 x167001 x167002 x167003 x166002 x166003).bind fun t181 => (if (wrap64 (t180 * t181)) < 0 then (some 2) else (some 0)))) else (some 0)))) else (if t177 = 1 then (some 1) else (some 3))))
end
def spec_HowMeet.f (k : Nat) (a0_0 : Int) (a0_1 : Int) (a0_2 : Int) (a0_3 : Int) (a1_0 : Int) (a1_1 : Int) (a1_2 : Int) (a1_3 : Int) : Option (Int) := (spec_IsSegment.f a0_0 a0_1 a0_2 a0_3).bind fun t167 => (if t167 = true then ((spec_IsSegment.f a1_0 a1_1 a1_2 a1_3).bind fun t168 => (spec_HowMeet.j0 k (!t168) a0_0 a0_1 a0_2 a0_3 a1_0 a1_1 a1_2 a1_3)) else (spec_HowMeet.j0 k true a0_0 a0_1 a0_2 a0_3 a1_0 a1_1 a1_2 a1_3))
set_option maxHeartbeats 8000000 in
set_option maxRecDepth 100000 in
theorem spec_HowMeet.calls (k : Nat) (a0_0 : Int) (a0_1 : Int) (a0_2 : Int) (a0_3 : Int) (a1_0 : Int) (a1_1 : Int) (a1_2 : Int) (a1_3 : Int) (r : Int) (w : World) (h : spec_HowMeet.f k a0_0 a0_1 a0_2 a0_3 a1_0 a1_1 a1_2 a1_3 = some r) :
  Calls Try.prog 129 #[.agg #[.int .i64 a0_0, .int .i64 a0_1, .int .i64 a0_2, .int .i64 a0_3], .agg #[.int .i64 a1_0, .int .i64 a1_1, .int .i64 a1_2, .int .i64 a1_3]] w fun e w' => e = .returned (.int .i64 r) ∧ Below w.heap.size w w' := by
 have hu111 := Try.underlying111
 have hu49 := Try.underlying49
 have HB := Aside0.mk (Below.refl w.heap.size w)
 have H : ((spec_IsSegment.f a0_0 a0_1 a0_2 a0_3).bind fun t167 => (if t167 = true then ((spec_IsSegment.f a1_0 a1_1 a1_2 a1_3).bind fun t168 => (spec_HowMeet.j0 k (!t168) a0_0 a0_1 a0_2 a0_3 a1_0 a1_1 a1_2 a1_3)) else (spec_HowMeet.j0 k true a0_0 a0_1 a0_2 a0_3 a1_0 a1_1 a1_2 a1_3))) = some r := h
 clear h
 have HC3 := Aside0.mk H
 clear H
 go_enter Try.func129, Try.ntmps129
 go_upto_region 1 with (first | ((with_reducible refine gate_dst (N := 2) rfl ?_); refine Hd.box_ 2 (#[.int .i64 a0_0, .int .i64 a0_1, .int .i64 a0_2, .int .i64 a0_3]) 111 ?_; intro gb165 hg w4 hbox hb; have BK165 := Aside0.mk (hbox); have GW165 := Aside0.mk ((Hd.g_ hg Hd.b_ : w.heap.size ≤ gb165)); have GE165 := Aside0.mk ((Hd.g_ hg Hd.b_ : w.heap.size ≤ gb165)); replace HB := Aside0.mk (below_step Hd.b_ hb); clear hb hbox hg) | ((with_reducible refine gate_dst (N := 3) rfl ?_); refine Hd.box_ 3 (#[.int .i64 a1_0, .int .i64 a1_1, .int .i64 a1_2, .int .i64 a1_3]) 111 ?_; intro gb166 hg w5 hbox hb; have BK166 := Aside0.mk (hbox); have GW166 := Aside0.mk ((Hd.g_ hg Hd.b_ : w.heap.size ≤ gb166)); have GE166 := Aside0.mk ((Hd.g_ hg Hd.b_ : w.heap.size ≤ gb166)); replace HB := Aside0.mk (below_step Hd.b_ hb); have NB165_166 := Aside0.mk ((Hd.lt_ BK165 hg)); have NB166_165 := Aside0.mk ((Hd.gt_ BK165 hg)); replace BK165 := Aside0.mk (Hd.kb_ BK165 hb); clear hb hbox hg))
 (try simp only [Act.put, List.setIfInBounds_toArray, List.set_cons_zero, List.set_cons_succ])
 go_cut [12] (fun v12 wc => ∃ (kq : Nat) (x12_2 : Bool), v12 = .bool x12_2 ∧ Aside0 (spec_HowMeet.j0 kq x12_2 a0_0 a0_1 a0_2 a0_3 a1_0 a1_1 a1_2 a1_3 = some r) ∧ Aside0 (kq ≤ k) ∧ Aside0 (wc.heap[gb165]? = some (.cells #[.int .i64 a0_0, .int .i64 a0_1, .int .i64 a0_2, .int .i64 a0_3] 111 (0, 0))) ∧ Aside0 (wc.heap[gb166]? = some (.cells #[.int .i64 a1_0, .int .i64 a1_1, .int .i64 a1_2, .int .i64 a1_3] 111 (0, 0))) ∧ Aside0 (Below w.heap.size w wc))
 case first =>
  have H := HC3.out
  clear HC3
  replace H := Option.bind_eq_some_iff.mp H
  obtain ⟨t167, A60, H⟩ := H
  replace H : (if t167 = true then ((spec_IsSegment.f a1_0 a1_1 a1_2 a1_3).bind fun t168 => (spec_HowMeet.j0 k (!t168) a0_0 a0_1 a0_2 a0_3 a1_0 a1_1 a1_2 a1_3)) else (spec_HowMeet.j0 k true a0_0 a0_1 a0_2 a0_3 a1_0 a1_1 a1_2 a1_3)) = some r := H
  have A6 := Aside0.mk A60
  clear A60
  by_cases c7 : t167 = true
  ·
   subst c7
   have H1 : ((spec_IsSegment.f a1_0 a1_1 a1_2 a1_3).bind fun t168 => (spec_HowMeet.j0 k (!t168) a0_0 a0_1 a0_2 a0_3 a1_0 a1_1 a1_2 a1_3)) = some r := by rw [if_pos rfl] at H; exact H
   clear H
   have H := H1
   clear H1
   replace H := Option.bind_eq_some_iff.mp H
   obtain ⟨t168, A80, H⟩ := H
   replace H : (spec_HowMeet.j0 k (!t168) a0_0 a0_1 a0_2 a0_3 a1_0 a1_1 a1_2 a1_3) = some r := H
   have A8 := Aside0.mk A80
   clear A80
   have H' := Aside0.mk H
   clear H
   have hnb9 := NB165_166.out
   have hnc9 := NB166_165.out
   obtain ⟨hcz10_0, hcz10_1, hcz10_2, hcz10_3⟩ := Hd.c4_ BK165.out
   obtain ⟨hfz10_0, hfz10_1, hfz10_2, hfz10_3⟩ := Hd.f4_ BK165.out
   go_wp2_with (first | ((with_reducible refine gate_callee (f := 137) rfl ?_); refine goesL_ (some 6) rfl rfl Try.func137 (by kernel_rfl) rfl #[.agg #[.int .i64 a0_0, .int .i64 a0_1, .int .i64 a0_2, .int .i64 a0_3]] rfl Hd.m_ ?_; (with_reducible refine (spec_IsSegment.calls a0_0 a0_1 a0_2 a0_3 true _ A6.out).mono ?_); rintro e w11 ⟨rfl, hb⟩; refine ⟨_, rfl, ?_⟩; replace BK165 := Aside0.mk (Hd.kb_ BK165 hb); replace BK166 := Aside0.mk (Hd.kb_ BK166 hb); replace HB := Aside0.mk (below_step Hd.b_ hb); (try clear hb); (try clear hb2); (try clear hk); (try clear hi); obtain ⟨hcz12_0, hcz12_1, hcz12_2, hcz12_3⟩ := Hd.c4_ BK166.out; obtain ⟨hfz12_0, hfz12_1, hfz12_2, hfz12_3⟩ := Hd.f4_ BK166.out) | (go_at_call 137; (with_reducible refine (spec_IsSegment.calls a1_0 a1_1 a1_2 a1_3 t168 _ A8.out).mono ?_); rintro e w13 ⟨rfl, hb⟩; replace BK165 := Aside0.mk (Hd.kb_ BK165 hb); replace BK166 := Aside0.mk (Hd.kb_ BK166 hb); replace HB := Aside0.mk (below_step Hd.b_ hb); (try clear hb); (try clear hb2); (try clear hk); (try clear hi)))
   go_meet
   case rel => exact ⟨_, (!t168), (by first | rfl | (simp; done) | (simp [*]; done)), H', ⟨by first | omega | exact Nat.le_refl _⟩, ⟨by (with_reducible repeat (first | refine blk_drewN ?_ _ | refine blk_drew ?_ | refine blk_alloc ?_ _)); exact BK165.out⟩, ⟨by (with_reducible repeat (first | refine blk_drewN ?_ _ | refine blk_drew ?_ | refine blk_alloc ?_ _)); exact BK166.out⟩, ⟨Hd.b_⟩⟩
  ·
   replace c7 := Bool.eq_false_iff.mpr c7
   subst c7
   have H1 : (spec_HowMeet.j0 k true a0_0 a0_1 a0_2 a0_3 a1_0 a1_1 a1_2 a1_3) = some r := by rw [if_neg (show ¬ (false = true) by decide)] at H; exact H
   clear H
   have H := H1
   clear H1
   have H' := Aside0.mk H
   clear H
   have hnb14 := NB165_166.out
   have hnc14 := NB166_165.out
   obtain ⟨hcz15_0, hcz15_1, hcz15_2, hcz15_3⟩ := Hd.c4_ BK165.out
   obtain ⟨hfz15_0, hfz15_1, hfz15_2, hfz15_3⟩ := Hd.f4_ BK165.out
   go_wp2_with (first | ((with_reducible refine gate_callee (f := 137) rfl ?_); refine goesL_ (some 6) rfl rfl Try.func137 (by kernel_rfl) rfl #[.agg #[.int .i64 a0_0, .int .i64 a0_1, .int .i64 a0_2, .int .i64 a0_3]] rfl Hd.m_ ?_; (with_reducible refine (spec_IsSegment.calls a0_0 a0_1 a0_2 a0_3 false _ A6.out).mono ?_); rintro e w16 ⟨rfl, hb⟩; refine ⟨_, rfl, ?_⟩; replace BK165 := Aside0.mk (Hd.kb_ BK165 hb); replace BK166 := Aside0.mk (Hd.kb_ BK166 hb); replace HB := Aside0.mk (below_step Hd.b_ hb); (try clear hb); (try clear hb2); (try clear hk); (try clear hi)))
   go_meet
   case rel => exact ⟨_, (true), (by first | rfl | (simp; done) | (simp [*]; done)), H', ⟨by first | omega | exact Nat.le_refl _⟩, ⟨by (with_reducible repeat (first | refine blk_drewN ?_ _ | refine blk_drew ?_ | refine blk_alloc ?_ _)); exact BK165.out⟩, ⟨by (with_reducible repeat (first | refine blk_drewN ?_ _ | refine blk_drew ?_ | refine blk_alloc ?_ _)); exact BK166.out⟩, ⟨Hd.b_⟩⟩
 case rest =>
  clear HC3
  try clear c1
  try clear p2
  try clear c7
  try clear c9
  try clear c12
  try clear c13
  try clear c14
  try clear hcz10_0
  try clear hcz10_1
  try clear hcz10_2
  try clear hcz10_3
  try clear hcz12_0
  try clear hcz12_1
  try clear hcz12_2
  try clear hcz12_3
  try clear hcz15_0
  try clear hcz15_1
  try clear hcz15_2
  try clear hcz15_3
  try clear hfz10_0
  try clear hfz10_1
  try clear hfz10_2
  try clear hfz10_3
  try clear hfz12_0
  try clear hfz12_1
  try clear hfz12_2
  try clear hfz12_3
  try clear hfz15_0
  try clear hfz15_1
  try clear hfz15_2
  try clear hfz15_3
  obtain ⟨kq, x12_2, rfl, HA, HJ2, BK165, BK166, HB⟩ := hcut
  cases kq with
  | zero => exact absurd HA.out (by simp [spec_HowMeet.j0])
  | succ kj2 =>
   have H := HA.out
   clear HA
   simp only [spec_HowMeet.j0] at H
   by_cases c17 : x12_2 = true
   ·
    subst c17
    have H1 : (some 0) = some r := by rw [if_pos rfl] at H; exact H
    clear H
    have H := H1
    clear H1
    obtain rfl := Option.some.inj H
    go_wp2
    go_ret
    exact ⟨Hd.e_, Hd.b_⟩
   ·
    replace c17 := Bool.eq_false_iff.mpr c17
    subst c17
    have H1 : ((spec_Max.f a0_0 a0_2).bind fun t169 => ((spec_Min.f a1_0 a1_2).bind fun t170 => (if t169 < t170 then (spec_HowMeet.j1 kj2 true a0_0 a0_1 a0_2 a0_3 a1_0 a1_1 a1_2 a1_3) else ((spec_Max.f a1_0 a1_2).bind fun t171 => ((spec_Min.f a0_0 a0_2).bind fun t172 => (if t171 < t172 then (spec_HowMeet.j1 kj2 true a0_0 a0_1 a0_2 a0_3 a1_0 a1_1 a1_2 a1_3) else ((spec_Max.f a0_1 a0_3).bind fun t173 => ((spec_Min.f a1_1 a1_3).bind fun t174 => (if t173 < t174 then (spec_HowMeet.j1 kj2 true a0_0 a0_1 a0_2 a0_3 a1_0 a1_1 a1_2 a1_3) else ((spec_Max.f a1_1 a1_3).bind fun t175 => ((spec_Min.f a0_1 a0_3).bind fun t176 => (spec_HowMeet.j1 kj2 (decide (t175 < t176)) a0_0 a0_1 a0_2 a0_3 a1_0 a1_1 a1_2 a1_3)))))))))))) = some r := by rw [if_neg (show ¬ (false = true) by decide)] at H; exact H
    clear H
    have H := H1
    clear H1
    have HC18 := Aside0.mk H
    clear H
    go_upto_region 3 with (fail)
    go_cut [78] (fun v78 wc => ∃ (kq : Nat) (x78_17 : Bool), v78 = .bool x78_17 ∧ Aside0 (spec_HowMeet.j1 kq x78_17 a0_0 a0_1 a0_2 a0_3 a1_0 a1_1 a1_2 a1_3 = some r) ∧ Aside0 (kq ≤ kj2) ∧ Aside0 (wc.heap[gb165]? = some (.cells #[.int .i64 a0_0, .int .i64 a0_1, .int .i64 a0_2, .int .i64 a0_3] 111 (0, 0))) ∧ Aside0 (wc.heap[gb166]? = some (.cells #[.int .i64 a1_0, .int .i64 a1_1, .int .i64 a1_2, .int .i64 a1_3] 111 (0, 0))) ∧ Aside0 (Below w.heap.size w wc))
    case first =>
     have H := HC18.out
     clear HC18
     replace H := Option.bind_eq_some_iff.mp H
     obtain ⟨t169, A190, H⟩ := H
     replace H : ((spec_Min.f a1_0 a1_2).bind fun t170 => (if t169 < t170 then (spec_HowMeet.j1 kj2 true a0_0 a0_1 a0_2 a0_3 a1_0 a1_1 a1_2 a1_3) else ((spec_Max.f a1_0 a1_2).bind fun t171 => ((spec_Min.f a0_0 a0_2).bind fun t172 => (if t171 < t172 then (spec_HowMeet.j1 kj2 true a0_0 a0_1 a0_2 a0_3 a1_0 a1_1 a1_2 a1_3) else ((spec_Max.f a0_1 a0_3).bind fun t173 => ((spec_Min.f a1_1 a1_3).bind fun t174 => (if t173 < t174 then (spec_HowMeet.j1 kj2 true a0_0 a0_1 a0_2 a0_3 a1_0 a1_1 a1_2 a1_3) else ((spec_Max.f a1_1 a1_3).bind fun t175 => ((spec_Min.f a0_1 a0_3).bind fun t176 => (spec_HowMeet.j1 kj2 (decide (t175 < t176)) a0_0 a0_1 a0_2 a0_3 a1_0 a1_1 a1_2 a1_3))))))))))) = some r := H
     have A19 := Aside0.mk A190
     clear A190
     replace H := Option.bind_eq_some_iff.mp H
     obtain ⟨t170, A200, H⟩ := H
     replace H : (if t169 < t170 then (spec_HowMeet.j1 kj2 true a0_0 a0_1 a0_2 a0_3 a1_0 a1_1 a1_2 a1_3) else ((spec_Max.f a1_0 a1_2).bind fun t171 => ((spec_Min.f a0_0 a0_2).bind fun t172 => (if t171 < t172 then (spec_HowMeet.j1 kj2 true a0_0 a0_1 a0_2 a0_3 a1_0 a1_1 a1_2 a1_3) else ((spec_Max.f a0_1 a0_3).bind fun t173 => ((spec_Min.f a1_1 a1_3).bind fun t174 => (if t173 < t174 then (spec_HowMeet.j1 kj2 true a0_0 a0_1 a0_2 a0_3 a1_0 a1_1 a1_2 a1_3) else ((spec_Max.f a1_1 a1_3).bind fun t175 => ((spec_Min.f a0_1 a0_3).bind fun t176 => (spec_HowMeet.j1 kj2 (decide (t175 < t176)) a0_0 a0_1 a0_2 a0_3 a1_0 a1_1 a1_2 a1_3)))))))))) = some r := H
     have A20 := Aside0.mk A200
     clear A200
     by_cases c21 : t169 < t170
     ·
      rw [if_pos c21] at H
      have c21b0 : decide (t169 < t170) = true := decide_eq_true c21
      clear c21
      (first | rw [c21b0] | (simp only [i64_w, i32_w]; rw [c21b0]) | skip)
      have H' := Aside0.mk H
      clear H
      try go_wp2
      replace BK165 := Aside0.mk (blk_drew BK165.out)
      replace BK166 := Aside0.mk (blk_drew BK166.out)
      replace HB := Aside0.mk (below_drew1 HB.out)
      obtain ⟨s0_, s1_, s2_, s3_⟩ := Hd.HW.k4 (W0 := wc.drew) BK165
      obtain ⟨s4_, s5_, s6_, s7_⟩ := Hd.HW.k4 (W0 := wc.drew) BK166
      refine Hd.HW.region (by kernel_rfl) (by kernel_rfl) ?_
      try dsimp only [List.append]
      repeat (go_big_quiet_step ((first | (go_at_call 128; with_reducible exact Hd.HW.d (spec_Max.calls a0_0 a0_2 t169 _ A19.out)) | (go_at_call 156; with_reducible exact Hd.HW.d (spec_Min.calls a1_0 a1_2 t170 _ A20.out)))))
      refine wpQuiet_nil ?_
      intro _ hq_
      obtain ⟨q_, rfl⟩ := hq_
      clear s0_ s1_ s2_ s3_ s4_ s5_ s6_ s7_
      replace BK165 := Aside0.mk (blk_below BK165.out q_.b)
      replace BK166 := Aside0.mk (blk_below BK166.out q_.b)
      replace HB := Aside0.mk (below_step HB.out q_.b)
      generalize q_.W = w22 at BK165 BK166 HB ⊢
      try simp only [i64_w, i32_w]
      try go_wp2
      go_meet
      case rel => exact ⟨_, (true), (by first | rfl | (simp; done) | (simp [*]; done)), H', ⟨by have := HJ2.out; first | omega | exact Nat.le_refl _⟩, ⟨by (with_reducible repeat (first | refine blk_drewN ?_ _ | refine blk_drew ?_ | refine blk_alloc ?_ _)); exact BK165.out⟩, ⟨by (with_reducible repeat (first | refine blk_drewN ?_ _ | refine blk_drew ?_ | refine blk_alloc ?_ _)); exact BK166.out⟩, ⟨Hd.b_⟩⟩
     ·
      rw [if_neg c21] at H
      have c21b0 : decide (t169 < t170) = false := decide_eq_false c21
      clear c21
      (first | rw [c21b0] | (simp only [i64_w, i32_w]; rw [c21b0]) | skip)
      replace H := Option.bind_eq_some_iff.mp H
      obtain ⟨t171, A230, H⟩ := H
      replace H : ((spec_Min.f a0_0 a0_2).bind fun t172 => (if t171 < t172 then (spec_HowMeet.j1 kj2 true a0_0 a0_1 a0_2 a0_3 a1_0 a1_1 a1_2 a1_3) else ((spec_Max.f a0_1 a0_3).bind fun t173 => ((spec_Min.f a1_1 a1_3).bind fun t174 => (if t173 < t174 then (spec_HowMeet.j1 kj2 true a0_0 a0_1 a0_2 a0_3 a1_0 a1_1 a1_2 a1_3) else ((spec_Max.f a1_1 a1_3).bind fun t175 => ((spec_Min.f a0_1 a0_3).bind fun t176 => (spec_HowMeet.j1 kj2 (decide (t175 < t176)) a0_0 a0_1 a0_2 a0_3 a1_0 a1_1 a1_2 a1_3)))))))) = some r := H
      have A23 := Aside0.mk A230
      clear A230
      replace H := Option.bind_eq_some_iff.mp H
      obtain ⟨t172, A240, H⟩ := H
      replace H : (if t171 < t172 then (spec_HowMeet.j1 kj2 true a0_0 a0_1 a0_2 a0_3 a1_0 a1_1 a1_2 a1_3) else ((spec_Max.f a0_1 a0_3).bind fun t173 => ((spec_Min.f a1_1 a1_3).bind fun t174 => (if t173 < t174 then (spec_HowMeet.j1 kj2 true a0_0 a0_1 a0_2 a0_3 a1_0 a1_1 a1_2 a1_3) else ((spec_Max.f a1_1 a1_3).bind fun t175 => ((spec_Min.f a0_1 a0_3).bind fun t176 => (spec_HowMeet.j1 kj2 (decide (t175 < t176)) a0_0 a0_1 a0_2 a0_3 a1_0 a1_1 a1_2 a1_3))))))) = some r := H
      have A24 := Aside0.mk A240
      clear A240
      by_cases c25 : t171 < t172
      ·
       rw [if_pos c25] at H
       have c25b0 : decide (t171 < t172) = true := decide_eq_true c25
       clear c25
       have H' := Aside0.mk H
       clear H
       try go_wp2
       replace BK165 := Aside0.mk (blk_drew BK165.out)
       replace BK166 := Aside0.mk (blk_drew BK166.out)
       replace HB := Aside0.mk (below_drew1 HB.out)
       obtain ⟨s0_, s1_, s2_, s3_⟩ := Hd.HW.k4 (W0 := wc.drew) BK165
       obtain ⟨s4_, s5_, s6_, s7_⟩ := Hd.HW.k4 (W0 := wc.drew) BK166
       refine Hd.HW.region (by kernel_rfl) (by kernel_rfl) ?_
       try dsimp only [List.append]
       repeat (go_big_quiet_step ((first | (go_at_call 128; with_reducible exact Hd.HW.d (spec_Max.calls a0_0 a0_2 t169 _ A19.out)) | (go_at_call 156; with_reducible exact Hd.HW.d (spec_Min.calls a1_0 a1_2 t170 _ A20.out)) | (go_at_call 128; with_reducible exact Hd.HW.d (spec_Max.calls a1_0 a1_2 t171 _ A23.out)) | (go_at_call 156; with_reducible exact Hd.HW.d (spec_Min.calls a0_0 a0_2 t172 _ A24.out)))))
       refine wpQuiet_nil ?_
       intro _ hq_
       obtain ⟨q_, rfl⟩ := hq_
       clear s0_ s1_ s2_ s3_ s4_ s5_ s6_ s7_
       replace BK165 := Aside0.mk (blk_below BK165.out q_.b)
       replace BK166 := Aside0.mk (blk_below BK166.out q_.b)
       replace HB := Aside0.mk (below_step HB.out q_.b)
       generalize q_.W = w26 at BK165 BK166 HB ⊢
       try simp only [i64_w, i32_w]
       try go_wp2
       go_meet
       case rel => exact ⟨_, (true), (by first | rfl | (simp; done) | (simp [*]; done)), H', ⟨by have := HJ2.out; first | omega | exact Nat.le_refl _⟩, ⟨by (with_reducible repeat (first | refine blk_drewN ?_ _ | refine blk_drew ?_ | refine blk_alloc ?_ _)); exact BK165.out⟩, ⟨by (with_reducible repeat (first | refine blk_drewN ?_ _ | refine blk_drew ?_ | refine blk_alloc ?_ _)); exact BK166.out⟩, ⟨Hd.b_⟩⟩
      ·
       rw [if_neg c25] at H
       have c25b0 : decide (t171 < t172) = false := decide_eq_false c25
       clear c25
       replace H := Option.bind_eq_some_iff.mp H
       obtain ⟨t173, A270, H⟩ := H
       replace H : ((spec_Min.f a1_1 a1_3).bind fun t174 => (if t173 < t174 then (spec_HowMeet.j1 kj2 true a0_0 a0_1 a0_2 a0_3 a1_0 a1_1 a1_2 a1_3) else ((spec_Max.f a1_1 a1_3).bind fun t175 => ((spec_Min.f a0_1 a0_3).bind fun t176 => (spec_HowMeet.j1 kj2 (decide (t175 < t176)) a0_0 a0_1 a0_2 a0_3 a1_0 a1_1 a1_2 a1_3))))) = some r := H
       have A27 := Aside0.mk A270
       clear A270
       replace H := Option.bind_eq_some_iff.mp H
       obtain ⟨t174, A280, H⟩ := H
       replace H : (if t173 < t174 then (spec_HowMeet.j1 kj2 true a0_0 a0_1 a0_2 a0_3 a1_0 a1_1 a1_2 a1_3) else ((spec_Max.f a1_1 a1_3).bind fun t175 => ((spec_Min.f a0_1 a0_3).bind fun t176 => (spec_HowMeet.j1 kj2 (decide (t175 < t176)) a0_0 a0_1 a0_2 a0_3 a1_0 a1_1 a1_2 a1_3)))) = some r := H
       have A28 := Aside0.mk A280
       clear A280
       by_cases c29 : t173 < t174
       ·
        rw [if_pos c29] at H
        have c29b0 : decide (t173 < t174) = true := decide_eq_true c29
        clear c29
        have H' := Aside0.mk H
        clear H
        try go_wp2
        replace BK165 := Aside0.mk (blk_drew BK165.out)
        replace BK166 := Aside0.mk (blk_drew BK166.out)
        replace HB := Aside0.mk (below_drew1 HB.out)
        obtain ⟨s0_, s1_, s2_, s3_⟩ := Hd.HW.k4 (W0 := wc.drew) BK165
        obtain ⟨s4_, s5_, s6_, s7_⟩ := Hd.HW.k4 (W0 := wc.drew) BK166
        refine Hd.HW.region (by kernel_rfl) (by kernel_rfl) ?_
        try dsimp only [List.append]
        repeat (go_big_quiet_step ((first | (go_at_call 128; with_reducible exact Hd.HW.d (spec_Max.calls a0_0 a0_2 t169 _ A19.out)) | (go_at_call 156; with_reducible exact Hd.HW.d (spec_Min.calls a1_0 a1_2 t170 _ A20.out)) | (go_at_call 128; with_reducible exact Hd.HW.d (spec_Max.calls a1_0 a1_2 t171 _ A23.out)) | (go_at_call 156; with_reducible exact Hd.HW.d (spec_Min.calls a0_0 a0_2 t172 _ A24.out)) | (go_at_call 128; with_reducible exact Hd.HW.d (spec_Max.calls a0_1 a0_3 t173 _ A27.out)) | (go_at_call 156; with_reducible exact Hd.HW.d (spec_Min.calls a1_1 a1_3 t174 _ A28.out)))))
        refine wpQuiet_nil ?_
        intro _ hq_
        obtain ⟨q_, rfl⟩ := hq_
        clear s0_ s1_ s2_ s3_ s4_ s5_ s6_ s7_
        replace BK165 := Aside0.mk (blk_below BK165.out q_.b)
        replace BK166 := Aside0.mk (blk_below BK166.out q_.b)
        replace HB := Aside0.mk (below_step HB.out q_.b)
        generalize q_.W = w30 at BK165 BK166 HB ⊢
        try simp only [i64_w, i32_w]
        try go_wp2
        go_meet
        case rel => exact ⟨_, (true), (by first | rfl | (simp; done) | (simp [*]; done)), H', ⟨by have := HJ2.out; first | omega | exact Nat.le_refl _⟩, ⟨by (with_reducible repeat (first | refine blk_drewN ?_ _ | refine blk_drew ?_ | refine blk_alloc ?_ _)); exact BK165.out⟩, ⟨by (with_reducible repeat (first | refine blk_drewN ?_ _ | refine blk_drew ?_ | refine blk_alloc ?_ _)); exact BK166.out⟩, ⟨Hd.b_⟩⟩
       ·
        rw [if_neg c29] at H
        have c29b0 : decide (t173 < t174) = false := decide_eq_false c29
        clear c29
        replace H := Option.bind_eq_some_iff.mp H
        obtain ⟨t175, A310, H⟩ := H
        replace H : ((spec_Min.f a0_1 a0_3).bind fun t176 => (spec_HowMeet.j1 kj2 (decide (t175 < t176)) a0_0 a0_1 a0_2 a0_3 a1_0 a1_1 a1_2 a1_3)) = some r := H
        have A31 := Aside0.mk A310
        clear A310
        replace H := Option.bind_eq_some_iff.mp H
        obtain ⟨t176, A320, H⟩ := H
        replace H : (spec_HowMeet.j1 kj2 (decide (t175 < t176)) a0_0 a0_1 a0_2 a0_3 a1_0 a1_1 a1_2 a1_3) = some r := H
        have A32 := Aside0.mk A320
        clear A320
        have H' := Aside0.mk H
        clear H
        try go_wp2
        replace BK165 := Aside0.mk (blk_drew BK165.out)
        replace BK166 := Aside0.mk (blk_drew BK166.out)
        replace HB := Aside0.mk (below_drew1 HB.out)
        obtain ⟨s0_, s1_, s2_, s3_⟩ := Hd.HW.k4 (W0 := wc.drew) BK165
        obtain ⟨s4_, s5_, s6_, s7_⟩ := Hd.HW.k4 (W0 := wc.drew) BK166
        refine Hd.HW.region (by kernel_rfl) (by kernel_rfl) ?_
        try dsimp only [List.append]
        repeat (go_big_quiet_step ((first | (go_at_call 128; with_reducible exact Hd.HW.d (spec_Max.calls a0_0 a0_2 t169 _ A19.out)) | (go_at_call 156; with_reducible exact Hd.HW.d (spec_Min.calls a1_0 a1_2 t170 _ A20.out)) | (go_at_call 128; with_reducible exact Hd.HW.d (spec_Max.calls a1_0 a1_2 t171 _ A23.out)) | (go_at_call 156; with_reducible exact Hd.HW.d (spec_Min.calls a0_0 a0_2 t172 _ A24.out)) | (go_at_call 128; with_reducible exact Hd.HW.d (spec_Max.calls a0_1 a0_3 t173 _ A27.out)) | (go_at_call 156; with_reducible exact Hd.HW.d (spec_Min.calls a1_1 a1_3 t174 _ A28.out)) | (go_at_call 128; with_reducible exact Hd.HW.d (spec_Max.calls a1_1 a1_3 t175 _ A31.out)) | (go_at_call 156; with_reducible exact Hd.HW.d (spec_Min.calls a0_1 a0_3 t176 _ A32.out)))))
        refine wpQuiet_nil ?_
        intro _ hq_
        obtain ⟨q_, rfl⟩ := hq_
        clear s0_ s1_ s2_ s3_ s4_ s5_ s6_ s7_
        replace BK165 := Aside0.mk (blk_below BK165.out q_.b)
        replace BK166 := Aside0.mk (blk_below BK166.out q_.b)
        replace HB := Aside0.mk (below_step HB.out q_.b)
        generalize q_.W = w33 at BK165 BK166 HB ⊢
        try simp only [i64_w, i32_w]
        try go_wp2
        go_meet
        case rel => exact ⟨_, (decide (t175 < t176)), (by first | rfl | (simp; done) | (simp [*]; done)), H', ⟨by have := HJ2.out; first | omega | exact Nat.le_refl _⟩, ⟨by (with_reducible repeat (first | refine blk_drewN ?_ _ | refine blk_drew ?_ | refine blk_alloc ?_ _)); exact BK165.out⟩, ⟨by (with_reducible repeat (first | refine blk_drewN ?_ _ | refine blk_drew ?_ | refine blk_alloc ?_ _)); exact BK166.out⟩, ⟨Hd.b_⟩⟩
    case rest =>
     clear HC18
     try clear c1
     try clear c2
     try clear p2
     try clear c12
     try clear c15
     try clear c29
     try clear c29b0
     obtain ⟨kq, x78_17, rfl, HA, HJ17, BK165, BK166, HB⟩ := hcut
     cases kq with
     | zero => exact absurd HA.out (by simp [spec_HowMeet.j1])
     | succ kj17 =>
      have H := HA.out
      clear HA
      simp only [spec_HowMeet.j1] at H
      by_cases c34 : x78_17 = true
      ·
       subst c34
       have H1 : (some 0) = some r := by rw [if_pos rfl] at H; exact H
       clear H
       have H := H1
       clear H1
       obtain rfl := Option.some.inj H
       go_wp2
       go_ret
       exact ⟨Hd.e_, Hd.b_⟩
      ·
       replace c34 := Bool.eq_false_iff.mpr c34
       subst c34
       have H1 : ((spec_l5Shared.f kj17 a0_0 a0_1 a0_2 a0_3 a1_0 a1_1 a1_2 a1_3).bind fun t177 => (if t177 = 0 then ((spec_SideOf.f kj17 a0_0 a0_1 a0_2 a0_3 a1_0 a1_1).bind fun t178 => ((spec_SideOf.f kj17 a0_0 a0_1 a0_2 a0_3 a1_2 a1_3).bind fun t179 => (if (wrap64 (t178 * t179)) < 0 then ((spec_SideOf.f kj17 a1_0 a1_1 a1_2 a1_3 a0_0 a0_1).bind fun t180 => ((spec_SideOf.f kj17 a1_0 a1_1 a1_2 a1_3 a0_2 a0_3).bind fun t181 => (if (wrap64 (t180 * t181)) < 0 then (some 2) else (some 0)))) else (some 0)))) else (if t177 = 1 then (some 1) else (some 3)))) = some r := by rw [if_neg (show ¬ (false = true) by decide)] at H; exact H
       clear H
       have H := H1
       clear H1
       replace H := Option.bind_eq_some_iff.mp H
       obtain ⟨t177, A350, H⟩ := H
       replace H : (if t177 = 0 then ((spec_SideOf.f kj17 a0_0 a0_1 a0_2 a0_3 a1_0 a1_1).bind fun t178 => ((spec_SideOf.f kj17 a0_0 a0_1 a0_2 a0_3 a1_2 a1_3).bind fun t179 => (if (wrap64 (t178 * t179)) < 0 then ((spec_SideOf.f kj17 a1_0 a1_1 a1_2 a1_3 a0_0 a0_1).bind fun t180 => ((spec_SideOf.f kj17 a1_0 a1_1 a1_2 a1_3 a0_2 a0_3).bind fun t181 => (if (wrap64 (t180 * t181)) < 0 then (some 2) else (some 0)))) else (some 0)))) else (if t177 = 1 then (some 1) else (some 3))) = some r := H
       have A35 := Aside0.mk A350
       clear A350
       by_cases c36 : t177 = 0
       ·
        rw [if_pos c36] at H
        have c36b0 : (t177 == 0) = true := beq_iff_eq.mpr c36
        have c36b1 : (t177 != 0) = false := bne_eq_false_iff_eq.mpr c36
        clear c36
        replace H := Option.bind_eq_some_iff.mp H
        obtain ⟨t178, A370, H⟩ := H
        replace H : ((spec_SideOf.f kj17 a0_0 a0_1 a0_2 a0_3 a1_2 a1_3).bind fun t179 => (if (wrap64 (t178 * t179)) < 0 then ((spec_SideOf.f kj17 a1_0 a1_1 a1_2 a1_3 a0_0 a0_1).bind fun t180 => ((spec_SideOf.f kj17 a1_0 a1_1 a1_2 a1_3 a0_2 a0_3).bind fun t181 => (if (wrap64 (t180 * t181)) < 0 then (some 2) else (some 0)))) else (some 0))) = some r := H
        have A37 := Aside0.mk A370
        clear A370
        replace H := Option.bind_eq_some_iff.mp H
        obtain ⟨t179, A380, H⟩ := H
        replace H : (if (wrap64 (t178 * t179)) < 0 then ((spec_SideOf.f kj17 a1_0 a1_1 a1_2 a1_3 a0_0 a0_1).bind fun t180 => ((spec_SideOf.f kj17 a1_0 a1_1 a1_2 a1_3 a0_2 a0_3).bind fun t181 => (if (wrap64 (t180 * t181)) < 0 then (some 2) else (some 0)))) else (some 0)) = some r := H
        have A38 := Aside0.mk A380
        clear A380
        by_cases c39 : (wrap64 (t178 * t179)) < 0
        ·
         rw [if_pos c39] at H
         have c39b0 : decide ((wrap64 (t178 * t179)) < 0) = true := decide_eq_true c39
         clear c39
         replace H := Option.bind_eq_some_iff.mp H
         obtain ⟨t180, A400, H⟩ := H
         replace H : ((spec_SideOf.f kj17 a1_0 a1_1 a1_2 a1_3 a0_2 a0_3).bind fun t181 => (if (wrap64 (t180 * t181)) < 0 then (some 2) else (some 0))) = some r := H
         have A40 := Aside0.mk A400
         clear A400
         replace H := Option.bind_eq_some_iff.mp H
         obtain ⟨t181, A410, H⟩ := H
         replace H : (if (wrap64 (t180 * t181)) < 0 then (some 2) else (some 0)) = some r := H
         have A41 := Aside0.mk A410
         clear A410
         by_cases c42 : (wrap64 (t180 * t181)) < 0
         ·
          rw [if_pos c42] at H
          have c42b0 : decide ((wrap64 (t180 * t181)) < 0) = true := decide_eq_true c42
          clear c42
          obtain rfl := Option.some.inj H
          have hnb43 := NB165_166.out
          have hnc43 := NB166_165.out
          obtain ⟨hcz44_0, hcz44_1, hcz44_2, hcz44_3⟩ := Hd.c4_ BK165.out
          obtain ⟨hfz44_0, hfz44_1, hfz44_2, hfz44_3⟩ := Hd.f4_ BK165.out
          obtain ⟨hcz45_0, hcz45_1, hcz45_2, hcz45_3⟩ := Hd.c4_ BK166.out
          obtain ⟨hfz45_0, hfz45_1, hfz45_2, hfz45_3⟩ := Hd.f4_ BK166.out
          try go_wp2_with (first | ((with_reducible refine gate_callee (f := 157) rfl ?_); refine goesL_ (some 81) rfl rfl Try.func157 (by kernel_rfl) rfl #[.agg #[.int .i64 a0_0, .int .i64 a0_1, .int .i64 a0_2, .int .i64 a0_3], .agg #[.int .i64 a1_0, .int .i64 a1_1, .int .i64 a1_2, .int .i64 a1_3]] rfl Hd.m_ ?_; (with_reducible refine (spec_l5Shared.calls kj17 a0_0 a0_1 a0_2 a0_3 a1_0 a1_1 a1_2 a1_3 t177 _ A35.out).mono ?_); rintro e w46 ⟨rfl, hb⟩; refine ⟨_, rfl, ?_⟩; replace BK165 := Aside0.mk (Hd.kb_ BK165 hb); replace BK166 := Aside0.mk (Hd.kb_ BK166 hb); replace HB := Aside0.mk (below_step Hd.b_ hb); (try clear hb); (try clear hb2); (try clear hk); (try clear hi)))
          replace BK165 := Aside0.mk (blk_drew BK165.out)
          replace BK166 := Aside0.mk (blk_drew BK166.out)
          replace HB := Aside0.mk (below_drew1 HB.out)
          obtain ⟨s0_, s1_, s2_, s3_⟩ := Hd.HW.k4 (W0 := w46.drew) BK165
          obtain ⟨s4_, s5_, s6_, s7_⟩ := Hd.HW.k4 (W0 := w46.drew) BK166
          refine Hd.HW.region (by kernel_rfl) (by kernel_rfl) ?_
          try dsimp only [List.append]
          repeat (go_big_quiet_step ((first | (go_at_call 158; with_reducible exact Hd.HW.c (spec_SideOf.calls kj17 a0_0 a0_1 a0_2 a0_3 a1_0 a1_1 t178 _ A37.out)) | (go_at_call 158; with_reducible exact Hd.HW.c (spec_SideOf.calls kj17 a0_0 a0_1 a0_2 a0_3 a1_2 a1_3 t179 _ A38.out)) | (go_at_call 158; with_reducible exact Hd.HW.c (spec_SideOf.calls kj17 a1_0 a1_1 a1_2 a1_3 a0_0 a0_1 t180 _ A40.out)) | (go_at_call 158; with_reducible exact Hd.HW.c (spec_SideOf.calls kj17 a1_0 a1_1 a1_2 a1_3 a0_2 a0_3 t181 _ A41.out)))))
          refine wpQuiet_nil ?_
          intro _ hq_
          obtain ⟨q_, rfl⟩ := hq_
          clear s0_ s1_ s2_ s3_ s4_ s5_ s6_ s7_
          replace BK165 := Aside0.mk (blk_below BK165.out q_.b)
          replace BK166 := Aside0.mk (blk_below BK166.out q_.b)
          replace HB := Aside0.mk (below_step HB.out q_.b)
          generalize q_.W = w51 at BK165 BK166 HB ⊢
          try simp only [i64_w, i32_w]
          try go_wp2
          go_ret
          exact ⟨Hd.e_, Hd.b_⟩
         ·
          rw [if_neg c42] at H
          have c42b0 : decide ((wrap64 (t180 * t181)) < 0) = false := decide_eq_false c42
          clear c42
          obtain rfl := Option.some.inj H
          have hnb52 := NB165_166.out
          have hnc52 := NB166_165.out
          obtain ⟨hcz53_0, hcz53_1, hcz53_2, hcz53_3⟩ := Hd.c4_ BK165.out
          obtain ⟨hfz53_0, hfz53_1, hfz53_2, hfz53_3⟩ := Hd.f4_ BK165.out
          obtain ⟨hcz54_0, hcz54_1, hcz54_2, hcz54_3⟩ := Hd.c4_ BK166.out
          obtain ⟨hfz54_0, hfz54_1, hfz54_2, hfz54_3⟩ := Hd.f4_ BK166.out
          try go_wp2_with (first | ((with_reducible refine gate_callee (f := 157) rfl ?_); refine goesL_ (some 81) rfl rfl Try.func157 (by kernel_rfl) rfl #[.agg #[.int .i64 a0_0, .int .i64 a0_1, .int .i64 a0_2, .int .i64 a0_3], .agg #[.int .i64 a1_0, .int .i64 a1_1, .int .i64 a1_2, .int .i64 a1_3]] rfl Hd.m_ ?_; (with_reducible refine (spec_l5Shared.calls kj17 a0_0 a0_1 a0_2 a0_3 a1_0 a1_1 a1_2 a1_3 t177 _ A35.out).mono ?_); rintro e w55 ⟨rfl, hb⟩; refine ⟨_, rfl, ?_⟩; replace BK165 := Aside0.mk (Hd.kb_ BK165 hb); replace BK166 := Aside0.mk (Hd.kb_ BK166 hb); replace HB := Aside0.mk (below_step Hd.b_ hb); (try clear hb); (try clear hb2); (try clear hk); (try clear hi)))
          replace BK165 := Aside0.mk (blk_drew BK165.out)
          replace BK166 := Aside0.mk (blk_drew BK166.out)
          replace HB := Aside0.mk (below_drew1 HB.out)
          obtain ⟨s0_, s1_, s2_, s3_⟩ := Hd.HW.k4 (W0 := w55.drew) BK165
          obtain ⟨s4_, s5_, s6_, s7_⟩ := Hd.HW.k4 (W0 := w55.drew) BK166
          refine Hd.HW.region (by kernel_rfl) (by kernel_rfl) ?_
          try dsimp only [List.append]
          repeat (go_big_quiet_step ((first | (go_at_call 158; with_reducible exact Hd.HW.c (spec_SideOf.calls kj17 a0_0 a0_1 a0_2 a0_3 a1_0 a1_1 t178 _ A37.out)) | (go_at_call 158; with_reducible exact Hd.HW.c (spec_SideOf.calls kj17 a0_0 a0_1 a0_2 a0_3 a1_2 a1_3 t179 _ A38.out)) | (go_at_call 158; with_reducible exact Hd.HW.c (spec_SideOf.calls kj17 a1_0 a1_1 a1_2 a1_3 a0_0 a0_1 t180 _ A40.out)) | (go_at_call 158; with_reducible exact Hd.HW.c (spec_SideOf.calls kj17 a1_0 a1_1 a1_2 a1_3 a0_2 a0_3 t181 _ A41.out)))))
          refine wpQuiet_nil ?_
          intro _ hq_
          obtain ⟨q_, rfl⟩ := hq_
          clear s0_ s1_ s2_ s3_ s4_ s5_ s6_ s7_
          replace BK165 := Aside0.mk (blk_below BK165.out q_.b)
          replace BK166 := Aside0.mk (blk_below BK166.out q_.b)
          replace HB := Aside0.mk (below_step HB.out q_.b)
          generalize q_.W = w60 at BK165 BK166 HB ⊢
          try simp only [i64_w, i32_w]
          try go_wp2
          go_ret
          exact ⟨Hd.e_, Hd.b_⟩
        ·
         rw [if_neg c39] at H
         have c39b0 : decide ((wrap64 (t178 * t179)) < 0) = false := decide_eq_false c39
         clear c39
         obtain rfl := Option.some.inj H
         have hnb61 := NB165_166.out
         have hnc61 := NB166_165.out
         obtain ⟨hcz62_0, hcz62_1, hcz62_2, hcz62_3⟩ := Hd.c4_ BK165.out
         obtain ⟨hfz62_0, hfz62_1, hfz62_2, hfz62_3⟩ := Hd.f4_ BK165.out
         obtain ⟨hcz63_0, hcz63_1, hcz63_2, hcz63_3⟩ := Hd.c4_ BK166.out
         obtain ⟨hfz63_0, hfz63_1, hfz63_2, hfz63_3⟩ := Hd.f4_ BK166.out
         try go_wp2_with (first | ((with_reducible refine gate_callee (f := 157) rfl ?_); refine goesL_ (some 81) rfl rfl Try.func157 (by kernel_rfl) rfl #[.agg #[.int .i64 a0_0, .int .i64 a0_1, .int .i64 a0_2, .int .i64 a0_3], .agg #[.int .i64 a1_0, .int .i64 a1_1, .int .i64 a1_2, .int .i64 a1_3]] rfl Hd.m_ ?_; (with_reducible refine (spec_l5Shared.calls kj17 a0_0 a0_1 a0_2 a0_3 a1_0 a1_1 a1_2 a1_3 t177 _ A35.out).mono ?_); rintro e w64 ⟨rfl, hb⟩; refine ⟨_, rfl, ?_⟩; replace BK165 := Aside0.mk (Hd.kb_ BK165 hb); replace BK166 := Aside0.mk (Hd.kb_ BK166 hb); replace HB := Aside0.mk (below_step Hd.b_ hb); (try clear hb); (try clear hb2); (try clear hk); (try clear hi)))
         replace BK165 := Aside0.mk (blk_drew BK165.out)
         replace BK166 := Aside0.mk (blk_drew BK166.out)
         replace HB := Aside0.mk (below_drew1 HB.out)
         obtain ⟨s0_, s1_, s2_, s3_⟩ := Hd.HW.k4 (W0 := w64.drew) BK165
         obtain ⟨s4_, s5_, s6_, s7_⟩ := Hd.HW.k4 (W0 := w64.drew) BK166
         refine Hd.HW.region (by kernel_rfl) (by kernel_rfl) ?_
         try dsimp only [List.append]
         repeat (go_big_quiet_step ((first | (go_at_call 158; with_reducible exact Hd.HW.c (spec_SideOf.calls kj17 a0_0 a0_1 a0_2 a0_3 a1_0 a1_1 t178 _ A37.out)) | (go_at_call 158; with_reducible exact Hd.HW.c (spec_SideOf.calls kj17 a0_0 a0_1 a0_2 a0_3 a1_2 a1_3 t179 _ A38.out)))))
         refine wpQuiet_nil ?_
         intro _ hq_
         obtain ⟨q_, rfl⟩ := hq_
         clear s0_ s1_ s2_ s3_ s4_ s5_ s6_ s7_
         replace BK165 := Aside0.mk (blk_below BK165.out q_.b)
         replace BK166 := Aside0.mk (blk_below BK166.out q_.b)
         replace HB := Aside0.mk (below_step HB.out q_.b)
         generalize q_.W = w67 at BK165 BK166 HB ⊢
         try simp only [i64_w, i32_w]
         try go_wp2
         go_ret
         exact ⟨Hd.e_, Hd.b_⟩
       ·
        rw [if_neg c36] at H
        have c36b0 : (t177 == 0) = false := beq_eq_false_iff_ne.mpr c36
        have c36b1 : (t177 != 0) = true := bne_iff_ne.mpr c36
        by_cases c68 : t177 = 1
        ·
         rw [if_pos c68] at H
         have c68b0 : (t177 == 1) = true := beq_iff_eq.mpr c68
         have c68b1 : (t177 != 1) = false := bne_eq_false_iff_eq.mpr c68
         clear c68
         obtain rfl := Option.some.inj H
         have hnb69 := NB165_166.out
         have hnc69 := NB166_165.out
         obtain ⟨hcz70_0, hcz70_1, hcz70_2, hcz70_3⟩ := Hd.c4_ BK165.out
         obtain ⟨hfz70_0, hfz70_1, hfz70_2, hfz70_3⟩ := Hd.f4_ BK165.out
         obtain ⟨hcz71_0, hcz71_1, hcz71_2, hcz71_3⟩ := Hd.c4_ BK166.out
         obtain ⟨hfz71_0, hfz71_1, hfz71_2, hfz71_3⟩ := Hd.f4_ BK166.out
         go_wp2_with (first | ((with_reducible refine gate_callee (f := 157) rfl ?_); refine goesL_ (some 81) rfl rfl Try.func157 (by kernel_rfl) rfl #[.agg #[.int .i64 a0_0, .int .i64 a0_1, .int .i64 a0_2, .int .i64 a0_3], .agg #[.int .i64 a1_0, .int .i64 a1_1, .int .i64 a1_2, .int .i64 a1_3]] rfl Hd.m_ ?_; (with_reducible refine (spec_l5Shared.calls kj17 a0_0 a0_1 a0_2 a0_3 a1_0 a1_1 a1_2 a1_3 t177 _ A35.out).mono ?_); rintro e w72 ⟨rfl, hb⟩; refine ⟨_, rfl, ?_⟩; replace BK165 := Aside0.mk (Hd.kb_ BK165 hb); replace BK166 := Aside0.mk (Hd.kb_ BK166 hb); replace HB := Aside0.mk (below_step Hd.b_ hb); (try clear hb); (try clear hb2); (try clear hk); (try clear hi)))
         go_ret
         exact ⟨Hd.e_, Hd.b_⟩
        ·
         rw [if_neg c68] at H
         have c68b0 : (t177 == 1) = false := beq_eq_false_iff_ne.mpr c68
         have c68b1 : (t177 != 1) = true := bne_iff_ne.mpr c68
         obtain rfl := Option.some.inj H
         have hnb73 := NB165_166.out
         have hnc73 := NB166_165.out
         obtain ⟨hcz74_0, hcz74_1, hcz74_2, hcz74_3⟩ := Hd.c4_ BK165.out
         obtain ⟨hfz74_0, hfz74_1, hfz74_2, hfz74_3⟩ := Hd.f4_ BK165.out
         obtain ⟨hcz75_0, hcz75_1, hcz75_2, hcz75_3⟩ := Hd.c4_ BK166.out
         obtain ⟨hfz75_0, hfz75_1, hfz75_2, hfz75_3⟩ := Hd.f4_ BK166.out
         go_wp2_with (first | ((with_reducible refine gate_callee (f := 157) rfl ?_); refine goesL_ (some 81) rfl rfl Try.func157 (by kernel_rfl) rfl #[.agg #[.int .i64 a0_0, .int .i64 a0_1, .int .i64 a0_2, .int .i64 a0_3], .agg #[.int .i64 a1_0, .int .i64 a1_1, .int .i64 a1_2, .int .i64 a1_3]] rfl Hd.m_ ?_; (with_reducible refine (spec_l5Shared.calls kj17 a0_0 a0_1 a0_2 a0_3 a1_0 a1_1 a1_2 a1_3 t177 _ A35.out).mono ?_); rintro e w76 ⟨rfl, hb⟩; refine ⟨_, rfl, ?_⟩; replace BK165 := Aside0.mk (Hd.kb_ BK165 hb); replace BK166 := Aside0.mk (Hd.kb_ BK166 hb); replace HB := Aside0.mk (below_step Hd.b_ hb); (try clear hb); (try clear hb2); (try clear hk); (try clear hi)))
         go_ret
         exact ⟨Hd.e_, Hd.b_⟩
end Go.Proofs.Ytchmbcembbbplac.MFnExactDropCorner
