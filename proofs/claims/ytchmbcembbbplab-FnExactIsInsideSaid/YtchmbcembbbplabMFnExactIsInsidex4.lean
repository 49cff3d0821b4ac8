-- Laid by this session's program pp.py, after the kit's print and texts of the session's own. Not trusted: Lean checks it.
import Derived.Test.YtchmbcembbbplabMFnExactIsInsidex0
namespace Go.Proofs.Ytchmbcembbbplab.MFnExactIsInside
open Go.RowKit Go.Proofs.YtchmbcembbbplabW.PrintWords Go.Proofs.YtchmbcembbbplabW.PrintLast Go.Proofs.YtchmbcembbbplabW.PrintMore
attribute [local go_sem] max2_int min2_int max_two min_two max_three min_three max_four min_four   -- for this text's walks alone
set_option linter.unusedVariables false
set_option linter.unusedSimpArgs false

/-! ### impl_BeforePoint: function 130 -/
def impl_BeforePoint.f (a0_0 : Int) (a0_1 : Int) (a1_0 : Int) (a1_1 : Int) : Option (Bool) := if a0_1 < a1_1 then (some true) else (if a0_1 = a1_1 then (some (decide (a0_0 < a1_0))) else (some false))
set_option maxHeartbeats 8000000 in
set_option maxRecDepth 100000 in
theorem impl_BeforePoint.calls (a0_0 : Int) (a0_1 : Int) (a1_0 : Int) (a1_1 : Int) (r : Bool) (w : World) (h : impl_BeforePoint.f a0_0 a0_1 a1_0 a1_1 = some r) :
  Calls Try.prog 130 #[.agg #[.int .i64 a0_0, .int .i64 a0_1], .agg #[.int .i64 a1_0, .int .i64 a1_1]] w fun e w' => e = .returned (.bool r) ∧ Below w.heap.size w w' := by
 have hu27 := Try.underlying27
 have HB := Aside0.mk (Below.refl w.heap.size w)
 have H : (if a0_1 < a1_1 then (some true) else (if a0_1 = a1_1 then (some (decide (a0_0 < a1_0))) else (some false))) = some r := h
 clear h
 by_cases c3 : a0_1 < a1_1
 ·
  rw [if_pos c3] at H
  have c3b0 : decide (a0_1 < a1_1) = true := decide_eq_true c3
  clear c3
  obtain rfl := Option.some.inj H
  go_enter Try.func130, Try.ntmps130
  go_wp2_with (first | ((with_reducible refine gate_dst (N := 2) rfl ?_); refine Hd.box_ 2 (#[.int .i64 a0_0, .int .i64 a0_1]) 27 ?_; intro gb151 hg w4 hbox hb; have BK151 := Aside0.mk (hbox); have GW151 := Aside0.mk ((Hd.g_ hg Hd.b_ : w.heap.size ≤ gb151)); have GE151 := Aside0.mk ((Hd.g_ hg Hd.b_ : w.heap.size ≤ gb151)); replace HB := Aside0.mk (below_step Hd.b_ hb); clear hb hbox hg) | ((with_reducible refine gate_dst (N := 3) rfl ?_); refine Hd.box_ 3 (#[.int .i64 a1_0, .int .i64 a1_1]) 27 ?_; intro gb152 hg w5 hbox hb; have BK152 := Aside0.mk (hbox); have GW152 := Aside0.mk ((Hd.g_ hg Hd.b_ : w.heap.size ≤ gb152)); have GE152 := Aside0.mk ((Hd.g_ hg Hd.b_ : w.heap.size ≤ gb152)); replace HB := Aside0.mk (below_step Hd.b_ hb); have NB151_152 := Aside0.mk ((Hd.lt_ BK151 hg)); have NB152_151 := Aside0.mk ((Hd.gt_ BK151 hg)); replace BK151 := Aside0.mk (Hd.kb_ BK151 hb); clear hb hbox hg; have hnb6 := NB151_152.out; have hnc6 := NB152_151.out; obtain ⟨hcz7_0, hcz7_1⟩ := Hd.c2_ BK151.out; obtain ⟨hfz7_0, hfz7_1⟩ := Hd.f2_ BK151.out; obtain ⟨hcz8_0, hcz8_1⟩ := Hd.c2_ BK152.out; obtain ⟨hfz8_0, hfz8_1⟩ := Hd.f2_ BK152.out))
  go_ret
  exact ⟨Hd.e_, Hd.b_⟩
 ·
  rw [if_neg c3] at H
  have c3b0 : decide (a0_1 < a1_1) = false := decide_eq_false c3
  clear c3
  by_cases c9 : a0_1 = a1_1
  ·
   rw [if_pos c9] at H
   have c9b0 : (a0_1 == a1_1) = true := beq_iff_eq.mpr c9
   have c9b1 : (a0_1 != a1_1) = false := bne_eq_false_iff_eq.mpr c9
   clear c9
   obtain rfl := Option.some.inj H
   go_enter Try.func130, Try.ntmps130
   go_wp2_with (first | ((with_reducible refine gate_dst (N := 2) rfl ?_); refine Hd.box_ 2 (#[.int .i64 a0_0, .int .i64 a0_1]) 27 ?_; intro gb151 hg w10 hbox hb; have BK151 := Aside0.mk (hbox); have GW151 := Aside0.mk ((Hd.g_ hg Hd.b_ : w.heap.size ≤ gb151)); have GE151 := Aside0.mk ((Hd.g_ hg Hd.b_ : w.heap.size ≤ gb151)); replace HB := Aside0.mk (below_step Hd.b_ hb); clear hb hbox hg) | ((with_reducible refine gate_dst (N := 3) rfl ?_); refine Hd.box_ 3 (#[.int .i64 a1_0, .int .i64 a1_1]) 27 ?_; intro gb152 hg w11 hbox hb; have BK152 := Aside0.mk (hbox); have GW152 := Aside0.mk ((Hd.g_ hg Hd.b_ : w.heap.size ≤ gb152)); have GE152 := Aside0.mk ((Hd.g_ hg Hd.b_ : w.heap.size ≤ gb152)); replace HB := Aside0.mk (below_step Hd.b_ hb); have NB151_152 := Aside0.mk ((Hd.lt_ BK151 hg)); have NB152_151 := Aside0.mk ((Hd.gt_ BK151 hg)); replace BK151 := Aside0.mk (Hd.kb_ BK151 hb); clear hb hbox hg; have hnb12 := NB151_152.out; have hnc12 := NB152_151.out; obtain ⟨hcz13_0, hcz13_1⟩ := Hd.c2_ BK151.out; obtain ⟨hfz13_0, hfz13_1⟩ := Hd.f2_ BK151.out; obtain ⟨hcz14_0, hcz14_1⟩ := Hd.c2_ BK152.out; obtain ⟨hfz14_0, hfz14_1⟩ := Hd.f2_ BK152.out))
   go_ret
   exact ⟨Hd.e_, Hd.b_⟩
  ·
   rw [if_neg c9] at H
   have c9b0 : (a0_1 == a1_1) = false := beq_eq_false_iff_ne.mpr c9
   have c9b1 : (a0_1 != a1_1) = true := bne_iff_ne.mpr c9
   obtain rfl := Option.some.inj H
   go_enter Try.func130, Try.ntmps130
   go_wp2_with (first | ((with_reducible refine gate_dst (N := 2) rfl ?_); refine Hd.box_ 2 (#[.int .i64 a0_0, .int .i64 a0_1]) 27 ?_; intro gb151 hg w15 hbox hb; have BK151 := Aside0.mk (hbox); have GW151 := Aside0.mk ((Hd.g_ hg Hd.b_ : w.heap.size ≤ gb151)); have GE151 := Aside0.mk ((Hd.g_ hg Hd.b_ : w.heap.size ≤ gb151)); replace HB := Aside0.mk (below_step Hd.b_ hb); clear hb hbox hg) | ((with_reducible refine gate_dst (N := 3) rfl ?_); refine Hd.box_ 3 (#[.int .i64 a1_0, .int .i64 a1_1]) 27 ?_; intro gb152 hg w16 hbox hb; have BK152 := Aside0.mk (hbox); have GW152 := Aside0.mk ((Hd.g_ hg Hd.b_ : w.heap.size ≤ gb152)); have GE152 := Aside0.mk ((Hd.g_ hg Hd.b_ : w.heap.size ≤ gb152)); replace HB := Aside0.mk (below_step Hd.b_ hb); have NB151_152 := Aside0.mk ((Hd.lt_ BK151 hg)); have NB152_151 := Aside0.mk ((Hd.gt_ BK151 hg)); replace BK151 := Aside0.mk (Hd.kb_ BK151 hb); clear hb hbox hg; have hnb17 := NB151_152.out; have hnc17 := NB152_151.out; obtain ⟨hcz18_0, hcz18_1⟩ := Hd.c2_ BK151.out; obtain ⟨hfz18_0, hfz18_1⟩ := Hd.f2_ BK151.out; obtain ⟨hcz19_0, hcz19_1⟩ := Hd.c2_ BK152.out; obtain ⟨hfz19_0, hfz19_1⟩ := Hd.f2_ BK152.out))
   go_ret
   exact ⟨Hd.e_, Hd.b_⟩

/-! ### impl_TurnSegment: function 139 -/
def impl_TurnSegment.f (a0_0 : Int) (a0_1 : Int) (a0_2 : Int) (a0_3 : Int) : Option (Int × Int × Int × Int) := some (a0_2, a0_3, a0_0, a0_1)
set_option maxHeartbeats 8000000 in
set_option maxRecDepth 100000 in
theorem impl_TurnSegment.calls (a0_0 : Int) (a0_1 : Int) (a0_2 : Int) (a0_3 : Int) (r1 : Int) (r2 : Int) (r3 : Int) (r4 : Int) (w : World) (h : impl_TurnSegment.f a0_0 a0_1 a0_2 a0_3 = some (r1, r2, r3, r4)) :
  Calls Try.prog 139 #[.agg #[.int .i64 a0_0, .int .i64 a0_1, .int .i64 a0_2, .int .i64 a0_3]] w fun e w' => e = .returned (.agg #[.int .i64 r1, .int .i64 r2, .int .i64 r3, .int .i64 r4]) ∧ Below w.heap.size w w' := by
 have hu60 := Try.underlying60
 have hu27 := Try.underlying27
 have HB := Aside0.mk (Below.refl w.heap.size w)
 have H : (some (a0_2, a0_3, a0_0, a0_1)) = some (r1, r2, r3, r4) := h
 clear h
 simp only [Option.some.injEq, Prod.mk.injEq] at H
 obtain ⟨rfl, rfl, rfl, rfl⟩ := H
 go_enter Try.func139, Try.ntmps139
 go_wp2_with (first | ((with_reducible refine gate_dst (N := 1) rfl ?_); refine Hd.box_ 1 (#[.int .i64 a0_0, .int .i64 a0_1, .int .i64 a0_2, .int .i64 a0_3]) 60 ?_; intro gb153 hg w2 hbox hb; have BK153 := Aside0.mk (hbox); have GW153 := Aside0.mk ((Hd.g_ hg Hd.b_ : w.heap.size ≤ gb153)); have GE153 := Aside0.mk ((Hd.g_ hg Hd.b_ : w.heap.size ≤ gb153)); replace HB := Aside0.mk (below_step Hd.b_ hb); clear hb hbox hg) | ((with_reducible refine gate_dst (N := 2) rfl ?_); refine Hd.box_ 2 (#[.int .i64 0, .int .i64 0, .int .i64 0, .int .i64 0]) 60 ?_; intro gb154 hg w3 hbox hb; have BK154 := Aside0.mk (hbox); have GW154 := Aside0.mk ((Hd.g_ hg Hd.b_ : w.heap.size ≤ gb154)); have GE154 := Aside0.mk ((Hd.g_ hg Hd.b_ : w.heap.size ≤ gb154)); replace HB := Aside0.mk (below_step Hd.b_ hb); have NB153_154 := Aside0.mk ((Hd.lt_ BK153 hg)); have NB154_153 := Aside0.mk ((Hd.gt_ BK153 hg)); replace BK153 := Aside0.mk (Hd.kb_ BK153 hb); clear hb hbox hg; have hnb4 := NB153_154.out; have hnc4 := NB154_153.out; obtain ⟨hcz5_0, hcz5_1, hcz5_2, hcz5_3⟩ := Hd.c4_ BK153.out; obtain ⟨hfz5_0, hfz5_1, hfz5_2, hfz5_3⟩ := Hd.f4_ BK153.out; obtain ⟨hcz6_0, hcz6_1, hcz6_2, hcz6_3⟩ := Hd.c4_ BK154.out; obtain ⟨hfz6_0, hfz6_1, hfz6_2, hfz6_3⟩ := Hd.f4_ BK154.out))
 refine bodyPost_ret (results_cell_row rfl _ _ gb154 60 #[.int .i64 a0_2, .int .i64 a0_3, .int .i64 a0_0, .int .i64 a0_1] (0, 0) _ rfl (by (with_reducible repeat (first | refine blk_drewN ?_ _ | refine blk_drew ?_ | refine blk_alloc ?_ _)); refine blk_put (cs := #[.int .i64 a0_2, .int .i64 a0_3, .int .i64 a0_0, .int .i64 0]) ?_ 3 _ rfl; (with_reducible repeat (first | refine blk_drewN ?_ _ | refine blk_drew ?_ | refine blk_alloc ?_ _)); refine blk_put (cs := #[.int .i64 a0_2, .int .i64 a0_3, .int .i64 0, .int .i64 0]) ?_ 2 _ rfl; (with_reducible repeat (first | refine blk_drewN ?_ _ | refine blk_drew ?_ | refine blk_alloc ?_ _)); refine blk_put (cs := #[.int .i64 a0_2, .int .i64 0, .int .i64 0, .int .i64 0]) ?_ 1 _ rfl; (with_reducible repeat (first | refine blk_drewN ?_ _ | refine blk_drew ?_ | refine blk_alloc ?_ _)); refine blk_put (cs := #[.int .i64 0, .int .i64 0, .int .i64 0, .int .i64 0]) ?_ 0 _ rfl; (with_reducible repeat (first | refine blk_drewN ?_ _ | refine blk_drew ?_ | refine blk_alloc ?_ _)); exact BK154.out) Try.underlying60 rfl (by kernel_rfl)) rfl ?_
 exact ⟨Hd.e_, Hd.b_⟩

/-! ### impl_forward: function 129 -/
def impl_forward.f (a0_0 : Int) (a0_1 : Int) (a0_2 : Int) (a0_3 : Int) : Option (Int × Int × Int × Int) := (impl_BeforePoint.f a0_2 a0_3 a0_0 a0_1).bind fun t157 => (if t157 = true then ((impl_TurnSegment.f a0_0 a0_1 a0_2 a0_3).bind fun bt158 => (some (bt158.1, bt158.2.1, bt158.2.2.1, bt158.2.2.2))) else (some (a0_0, a0_1, a0_2, a0_3)))
set_option maxHeartbeats 8000000 in
set_option maxRecDepth 100000 in
theorem impl_forward.calls (a0_0 : Int) (a0_1 : Int) (a0_2 : Int) (a0_3 : Int) (r1 : Int) (r2 : Int) (r3 : Int) (r4 : Int) (w : World) (h : impl_forward.f a0_0 a0_1 a0_2 a0_3 = some (r1, r2, r3, r4)) :
  Calls Try.prog 129 #[.agg #[.int .i64 a0_0, .int .i64 a0_1, .int .i64 a0_2, .int .i64 a0_3]] w fun e w' => e = .returned (.agg #[.int .i64 r1, .int .i64 r2, .int .i64 r3, .int .i64 r4]) ∧ Below w.heap.size w w' := by
 have hu60 := Try.underlying60
 have hu27 := Try.underlying27
 have HB := Aside0.mk (Below.refl w.heap.size w)
 have H : ((impl_BeforePoint.f a0_2 a0_3 a0_0 a0_1).bind fun t157 => (if t157 = true then ((impl_TurnSegment.f a0_0 a0_1 a0_2 a0_3).bind fun bt158 => (some (bt158.1, bt158.2.1, bt158.2.2.1, bt158.2.2.2))) else (some (a0_0, a0_1, a0_2, a0_3)))) = some (r1, r2, r3, r4) := h
 clear h
 replace H := Option.bind_eq_some_iff.mp H
 obtain ⟨t157, A20, H⟩ := H
 replace H : (if t157 = true then ((impl_TurnSegment.f a0_0 a0_1 a0_2 a0_3).bind fun bt158 => (some (bt158.1, bt158.2.1, bt158.2.2.1, bt158.2.2.2))) else (some (a0_0, a0_1, a0_2, a0_3))) = some (r1, r2, r3, r4) := H
 have A2 := Aside0.mk A20
 clear A20
 by_cases c3 : t157 = true
 ·
  subst c3
  have H1 : ((impl_TurnSegment.f a0_0 a0_1 a0_2 a0_3).bind fun bt158 => (some (bt158.1, bt158.2.1, bt158.2.2.1, bt158.2.2.2))) = some (r1, r2, r3, r4) := by rw [if_pos rfl] at H; exact H
  clear H
  have H := H1
  clear H1
  replace H := Option.bind_eq_some_iff.mp H
  obtain ⟨⟨t158, t159, t160, t161⟩, A40, H⟩ := H
  replace H : (some (t158, t159, t160, t161)) = some (r1, r2, r3, r4) := H
  have A4 := Aside0.mk A40
  clear A40
  simp only [Option.some.injEq, Prod.mk.injEq] at H
  obtain ⟨rfl, rfl, rfl, rfl⟩ := H
  go_enter Try.func129, Try.ntmps129
  go_wp2_with (first | ((with_reducible refine gate_dst (N := 1) rfl ?_); refine Hd.box_ 1 (#[.int .i64 a0_0, .int .i64 a0_1, .int .i64 a0_2, .int .i64 a0_3]) 60 ?_; intro gb155 hg w5 hbox hb; have BK155 := Aside0.mk (hbox); have GW155 := Aside0.mk ((Hd.g_ hg Hd.b_ : w.heap.size ≤ gb155)); have GE155 := Aside0.mk ((Hd.g_ hg Hd.b_ : w.heap.size ≤ gb155)); replace HB := Aside0.mk (below_step Hd.b_ hb); clear hb hbox hg) | ((with_reducible refine gate_dst (N := 2) rfl ?_); refine Hd.box_ 2 (#[.int .i64 0, .int .i64 0, .int .i64 0, .int .i64 0]) 60 ?_; intro gb156 hg w6 hbox hb; have BK156 := Aside0.mk (hbox); have GW156 := Aside0.mk ((Hd.g_ hg Hd.b_ : w.heap.size ≤ gb156)); have GE156 := Aside0.mk ((Hd.g_ hg Hd.b_ : w.heap.size ≤ gb156)); replace HB := Aside0.mk (below_step Hd.b_ hb); have NB155_156 := Aside0.mk ((Hd.lt_ BK155 hg)); have NB156_155 := Aside0.mk ((Hd.gt_ BK155 hg)); replace BK155 := Aside0.mk (Hd.kb_ BK155 hb); clear hb hbox hg; have hnb7 := NB155_156.out; have hnc7 := NB156_155.out; obtain ⟨hcz8_0, hcz8_1, hcz8_2, hcz8_3⟩ := Hd.c4_ BK155.out; obtain ⟨hfz8_0, hfz8_1, hfz8_2, hfz8_3⟩ := Hd.f4_ BK155.out) | ((with_reducible refine gate_callee (f := 130) rfl ?_); refine goesL_ (some 7) rfl rfl Try.func130 (by kernel_rfl) rfl #[.agg #[.int .i64 a0_2, .int .i64 a0_3], .agg #[.int .i64 a0_0, .int .i64 a0_1]] rfl Hd.m_ ?_; (with_reducible refine (impl_BeforePoint.calls a0_2 a0_3 a0_0 a0_1 true _ A2.out).mono ?_); rintro e w9 ⟨rfl, hb⟩; refine ⟨_, rfl, ?_⟩; replace BK155 := Aside0.mk (Hd.kb_ BK155 hb); replace BK156 := Aside0.mk (Hd.kb_ BK156 hb); replace HB := Aside0.mk (below_step Hd.b_ hb); (try clear hb); (try clear hb2); (try clear hk); (try clear hi); obtain ⟨hcz10_0, hcz10_1, hcz10_2, hcz10_3⟩ := Hd.c4_ BK155.out; obtain ⟨hfz10_0, hfz10_1, hfz10_2, hfz10_3⟩ := Hd.f4_ BK155.out) | ((with_reducible refine gate_callee (f := 139) rfl ?_); refine goesL_ (some 9) rfl rfl Try.func139 (by kernel_rfl) rfl #[.agg #[.int .i64 a0_0, .int .i64 a0_1, .int .i64 a0_2, .int .i64 a0_3]] rfl Hd.m_ ?_; (with_reducible refine (impl_TurnSegment.calls a0_0 a0_1 a0_2 a0_3 t158 t159 t160 t161 _ A4.out).mono ?_); rintro e w11 ⟨rfl, hb⟩; refine ⟨_, rfl, ?_⟩; replace BK155 := Aside0.mk (Hd.kb_ BK155 hb); replace BK156 := Aside0.mk (Hd.kb_ BK156 hb); replace HB := Aside0.mk (below_step Hd.b_ hb); (try clear hb); (try clear hb2); (try clear hk); (try clear hi); obtain ⟨hcz12_0, hcz12_1, hcz12_2, hcz12_3⟩ := Hd.c4_ BK156.out; obtain ⟨hfz12_0, hfz12_1, hfz12_2, hfz12_3⟩ := Hd.f4_ BK156.out))
  refine bodyPost_ret (results_cell_row rfl _ _ gb156 60 #[.int .i64 t158, .int .i64 t159, .int .i64 t160, .int .i64 t161] (0, 0) _ rfl (by (with_reducible repeat (first | refine blk_drewN ?_ _ | refine blk_drew ?_ | refine blk_alloc ?_ _)); refine blk_put (cs := #[.int .i64 t158, .int .i64 t159, .int .i64 t160, .int .i64 0]) ?_ 3 _ rfl; (with_reducible repeat (first | refine blk_drewN ?_ _ | refine blk_drew ?_ | refine blk_alloc ?_ _)); refine blk_put (cs := #[.int .i64 t158, .int .i64 t159, .int .i64 0, .int .i64 0]) ?_ 2 _ rfl; (with_reducible repeat (first | refine blk_drewN ?_ _ | refine blk_drew ?_ | refine blk_alloc ?_ _)); refine blk_put (cs := #[.int .i64 t158, .int .i64 0, .int .i64 0, .int .i64 0]) ?_ 1 _ rfl; (with_reducible repeat (first | refine blk_drewN ?_ _ | refine blk_drew ?_ | refine blk_alloc ?_ _)); refine blk_put (cs := #[.int .i64 0, .int .i64 0, .int .i64 0, .int .i64 0]) ?_ 0 _ rfl; (with_reducible repeat (first | refine blk_drewN ?_ _ | refine blk_drew ?_ | refine blk_alloc ?_ _)); exact BK156.out) Try.underlying60 rfl (by kernel_rfl)) rfl ?_
  exact ⟨Hd.e_, Hd.b_⟩
 ·
  replace c3 := Bool.eq_false_iff.mpr c3
  subst c3
  have H1 : (some (a0_0, a0_1, a0_2, a0_3)) = some (r1, r2, r3, r4) := by rw [if_neg (show ¬ (false = true) by decide)] at H; exact H
  clear H
  have H := H1
  clear H1
  simp only [Option.some.injEq, Prod.mk.injEq] at H
  obtain ⟨rfl, rfl, rfl, rfl⟩ := H
  go_enter Try.func129, Try.ntmps129
  go_wp2_with (first | ((with_reducible refine gate_dst (N := 1) rfl ?_); refine Hd.box_ 1 (#[.int .i64 a0_0, .int .i64 a0_1, .int .i64 a0_2, .int .i64 a0_3]) 60 ?_; intro gb155 hg w13 hbox hb; have BK155 := Aside0.mk (hbox); have GW155 := Aside0.mk ((Hd.g_ hg Hd.b_ : w.heap.size ≤ gb155)); have GE155 := Aside0.mk ((Hd.g_ hg Hd.b_ : w.heap.size ≤ gb155)); replace HB := Aside0.mk (below_step Hd.b_ hb); clear hb hbox hg) | ((with_reducible refine gate_dst (N := 2) rfl ?_); refine Hd.box_ 2 (#[.int .i64 0, .int .i64 0, .int .i64 0, .int .i64 0]) 60 ?_; intro gb156 hg w14 hbox hb; have BK156 := Aside0.mk (hbox); have GW156 := Aside0.mk ((Hd.g_ hg Hd.b_ : w.heap.size ≤ gb156)); have GE156 := Aside0.mk ((Hd.g_ hg Hd.b_ : w.heap.size ≤ gb156)); replace HB := Aside0.mk (below_step Hd.b_ hb); have NB155_156 := Aside0.mk ((Hd.lt_ BK155 hg)); have NB156_155 := Aside0.mk ((Hd.gt_ BK155 hg)); replace BK155 := Aside0.mk (Hd.kb_ BK155 hb); clear hb hbox hg; have hnb15 := NB155_156.out; have hnc15 := NB156_155.out; obtain ⟨hcz16_0, hcz16_1, hcz16_2, hcz16_3⟩ := Hd.c4_ BK155.out; obtain ⟨hfz16_0, hfz16_1, hfz16_2, hfz16_3⟩ := Hd.f4_ BK155.out) | ((with_reducible refine gate_callee (f := 130) rfl ?_); refine goesL_ (some 7) rfl rfl Try.func130 (by kernel_rfl) rfl #[.agg #[.int .i64 a0_2, .int .i64 a0_3], .agg #[.int .i64 a0_0, .int .i64 a0_1]] rfl Hd.m_ ?_; (with_reducible refine (impl_BeforePoint.calls a0_2 a0_3 a0_0 a0_1 false _ A2.out).mono ?_); rintro e w17 ⟨rfl, hb⟩; refine ⟨_, rfl, ?_⟩; replace BK155 := Aside0.mk (Hd.kb_ BK155 hb); replace BK156 := Aside0.mk (Hd.kb_ BK156 hb); replace HB := Aside0.mk (below_step Hd.b_ hb); (try clear hb); (try clear hb2); (try clear hk); (try clear hi); obtain ⟨hcz18_0, hcz18_1, hcz18_2, hcz18_3⟩ := Hd.c4_ BK155.out; obtain ⟨hfz18_0, hfz18_1, hfz18_2, hfz18_3⟩ := Hd.f4_ BK155.out; obtain ⟨hcz19_0, hcz19_1, hcz19_2, hcz19_3⟩ := Hd.c4_ BK156.out; obtain ⟨hfz19_0, hfz19_1, hfz19_2, hfz19_3⟩ := Hd.f4_ BK156.out))
  refine bodyPost_ret (results_cell_row rfl _ _ gb156 60 #[.int .i64 a0_0, .int .i64 a0_1, .int .i64 a0_2, .int .i64 a0_3] (0, 0) _ rfl (by (with_reducible repeat (first | refine blk_drewN ?_ _ | refine blk_drew ?_ | refine blk_alloc ?_ _)); refine blk_put (cs := #[.int .i64 a0_0, .int .i64 a0_1, .int .i64 a0_2, .int .i64 0]) ?_ 3 _ rfl; (with_reducible repeat (first | refine blk_drewN ?_ _ | refine blk_drew ?_ | refine blk_alloc ?_ _)); refine blk_put (cs := #[.int .i64 a0_0, .int .i64 a0_1, .int .i64 0, .int .i64 0]) ?_ 2 _ rfl; (with_reducible repeat (first | refine blk_drewN ?_ _ | refine blk_drew ?_ | refine blk_alloc ?_ _)); refine blk_put (cs := #[.int .i64 a0_0, .int .i64 0, .int .i64 0, .int .i64 0]) ?_ 1 _ rfl; (with_reducible repeat (first | refine blk_drewN ?_ _ | refine blk_drew ?_ | refine blk_alloc ?_ _)); refine blk_put (cs := #[.int .i64 0, .int .i64 0, .int .i64 0, .int .i64 0]) ?_ 0 _ rfl; (with_reducible repeat (first | refine blk_drewN ?_ _ | refine blk_drew ?_ | refine blk_alloc ?_ _)); exact BK156.out) Try.underlying60 rfl (by kernel_rfl)) rfl ?_
  exact ⟨Hd.e_, Hd.b_⟩

end Go.Proofs.Ytchmbcembbbplab.MFnExactIsInside
