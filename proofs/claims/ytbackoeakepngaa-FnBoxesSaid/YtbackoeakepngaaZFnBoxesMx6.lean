-- Laid by this session's program pp.py, after the kit's print and texts of the session's own. Not trusted: Lean checks it.
import Derived.Test.YtbackoeakepngaaZFnBoxesMx0
import Derived.Test.YtbackoeakepngaaZFnBoxesMx2
import Derived.Test.YtbackoeakepngaaZFnBoxesMx4
import Derived.Test.YtbackoeakepngaaZFnBoxesMx5
namespace Go.Proofs.Ytbackoeakepngaa.MFnBoxes
open Go.RowKit Go.Proofs.YtbackoeakepngaaW.PrintWords Go.Proofs.YtbackoeakepngaaW.PrintLast Go.Proofs.YtbackoeakepngaaW.PrintMore
attribute [local go_sem] max2_int min2_int max_two min_two max_three min_three max_four min_four   -- for this text's walks alone
set_option linter.unusedVariables false
set_option linter.unusedSimpArgs false
def impl_BoxesOverlap.f (a0_0 : Int) (a0_1 : Int) (a0_2 : Int) (a0_3 : Int) (a1_0 : Int) (a1_1 : Int) (a1_2 : Int) (a1_3 : Int) : Option (Bool) := (impl_common.f a0_0 a0_1 a0_2 a0_3 a1_0 a1_1 a1_2 a1_3).bind fun bt298 => ((impl_IsBox.f a0_0 a0_1 a0_2 a0_3).bind fun t300 => (if t300 = true then ((impl_IsBox.f a1_0 a1_1 a1_2 a1_3).bind fun t301 => (if t301 = true then (if bt298.1 > 0 then (some (decide (bt298.2 > 0))) else (some false)) else (some false))) else (some false)))
set_option maxHeartbeats 8000000 in
set_option maxRecDepth 100000 in
theorem impl_BoxesOverlap.calls (a0_0 : Int) (a0_1 : Int) (a0_2 : Int) (a0_3 : Int) (a1_0 : Int) (a1_1 : Int) (a1_2 : Int) (a1_3 : Int) (r : Bool) (w : World) (h : impl_BoxesOverlap.f a0_0 a0_1 a0_2 a0_3 a1_0 a1_1 a1_2 a1_3 = some r) :
  Calls Try.prog 17 #[.agg #[.int .i64 a0_0, .int .i64 a0_1, .int .i64 a0_2, .int .i64 a0_3], .agg #[.int .i64 a1_0, .int .i64 a1_1, .int .i64 a1_2, .int .i64 a1_3]] w fun e w' => e = .returned (.bool r) ∧ Below w.heap.size w w' := by
 have hu29 := Try.underlying29
 have HB := Aside0.mk (Below.refl w.heap.size w)
 have H : ((impl_common.f a0_0 a0_1 a0_2 a0_3 a1_0 a1_1 a1_2 a1_3).bind fun bt298 => ((impl_IsBox.f a0_0 a0_1 a0_2 a0_3).bind fun t300 => (if t300 = true then ((impl_IsBox.f a1_0 a1_1 a1_2 a1_3).bind fun t301 => (if t301 = true then (if bt298.1 > 0 then (some (decide (bt298.2 > 0))) else (some false)) else (some false))) else (some false)))) = some r := h
 clear h
 replace H := Option.bind_eq_some_iff.mp H
 obtain ⟨⟨t298, t299⟩, A30, H⟩ := H
 replace H : ((impl_IsBox.f a0_0 a0_1 a0_2 a0_3).bind fun t300 => (if t300 = true then ((impl_IsBox.f a1_0 a1_1 a1_2 a1_3).bind fun t301 => (if t301 = true then (if t298 > 0 then (some (decide (t299 > 0))) else (some false)) else (some false))) else (some false))) = some r := H
 have A3 := Aside0.mk A30
 clear A30
 replace H := Option.bind_eq_some_iff.mp H
 obtain ⟨t300, A40, H⟩ := H
 replace H : (if t300 = true then ((impl_IsBox.f a1_0 a1_1 a1_2 a1_3).bind fun t301 => (if t301 = true then (if t298 > 0 then (some (decide (t299 > 0))) else (some false)) else (some false))) else (some false)) = some r := H
 have A4 := Aside0.mk A40
 clear A40
 by_cases c5 : t300 = true
 ·
  subst c5
  have H1 : ((impl_IsBox.f a1_0 a1_1 a1_2 a1_3).bind fun t301 => (if t301 = true then (if t298 > 0 then (some (decide (t299 > 0))) else (some false)) else (some false))) = some r := by rw [if_pos rfl] at H; exact H
  clear H
  have H := H1
  clear H1
  replace H := Option.bind_eq_some_iff.mp H
  obtain ⟨t301, A60, H⟩ := H
  replace H : (if t301 = true then (if t298 > 0 then (some (decide (t299 > 0))) else (some false)) else (some false)) = some r := H
  have A6 := Aside0.mk A60
  clear A60
  by_cases c7 : t301 = true
  ·
   subst c7
   have H1 : (if t298 > 0 then (some (decide (t299 > 0))) else (some false)) = some r := by rw [if_pos rfl] at H; exact H
   clear H
   have H := H1
   clear H1
   by_cases c8 : t298 > 0
   ·
    rw [if_pos c8] at H
    have c8b0 : decide (0 < t298) = true := decide_eq_true c8
    clear c8
    obtain rfl := Option.some.inj H
    go_enter Try.func17, Try.ntmps17
    go_wp2_with (first | ((with_reducible refine gate_dst (N := 2) rfl ?_); refine Hd.box_ 2 (#[.int .i64 a0_0, .int .i64 a0_1, .int .i64 a0_2, .int .i64 a0_3]) 29 ?_; intro gb296 hg w9 hbox hb; have BK296 := Aside0.mk (hbox); have GW296 := Aside0.mk ((Hd.g_ hg Hd.b_ : w.heap.size ≤ gb296)); have GE296 := Aside0.mk ((Hd.g_ hg Hd.b_ : w.heap.size ≤ gb296)); replace HB := Aside0.mk (below_step Hd.b_ hb); clear hb hbox hg) | ((with_reducible refine gate_dst (N := 3) rfl ?_); refine Hd.box_ 3 (#[.int .i64 a1_0, .int .i64 a1_1, .int .i64 a1_2, .int .i64 a1_3]) 29 ?_; intro gb297 hg w10 hbox hb; have BK297 := Aside0.mk (hbox); have GW297 := Aside0.mk ((Hd.g_ hg Hd.b_ : w.heap.size ≤ gb297)); have GE297 := Aside0.mk ((Hd.g_ hg Hd.b_ : w.heap.size ≤ gb297)); replace HB := Aside0.mk (below_step Hd.b_ hb); have NB296_297 := Aside0.mk ((Hd.lt_ BK296 hg)); have NB297_296 := Aside0.mk ((Hd.gt_ BK296 hg)); replace BK296 := Aside0.mk (Hd.kb_ BK296 hb); clear hb hbox hg; have hnb11 := NB296_297.out; have hnc11 := NB297_296.out; obtain ⟨hcz12_0, hcz12_1, hcz12_2, hcz12_3⟩ := Hd.c4_ BK296.out; obtain ⟨hfz12_0, hfz12_1, hfz12_2, hfz12_3⟩ := Hd.f4_ BK296.out; obtain ⟨hcz13_0, hcz13_1, hcz13_2, hcz13_3⟩ := Hd.c4_ BK297.out; obtain ⟨hfz13_0, hfz13_1, hfz13_2, hfz13_3⟩ := Hd.f4_ BK297.out) | ((with_reducible refine gate_callee (f := 68) rfl ?_); refine goesL_ (some 10) rfl rfl Try.func68 (by kernel_rfl) rfl #[.agg #[.int .i64 a0_0, .int .i64 a0_1, .int .i64 a0_2, .int .i64 a0_3], .agg #[.int .i64 a1_0, .int .i64 a1_1, .int .i64 a1_2, .int .i64 a1_3]] rfl Hd.m_ ?_; (with_reducible refine (impl_common.calls a0_0 a0_1 a0_2 a0_3 a1_0 a1_1 a1_2 a1_3 t298 t299 _ A3.out).mono ?_); rintro e w14 ⟨rfl, hb⟩; refine ⟨_, rfl, ?_⟩; replace BK296 := Aside0.mk (Hd.kb_ BK296 hb); replace BK297 := Aside0.mk (Hd.kb_ BK297 hb); replace HB := Aside0.mk (below_step Hd.b_ hb); (try clear hb); (try clear hb2); (try clear hk); (try clear hi); obtain ⟨hcz15_0, hcz15_1, hcz15_2, hcz15_3⟩ := Hd.c4_ BK296.out; obtain ⟨hfz15_0, hfz15_1, hfz15_2, hfz15_3⟩ := Hd.f4_ BK296.out) | ((with_reducible refine gate_callee (f := 21) rfl ?_); refine goesL_ (some 14) rfl rfl Try.func21 (by kernel_rfl) rfl #[.agg #[.int .i64 a0_0, .int .i64 a0_1, .int .i64 a0_2, .int .i64 a0_3]] rfl Hd.m_ ?_; (with_reducible refine (impl_IsBox.calls a0_0 a0_1 a0_2 a0_3 true _ A4.out).mono ?_); rintro e w16 ⟨rfl, hb⟩; refine ⟨_, rfl, ?_⟩; replace BK296 := Aside0.mk (Hd.kb_ BK296 hb); replace BK297 := Aside0.mk (Hd.kb_ BK297 hb); replace HB := Aside0.mk (below_step Hd.b_ hb); (try clear hb); (try clear hb2); (try clear hk); (try clear hi); obtain ⟨hcz17_0, hcz17_1, hcz17_2, hcz17_3⟩ := Hd.c4_ BK297.out; obtain ⟨hfz17_0, hfz17_1, hfz17_2, hfz17_3⟩ := Hd.f4_ BK297.out) | (go_at_call 21; (with_reducible refine (impl_IsBox.calls a1_0 a1_1 a1_2 a1_3 true _ A6.out).mono ?_); rintro e w18 ⟨rfl, hb⟩; replace BK296 := Aside0.mk (Hd.kb_ BK296 hb); replace BK297 := Aside0.mk (Hd.kb_ BK297 hb); replace HB := Aside0.mk (below_step Hd.b_ hb); (try clear hb); (try clear hb2); (try clear hk); (try clear hi)))
    go_ret
    exact ⟨Hd.e_, Hd.b_⟩
   ·
    rw [if_neg c8] at H
    have c8b0 : decide (0 < t298) = false := decide_eq_false c8
    clear c8
    obtain rfl := Option.some.inj H
    go_enter Try.func17, Try.ntmps17
    go_wp2_with (first | ((with_reducible refine gate_dst (N := 2) rfl ?_); refine Hd.box_ 2 (#[.int .i64 a0_0, .int .i64 a0_1, .int .i64 a0_2, .int .i64 a0_3]) 29 ?_; intro gb296 hg w19 hbox hb; have BK296 := Aside0.mk (hbox); have GW296 := Aside0.mk ((Hd.g_ hg Hd.b_ : w.heap.size ≤ gb296)); have GE296 := Aside0.mk ((Hd.g_ hg Hd.b_ : w.heap.size ≤ gb296)); replace HB := Aside0.mk (below_step Hd.b_ hb); clear hb hbox hg) | ((with_reducible refine gate_dst (N := 3) rfl ?_); refine Hd.box_ 3 (#[.int .i64 a1_0, .int .i64 a1_1, .int .i64 a1_2, .int .i64 a1_3]) 29 ?_; intro gb297 hg w20 hbox hb; have BK297 := Aside0.mk (hbox); have GW297 := Aside0.mk ((Hd.g_ hg Hd.b_ : w.heap.size ≤ gb297)); have GE297 := Aside0.mk ((Hd.g_ hg Hd.b_ : w.heap.size ≤ gb297)); replace HB := Aside0.mk (below_step Hd.b_ hb); have NB296_297 := Aside0.mk ((Hd.lt_ BK296 hg)); have NB297_296 := Aside0.mk ((Hd.gt_ BK296 hg)); replace BK296 := Aside0.mk (Hd.kb_ BK296 hb); clear hb hbox hg; have hnb21 := NB296_297.out; have hnc21 := NB297_296.out; obtain ⟨hcz22_0, hcz22_1, hcz22_2, hcz22_3⟩ := Hd.c4_ BK296.out; obtain ⟨hfz22_0, hfz22_1, hfz22_2, hfz22_3⟩ := Hd.f4_ BK296.out; obtain ⟨hcz23_0, hcz23_1, hcz23_2, hcz23_3⟩ := Hd.c4_ BK297.out; obtain ⟨hfz23_0, hfz23_1, hfz23_2, hfz23_3⟩ := Hd.f4_ BK297.out) | ((with_reducible refine gate_callee (f := 68) rfl ?_); refine goesL_ (some 10) rfl rfl Try.func68 (by kernel_rfl) rfl #[.agg #[.int .i64 a0_0, .int .i64 a0_1, .int .i64 a0_2, .int .i64 a0_3], .agg #[.int .i64 a1_0, .int .i64 a1_1, .int .i64 a1_2, .int .i64 a1_3]] rfl Hd.m_ ?_; (with_reducible refine (impl_common.calls a0_0 a0_1 a0_2 a0_3 a1_0 a1_1 a1_2 a1_3 t298 t299 _ A3.out).mono ?_); rintro e w24 ⟨rfl, hb⟩; refine ⟨_, rfl, ?_⟩; replace BK296 := Aside0.mk (Hd.kb_ BK296 hb); replace BK297 := Aside0.mk (Hd.kb_ BK297 hb); replace HB := Aside0.mk (below_step Hd.b_ hb); (try clear hb); (try clear hb2); (try clear hk); (try clear hi); obtain ⟨hcz25_0, hcz25_1, hcz25_2, hcz25_3⟩ := Hd.c4_ BK296.out; obtain ⟨hfz25_0, hfz25_1, hfz25_2, hfz25_3⟩ := Hd.f4_ BK296.out) | ((with_reducible refine gate_callee (f := 21) rfl ?_); refine goesL_ (some 14) rfl rfl Try.func21 (by kernel_rfl) rfl #[.agg #[.int .i64 a0_0, .int .i64 a0_1, .int .i64 a0_2, .int .i64 a0_3]] rfl Hd.m_ ?_; (with_reducible refine (impl_IsBox.calls a0_0 a0_1 a0_2 a0_3 true _ A4.out).mono ?_); rintro e w26 ⟨rfl, hb⟩; refine ⟨_, rfl, ?_⟩; replace BK296 := Aside0.mk (Hd.kb_ BK296 hb); replace BK297 := Aside0.mk (Hd.kb_ BK297 hb); replace HB := Aside0.mk (below_step Hd.b_ hb); (try clear hb); (try clear hb2); (try clear hk); (try clear hi); obtain ⟨hcz27_0, hcz27_1, hcz27_2, hcz27_3⟩ := Hd.c4_ BK297.out; obtain ⟨hfz27_0, hfz27_1, hfz27_2, hfz27_3⟩ := Hd.f4_ BK297.out) | (go_at_call 21; (with_reducible refine (impl_IsBox.calls a1_0 a1_1 a1_2 a1_3 true _ A6.out).mono ?_); rintro e w28 ⟨rfl, hb⟩; replace BK296 := Aside0.mk (Hd.kb_ BK296 hb); replace BK297 := Aside0.mk (Hd.kb_ BK297 hb); replace HB := Aside0.mk (below_step Hd.b_ hb); (try clear hb); (try clear hb2); (try clear hk); (try clear hi)))
    go_ret
    exact ⟨Hd.e_, Hd.b_⟩
  ·
   replace c7 := Bool.eq_false_iff.mpr c7
   subst c7
   have H1 : (some false) = some r := by rw [if_neg (show ¬ (false = true) by decide)] at H; exact H
   clear H
   have H := H1
   clear H1
   obtain rfl := Option.some.inj H
   go_enter Try.func17, Try.ntmps17
   go_wp2_with (first | ((with_reducible refine gate_dst (N := 2) rfl ?_); refine Hd.box_ 2 (#[.int .i64 a0_0, .int .i64 a0_1, .int .i64 a0_2, .int .i64 a0_3]) 29 ?_; intro gb296 hg w29 hbox hb; have BK296 := Aside0.mk (hbox); have GW296 := Aside0.mk ((Hd.g_ hg Hd.b_ : w.heap.size ≤ gb296)); have GE296 := Aside0.mk ((Hd.g_ hg Hd.b_ : w.heap.size ≤ gb296)); replace HB := Aside0.mk (below_step Hd.b_ hb); clear hb hbox hg) | ((with_reducible refine gate_dst (N := 3) rfl ?_); refine Hd.box_ 3 (#[.int .i64 a1_0, .int .i64 a1_1, .int .i64 a1_2, .int .i64 a1_3]) 29 ?_; intro gb297 hg w30 hbox hb; have BK297 := Aside0.mk (hbox); have GW297 := Aside0.mk ((Hd.g_ hg Hd.b_ : w.heap.size ≤ gb297)); have GE297 := Aside0.mk ((Hd.g_ hg Hd.b_ : w.heap.size ≤ gb297)); replace HB := Aside0.mk (below_step Hd.b_ hb); have NB296_297 := Aside0.mk ((Hd.lt_ BK296 hg)); have NB297_296 := Aside0.mk ((Hd.gt_ BK296 hg)); replace BK296 := Aside0.mk (Hd.kb_ BK296 hb); clear hb hbox hg; have hnb31 := NB296_297.out; have hnc31 := NB297_296.out; obtain ⟨hcz32_0, hcz32_1, hcz32_2, hcz32_3⟩ := Hd.c4_ BK296.out; obtain ⟨hfz32_0, hfz32_1, hfz32_2, hfz32_3⟩ := Hd.f4_ BK296.out; obtain ⟨hcz33_0, hcz33_1, hcz33_2, hcz33_3⟩ := Hd.c4_ BK297.out; obtain ⟨hfz33_0, hfz33_1, hfz33_2, hfz33_3⟩ := Hd.f4_ BK297.out) | ((with_reducible refine gate_callee (f := 68) rfl ?_); refine goesL_ (some 10) rfl rfl Try.func68 (by kernel_rfl) rfl #[.agg #[.int .i64 a0_0, .int .i64 a0_1, .int .i64 a0_2, .int .i64 a0_3], .agg #[.int .i64 a1_0, .int .i64 a1_1, .int .i64 a1_2, .int .i64 a1_3]] rfl Hd.m_ ?_; (with_reducible refine (impl_common.calls a0_0 a0_1 a0_2 a0_3 a1_0 a1_1 a1_2 a1_3 t298 t299 _ A3.out).mono ?_); rintro e w34 ⟨rfl, hb⟩; refine ⟨_, rfl, ?_⟩; replace BK296 := Aside0.mk (Hd.kb_ BK296 hb); replace BK297 := Aside0.mk (Hd.kb_ BK297 hb); replace HB := Aside0.mk (below_step Hd.b_ hb); (try clear hb); (try clear hb2); (try clear hk); (try clear hi); obtain ⟨hcz35_0, hcz35_1, hcz35_2, hcz35_3⟩ := Hd.c4_ BK296.out; obtain ⟨hfz35_0, hfz35_1, hfz35_2, hfz35_3⟩ := Hd.f4_ BK296.out) | ((with_reducible refine gate_callee (f := 21) rfl ?_); refine goesL_ (some 14) rfl rfl Try.func21 (by kernel_rfl) rfl #[.agg #[.int .i64 a0_0, .int .i64 a0_1, .int .i64 a0_2, .int .i64 a0_3]] rfl Hd.m_ ?_; (with_reducible refine (impl_IsBox.calls a0_0 a0_1 a0_2 a0_3 true _ A4.out).mono ?_); rintro e w36 ⟨rfl, hb⟩; refine ⟨_, rfl, ?_⟩; replace BK296 := Aside0.mk (Hd.kb_ BK296 hb); replace BK297 := Aside0.mk (Hd.kb_ BK297 hb); replace HB := Aside0.mk (below_step Hd.b_ hb); (try clear hb); (try clear hb2); (try clear hk); (try clear hi); obtain ⟨hcz37_0, hcz37_1, hcz37_2, hcz37_3⟩ := Hd.c4_ BK297.out; obtain ⟨hfz37_0, hfz37_1, hfz37_2, hfz37_3⟩ := Hd.f4_ BK297.out) | (go_at_call 21; (with_reducible refine (impl_IsBox.calls a1_0 a1_1 a1_2 a1_3 false _ A6.out).mono ?_); rintro e w38 ⟨rfl, hb⟩; replace BK296 := Aside0.mk (Hd.kb_ BK296 hb); replace BK297 := Aside0.mk (Hd.kb_ BK297 hb); replace HB := Aside0.mk (below_step Hd.b_ hb); (try clear hb); (try clear hb2); (try clear hk); (try clear hi)))
   go_ret
   exact ⟨Hd.e_, Hd.b_⟩
 ·
  replace c5 := Bool.eq_false_iff.mpr c5
  subst c5
  have H1 : (some false) = some r := by rw [if_neg (show ¬ (false = true) by decide)] at H; exact H
  clear H
  have H := H1
  clear H1
  obtain rfl := Option.some.inj H
  go_enter Try.func17, Try.ntmps17
  go_wp2_with (first | ((with_reducible refine gate_dst (N := 2) rfl ?_); refine Hd.box_ 2 (#[.int .i64 a0_0, .int .i64 a0_1, .int .i64 a0_2, .int .i64 a0_3]) 29 ?_; intro gb296 hg w39 hbox hb; have BK296 := Aside0.mk (hbox); have GW296 := Aside0.mk ((Hd.g_ hg Hd.b_ : w.heap.size ≤ gb296)); have GE296 := Aside0.mk ((Hd.g_ hg Hd.b_ : w.heap.size ≤ gb296)); replace HB := Aside0.mk (below_step Hd.b_ hb); clear hb hbox hg) | ((with_reducible refine gate_dst (N := 3) rfl ?_); refine Hd.box_ 3 (#[.int .i64 a1_0, .int .i64 a1_1, .int .i64 a1_2, .int .i64 a1_3]) 29 ?_; intro gb297 hg w40 hbox hb; have BK297 := Aside0.mk (hbox); have GW297 := Aside0.mk ((Hd.g_ hg Hd.b_ : w.heap.size ≤ gb297)); have GE297 := Aside0.mk ((Hd.g_ hg Hd.b_ : w.heap.size ≤ gb297)); replace HB := Aside0.mk (below_step Hd.b_ hb); have NB296_297 := Aside0.mk ((Hd.lt_ BK296 hg)); have NB297_296 := Aside0.mk ((Hd.gt_ BK296 hg)); replace BK296 := Aside0.mk (Hd.kb_ BK296 hb); clear hb hbox hg; have hnb41 := NB296_297.out; have hnc41 := NB297_296.out; obtain ⟨hcz42_0, hcz42_1, hcz42_2, hcz42_3⟩ := Hd.c4_ BK296.out; obtain ⟨hfz42_0, hfz42_1, hfz42_2, hfz42_3⟩ := Hd.f4_ BK296.out; obtain ⟨hcz43_0, hcz43_1, hcz43_2, hcz43_3⟩ := Hd.c4_ BK297.out; obtain ⟨hfz43_0, hfz43_1, hfz43_2, hfz43_3⟩ := Hd.f4_ BK297.out) | ((with_reducible refine gate_callee (f := 68) rfl ?_); refine goesL_ (some 10) rfl rfl Try.func68 (by kernel_rfl) rfl #[.agg #[.int .i64 a0_0, .int .i64 a0_1, .int .i64 a0_2, .int .i64 a0_3], .agg #[.int .i64 a1_0, .int .i64 a1_1, .int .i64 a1_2, .int .i64 a1_3]] rfl Hd.m_ ?_; (with_reducible refine (impl_common.calls a0_0 a0_1 a0_2 a0_3 a1_0 a1_1 a1_2 a1_3 t298 t299 _ A3.out).mono ?_); rintro e w44 ⟨rfl, hb⟩; refine ⟨_, rfl, ?_⟩; replace BK296 := Aside0.mk (Hd.kb_ BK296 hb); replace BK297 := Aside0.mk (Hd.kb_ BK297 hb); replace HB := Aside0.mk (below_step Hd.b_ hb); (try clear hb); (try clear hb2); (try clear hk); (try clear hi); obtain ⟨hcz45_0, hcz45_1, hcz45_2, hcz45_3⟩ := Hd.c4_ BK296.out; obtain ⟨hfz45_0, hfz45_1, hfz45_2, hfz45_3⟩ := Hd.f4_ BK296.out) | ((with_reducible refine gate_callee (f := 21) rfl ?_); refine goesL_ (some 14) rfl rfl Try.func21 (by kernel_rfl) rfl #[.agg #[.int .i64 a0_0, .int .i64 a0_1, .int .i64 a0_2, .int .i64 a0_3]] rfl Hd.m_ ?_; (with_reducible refine (impl_IsBox.calls a0_0 a0_1 a0_2 a0_3 false _ A4.out).mono ?_); rintro e w46 ⟨rfl, hb⟩; refine ⟨_, rfl, ?_⟩; replace BK296 := Aside0.mk (Hd.kb_ BK296 hb); replace BK297 := Aside0.mk (Hd.kb_ BK297 hb); replace HB := Aside0.mk (below_step Hd.b_ hb); (try clear hb); (try clear hb2); (try clear hk); (try clear hi)))
  go_ret
  exact ⟨Hd.e_, Hd.b_⟩
def impl_JoinBoxes.f (k : Nat) (a0_0 : Int) (a0_1 : Int) (a0_2 : Int) (a0_3 : Int) (a1_0 : Int) (a1_1 : Int) (a1_2 : Int) (a1_3 : Int) : Option (Int × Int × Int × Int × Bool) := (impl_IsBox.f a0_0 a0_1 a0_2 a0_3).bind fun t305 => (if t305 = true then ((impl_IsBox.f a1_0 a1_1 a1_2 a1_3).bind fun t306 => (if t306 = true then ((impl_BoxOf.f k (([(⟨a0_0, a0_1⟩ : S27), (⟨a0_2, a0_3⟩ : S27), (⟨a1_0, a1_1⟩ : S27), (⟨a1_2, a1_3⟩ : S27)] : List (S27)))).bind fun bt310 => (some (bt310.1, bt310.2.1, bt310.2.2.1, bt310.2.2.2.1, bt310.2.2.2.2))) else (some (0, 0, 0, 0, false)))) else (some (0, 0, 0, 0, false)))
set_option maxHeartbeats 8000000 in
set_option maxRecDepth 100000 in
theorem impl_JoinBoxes.calls (k : Nat) (a0_0 : Int) (a0_1 : Int) (a0_2 : Int) (a0_3 : Int) (a1_0 : Int) (a1_1 : Int) (a1_2 : Int) (a1_3 : Int) (r1 : Int) (r2 : Int) (r3 : Int) (r4 : Int) (r5 : Bool) (w : World) (h : impl_JoinBoxes.f k a0_0 a0_1 a0_2 a0_3 a1_0 a1_1 a1_2 a1_3 = some (r1, r2, r3, r4, r5)) :
  Calls Try.prog 18 #[.agg #[.int .i64 a0_0, .int .i64 a0_1, .int .i64 a0_2, .int .i64 a0_3], .agg #[.int .i64 a1_0, .int .i64 a1_1, .int .i64 a1_2, .int .i64 a1_3]] w fun e w' => e = .returned (.tuple #[.agg #[.int .i64 r1, .int .i64 r2, .int .i64 r3, .int .i64 r4], .bool r5]) ∧ Below w.heap.size w w' := by
 have hu29 := Try.underlying29
 have hu27 := Try.underlying27
 have HB := Aside0.mk (Below.refl w.heap.size w)
 have H : ((impl_IsBox.f a0_0 a0_1 a0_2 a0_3).bind fun t305 => (if t305 = true then ((impl_IsBox.f a1_0 a1_1 a1_2 a1_3).bind fun t306 => (if t306 = true then ((impl_BoxOf.f k (([(⟨a0_0, a0_1⟩ : S27), (⟨a0_2, a0_3⟩ : S27), (⟨a1_0, a1_1⟩ : S27), (⟨a1_2, a1_3⟩ : S27)] : List (S27)))).bind fun bt310 => (some (bt310.1, bt310.2.1, bt310.2.2.1, bt310.2.2.2.1, bt310.2.2.2.2))) else (some (0, 0, 0, 0, false)))) else (some (0, 0, 0, 0, false)))) = some (r1, r2, r3, r4, r5) := h
 clear h
 replace H := Option.bind_eq_some_iff.mp H
 obtain ⟨t305, A30, H⟩ := H
 replace H : (if t305 = true then ((impl_IsBox.f a1_0 a1_1 a1_2 a1_3).bind fun t306 => (if t306 = true then ((impl_BoxOf.f k (([(⟨a0_0, a0_1⟩ : S27), (⟨a0_2, a0_3⟩ : S27), (⟨a1_0, a1_1⟩ : S27), (⟨a1_2, a1_3⟩ : S27)] : List (S27)))).bind fun bt310 => (some (bt310.1, bt310.2.1, bt310.2.2.1, bt310.2.2.2.1, bt310.2.2.2.2))) else (some (0, 0, 0, 0, false)))) else (some (0, 0, 0, 0, false))) = some (r1, r2, r3, r4, r5) := H
 have A3 := Aside0.mk A30
 clear A30
 by_cases c4 : t305 = true
 ·
  subst c4
  have H1 : ((impl_IsBox.f a1_0 a1_1 a1_2 a1_3).bind fun t306 => (if t306 = true then ((impl_BoxOf.f k (([(⟨a0_0, a0_1⟩ : S27), (⟨a0_2, a0_3⟩ : S27), (⟨a1_0, a1_1⟩ : S27), (⟨a1_2, a1_3⟩ : S27)] : List (S27)))).bind fun bt310 => (some (bt310.1, bt310.2.1, bt310.2.2.1, bt310.2.2.2.1, bt310.2.2.2.2))) else (some (0, 0, 0, 0, false)))) = some (r1, r2, r3, r4, r5) := by rw [if_pos rfl] at H; exact H
  clear H
  have H := H1
  clear H1
  replace H := Option.bind_eq_some_iff.mp H
  obtain ⟨t306, A50, H⟩ := H
  replace H : (if t306 = true then ((impl_BoxOf.f k (([(⟨a0_0, a0_1⟩ : S27), (⟨a0_2, a0_3⟩ : S27), (⟨a1_0, a1_1⟩ : S27), (⟨a1_2, a1_3⟩ : S27)] : List (S27)))).bind fun bt310 => (some (bt310.1, bt310.2.1, bt310.2.2.1, bt310.2.2.2.1, bt310.2.2.2.2))) else (some (0, 0, 0, 0, false))) = some (r1, r2, r3, r4, r5) := H
  have A5 := Aside0.mk A50
  clear A50
  by_cases c6 : t306 = true
  ·
   subst c6
   have H1 : ((impl_BoxOf.f k (([(⟨a0_0, a0_1⟩ : S27), (⟨a0_2, a0_3⟩ : S27), (⟨a1_0, a1_1⟩ : S27), (⟨a1_2, a1_3⟩ : S27)] : List (S27)))).bind fun bt310 => (some (bt310.1, bt310.2.1, bt310.2.2.1, bt310.2.2.2.1, bt310.2.2.2.2))) = some (r1, r2, r3, r4, r5) := by rw [if_pos rfl] at H; exact H
   clear H
   have H := H1
   clear H1
   obtain ⟨y307, hy307⟩ : ∃ y_ : List (S27), y_ = (([(⟨a0_0, a0_1⟩ : S27), (⟨a0_2, a0_3⟩ : S27), (⟨a1_0, a1_1⟩ : S27), (⟨a1_2, a1_3⟩ : S27)] : List (S27))) := ⟨_, rfl⟩
   replace H : ((impl_BoxOf.f k y307).bind fun bt310 => (some (bt310.1, bt310.2.1, bt310.2.2.1, bt310.2.2.2.1, bt310.2.2.2.2))) = some (r1, r2, r3, r4, r5) := by first | (rw [hy307]; with_reducible exact H) | (have H2_ := (Option.bind_some _ _).symm.trans H; rw [hy307]; with_reducible exact H2_) | (have H2_ := (Option.bind_some _ _).symm.trans H; with_reducible exact H2_) | with_reducible exact H | (rw [hy307]; exact H) | exact H
   have Ny307 := Aside0.mk hy307
   clear hy307
   replace H := Option.bind_eq_some_iff.mp H
   obtain ⟨⟨t310, t311, t312, t313, t314⟩, A70, H⟩ := H
   replace H : (some (t310, t311, t312, t313, t314)) = some (r1, r2, r3, r4, r5) := H
   have A7 := Aside0.mk A70
   clear A70
   simp only [Option.some.injEq, Prod.mk.injEq] at H
   obtain ⟨rfl, rfl, rfl, rfl, rfl⟩ := H
   go_enter Try.func18, Try.ntmps18
   go_wp2_with (first | ((with_reducible refine gate_dst (N := 2) rfl ?_); refine Hd.box_ 2 (#[.int .i64 a0_0, .int .i64 a0_1, .int .i64 a0_2, .int .i64 a0_3]) 29 ?_; intro gb302 hg w8 hbox hb; have BK302 := Aside0.mk (hbox); have GW302 := Aside0.mk ((Hd.g_ hg Hd.b_ : w.heap.size ≤ gb302)); have GE302 := Aside0.mk ((Hd.g_ hg Hd.b_ : w.heap.size ≤ gb302)); replace HB := Aside0.mk (below_step Hd.b_ hb); clear hb hbox hg) | ((with_reducible refine gate_dst (N := 3) rfl ?_); refine Hd.box_ 3 (#[.int .i64 a1_0, .int .i64 a1_1, .int .i64 a1_2, .int .i64 a1_3]) 29 ?_; intro gb303 hg w9 hbox hb; have BK303 := Aside0.mk (hbox); have GW303 := Aside0.mk ((Hd.g_ hg Hd.b_ : w.heap.size ≤ gb303)); have GE303 := Aside0.mk ((Hd.g_ hg Hd.b_ : w.heap.size ≤ gb303)); replace HB := Aside0.mk (below_step Hd.b_ hb); have NB302_303 := Aside0.mk ((Hd.lt_ BK302 hg)); have NB303_302 := Aside0.mk ((Hd.gt_ BK302 hg)); replace BK302 := Aside0.mk (Hd.kb_ BK302 hb); clear hb hbox hg) | ((with_reducible refine gate_dst (N := 4) rfl ?_); refine Hd.box_ 4 (#[.int .i64 0, .int .i64 0, .int .i64 0, .int .i64 0]) 29 ?_; intro gb304 hg w10 hbox hb; have BK304 := Aside0.mk (hbox); have GW304 := Aside0.mk ((Hd.g_ hg Hd.b_ : w.heap.size ≤ gb304)); have GE304 := Aside0.mk ((Hd.g_ hg Hd.b_ : w.heap.size ≤ gb304)); replace HB := Aside0.mk (below_step Hd.b_ hb); have NB302_304 := Aside0.mk ((Hd.lt_ BK302 hg)); have NB304_302 := Aside0.mk ((Hd.gt_ BK302 hg)); replace BK302 := Aside0.mk (Hd.kb_ BK302 hb); have NB303_304 := Aside0.mk ((Hd.lt_ BK303 hg)); have NB304_303 := Aside0.mk ((Hd.gt_ BK303 hg)); replace BK303 := Aside0.mk (Hd.kb_ BK303 hb); clear hb hbox hg; have hnb11 := NB302_303.out; have hnc11 := NB303_302.out; have hnb12 := NB302_304.out; have hnc12 := NB304_302.out; obtain ⟨hcz13_0, hcz13_1, hcz13_2, hcz13_3⟩ := Hd.c4_ BK302.out; obtain ⟨hfz13_0, hfz13_1, hfz13_2, hfz13_3⟩ := Hd.f4_ BK302.out) | ((with_reducible refine gate_callee (f := 21) rfl ?_); refine goesL_ (some 7) rfl rfl Try.func21 (by kernel_rfl) rfl #[.agg #[.int .i64 a0_0, .int .i64 a0_1, .int .i64 a0_2, .int .i64 a0_3]] rfl Hd.m_ ?_; (with_reducible refine (impl_IsBox.calls a0_0 a0_1 a0_2 a0_3 true _ A3.out).mono ?_); rintro e w14 ⟨rfl, hb⟩; refine ⟨_, rfl, ?_⟩; replace BK302 := Aside0.mk (Hd.kb_ BK302 hb); replace BK303 := Aside0.mk (Hd.kb_ BK303 hb); replace BK304 := Aside0.mk (Hd.kb_ BK304 hb); replace HB := Aside0.mk (below_step Hd.b_ hb); (try clear hb); (try clear hb2); (try clear hk); (try clear hi); have hnb15 := NB303_304.out; have hnc15 := NB304_303.out; obtain ⟨hcz16_0, hcz16_1, hcz16_2, hcz16_3⟩ := Hd.c4_ BK303.out; obtain ⟨hfz16_0, hfz16_1, hfz16_2, hfz16_3⟩ := Hd.f4_ BK303.out) | (go_at_call 21; (with_reducible refine (impl_IsBox.calls a1_0 a1_1 a1_2 a1_3 true _ A5.out).mono ?_); rintro e w17 ⟨rfl, hb⟩; replace BK302 := Aside0.mk (Hd.kb_ BK302 hb); replace BK303 := Aside0.mk (Hd.kb_ BK303 hb); replace BK304 := Aside0.mk (Hd.kb_ BK304 hb); replace HB := Aside0.mk (below_step Hd.b_ hb); (try clear hb); (try clear hb2); (try clear hk); (try clear hi); obtain ⟨hcz18_0, hcz18_1, hcz18_2, hcz18_3⟩ := Hd.c4_ BK302.out; obtain ⟨hfz18_0, hfz18_1, hfz18_2, hfz18_3⟩ := Hd.f4_ BK302.out; obtain ⟨hcz19_0, hcz19_1, hcz19_2, hcz19_3⟩ := Hd.c4_ BK303.out; obtain ⟨hfz19_0, hfz19_1, hfz19_2, hfz19_3⟩ := Hd.f4_ BK303.out) | ((with_reducible refine gate_dst (N := 23) rfl ?_); refine Kd.R_lit k27 _ 27 ?hg (N := 23) ?hd (xs := ([(⟨a0_0, a0_1⟩ : S27), (⟨a0_2, a0_3⟩ : S27), (⟨a1_0, a1_1⟩ : S27), (⟨a1_2, a1_3⟩ : S27)] : List (S27))) (inner := [.int .i64 a0_0, .int .i64 a0_1, .int .i64 a0_2, .int .i64 a0_3, .int .i64 a1_0, .int .i64 a1_1, .int .i64 a1_2, .int .i64 a1_3]) (ok := fun _ => True) (okp := fun _ => True) ?hr ?hp (fun _ hk => hk) trivial (Below.refl _ _) (Nat.le_refl _) (by simp) ?_; (case hd => rfl); (case hg => rfl); (case hr => first | (go_simp; done) | (go_simp; rfl)); (case hp => exact (Reps.c2 (show Kd.M k27 _ _ _ (⟨a0_0, a0_1⟩ : S27) [.int .i64 a0_0, .int .i64 a0_1] from (k27_mkM _ _ _ (⟨a0_0, a0_1⟩ : S27) )) (Reps.c2 (show Kd.M k27 _ _ _ (⟨a0_2, a0_3⟩ : S27) [.int .i64 a0_2, .int .i64 a0_3] from (k27_mkM _ _ _ (⟨a0_2, a0_3⟩ : S27) )) (Reps.c2 (show Kd.M k27 _ _ _ (⟨a1_0, a1_1⟩ : S27) [.int .i64 a1_0, .int .i64 a1_1] from (k27_mkM _ _ _ (⟨a1_0, a1_1⟩ : S27) )) (Reps.c2 (show Kd.M k27 _ _ _ (⟨a1_2, a1_3⟩ : S27) [.int .i64 a1_2, .int .i64 a1_3] from (k27_mkM _ _ _ (⟨a1_2, a1_3⟩ : S27) )) (Reps.none _ _)))))); intro v308 w20 ho21 hb hg_ hnew_; clear hg_ hnew_; (first | rw [← Ny307.out] at ho21 | (simp only [Int.reduceToNat] at ho21; rw [← Ny307.out] at ho21)); have HO309 := Aside0.mk (Kd.R_lower ho21 (below_size Hd.b_)); replace BK302 := Aside0.mk (Hd.kb_ BK302 hb); replace BK303 := Aside0.mk (Hd.kb_ BK303 hb); replace BK304 := Aside0.mk (Hd.kb_ BK304 hb); replace HB := Aside0.mk (below_step Hd.b_ hb); clear hb ho21; obtain ⟨Ao22, co22, eo22⟩ := Kd.R_slice HO309.out; subst eo22) | ((with_reducible refine gate_callee (f := 12) rfl ?_); refine goesL_ (some 24) rfl rfl Try.func12 (by kernel_rfl) rfl #[.slice Ao22 y307.length co22] rfl Hd.m_ ?_; (with_reducible refine (impl_BoxOf.calls k _ _ y307 t310 t311 t312 t313 t314 _ ?side1 ?side2 A7.out).mono ?_); (case side1 => repeat (first | exact (Kd.R_reads' HO309.out).2.2 | (with_reducible refine Kd.C_alloc ?_ _) | (with_reducible refine Kd.C_drewN ?_ _) | (with_reducible refine Kd.C_drew ?_))); (case side2 => exact (Kd.R_reads' HO309.out).2.1); rintro e w23 ⟨rfl, hb⟩; refine ⟨_, rfl, ?_⟩; replace HO309 := Aside0.mk (Kd.R_below (Hd.r_ HO309) hb); replace BK302 := Aside0.mk (Hd.kb_ BK302 hb); replace BK303 := Aside0.mk (Hd.kb_ BK303 hb); replace BK304 := Aside0.mk (Hd.kb_ BK304 hb); replace HB := Aside0.mk (below_step Hd.b_ hb); (try clear hb); (try clear hb2); (try clear hk); (try clear hi); obtain ⟨hcz24_0, hcz24_1, hcz24_2, hcz24_3⟩ := Hd.c4_ BK304.out; obtain ⟨hfz24_0, hfz24_1, hfz24_2, hfz24_3⟩ := Hd.f4_ BK304.out))
   refine bodyPost_ret (results_ct rfl _ _ gb304 29 #[.int .i64 t310, .int .i64 t311, .int .i64 t312, .int .i64 t313] (0, 0) _ rfl (by (with_reducible repeat (first | refine blk_drewN ?_ _ | refine blk_drew ?_ | refine blk_alloc ?_ _)); refine blk_put (cs := #[.int .i64 t310, .int .i64 t311, .int .i64 t312, .int .i64 0]) ?_ 3 _ rfl; (with_reducible repeat (first | refine blk_drewN ?_ _ | refine blk_drew ?_ | refine blk_alloc ?_ _)); refine blk_put (cs := #[.int .i64 t310, .int .i64 t311, .int .i64 0, .int .i64 0]) ?_ 2 _ rfl; (with_reducible repeat (first | refine blk_drewN ?_ _ | refine blk_drew ?_ | refine blk_alloc ?_ _)); refine blk_put (cs := #[.int .i64 t310, .int .i64 0, .int .i64 0, .int .i64 0]) ?_ 1 _ rfl; (with_reducible repeat (first | refine blk_drewN ?_ _ | refine blk_drew ?_ | refine blk_alloc ?_ _)); refine blk_put (cs := #[.int .i64 0, .int .i64 0, .int .i64 0, .int .i64 0]) ?_ 0 _ rfl; (with_reducible repeat (first | refine blk_drewN ?_ _ | refine blk_drew ?_ | refine blk_alloc ?_ _)); exact BK304.out) Try.underlying29 rfl (by kernel_rfl)) rfl ?_
   exact ⟨Hd.e_, Hd.b_⟩
  ·
   replace c6 := Bool.eq_false_iff.mpr c6
   subst c6
   have H1 : (some (0, 0, 0, 0, false)) = some (r1, r2, r3, r4, r5) := by rw [if_neg (show ¬ (false = true) by decide)] at H; exact H
   clear H
   have H := H1
   clear H1
   simp only [Option.some.injEq, Prod.mk.injEq] at H
   obtain ⟨rfl, rfl, rfl, rfl, rfl⟩ := H
   go_enter Try.func18, Try.ntmps18
   go_wp2_with (first | ((with_reducible refine gate_dst (N := 2) rfl ?_); refine Hd.box_ 2 (#[.int .i64 a0_0, .int .i64 a0_1, .int .i64 a0_2, .int .i64 a0_3]) 29 ?_; intro gb302 hg w25 hbox hb; have BK302 := Aside0.mk (hbox); have GW302 := Aside0.mk ((Hd.g_ hg Hd.b_ : w.heap.size ≤ gb302)); have GE302 := Aside0.mk ((Hd.g_ hg Hd.b_ : w.heap.size ≤ gb302)); replace HB := Aside0.mk (below_step Hd.b_ hb); clear hb hbox hg) | ((with_reducible refine gate_dst (N := 3) rfl ?_); refine Hd.box_ 3 (#[.int .i64 a1_0, .int .i64 a1_1, .int .i64 a1_2, .int .i64 a1_3]) 29 ?_; intro gb303 hg w26 hbox hb; have BK303 := Aside0.mk (hbox); have GW303 := Aside0.mk ((Hd.g_ hg Hd.b_ : w.heap.size ≤ gb303)); have GE303 := Aside0.mk ((Hd.g_ hg Hd.b_ : w.heap.size ≤ gb303)); replace HB := Aside0.mk (below_step Hd.b_ hb); have NB302_303 := Aside0.mk ((Hd.lt_ BK302 hg)); have NB303_302 := Aside0.mk ((Hd.gt_ BK302 hg)); replace BK302 := Aside0.mk (Hd.kb_ BK302 hb); clear hb hbox hg) | ((with_reducible refine gate_dst (N := 4) rfl ?_); refine Hd.box_ 4 (#[.int .i64 0, .int .i64 0, .int .i64 0, .int .i64 0]) 29 ?_; intro gb304 hg w27 hbox hb; have BK304 := Aside0.mk (hbox); have GW304 := Aside0.mk ((Hd.g_ hg Hd.b_ : w.heap.size ≤ gb304)); have GE304 := Aside0.mk ((Hd.g_ hg Hd.b_ : w.heap.size ≤ gb304)); replace HB := Aside0.mk (below_step Hd.b_ hb); have NB302_304 := Aside0.mk ((Hd.lt_ BK302 hg)); have NB304_302 := Aside0.mk ((Hd.gt_ BK302 hg)); replace BK302 := Aside0.mk (Hd.kb_ BK302 hb); have NB303_304 := Aside0.mk ((Hd.lt_ BK303 hg)); have NB304_303 := Aside0.mk ((Hd.gt_ BK303 hg)); replace BK303 := Aside0.mk (Hd.kb_ BK303 hb); clear hb hbox hg; have hnb28 := NB302_303.out; have hnc28 := NB303_302.out; have hnb29 := NB302_304.out; have hnc29 := NB304_302.out; obtain ⟨hcz30_0, hcz30_1, hcz30_2, hcz30_3⟩ := Hd.c4_ BK302.out; obtain ⟨hfz30_0, hfz30_1, hfz30_2, hfz30_3⟩ := Hd.f4_ BK302.out) | ((with_reducible refine gate_callee (f := 21) rfl ?_); refine goesL_ (some 7) rfl rfl Try.func21 (by kernel_rfl) rfl #[.agg #[.int .i64 a0_0, .int .i64 a0_1, .int .i64 a0_2, .int .i64 a0_3]] rfl Hd.m_ ?_; (with_reducible refine (impl_IsBox.calls a0_0 a0_1 a0_2 a0_3 true _ A3.out).mono ?_); rintro e w31 ⟨rfl, hb⟩; refine ⟨_, rfl, ?_⟩; replace BK302 := Aside0.mk (Hd.kb_ BK302 hb); replace BK303 := Aside0.mk (Hd.kb_ BK303 hb); replace BK304 := Aside0.mk (Hd.kb_ BK304 hb); replace HB := Aside0.mk (below_step Hd.b_ hb); (try clear hb); (try clear hb2); (try clear hk); (try clear hi); have hnb32 := NB303_304.out; have hnc32 := NB304_303.out; obtain ⟨hcz33_0, hcz33_1, hcz33_2, hcz33_3⟩ := Hd.c4_ BK303.out; obtain ⟨hfz33_0, hfz33_1, hfz33_2, hfz33_3⟩ := Hd.f4_ BK303.out) | (go_at_call 21; (with_reducible refine (impl_IsBox.calls a1_0 a1_1 a1_2 a1_3 false _ A5.out).mono ?_); rintro e w34 ⟨rfl, hb⟩; replace BK302 := Aside0.mk (Hd.kb_ BK302 hb); replace BK303 := Aside0.mk (Hd.kb_ BK303 hb); replace BK304 := Aside0.mk (Hd.kb_ BK304 hb); replace HB := Aside0.mk (below_step Hd.b_ hb); (try clear hb); (try clear hb2); (try clear hk); (try clear hi); obtain ⟨hcz35_0, hcz35_1, hcz35_2, hcz35_3⟩ := Hd.c4_ BK304.out; obtain ⟨hfz35_0, hfz35_1, hfz35_2, hfz35_3⟩ := Hd.f4_ BK304.out))
   refine bodyPost_ret (results_ct rfl _ _ gb304 29 #[.int .i64 0, .int .i64 0, .int .i64 0, .int .i64 0] (0, 0) _ rfl (by (with_reducible repeat (first | refine blk_drewN ?_ _ | refine blk_drew ?_ | refine blk_alloc ?_ _)); refine blk_put (cs := #[.int .i64 0, .int .i64 0, .int .i64 0, .int .i64 0]) ?_ 3 _ rfl; (with_reducible repeat (first | refine blk_drewN ?_ _ | refine blk_drew ?_ | refine blk_alloc ?_ _)); refine blk_put (cs := #[.int .i64 0, .int .i64 0, .int .i64 0, .int .i64 0]) ?_ 2 _ rfl; (with_reducible repeat (first | refine blk_drewN ?_ _ | refine blk_drew ?_ | refine blk_alloc ?_ _)); refine blk_put (cs := #[.int .i64 0, .int .i64 0, .int .i64 0, .int .i64 0]) ?_ 1 _ rfl; (with_reducible repeat (first | refine blk_drewN ?_ _ | refine blk_drew ?_ | refine blk_alloc ?_ _)); refine blk_put (cs := #[.int .i64 0, .int .i64 0, .int .i64 0, .int .i64 0]) ?_ 0 _ rfl; (with_reducible repeat (first | refine blk_drewN ?_ _ | refine blk_drew ?_ | refine blk_alloc ?_ _)); exact BK304.out) Try.underlying29 rfl (by kernel_rfl)) rfl ?_
   exact ⟨Hd.e_, Hd.b_⟩
 ·
  replace c4 := Bool.eq_false_iff.mpr c4
  subst c4
  have H1 : (some (0, 0, 0, 0, false)) = some (r1, r2, r3, r4, r5) := by rw [if_neg (show ¬ (false = true) by decide)] at H; exact H
  clear H
  have H := H1
  clear H1
  simp only [Option.some.injEq, Prod.mk.injEq] at H
  obtain ⟨rfl, rfl, rfl, rfl, rfl⟩ := H
  go_enter Try.func18, Try.ntmps18
  go_wp2_with (first | ((with_reducible refine gate_dst (N := 2) rfl ?_); refine Hd.box_ 2 (#[.int .i64 a0_0, .int .i64 a0_1, .int .i64 a0_2, .int .i64 a0_3]) 29 ?_; intro gb302 hg w36 hbox hb; have BK302 := Aside0.mk (hbox); have GW302 := Aside0.mk ((Hd.g_ hg Hd.b_ : w.heap.size ≤ gb302)); have GE302 := Aside0.mk ((Hd.g_ hg Hd.b_ : w.heap.size ≤ gb302)); replace HB := Aside0.mk (below_step Hd.b_ hb); clear hb hbox hg) | ((with_reducible refine gate_dst (N := 3) rfl ?_); refine Hd.box_ 3 (#[.int .i64 a1_0, .int .i64 a1_1, .int .i64 a1_2, .int .i64 a1_3]) 29 ?_; intro gb303 hg w37 hbox hb; have BK303 := Aside0.mk (hbox); have GW303 := Aside0.mk ((Hd.g_ hg Hd.b_ : w.heap.size ≤ gb303)); have GE303 := Aside0.mk ((Hd.g_ hg Hd.b_ : w.heap.size ≤ gb303)); replace HB := Aside0.mk (below_step Hd.b_ hb); have NB302_303 := Aside0.mk ((Hd.lt_ BK302 hg)); have NB303_302 := Aside0.mk ((Hd.gt_ BK302 hg)); replace BK302 := Aside0.mk (Hd.kb_ BK302 hb); clear hb hbox hg) | ((with_reducible refine gate_dst (N := 4) rfl ?_); refine Hd.box_ 4 (#[.int .i64 0, .int .i64 0, .int .i64 0, .int .i64 0]) 29 ?_; intro gb304 hg w38 hbox hb; have BK304 := Aside0.mk (hbox); have GW304 := Aside0.mk ((Hd.g_ hg Hd.b_ : w.heap.size ≤ gb304)); have GE304 := Aside0.mk ((Hd.g_ hg Hd.b_ : w.heap.size ≤ gb304)); replace HB := Aside0.mk (below_step Hd.b_ hb); have NB302_304 := Aside0.mk ((Hd.lt_ BK302 hg)); have NB304_302 := Aside0.mk ((Hd.gt_ BK302 hg)); replace BK302 := Aside0.mk (Hd.kb_ BK302 hb); have NB303_304 := Aside0.mk ((Hd.lt_ BK303 hg)); have NB304_303 := Aside0.mk ((Hd.gt_ BK303 hg)); replace BK303 := Aside0.mk (Hd.kb_ BK303 hb); clear hb hbox hg; have hnb39 := NB302_303.out; have hnc39 := NB303_302.out; have hnb40 := NB302_304.out; have hnc40 := NB304_302.out; obtain ⟨hcz41_0, hcz41_1, hcz41_2, hcz41_3⟩ := Hd.c4_ BK302.out; obtain ⟨hfz41_0, hfz41_1, hfz41_2, hfz41_3⟩ := Hd.f4_ BK302.out) | ((with_reducible refine gate_callee (f := 21) rfl ?_); refine goesL_ (some 7) rfl rfl Try.func21 (by kernel_rfl) rfl #[.agg #[.int .i64 a0_0, .int .i64 a0_1, .int .i64 a0_2, .int .i64 a0_3]] rfl Hd.m_ ?_; (with_reducible refine (impl_IsBox.calls a0_0 a0_1 a0_2 a0_3 false _ A3.out).mono ?_); rintro e w42 ⟨rfl, hb⟩; refine ⟨_, rfl, ?_⟩; replace BK302 := Aside0.mk (Hd.kb_ BK302 hb); replace BK303 := Aside0.mk (Hd.kb_ BK303 hb); replace BK304 := Aside0.mk (Hd.kb_ BK304 hb); replace HB := Aside0.mk (below_step Hd.b_ hb); (try clear hb); (try clear hb2); (try clear hk); (try clear hi); have hnb43 := NB304_303.out; have hnc43 := NB303_304.out; obtain ⟨hcz44_0, hcz44_1, hcz44_2, hcz44_3⟩ := Hd.c4_ BK304.out; obtain ⟨hfz44_0, hfz44_1, hfz44_2, hfz44_3⟩ := Hd.f4_ BK304.out))
  refine bodyPost_ret (results_ct rfl _ _ gb304 29 #[.int .i64 0, .int .i64 0, .int .i64 0, .int .i64 0] (0, 0) _ rfl (by (with_reducible repeat (first | refine blk_drewN ?_ _ | refine blk_drew ?_ | refine blk_alloc ?_ _)); refine blk_put (cs := #[.int .i64 0, .int .i64 0, .int .i64 0, .int .i64 0]) ?_ 3 _ rfl; (with_reducible repeat (first | refine blk_drewN ?_ _ | refine blk_drew ?_ | refine blk_alloc ?_ _)); refine blk_put (cs := #[.int .i64 0, .int .i64 0, .int .i64 0, .int .i64 0]) ?_ 2 _ rfl; (with_reducible repeat (first | refine blk_drewN ?_ _ | refine blk_drew ?_ | refine blk_alloc ?_ _)); refine blk_put (cs := #[.int .i64 0, .int .i64 0, .int .i64 0, .int .i64 0]) ?_ 1 _ rfl; (with_reducible repeat (first | refine blk_drewN ?_ _ | refine blk_drew ?_ | refine blk_alloc ?_ _)); refine blk_put (cs := #[.int .i64 0, .int .i64 0, .int .i64 0, .int .i64 0]) ?_ 0 _ rfl; (with_reducible repeat (first | refine blk_drewN ?_ _ | refine blk_drew ?_ | refine blk_alloc ?_ _)); exact BK304.out) Try.underlying29 rfl (by kernel_rfl)) rfl ?_
  exact ⟨Hd.e_, Hd.b_⟩
def spec_DrawGrowBox.f (k : Nat) (l0 : List Int) : Option (Int × Int × Int × Int × Int) := (spec_l1New.f k l0).bind fun bt316 => ((spec_l8Any.f bt316.1 bt316.2.1 bt316.2.2).bind fun bt320 => ((spec_l1Int.f bt316.1 bt320.2.2.2.2.1 bt320.2.2.2.2.2 (([0, 1, 5, 200, 201, (-1)] : List Int))).bind fun bt330 => (some (bt320.1, bt320.2.1, bt320.2.2.1, bt320.2.2.2.1, bt330.1))))
set_option maxHeartbeats 8000000 in
set_option maxRecDepth 100000 in
theorem spec_DrawGrowBox.calls (k : Nat) (A0 : Option Addr) (c0 : Nat) (l0 : List Int) (r1 : Int) (r2 : Int) (r3 : Int) (r4 : Int) (r5 : Int) (w : World) (hr0 : Kd.C (Kd.int .u8) w A0 l0.length l0) (hc0 : l0.length ≤ c0) (h : spec_DrawGrowBox.f k l0 = some (r1, r2, r3, r4, r5)) :
  Calls Try.prog 19 #[.slice A0 l0.length c0] w fun e w' => e = .returned (.tuple #[.agg #[.int .i64 r1, .int .i64 r2, .int .i64 r3, .int .i64 r4], .int .i64 r5]) ∧ Below w.heap.size w w' := by
 have hu29 := Try.underlying29
 have HR0 := Aside0.mk hr0
 have HC0 := Aside0.mk hc0
 clear hr0 hc0
 have HB := Aside0.mk (Below.refl w.heap.size w)
 have H : ((spec_l1New.f k l0).bind fun bt316 => ((spec_l8Any.f bt316.1 bt316.2.1 bt316.2.2).bind fun bt320 => ((spec_l1Int.f bt316.1 bt320.2.2.2.2.1 bt320.2.2.2.2.2 (([0, 1, 5, 200, 201, (-1)] : List Int))).bind fun bt330 => (some (bt320.1, bt320.2.1, bt320.2.2.1, bt320.2.2.2.1, bt330.1))))) = some (r1, r2, r3, r4, r5) := h
 clear h
 replace H := Option.bind_eq_some_iff.mp H
 obtain ⟨⟨t316, t317, t318⟩, A20, H⟩ := H
 replace H : ((spec_l8Any.f t316 t317 t318).bind fun bt320 => ((spec_l1Int.f t316 bt320.2.2.2.2.1 bt320.2.2.2.2.2 (([0, 1, 5, 200, 201, (-1)] : List Int))).bind fun bt330 => (some (bt320.1, bt320.2.1, bt320.2.2.1, bt320.2.2.2.1, bt330.1)))) = some (r1, r2, r3, r4, r5) := H
 have A2 := Aside0.mk A20
 clear A20
 replace H := Option.bind_eq_some_iff.mp H
 obtain ⟨⟨t320, t321, t322, t323, t324, t325⟩, A30, H⟩ := H
 replace H : ((spec_l1Int.f t316 t324 t325 (([0, 1, 5, 200, 201, (-1)] : List Int))).bind fun bt330 => (some (t320, t321, t322, t323, bt330.1))) = some (r1, r2, r3, r4, r5) := H
 have A3 := Aside0.mk A30
 clear A30
 obtain ⟨y327, hy327⟩ : ∃ y_ : List Int, y_ = (([0, 1, 5, 200, 201, (-1)] : List Int)) := ⟨_, rfl⟩
 replace H : ((spec_l1Int.f t316 t324 t325 y327).bind fun bt330 => (some (t320, t321, t322, t323, bt330.1))) = some (r1, r2, r3, r4, r5) := by first | (rw [hy327]; with_reducible exact H) | (have H2_ := (Option.bind_some _ _).symm.trans H; rw [hy327]; with_reducible exact H2_) | (have H2_ := (Option.bind_some _ _).symm.trans H; with_reducible exact H2_) | with_reducible exact H | (rw [hy327]; exact H) | exact H
 have Ny327 := Aside0.mk hy327
 clear hy327
 replace H := Option.bind_eq_some_iff.mp H
 obtain ⟨⟨t330, t331, t332⟩, A40, H⟩ := H
 replace H : (some (t320, t321, t322, t323, t330)) = some (r1, r2, r3, r4, r5) := H
 have A4 := Aside0.mk A40
 clear A40
 simp only [Option.some.injEq, Prod.mk.injEq] at H
 obtain ⟨rfl, rfl, rfl, rfl, rfl⟩ := H
 go_enter Try.func19, Try.ntmps19
 try go_wp2_with (first | ((with_reducible refine gate_dst (N := 2) rfl ?_); refine Hd.box_ 2 (#[.int .i64 0, .int .i64 0, .int .i64 0, .int .i64 0]) 29 ?_; intro gb315 hg w5 hbox hb; have BK315 := Aside0.mk (hbox); have GW315 := Aside0.mk ((Hd.g_ hg Hd.b_ : w.heap.size ≤ gb315)); have GE315 := Aside0.mk ((Hd.g_ hg Hd.b_ : w.heap.size ≤ gb315)); replace HB := Aside0.mk (below_step Hd.b_ hb); clear hb hbox hg) | ((with_reducible refine gate_callee (f := 66) rfl ?_); refine goesL_ (some 7) rfl rfl Try.func66 (by kernel_rfl) rfl #[.slice A0 l0.length c0] rfl Hd.m_ ?_; (with_reducible refine (spec_l1New.calls k _ _ l0 t316 t317 t318 w _ ?side1 ?side2 ?side3 A2.out).mono ?_); (case side1 => repeat (first | (with_reducible first | exact HB.out | apply below_alloc | apply pw_below_drewN | apply below_drew1 | refine below_set ?_ GE315.out) | exact HB.out)); (case side2 => exact HR0.out); (case side3 => exact HC0.out); rintro e w6 ⟨g319, rfl, hi, hb, hb2⟩; refine ⟨_, rfl, ?_⟩; replace HB := Aside0.mk (hb); have HI319 := Aside0.mk (hi); have NB319_315 := Aside0.mk (IsS109.ne_blk hi (blk_below (g := gb315) (o := .cells #[.int .i64 0, .int .i64 0, .int .i64 0, .int .i64 0] 29 (0, 0)) (Hd.k_ BK315) hb2) (by decide)); have NB315_319 := Aside0.mk (Ne.symm (IsS109.ne_blk hi (blk_below (g := gb315) (o := .cells #[.int .i64 0, .int .i64 0, .int .i64 0, .int .i64 0] 29 (0, 0)) (Hd.k_ BK315) hb2) (by decide))); replace BK315 := Aside0.mk (blk_below (g := gb315) (o := .cells #[.int .i64 0, .int .i64 0, .int .i64 0, .int .i64 0] 29 (0, 0)) (Hd.k_ BK315) hb2); (try clear hb); (try clear hb2); (try clear hk); (try clear hi)) | ((with_reducible refine gate_callee (f := 67) rfl ?_); refine goesL_ (some 9) rfl rfl Try.func67 (by kernel_rfl) rfl #[.pointer (some ⟨g319, 0, none⟩)] rfl Hd.m_ ?_; (with_reducible refine (spec_l8Any.calls g319 t316 t317 t318 t320 t321 t322 t323 t324 t325 w _ ?side1 ?side2 A3.out).mono ?_); (case side1 => repeat (first | (with_reducible first | exact HI319.out | apply IsS109.alloc | apply IsS109.drewN | apply IsS109.drew | apply IsS109.set_1 | apply IsS109.set_2 | refine IsS109.far ?_ NB319_315.out _) | exact HI319.out)); (case side2 => repeat (first | (with_reducible first | exact HB.out | apply below_alloc | apply pw_below_drewN | apply below_drew1 | refine below_set ?_ (IsS109.ge HI319.out) | refine below_set ?_ GE315.out) | exact HB.out)); rintro e w7 ⟨rfl, hi, hb, hk⟩; refine ⟨_, rfl, ?_⟩; replace BK315 := Aside0.mk (KeepBut.blk hk (g' := gb315) (o := .cells #[.int .i64 0, .int .i64 0, .int .i64 0, .int .i64 0] 29 (0, 0)) (Hd.k_ BK315) NB315_319.out (by simp)); replace HB := Aside0.mk (hb); replace HI319 := Aside0.mk (hi); (try clear hb); (try clear hb2); (try clear hk); (try clear hi)) | ((with_reducible refine gate_dst (N := 5) rfl ?_); refine Hd.box_ 5 (#[.int .i64 0, .int .i64 0, .int .i64 0, .int .i64 0]) 29 ?_; intro gb326 hg w8 hbox hb; have BK326 := Aside0.mk (hbox); have GW326 := Aside0.mk ((by rw [hg]; exact (below_size (by repeat (first | (with_reducible first | exact HB.out | apply below_alloc | apply pw_below_drewN | apply below_drew1 | refine below_set ?_ (IsS109.ge HI319.out) | refine below_set ?_ GE315.out) | exact HB.out))) : w.heap.size ≤ gb326)); have GE326 := Aside0.mk ((by rw [hg]; exact (below_size (by repeat (first | (with_reducible first | exact HB.out | apply below_alloc | apply pw_below_drewN | apply below_drew1 | refine below_set ?_ (IsS109.ge HI319.out) | refine below_set ?_ GE315.out) | exact HB.out))) : w.heap.size ≤ gb326)); replace HB := Aside0.mk (below_step (by repeat (first | (with_reducible first | exact HB.out | apply below_alloc | apply pw_below_drewN | apply below_drew1 | refine below_set ?_ (IsS109.ge HI319.out) | refine below_set ?_ GE315.out) | exact HB.out)) hb); have NB315_326 := Aside0.mk ((Hd.lt_ BK315 hg)); have NB326_315 := Aside0.mk ((Hd.gt_ BK315 hg)); replace BK315 := Aside0.mk (Hd.kb_ BK315 hb); have NB319_326 := Aside0.mk ((by rw [hg]; exact Nat.ne_of_lt (IsS109.lt (show IsS109 w _ g319 t316 t324 t325 from by repeat (first | (with_reducible first | exact HI319.out | apply IsS109.alloc | apply IsS109.drewN | apply IsS109.drew | apply IsS109.set_1 | apply IsS109.set_2 | refine IsS109.far ?_ NB319_315.out _) | exact HI319.out))) : g319 ≠ gb326)); have NB326_319 := Aside0.mk ((by rw [hg]; exact Nat.ne_of_gt (IsS109.lt (show IsS109 w _ g319 t316 t324 t325 from by repeat (first | (with_reducible first | exact HI319.out | apply IsS109.alloc | apply IsS109.drewN | apply IsS109.drew | apply IsS109.set_1 | apply IsS109.set_2 | refine IsS109.far ?_ NB319_315.out _) | exact HI319.out))) : gb326 ≠ g319)); replace HI319 := Aside0.mk (IsS109.below (by repeat (first | (with_reducible first | exact HI319.out | apply IsS109.alloc | apply IsS109.drewN | apply IsS109.drew | apply IsS109.set_1 | apply IsS109.set_2 | refine IsS109.far ?_ NB319_315.out _) | exact HI319.out)) hb); clear hb hbox hg; have hnb9 := NB326_315.out; have hnc9 := NB315_326.out; have hnb10 := NB326_319.out; have hnc10 := NB319_326.out; obtain ⟨hcz11_0, hcz11_1, hcz11_2, hcz11_3⟩ := Hd.c4_ BK326.out; obtain ⟨hfz11_0, hfz11_1, hfz11_2, hfz11_3⟩ := Hd.f4_ BK326.out))
 have n0_ : Aside0 (((((w8.setCell ⟨gb326, 0, none⟩ (.int .i64 t320)).setCell ⟨gb326, 1, none⟩ (.int .i64 t321)).setCell ⟨gb326, 2, none⟩ (.int .i64 t322)).setCell ⟨gb326, 3, none⟩ (.int .i64 t323)).heap[gb315]? = some (.cells #[.int .i64 0, .int .i64 0, .int .i64 0, .int .i64 0] 29 (0, 0))) := ⟨by (with_reducible repeat (first | refine blk_drewN ?_ _ | refine blk_drew ?_ | refine blk_alloc ?_ _)); refine blk_far ?_ NB315_326.out _; (with_reducible repeat (first | refine blk_drewN ?_ _ | refine blk_drew ?_ | refine blk_alloc ?_ _)); refine blk_far ?_ NB315_326.out _; (with_reducible repeat (first | refine blk_drewN ?_ _ | refine blk_drew ?_ | refine blk_alloc ?_ _)); refine blk_far ?_ NB315_326.out _; (with_reducible repeat (first | refine blk_drewN ?_ _ | refine blk_drew ?_ | refine blk_alloc ?_ _)); refine blk_far ?_ NB315_326.out _; (with_reducible repeat (first | refine blk_drewN ?_ _ | refine blk_drew ?_ | refine blk_alloc ?_ _)); exact BK315.out⟩
 have n1_ : Aside0 (((((w8.setCell ⟨gb326, 0, none⟩ (.int .i64 t320)).setCell ⟨gb326, 1, none⟩ (.int .i64 t321)).setCell ⟨gb326, 2, none⟩ (.int .i64 t322)).setCell ⟨gb326, 3, none⟩ (.int .i64 t323)).heap[gb326]? = some (.cells #[.int .i64 t320, .int .i64 t321, .int .i64 t322, .int .i64 t323] 29 (0, 0))) := ⟨by (with_reducible repeat (first | refine blk_drewN ?_ _ | refine blk_drew ?_ | refine blk_alloc ?_ _)); refine blk_put (cs := #[.int .i64 t320, .int .i64 t321, .int .i64 t322, .int .i64 0]) ?_ 3 _ rfl; (with_reducible repeat (first | refine blk_drewN ?_ _ | refine blk_drew ?_ | refine blk_alloc ?_ _)); refine blk_put (cs := #[.int .i64 t320, .int .i64 t321, .int .i64 0, .int .i64 0]) ?_ 2 _ rfl; (with_reducible repeat (first | refine blk_drewN ?_ _ | refine blk_drew ?_ | refine blk_alloc ?_ _)); refine blk_put (cs := #[.int .i64 t320, .int .i64 0, .int .i64 0, .int .i64 0]) ?_ 1 _ rfl; (with_reducible repeat (first | refine blk_drewN ?_ _ | refine blk_drew ?_ | refine blk_alloc ?_ _)); refine blk_put (cs := #[.int .i64 0, .int .i64 0, .int .i64 0, .int .i64 0]) ?_ 0 _ rfl; (with_reducible repeat (first | refine blk_drewN ?_ _ | refine blk_drew ?_ | refine blk_alloc ?_ _)); exact BK326.out⟩
 have n2_ : Aside0 (IsS109 w ((((w8.setCell ⟨gb326, 0, none⟩ (.int .i64 t320)).setCell ⟨gb326, 1, none⟩ (.int .i64 t321)).setCell ⟨gb326, 2, none⟩ (.int .i64 t322)).setCell ⟨gb326, 3, none⟩ (.int .i64 t323)) g319 t316 t324 t325) := ⟨by repeat (first | (with_reducible first | exact HI319.out | apply IsS109.alloc | apply IsS109.drewN | apply IsS109.drew | apply IsS109.set_1 | apply IsS109.set_2 | refine IsS109.far ?_ NB319_315.out _ | refine IsS109.far ?_ NB319_326.out _) | exact HI319.out)⟩
 have n3_ : Aside0 (Below w.heap.size w ((((w8.setCell ⟨gb326, 0, none⟩ (.int .i64 t320)).setCell ⟨gb326, 1, none⟩ (.int .i64 t321)).setCell ⟨gb326, 2, none⟩ (.int .i64 t322)).setCell ⟨gb326, 3, none⟩ (.int .i64 t323))) := ⟨by repeat (first | (with_reducible first | exact HB.out | apply below_alloc | apply pw_below_drewN | apply below_drew1 | refine below_set ?_ (IsS109.ge HI319.out) | refine below_set ?_ GE315.out | refine below_set ?_ GE326.out) | exact HB.out)⟩
 (try clear BK315)
 (try clear BK326)
 (try clear HI319)
 (try clear HB)
 generalize ((((w8.setCell ⟨gb326, 0, none⟩ (.int .i64 t320)).setCell ⟨gb326, 1, none⟩ (.int .i64 t321)).setCell ⟨gb326, 2, none⟩ (.int .i64 t322)).setCell ⟨gb326, 3, none⟩ (.int .i64 t323)) = w12 at n0_ n1_ n2_ n3_ ⊢
 have BK315 := n0_
 have BK326 := n1_
 have HI319 := n2_
 have HB := n3_
 clear n0_ n1_ n2_ n3_
 replace BK315 := Aside0.mk (blk_drew BK315.out)
 replace BK326 := Aside0.mk (blk_drew BK326.out)
 replace HI319 := Aside0.mk (IsS109.drew HI319.out)
 replace HB := Aside0.mk (below_drew1 HB.out)
 refine start_ (n := 6) (S := fun w' => w'.cell? ⟨gb326, 0, none⟩ = some (.int .i64 t320) ∧ w'.cell? ⟨gb326, 1, none⟩ = some (.int .i64 t321) ∧ w'.cell? ⟨gb326, 2, none⟩ = some (.int .i64 t322) ∧ w'.cell? ⟨gb326, 3, none⟩ = some (.int .i64 t323)) (ds := []) #[false, false, false, false, false, false] (by kernel_rfl) rfl rfl ⟨(blk_cell BK326.out 0).trans rfl, (blk_cell BK326.out 1).trans rfl, (blk_cell BK326.out 2).trans rfl, (blk_cell BK326.out 3).trans rfl⟩ (fun hHeld => ?_)
 generalize w12.drew = w13 at BK315 BK326 HI319 HB hHeld ⊢
 refine pure_ (i := 1) (N := some 11) (v := ?_) (a' := ?_) #[false, true, false, false, false, false] rfl rfl (by kernel_rfl) (fun _ _ _ h => h) (Or.inl ⟨by rfl, ?_⟩) ?_ ?_
 rotate_left
 ·
  intro w'
  go_simp
  with_reducible rfl
 rotate_left
 ·
  simp only [Act.put, List.setIfInBounds_toArray, List.set_cons_zero, List.set_cons_succ, i64_w, i32_w]
  rfl
 refine take_ (i := 0) (N := some 10) (v := ?_) (a' := ?_) #[true, true, false, false, false, false] rfl rfl (by kernel_rfl) (fun _ _ _ h => h) (Or.inl ⟨by rfl, ?_⟩) hHeld ?_ ?_
 rotate_left
 ·
  rintro w' ⟨s0, s1, s2, s3⟩
  go_simp
  with_reducible rfl
 rotate_left
 ·
  simp only [Act.put, List.setIfInBounds_toArray, List.set_cons_zero, List.set_cons_succ, i64_w, i32_w]
  rfl
 refine one_ (i := 2) (N := some 12) #[true, true, true, false, false, false] rfl rfl (by kernel_rfl) (by decide) (fun K hK => ?_)
 refine Kd.R_lit_step (Kd.int .i64) _ 3 ?hg (N := 12) ?hd (xs := ([0, 1, 5, 200, 201, (-1)] : List Int)) (inner := [.int .i64 0, .int .i64 1, .int .i64 5, .int .i64 200, .int .i64 201, .int .i64 (-1)]) (ok := fun _ => True) (okp := fun _ => True) ?hr ?hp (fun _ hk => hk) trivial (Below.refl _ _) (Nat.le_refl _) (by simp) ?_; (case hd => rfl); (case hg => rfl); (case hr => first | (go_simp; done) | (go_simp; rfl)); (case hp => exact (Reps.one (show Kd.M (Kd.int .i64) _ _ _ 0 [.int .i64 0] from rfl) (Reps.one (show Kd.M (Kd.int .i64) _ _ _ 1 [.int .i64 1] from rfl) (Reps.one (show Kd.M (Kd.int .i64) _ _ _ 5 [.int .i64 5] from rfl) (Reps.one (show Kd.M (Kd.int .i64) _ _ _ 200 [.int .i64 200] from rfl) (Reps.one (show Kd.M (Kd.int .i64) _ _ _ 201 [.int .i64 201] from rfl) (Reps.one (show Kd.M (Kd.int .i64) _ _ _ (-1) [.int .i64 (-1)] from rfl) (Reps.none _ _))))))))
 intro v328 w14 ho15 hb hg_ hnew_
 clear hg_ hnew_
 (first | rw [← Ny327.out] at ho15 | (simp only [Int.reduceToNat] at ho15; rw [← Ny327.out] at ho15))
 have HO329 := Aside0.mk (Kd.R_lower ho15 (below_size (by repeat (first | (with_reducible first | exact HB.out | apply below_alloc | apply pw_below_drewN | apply below_drew1 | refine below_set ?_ (IsS109.ge HI319.out) | refine below_set ?_ GE315.out | refine below_set ?_ GE326.out) | exact HB.out))))
 replace BK315 := Aside0.mk (Hd.kb_ BK315 hb)
 replace BK326 := Aside0.mk (Hd.kb_ BK326 hb)
 replace HB := Aside0.mk (below_step (by repeat (first | (with_reducible first | exact HB.out | apply below_alloc | apply pw_below_drewN | apply below_drew1 | refine below_set ?_ (IsS109.ge HI319.out) | refine below_set ?_ GE315.out | refine below_set ?_ GE326.out) | exact HB.out)) hb)
 replace HI319 := Aside0.mk (IsS109.below (by repeat (first | (with_reducible first | exact HI319.out | apply IsS109.alloc | apply IsS109.drewN | apply IsS109.drew | apply IsS109.set_1 | apply IsS109.set_2 | refine IsS109.far ?_ NB319_315.out _ | refine IsS109.far ?_ NB319_326.out _) | exact HI319.out)) hb)
 clear hb ho15
 obtain ⟨Ao16, co16, eo16⟩ := Kd.R_slice HO329.out
 (first | subst eo16 | (injection eo16 with f1_ f2_ f3_; have f4_ := f1_.symm; have f5_ := f3_.symm; clear f1_ f2_ f3_; subst f4_; subst f5_))
 refine hK.out _ _ ⟨(blk_cell BK326.out 0).trans rfl, (blk_cell BK326.out 1).trans rfl, (blk_cell BK326.out 2).trans rfl, (blk_cell BK326.out 3).trans rfl⟩ (fun hHeld => ?_)
 clear hK K
 refine Hd.n_ (some 12) ?_
 refine one_ (i := 3) (N := some 13) #[true, true, true, true, false, false] rfl rfl (by kernel_rfl) (by decide) (fun K hK => ?_)
 refine goes_ Try.func70 (by kernel_rfl) rfl #[.pointer (some ⟨g319, 0, none⟩), .slice Ao16 y327.length co16] (by rfl) rfl rfl Hd.m_ ?_
 with_reducible refine (spec_l1Int.calls g319 t316 t324 t325 _ _ y327 t330 t331 t332 w _ ?side1 ?side2 ?side3 ?side4 ?side5 A4.out).mono ?_
 (case side1 => repeat (first | (with_reducible first | exact HI319.out | apply IsS109.alloc | apply IsS109.drewN | apply IsS109.drew | apply IsS109.set_1 | apply IsS109.set_2 | refine IsS109.far ?_ NB319_315.out _ | refine IsS109.far ?_ NB319_326.out _) | exact HI319.out))
 (case side2 => repeat (first | (with_reducible first | exact HB.out | apply below_alloc | apply pw_below_drewN | apply below_drew1 | refine below_set ?_ (IsS109.ge HI319.out) | refine below_set ?_ GE315.out | refine below_set ?_ GE326.out) | exact HB.out))
 (case side3 => repeat (first | exact (Kd.R_reads' HO329.out).2.2 | (with_reducible refine Kd.C_alloc ?_ _) | (with_reducible refine Kd.C_drewN ?_ _) | (with_reducible refine Kd.C_drew ?_)))
 (case side4 => exact (Kd.R_reads' HO329.out).2.1)
 (case side5 => exact far_slice (IsS109.own_ne HI319.out HO329.out (by decide)))
 rintro e w17 ⟨rfl, hi, hb, hk⟩
 refine ⟨_, rfl, ?_⟩
 replace BK315 := Aside0.mk (KeepBut.blk hk (g' := gb315) (o := .cells #[.int .i64 0, .int .i64 0, .int .i64 0, .int .i64 0] 29 (0, 0)) (Hd.k_ BK315) NB315_319.out (by simp))
 replace BK326 := Aside0.mk (KeepBut.blk hk (g' := gb326) (o := .cells #[.int .i64 t320, .int .i64 t321, .int .i64 t322, .int .i64 t323] 29 (0, 0)) (Hd.k_ BK326) NB326_319.out (by simp))
 replace HO329 := Aside0.mk (Kd.R_mono (Kd.R_keep (IsS109.apart (show IsS109 w _ g319 t316 t324 t325 from by repeat (first | (with_reducible first | exact HI319.out | apply IsS109.alloc | apply IsS109.drewN | apply IsS109.drew | apply IsS109.set_1 | apply IsS109.set_2 | refine IsS109.far ?_ NB319_315.out _ | refine IsS109.far ?_ NB319_326.out _) | exact HI319.out)) (Hd.r_ HO329) (by decide)) hk (fun _ h => h.2)) (fun _ h => h.1))
 replace HB := Aside0.mk (hb)
 replace HI319 := Aside0.mk (hi)
 (try clear hb)
 (try clear hb2)
 (try clear hk)
 (try clear hi)
 refine hK.out _ _ ⟨(blk_cell BK326.out 0).trans rfl, (blk_cell BK326.out 1).trans rfl, (blk_cell BK326.out 2).trans rfl, (blk_cell BK326.out 3).trans rfl⟩ (fun hHeld => ?_)
 clear hK K
 refine Hd.n_ (some 13) ?_
 refine one_ (i := 4) (N := none) #[true, true, true, true, true, false] rfl rfl (by kernel_rfl) (by decide) (fun K hK => ?_)
 have hs18 : w17.cell? ⟨gb315, 0, none⟩ = some (.int .i64 0) := (blk_cell BK315.out 0).trans rfl
 have hfs18 := blk_frozen BK315.out 0
 have hns18_1 := NB326_315.out
 have hms18_1 := NB315_326.out
 have hs19 : w17.cell? ⟨gb315, 1, none⟩ = some (.int .i64 0) := (blk_cell BK315.out 1).trans rfl
 have hfs19 := blk_frozen BK315.out 1
 have hns19_1 := NB326_315.out
 have hms19_1 := NB315_326.out
 have hs20 : w17.cell? ⟨gb315, 2, none⟩ = some (.int .i64 0) := (blk_cell BK315.out 2).trans rfl
 have hfs20 := blk_frozen BK315.out 2
 have hns20_1 := NB326_315.out
 have hms20_1 := NB315_326.out
 have hs21 : w17.cell? ⟨gb315, 3, none⟩ = some (.int .i64 0) := (blk_cell BK315.out 3).trans rfl
 have hfs21 := blk_frozen BK315.out 3
 have hns21_1 := NB326_315.out
 have hms21_1 := NB315_326.out
 refine skip_ (w1 := ?_) (by rfl) rfl ?_ ?_
 rotate_left
 ·
  go_simp
  rfl
 refine hK.out _ _ ⟨((cell_far (p := ⟨gb315, _, none⟩) NB326_315.out _).trans (((cell_far (p := ⟨gb315, _, none⟩) NB326_315.out _).trans (((cell_far (p := ⟨gb315, _, none⟩) NB326_315.out _).trans (((cell_far (p := ⟨gb315, _, none⟩) NB326_315.out _).trans (hHeld.1)))))))), ((cell_far (p := ⟨gb315, _, none⟩) NB326_315.out _).trans (((cell_far (p := ⟨gb315, _, none⟩) NB326_315.out _).trans (((cell_far (p := ⟨gb315, _, none⟩) NB326_315.out _).trans (((cell_far (p := ⟨gb315, _, none⟩) NB326_315.out _).trans (hHeld.2.1)))))))), ((cell_far (p := ⟨gb315, _, none⟩) NB326_315.out _).trans (((cell_far (p := ⟨gb315, _, none⟩) NB326_315.out _).trans (((cell_far (p := ⟨gb315, _, none⟩) NB326_315.out _).trans (((cell_far (p := ⟨gb315, _, none⟩) NB326_315.out _).trans (hHeld.2.2.1)))))))), ((cell_far (p := ⟨gb315, _, none⟩) NB326_315.out _).trans (((cell_far (p := ⟨gb315, _, none⟩) NB326_315.out _).trans (((cell_far (p := ⟨gb315, _, none⟩) NB326_315.out _).trans (((cell_far (p := ⟨gb315, _, none⟩) NB326_315.out _).trans (hHeld.2.2.2))))))))⟩ (fun hHeld => ?_)
 clear hK K
 refine pure_ (i := 5) (N := some 3) (v := ?_) (a' := ?_) #[true, true, true, true, true, true] rfl rfl (by kernel_rfl) (fun _ _ _ h => h) (Or.inl ⟨by rfl, ?_⟩) ?_ ?_
 rotate_left
 ·
  intro w'
  go_simp
  with_reducible rfl
 rotate_left
 ·
  simp only [Act.put, List.setIfInBounds_toArray, List.set_cons_zero, List.set_cons_succ, i64_w, i32_w]
  rfl
 refine done_ (by kernel_rfl) ?_
 try go_wp2
 refine bodyPost_ret (results_ct rfl _ _ gb315 29 #[.int .i64 t320, .int .i64 t321, .int .i64 t322, .int .i64 t323] (0, 0) _ rfl (by (with_reducible repeat (first | refine blk_drewN ?_ _ | refine blk_drew ?_ | refine blk_alloc ?_ _)); refine blk_put (cs := #[.int .i64 t320, .int .i64 t321, .int .i64 t322, .int .i64 0]) ?_ 3 _ rfl; (with_reducible repeat (first | refine blk_drewN ?_ _ | refine blk_drew ?_ | refine blk_alloc ?_ _)); refine blk_put (cs := #[.int .i64 t320, .int .i64 t321, .int .i64 0, .int .i64 0]) ?_ 2 _ rfl; (with_reducible repeat (first | refine blk_drewN ?_ _ | refine blk_drew ?_ | refine blk_alloc ?_ _)); refine blk_put (cs := #[.int .i64 t320, .int .i64 0, .int .i64 0, .int .i64 0]) ?_ 1 _ rfl; (with_reducible repeat (first | refine blk_drewN ?_ _ | refine blk_drew ?_ | refine blk_alloc ?_ _)); refine blk_put (cs := #[.int .i64 0, .int .i64 0, .int .i64 0, .int .i64 0]) ?_ 0 _ rfl; (with_reducible repeat (first | refine blk_drewN ?_ _ | refine blk_drew ?_ | refine blk_alloc ?_ _)); exact BK315.out) Try.underlying29 rfl (by kernel_rfl)) rfl ?_
 exact ⟨Hd.e_, by repeat (first | (with_reducible first | exact HB.out | apply below_alloc | apply pw_below_drewN | apply below_drew1 | refine below_set ?_ (IsS109.ge HI319.out) | refine below_set ?_ GE315.out | refine below_set ?_ GE326.out) | exact HB.out)⟩
def impl_GrowBox.f (a0_0 : Int) (a0_1 : Int) (a0_2 : Int) (a0_3 : Int) (a1 : Int) : Option (Int × Int × Int × Int × Bool) := (impl_IsBox.f a0_0 a0_1 a0_2 a0_3).bind fun t335 => (if t335 = true then ((impl_InRange.f a1 0 200).bind fun t336 => (if t336 = true then (some (mx 0 (wrap64 (a0_0 - a1)), mx 0 (wrap64 (a0_1 - a1)), mn 200 (wrap64 (a0_2 + a1)), mn 200 (wrap64 (a0_3 + a1)), true)) else (some (a0_0, a0_1, a0_2, a0_3, false)))) else (some (a0_0, a0_1, a0_2, a0_3, false)))
set_option maxHeartbeats 8000000 in
set_option maxRecDepth 100000 in
theorem impl_GrowBox.calls (a0_0 : Int) (a0_1 : Int) (a0_2 : Int) (a0_3 : Int) (a1 : Int) (r1 : Int) (r2 : Int) (r3 : Int) (r4 : Int) (r5 : Bool) (w : World) (h : impl_GrowBox.f a0_0 a0_1 a0_2 a0_3 a1 = some (r1, r2, r3, r4, r5)) :
  Calls Try.prog 20 #[.agg #[.int .i64 a0_0, .int .i64 a0_1, .int .i64 a0_2, .int .i64 a0_3], .int .i64 a1] w fun e w' => e = .returned (.tuple #[.agg #[.int .i64 r1, .int .i64 r2, .int .i64 r3, .int .i64 r4], .bool r5]) ∧ Below w.heap.size w w' := by
 have hu29 := Try.underlying29
 have hu27 := Try.underlying27
 have HB := Aside0.mk (Below.refl w.heap.size w)
 have H : ((impl_IsBox.f a0_0 a0_1 a0_2 a0_3).bind fun t335 => (if t335 = true then ((impl_InRange.f a1 0 200).bind fun t336 => (if t336 = true then (some (mx 0 (wrap64 (a0_0 - a1)), mx 0 (wrap64 (a0_1 - a1)), mn 200 (wrap64 (a0_2 + a1)), mn 200 (wrap64 (a0_3 + a1)), true)) else (some (a0_0, a0_1, a0_2, a0_3, false)))) else (some (a0_0, a0_1, a0_2, a0_3, false)))) = some (r1, r2, r3, r4, r5) := h
 clear h
 replace H := Option.bind_eq_some_iff.mp H
 obtain ⟨t335, A30, H⟩ := H
 replace H : (if t335 = true then ((impl_InRange.f a1 0 200).bind fun t336 => (if t336 = true then (some (mx 0 (wrap64 (a0_0 - a1)), mx 0 (wrap64 (a0_1 - a1)), mn 200 (wrap64 (a0_2 + a1)), mn 200 (wrap64 (a0_3 + a1)), true)) else (some (a0_0, a0_1, a0_2, a0_3, false)))) else (some (a0_0, a0_1, a0_2, a0_3, false))) = some (r1, r2, r3, r4, r5) := H
 have A3 := Aside0.mk A30
 clear A30
 by_cases c4 : t335 = true
 ·
  subst c4
  have H1 : ((impl_InRange.f a1 0 200).bind fun t336 => (if t336 = true then (some (mx 0 (wrap64 (a0_0 - a1)), mx 0 (wrap64 (a0_1 - a1)), mn 200 (wrap64 (a0_2 + a1)), mn 200 (wrap64 (a0_3 + a1)), true)) else (some (a0_0, a0_1, a0_2, a0_3, false)))) = some (r1, r2, r3, r4, r5) := by rw [if_pos rfl] at H; exact H
  clear H
  have H := H1
  clear H1
  replace H := Option.bind_eq_some_iff.mp H
  obtain ⟨t336, A50, H⟩ := H
  replace H : (if t336 = true then (some (mx 0 (wrap64 (a0_0 - a1)), mx 0 (wrap64 (a0_1 - a1)), mn 200 (wrap64 (a0_2 + a1)), mn 200 (wrap64 (a0_3 + a1)), true)) else (some (a0_0, a0_1, a0_2, a0_3, false))) = some (r1, r2, r3, r4, r5) := H
  have A5 := Aside0.mk A50
  clear A50
  by_cases c6 : t336 = true
  ·
   subst c6
   have H1 : (some (mx 0 (wrap64 (a0_0 - a1)), mx 0 (wrap64 (a0_1 - a1)), mn 200 (wrap64 (a0_2 + a1)), mn 200 (wrap64 (a0_3 + a1)), true)) = some (r1, r2, r3, r4, r5) := by rw [if_pos rfl] at H; exact H
   clear H
   have H := H1
   clear H1
   obtain ⟨ji7, hji7⟩ : ∃ j_ : Int, (mx 0 (wrap64 (a0_0 - a1))) = j_ := ⟨_, rfl⟩
   replace H : (some (ji7, mx 0 (wrap64 (a0_1 - a1)), mn 200 (wrap64 (a0_2 + a1)), mn 200 (wrap64 (a0_3 + a1)), true)) = some (r1, r2, r3, r4, r5) := by first | (rw [hji7] at H; exact H) | (simp only [hji7] at H ⊢; exact H)
   (try rw [hji7] at A3)
   (try rw [hji7] at A5)
   (try (have hji7l : 0 ≤ ji7 := by (rw [← hji7]; unfold mx; (repeat' split) <;> omega)))
   (try (have hji7m : 0 ≤ ji7 := by omega))
   have hji7_ : (if 0 < (wrap64 (a0_0 - a1)) then (wrap64 (a0_0 - a1)) else 0) = ji7 := hji7
   obtain ⟨ji8, hji8⟩ : ∃ j_ : Int, (mx 0 (wrap64 (a0_1 - a1))) = j_ := ⟨_, rfl⟩
   replace H : (some (ji7, ji8, mn 200 (wrap64 (a0_2 + a1)), mn 200 (wrap64 (a0_3 + a1)), true)) = some (r1, r2, r3, r4, r5) := by first | (rw [hji8] at H; exact H) | (simp only [hji8] at H ⊢; exact H)
   (try rw [hji8] at A3)
   (try rw [hji8] at A5)
   (try (have hji8l : 0 ≤ ji8 := by (rw [← hji8]; unfold mx; (repeat' split) <;> omega)))
   (try (have hji8m : 0 ≤ ji8 := by omega))
   have hji8_ : (if 0 < (wrap64 (a0_1 - a1)) then (wrap64 (a0_1 - a1)) else 0) = ji8 := hji8
   obtain ⟨ji9, hji9⟩ : ∃ j_ : Int, (mn 200 (wrap64 (a0_2 + a1))) = j_ := ⟨_, rfl⟩
   replace H : (some (ji7, ji8, ji9, mn 200 (wrap64 (a0_3 + a1)), true)) = some (r1, r2, r3, r4, r5) := by first | (rw [hji9] at H; exact H) | (simp only [hji9] at H ⊢; exact H)
   (try rw [hji9] at A3)
   (try rw [hji9] at A5)
   (try (have hji9h : ji9 ≤ 200 := by (rw [← hji9]; unfold mn; (repeat' split) <;> omega)))
   (try (have hji9g : ji9 ≤ 64 := by omega))
   have hji9_ : (if (wrap64 (a0_2 + a1)) < 200 then (wrap64 (a0_2 + a1)) else 200) = ji9 := hji9
   obtain ⟨ji10, hji10⟩ : ∃ j_ : Int, (mn 200 (wrap64 (a0_3 + a1))) = j_ := ⟨_, rfl⟩
   replace H : (some (ji7, ji8, ji9, ji10, true)) = some (r1, r2, r3, r4, r5) := by first | (rw [hji10] at H; exact H) | (simp only [hji10] at H ⊢; exact H)
   (try rw [hji10] at A3)
   (try rw [hji10] at A5)
   (try (have hji10h : ji10 ≤ 200 := by (rw [← hji10]; unfold mn; (repeat' split) <;> omega)))
   (try (have hji10g : ji10 ≤ 64 := by omega))
   have hji10_ : (if (wrap64 (a0_3 + a1)) < 200 then (wrap64 (a0_3 + a1)) else 200) = ji10 := hji10
   simp only [Option.some.injEq, Prod.mk.injEq] at H
   obtain ⟨rfl, rfl, rfl, rfl, rfl⟩ := H
   go_enter Try.func20, Try.ntmps20
   go_wp2_with (first | ((with_reducible refine gate_dst (N := 2) rfl ?_); refine Hd.box_ 2 (#[.int .i64 a0_0, .int .i64 a0_1, .int .i64 a0_2, .int .i64 a0_3]) 29 ?_; intro gb333 hg w11 hbox hb; have BK333 := Aside0.mk (hbox); have GW333 := Aside0.mk ((Hd.g_ hg Hd.b_ : w.heap.size ≤ gb333)); have GE333 := Aside0.mk ((Hd.g_ hg Hd.b_ : w.heap.size ≤ gb333)); replace HB := Aside0.mk (below_step Hd.b_ hb); clear hb hbox hg) | ((with_reducible refine gate_dst (N := 4) rfl ?_); refine Hd.box_ 4 (#[.int .i64 0, .int .i64 0, .int .i64 0, .int .i64 0]) 29 ?_; intro gb334 hg w12 hbox hb; have BK334 := Aside0.mk (hbox); have GW334 := Aside0.mk ((Hd.g_ hg Hd.b_ : w.heap.size ≤ gb334)); have GE334 := Aside0.mk ((Hd.g_ hg Hd.b_ : w.heap.size ≤ gb334)); replace HB := Aside0.mk (below_step Hd.b_ hb); have NB333_334 := Aside0.mk ((Hd.lt_ BK333 hg)); have NB334_333 := Aside0.mk ((Hd.gt_ BK333 hg)); replace BK333 := Aside0.mk (Hd.kb_ BK333 hb); clear hb hbox hg; have hnb13 := NB333_334.out; have hnc13 := NB334_333.out; obtain ⟨hcz14_0, hcz14_1, hcz14_2, hcz14_3⟩ := Hd.c4_ BK333.out; obtain ⟨hfz14_0, hfz14_1, hfz14_2, hfz14_3⟩ := Hd.f4_ BK333.out) | ((with_reducible refine gate_callee (f := 21) rfl ?_); refine goesL_ (some 7) rfl rfl Try.func21 (by kernel_rfl) rfl #[.agg #[.int .i64 a0_0, .int .i64 a0_1, .int .i64 a0_2, .int .i64 a0_3]] rfl Hd.m_ ?_; (with_reducible refine (impl_IsBox.calls a0_0 a0_1 a0_2 a0_3 true _ A3.out).mono ?_); rintro e w15 ⟨rfl, hb⟩; refine ⟨_, rfl, ?_⟩; replace BK333 := Aside0.mk (Hd.kb_ BK333 hb); replace BK334 := Aside0.mk (Hd.kb_ BK334 hb); replace HB := Aside0.mk (below_step Hd.b_ hb); (try clear hb); (try clear hb2); (try clear hk); (try clear hi)) | (go_at_call 65; (with_reducible refine (impl_InRange.calls a1 0 200 true _ A5.out).mono ?_); rintro e w' ⟨rfl, ⟨nd, rfl⟩⟩; (try (rw [drewN_self w15]; generalize hq_ : World.drewN w15 _ = w15; have n0_ : Aside0 (w15.heap[gb333]? = some (.cells #[.int .i64 a0_0, .int .i64 a0_1, .int .i64 a0_2, .int .i64 a0_3] 29 (0, 0))) := ⟨by rw [← hq_]; exact (Hd.k_ BK333)⟩; have n1_ : Aside0 (w15.heap[gb334]? = some (.cells #[.int .i64 0, .int .i64 0, .int .i64 0, .int .i64 0] 29 (0, 0))) := ⟨by rw [← hq_]; exact (Hd.k_ BK334)⟩; have n2_ : Aside0 (Below w.heap.size w w15) := ⟨by rw [← hq_]; exact Hd.b_⟩; clear BK333 BK334 HB hq_; have BK333 := n0_; have BK334 := n1_; have HB := n2_; clear n0_ n1_ n2_)); obtain ⟨hcz16_0, hcz16_1, hcz16_2, hcz16_3⟩ := Hd.c4_ BK333.out; obtain ⟨hfz16_0, hfz16_1, hfz16_2, hfz16_3⟩ := Hd.f4_ BK333.out; obtain ⟨hcz17_0, hcz17_1, hcz17_2, hcz17_3⟩ := Hd.c4_ BK334.out; obtain ⟨hfz17_0, hfz17_1, hfz17_2, hfz17_3⟩ := Hd.f4_ BK334.out))
   refine bodyPost_ret (results_ct rfl _ _ gb334 29 #[.int .i64 ji7, .int .i64 ji8, .int .i64 ji9, .int .i64 ji10] (0, 0) _ rfl (by (with_reducible repeat (first | refine blk_drewN ?_ _ | refine blk_drew ?_ | refine blk_alloc ?_ _)); refine blk_put (cs := #[.int .i64 ji7, .int .i64 ji8, .int .i64 ji9, .int .i64 0]) ?_ 3 _ rfl; (with_reducible repeat (first | refine blk_drewN ?_ _ | refine blk_drew ?_ | refine blk_alloc ?_ _)); refine blk_put (cs := #[.int .i64 ji7, .int .i64 ji8, .int .i64 0, .int .i64 0]) ?_ 2 _ rfl; (with_reducible repeat (first | refine blk_drewN ?_ _ | refine blk_drew ?_ | refine blk_alloc ?_ _)); refine blk_put (cs := #[.int .i64 ji7, .int .i64 0, .int .i64 0, .int .i64 0]) ?_ 1 _ rfl; (with_reducible repeat (first | refine blk_drewN ?_ _ | refine blk_drew ?_ | refine blk_alloc ?_ _)); refine blk_put (cs := #[.int .i64 0, .int .i64 0, .int .i64 0, .int .i64 0]) ?_ 0 _ rfl; (with_reducible repeat (first | refine blk_drewN ?_ _ | refine blk_drew ?_ | refine blk_alloc ?_ _)); exact BK334.out) Try.underlying29 rfl (by kernel_rfl)) rfl ?_
   exact ⟨by first | rfl | (simp [errW_none, errW_some] <;> rfl) | (simp only [← hji7, ← hji8, ← hji9, ← hji10]; first | rfl | (simp [errW_none, errW_some] <;> rfl)) | (simp [*, errW_none, errW_some] <;> rfl), Hd.b_⟩
  ·
   replace c6 := Bool.eq_false_iff.mpr c6
   subst c6
   have H1 : (some (a0_0, a0_1, a0_2, a0_3, false)) = some (r1, r2, r3, r4, r5) := by rw [if_neg (show ¬ (false = true) by decide)] at H; exact H
   clear H
   have H := H1
   clear H1
   simp only [Option.some.injEq, Prod.mk.injEq] at H
   obtain ⟨rfl, rfl, rfl, rfl, rfl⟩ := H
   go_enter Try.func20, Try.ntmps20
   go_wp2_with (first | ((with_reducible refine gate_dst (N := 2) rfl ?_); refine Hd.box_ 2 (#[.int .i64 a0_0, .int .i64 a0_1, .int .i64 a0_2, .int .i64 a0_3]) 29 ?_; intro gb333 hg w18 hbox hb; have BK333 := Aside0.mk (hbox); have GW333 := Aside0.mk ((Hd.g_ hg Hd.b_ : w.heap.size ≤ gb333)); have GE333 := Aside0.mk ((Hd.g_ hg Hd.b_ : w.heap.size ≤ gb333)); replace HB := Aside0.mk (below_step Hd.b_ hb); clear hb hbox hg) | ((with_reducible refine gate_dst (N := 4) rfl ?_); refine Hd.box_ 4 (#[.int .i64 0, .int .i64 0, .int .i64 0, .int .i64 0]) 29 ?_; intro gb334 hg w19 hbox hb; have BK334 := Aside0.mk (hbox); have GW334 := Aside0.mk ((Hd.g_ hg Hd.b_ : w.heap.size ≤ gb334)); have GE334 := Aside0.mk ((Hd.g_ hg Hd.b_ : w.heap.size ≤ gb334)); replace HB := Aside0.mk (below_step Hd.b_ hb); have NB333_334 := Aside0.mk ((Hd.lt_ BK333 hg)); have NB334_333 := Aside0.mk ((Hd.gt_ BK333 hg)); replace BK333 := Aside0.mk (Hd.kb_ BK333 hb); clear hb hbox hg; have hnb20 := NB333_334.out; have hnc20 := NB334_333.out; obtain ⟨hcz21_0, hcz21_1, hcz21_2, hcz21_3⟩ := Hd.c4_ BK333.out; obtain ⟨hfz21_0, hfz21_1, hfz21_2, hfz21_3⟩ := Hd.f4_ BK333.out) | ((with_reducible refine gate_callee (f := 21) rfl ?_); refine goesL_ (some 7) rfl rfl Try.func21 (by kernel_rfl) rfl #[.agg #[.int .i64 a0_0, .int .i64 a0_1, .int .i64 a0_2, .int .i64 a0_3]] rfl Hd.m_ ?_; (with_reducible refine (impl_IsBox.calls a0_0 a0_1 a0_2 a0_3 true _ A3.out).mono ?_); rintro e w22 ⟨rfl, hb⟩; refine ⟨_, rfl, ?_⟩; replace BK333 := Aside0.mk (Hd.kb_ BK333 hb); replace BK334 := Aside0.mk (Hd.kb_ BK334 hb); replace HB := Aside0.mk (below_step Hd.b_ hb); (try clear hb); (try clear hb2); (try clear hk); (try clear hi)) | (go_at_call 65; (with_reducible refine (impl_InRange.calls a1 0 200 false _ A5.out).mono ?_); rintro e w' ⟨rfl, ⟨nd, rfl⟩⟩; (try (rw [drewN_self w22]; generalize hq_ : World.drewN w22 _ = w22; have n0_ : Aside0 (w22.heap[gb333]? = some (.cells #[.int .i64 a0_0, .int .i64 a0_1, .int .i64 a0_2, .int .i64 a0_3] 29 (0, 0))) := ⟨by rw [← hq_]; exact (Hd.k_ BK333)⟩; have n1_ : Aside0 (w22.heap[gb334]? = some (.cells #[.int .i64 0, .int .i64 0, .int .i64 0, .int .i64 0] 29 (0, 0))) := ⟨by rw [← hq_]; exact (Hd.k_ BK334)⟩; have n2_ : Aside0 (Below w.heap.size w w22) := ⟨by rw [← hq_]; exact Hd.b_⟩; clear BK333 BK334 HB hq_; have BK333 := n0_; have BK334 := n1_; have HB := n2_; clear n0_ n1_ n2_)); obtain ⟨hcz23_0, hcz23_1, hcz23_2, hcz23_3⟩ := Hd.c4_ BK333.out; obtain ⟨hfz23_0, hfz23_1, hfz23_2, hfz23_3⟩ := Hd.f4_ BK333.out; obtain ⟨hcz24_0, hcz24_1, hcz24_2, hcz24_3⟩ := Hd.c4_ BK334.out; obtain ⟨hfz24_0, hfz24_1, hfz24_2, hfz24_3⟩ := Hd.f4_ BK334.out))
   refine bodyPost_ret (results_ct rfl _ _ gb334 29 #[.int .i64 a0_0, .int .i64 a0_1, .int .i64 a0_2, .int .i64 a0_3] (0, 0) _ rfl (by (with_reducible repeat (first | refine blk_drewN ?_ _ | refine blk_drew ?_ | refine blk_alloc ?_ _)); refine blk_put (cs := #[.int .i64 a0_0, .int .i64 a0_1, .int .i64 a0_2, .int .i64 0]) ?_ 3 _ rfl; (with_reducible repeat (first | refine blk_drewN ?_ _ | refine blk_drew ?_ | refine blk_alloc ?_ _)); refine blk_put (cs := #[.int .i64 a0_0, .int .i64 a0_1, .int .i64 0, .int .i64 0]) ?_ 2 _ rfl; (with_reducible repeat (first | refine blk_drewN ?_ _ | refine blk_drew ?_ | refine blk_alloc ?_ _)); refine blk_put (cs := #[.int .i64 a0_0, .int .i64 0, .int .i64 0, .int .i64 0]) ?_ 1 _ rfl; (with_reducible repeat (first | refine blk_drewN ?_ _ | refine blk_drew ?_ | refine blk_alloc ?_ _)); refine blk_put (cs := #[.int .i64 0, .int .i64 0, .int .i64 0, .int .i64 0]) ?_ 0 _ rfl; (with_reducible repeat (first | refine blk_drewN ?_ _ | refine blk_drew ?_ | refine blk_alloc ?_ _)); exact BK334.out) Try.underlying29 rfl (by kernel_rfl)) rfl ?_
   exact ⟨Hd.e_, Hd.b_⟩
 ·
  replace c4 := Bool.eq_false_iff.mpr c4
  subst c4
  have H1 : (some (a0_0, a0_1, a0_2, a0_3, false)) = some (r1, r2, r3, r4, r5) := by rw [if_neg (show ¬ (false = true) by decide)] at H; exact H
  clear H
  have H := H1
  clear H1
  simp only [Option.some.injEq, Prod.mk.injEq] at H
  obtain ⟨rfl, rfl, rfl, rfl, rfl⟩ := H
  go_enter Try.func20, Try.ntmps20
  go_wp2_with (first | ((with_reducible refine gate_dst (N := 2) rfl ?_); refine Hd.box_ 2 (#[.int .i64 a0_0, .int .i64 a0_1, .int .i64 a0_2, .int .i64 a0_3]) 29 ?_; intro gb333 hg w25 hbox hb; have BK333 := Aside0.mk (hbox); have GW333 := Aside0.mk ((Hd.g_ hg Hd.b_ : w.heap.size ≤ gb333)); have GE333 := Aside0.mk ((Hd.g_ hg Hd.b_ : w.heap.size ≤ gb333)); replace HB := Aside0.mk (below_step Hd.b_ hb); clear hb hbox hg) | ((with_reducible refine gate_dst (N := 4) rfl ?_); refine Hd.box_ 4 (#[.int .i64 0, .int .i64 0, .int .i64 0, .int .i64 0]) 29 ?_; intro gb334 hg w26 hbox hb; have BK334 := Aside0.mk (hbox); have GW334 := Aside0.mk ((Hd.g_ hg Hd.b_ : w.heap.size ≤ gb334)); have GE334 := Aside0.mk ((Hd.g_ hg Hd.b_ : w.heap.size ≤ gb334)); replace HB := Aside0.mk (below_step Hd.b_ hb); have NB333_334 := Aside0.mk ((Hd.lt_ BK333 hg)); have NB334_333 := Aside0.mk ((Hd.gt_ BK333 hg)); replace BK333 := Aside0.mk (Hd.kb_ BK333 hb); clear hb hbox hg; have hnb27 := NB333_334.out; have hnc27 := NB334_333.out; obtain ⟨hcz28_0, hcz28_1, hcz28_2, hcz28_3⟩ := Hd.c4_ BK333.out; obtain ⟨hfz28_0, hfz28_1, hfz28_2, hfz28_3⟩ := Hd.f4_ BK333.out) | ((with_reducible refine gate_callee (f := 21) rfl ?_); refine goesL_ (some 7) rfl rfl Try.func21 (by kernel_rfl) rfl #[.agg #[.int .i64 a0_0, .int .i64 a0_1, .int .i64 a0_2, .int .i64 a0_3]] rfl Hd.m_ ?_; (with_reducible refine (impl_IsBox.calls a0_0 a0_1 a0_2 a0_3 false _ A3.out).mono ?_); rintro e w29 ⟨rfl, hb⟩; refine ⟨_, rfl, ?_⟩; replace BK333 := Aside0.mk (Hd.kb_ BK333 hb); replace BK334 := Aside0.mk (Hd.kb_ BK334 hb); replace HB := Aside0.mk (below_step Hd.b_ hb); (try clear hb); (try clear hb2); (try clear hk); (try clear hi); obtain ⟨hcz30_0, hcz30_1, hcz30_2, hcz30_3⟩ := Hd.c4_ BK333.out; obtain ⟨hfz30_0, hfz30_1, hfz30_2, hfz30_3⟩ := Hd.f4_ BK333.out; obtain ⟨hcz31_0, hcz31_1, hcz31_2, hcz31_3⟩ := Hd.c4_ BK334.out; obtain ⟨hfz31_0, hfz31_1, hfz31_2, hfz31_3⟩ := Hd.f4_ BK334.out))
  refine bodyPost_ret (results_ct rfl _ _ gb334 29 #[.int .i64 a0_0, .int .i64 a0_1, .int .i64 a0_2, .int .i64 a0_3] (0, 0) _ rfl (by (with_reducible repeat (first | refine blk_drewN ?_ _ | refine blk_drew ?_ | refine blk_alloc ?_ _)); refine blk_put (cs := #[.int .i64 a0_0, .int .i64 a0_1, .int .i64 a0_2, .int .i64 0]) ?_ 3 _ rfl; (with_reducible repeat (first | refine blk_drewN ?_ _ | refine blk_drew ?_ | refine blk_alloc ?_ _)); refine blk_put (cs := #[.int .i64 a0_0, .int .i64 a0_1, .int .i64 0, .int .i64 0]) ?_ 2 _ rfl; (with_reducible repeat (first | refine blk_drewN ?_ _ | refine blk_drew ?_ | refine blk_alloc ?_ _)); refine blk_put (cs := #[.int .i64 a0_0, .int .i64 0, .int .i64 0, .int .i64 0]) ?_ 1 _ rfl; (with_reducible repeat (first | refine blk_drewN ?_ _ | refine blk_drew ?_ | refine blk_alloc ?_ _)); refine blk_put (cs := #[.int .i64 0, .int .i64 0, .int .i64 0, .int .i64 0]) ?_ 0 _ rfl; (with_reducible repeat (first | refine blk_drewN ?_ _ | refine blk_drew ?_ | refine blk_alloc ?_ _)); exact BK334.out) Try.underlying29 rfl (by kernel_rfl)) rfl ?_
  exact ⟨Hd.e_, Hd.b_⟩
end Go.Proofs.Ytbackoeakepngaa.MFnBoxes
