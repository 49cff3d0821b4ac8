-- Laid by this session's program pp.py, after the kit's print and texts of the session's own. Not trusted: Lean checks it.
import Derived.Test.YtbackoeakepngabZThinPlacesMx0
namespace Go.Proofs.Ytbackoeakepngab.MFnExactThinPlaces
open Go.RowKit Go.Proofs.YtbackoeakepngabW.PrintWords Go.Proofs.YtbackoeakepngabW.PrintLast Go.Proofs.YtbackoeakepngabW.PrintMore
attribute [local go_sem] max2_int min2_int max_two min_two max_three min_three max_four min_four   -- for this text's walks alone
set_option linter.unusedVariables false
set_option linter.unusedSimpArgs false
def impl_InRange.f (a0 : Int) (a1 : Int) (a2 : Int) : Option (Bool) := if a1 ≤ a0 then (some (decide (a0 ≤ a2))) else (some false)
set_option maxHeartbeats 8000000 in
set_option maxRecDepth 100000 in
theorem impl_InRange.calls (a0 : Int) (a1 : Int) (a2 : Int) (r : Bool) (w : World) (h : impl_InRange.f a0 a1 a2 = some r) :
  Calls Try.prog 98 #[.int .i64 a0, .int .i64 a1, .int .i64 a2] w fun e w' => e = .returned (.bool r) ∧ Drawn0 w w' := by
 have H : (if a1 ≤ a0 then (some (decide (a0 ≤ a2))) else (some false)) = some r := h
 clear h
 by_cases c4 : a1 ≤ a0
 ·
  rw [if_pos c4] at H
  have c4b0 : decide (a1 ≤ a0) = true := decide_eq_true c4
  clear c4
  obtain rfl := Option.some.inj H
  go_enter Try.func98, Try.ntmps98
  go_wp2
  go_ret
  exact ⟨by first | rfl | (simp; done) | (simp [*]; done), by repeat (first | exact Drawn0.refl _ | apply Drawn0.step)⟩
 ·
  rw [if_neg c4] at H
  have c4b0 : decide (a1 ≤ a0) = false := decide_eq_false c4
  clear c4
  obtain rfl := Option.some.inj H
  go_enter Try.func98, Try.ntmps98
  go_wp2
  go_ret
  exact ⟨by first | rfl | (simp; done) | (simp [*]; done), by repeat (first | exact Drawn0.refl _ | apply Drawn0.step)⟩
def impl_IsPoint.f (a0_0 : Int) (a0_1 : Int) : Option (Bool) := (impl_InRange.f a0_0 0 200).bind fun t265 => (if t265 = true then ((impl_InRange.f a0_1 0 200).bind fun t266 => (some t266)) else (some false))
set_option maxHeartbeats 8000000 in
set_option maxRecDepth 100000 in
theorem impl_IsPoint.calls (a0_0 : Int) (a0_1 : Int) (r : Bool) (w : World) (h : impl_IsPoint.f a0_0 a0_1 = some r) :
  Calls Try.prog 97 #[.agg #[.int .i64 a0_0, .int .i64 a0_1]] w fun e w' => e = .returned (.bool r) ∧ Below w.heap.size w w' := by
 have hu75 := Try.underlying75
 have HB := Aside0.mk (Below.refl w.heap.size w)
 have H : ((impl_InRange.f a0_0 0 200).bind fun t265 => (if t265 = true then ((impl_InRange.f a0_1 0 200).bind fun t266 => (some t266)) else (some false))) = some r := h
 clear h
 replace H := Option.bind_eq_some_iff.mp H
 obtain ⟨t265, A20, H⟩ := H
 replace H : (if t265 = true then ((impl_InRange.f a0_1 0 200).bind fun t266 => (some t266)) else (some false)) = some r := H
 have A2 := Aside0.mk A20
 clear A20
 by_cases c3 : t265 = true
 ·
  subst c3
  have H1 : ((impl_InRange.f a0_1 0 200).bind fun t266 => (some t266)) = some r := by rw [if_pos rfl] at H; exact H
  clear H
  have H := H1
  clear H1
  replace H := Option.bind_eq_some_iff.mp H
  obtain ⟨t266, A40, H⟩ := H
  replace H : (some t266) = some r := H
  have A4 := Aside0.mk A40
  clear A40
  obtain rfl := Option.some.inj H
  go_enter Try.func97, Try.ntmps97
  go_wp2_with (first | ((with_reducible refine gate_dst (N := 1) rfl ?_); refine Hd.box_ 1 (#[.int .i64 a0_0, .int .i64 a0_1]) 75 ?_; intro gb264 hg w5 hbox hb; have BK264 := Aside0.mk (hbox); have GW264 := Aside0.mk ((Hd.g_ hg Hd.b_ : w.heap.size ≤ gb264)); have GE264 := Aside0.mk ((Hd.g_ hg Hd.b_ : w.heap.size ≤ gb264)); replace HB := Aside0.mk (below_step Hd.b_ hb); clear hb hbox hg; obtain ⟨hcz6_0, hcz6_1⟩ := Hd.c2_ BK264.out; obtain ⟨hfz6_0, hfz6_1⟩ := Hd.f2_ BK264.out) | ((with_reducible refine gate_callee (f := 98) rfl ?_); refine goesL_ (some 5) rfl rfl Try.func98 (by kernel_rfl) rfl #[.int .i64 a0_0, .int .i64 0, .int .i64 200] rfl Hd.m_ ?_; (with_reducible refine (impl_InRange.calls a0_0 0 200 true _ A2.out).mono ?_); rintro e w' ⟨rfl, ⟨nd, rfl⟩⟩; refine ⟨_, rfl, ?_⟩) | (go_at_call 98; (with_reducible refine (impl_InRange.calls a0_1 0 200 t266 _ A4.out).mono ?_); rintro e w' ⟨rfl, ⟨nd, rfl⟩⟩))
  go_ret
  exact ⟨Hd.e_, Hd.b_⟩
 ·
  replace c3 := Bool.eq_false_iff.mpr c3
  subst c3
  have H1 : (some false) = some r := by rw [if_neg (show ¬ (false = true) by decide)] at H; exact H
  clear H
  have H := H1
  clear H1
  obtain rfl := Option.some.inj H
  go_enter Try.func97, Try.ntmps97
  go_wp2_with (first | ((with_reducible refine gate_dst (N := 1) rfl ?_); refine Hd.box_ 1 (#[.int .i64 a0_0, .int .i64 a0_1]) 75 ?_; intro gb264 hg w7 hbox hb; have BK264 := Aside0.mk (hbox); have GW264 := Aside0.mk ((Hd.g_ hg Hd.b_ : w.heap.size ≤ gb264)); have GE264 := Aside0.mk ((Hd.g_ hg Hd.b_ : w.heap.size ≤ gb264)); replace HB := Aside0.mk (below_step Hd.b_ hb); clear hb hbox hg; obtain ⟨hcz8_0, hcz8_1⟩ := Hd.c2_ BK264.out; obtain ⟨hfz8_0, hfz8_1⟩ := Hd.f2_ BK264.out) | ((with_reducible refine gate_callee (f := 98) rfl ?_); refine goesL_ (some 5) rfl rfl Try.func98 (by kernel_rfl) rfl #[.int .i64 a0_0, .int .i64 0, .int .i64 200] rfl Hd.m_ ?_; (with_reducible refine (impl_InRange.calls a0_0 0 200 false _ A2.out).mono ?_); rintro e w' ⟨rfl, ⟨nd, rfl⟩⟩; refine ⟨_, rfl, ?_⟩))
  go_ret
  exact ⟨Hd.e_, Hd.b_⟩
def impl_FarSquared.f (a0_0 : Int) (a0_1 : Int) (a1_0 : Int) (a1_1 : Int) : Option (Int) := (impl_IsPoint.f a0_0 a0_1).bind fun t269 => (if t269 = true then ((impl_IsPoint.f a1_0 a1_1).bind fun t270 => (if t270 = true then (some (wrap64 ((wrap64 ((wrap64 (a0_0 - a1_0)) * (wrap64 (a0_0 - a1_0)))) + (wrap64 ((wrap64 (a0_1 - a1_1)) * (wrap64 (a0_1 - a1_1))))))) else (some (-1)))) else (some (-1)))
set_option maxHeartbeats 8000000 in
set_option maxRecDepth 100000 in
theorem impl_FarSquared.calls (a0_0 : Int) (a0_1 : Int) (a1_0 : Int) (a1_1 : Int) (r : Int) (w : World) (h : impl_FarSquared.f a0_0 a0_1 a1_0 a1_1 = some r) :
  Calls Try.prog 51 #[.agg #[.int .i64 a0_0, .int .i64 a0_1], .agg #[.int .i64 a1_0, .int .i64 a1_1]] w fun e w' => e = .returned (.int .i64 r) ∧ Below w.heap.size w w' := by
 have hu75 := Try.underlying75
 have HB := Aside0.mk (Below.refl w.heap.size w)
 have H : ((impl_IsPoint.f a0_0 a0_1).bind fun t269 => (if t269 = true then ((impl_IsPoint.f a1_0 a1_1).bind fun t270 => (if t270 = true then (some (wrap64 ((wrap64 ((wrap64 (a0_0 - a1_0)) * (wrap64 (a0_0 - a1_0)))) + (wrap64 ((wrap64 (a0_1 - a1_1)) * (wrap64 (a0_1 - a1_1))))))) else (some (-1)))) else (some (-1)))) = some r := h
 clear h
 replace H := Option.bind_eq_some_iff.mp H
 obtain ⟨t269, A30, H⟩ := H
 replace H : (if t269 = true then ((impl_IsPoint.f a1_0 a1_1).bind fun t270 => (if t270 = true then (some (wrap64 ((wrap64 ((wrap64 (a0_0 - a1_0)) * (wrap64 (a0_0 - a1_0)))) + (wrap64 ((wrap64 (a0_1 - a1_1)) * (wrap64 (a0_1 - a1_1))))))) else (some (-1)))) else (some (-1))) = some r := H
 have A3 := Aside0.mk A30
 clear A30
 by_cases c4 : t269 = true
 ·
  subst c4
  have H1 : ((impl_IsPoint.f a1_0 a1_1).bind fun t270 => (if t270 = true then (some (wrap64 ((wrap64 ((wrap64 (a0_0 - a1_0)) * (wrap64 (a0_0 - a1_0)))) + (wrap64 ((wrap64 (a0_1 - a1_1)) * (wrap64 (a0_1 - a1_1))))))) else (some (-1)))) = some r := by rw [if_pos rfl] at H; exact H
  clear H
  have H := H1
  clear H1
  replace H := Option.bind_eq_some_iff.mp H
  obtain ⟨t270, A50, H⟩ := H
  replace H : (if t270 = true then (some (wrap64 ((wrap64 ((wrap64 (a0_0 - a1_0)) * (wrap64 (a0_0 - a1_0)))) + (wrap64 ((wrap64 (a0_1 - a1_1)) * (wrap64 (a0_1 - a1_1))))))) else (some (-1))) = some r := H
  have A5 := Aside0.mk A50
  clear A50
  by_cases c6 : t270 = true
  ·
   subst c6
   have H1 : (some (wrap64 ((wrap64 ((wrap64 (a0_0 - a1_0)) * (wrap64 (a0_0 - a1_0)))) + (wrap64 ((wrap64 (a0_1 - a1_1)) * (wrap64 (a0_1 - a1_1))))))) = some r := by rw [if_pos rfl] at H; exact H
   clear H
   have H := H1
   clear H1
   obtain rfl := Option.some.inj H
   go_enter Try.func51, Try.ntmps51
   go_wp2_with (first | ((with_reducible refine gate_dst (N := 2) rfl ?_); refine Hd.box_ 2 (#[.int .i64 a0_0, .int .i64 a0_1]) 75 ?_; intro gb267 hg w7 hbox hb; have BK267 := Aside0.mk (hbox); have GW267 := Aside0.mk ((Hd.g_ hg Hd.b_ : w.heap.size ≤ gb267)); have GE267 := Aside0.mk ((Hd.g_ hg Hd.b_ : w.heap.size ≤ gb267)); replace HB := Aside0.mk (below_step Hd.b_ hb); clear hb hbox hg) | ((with_reducible refine gate_dst (N := 3) rfl ?_); refine Hd.box_ 3 (#[.int .i64 a1_0, .int .i64 a1_1]) 75 ?_; intro gb268 hg w8 hbox hb; have BK268 := Aside0.mk (hbox); have GW268 := Aside0.mk ((Hd.g_ hg Hd.b_ : w.heap.size ≤ gb268)); have GE268 := Aside0.mk ((Hd.g_ hg Hd.b_ : w.heap.size ≤ gb268)); replace HB := Aside0.mk (below_step Hd.b_ hb); have NB267_268 := Aside0.mk ((Hd.lt_ BK267 hg)); have NB268_267 := Aside0.mk ((Hd.gt_ BK267 hg)); replace BK267 := Aside0.mk (Hd.kb_ BK267 hb); clear hb hbox hg; have hnb9 := NB267_268.out; have hnc9 := NB268_267.out; obtain ⟨hcz10_0, hcz10_1⟩ := Hd.c2_ BK267.out; obtain ⟨hfz10_0, hfz10_1⟩ := Hd.f2_ BK267.out) | (go_at_call 97; (with_reducible refine (impl_IsPoint.calls a0_0 a0_1 true _ A3.out).mono ?_); rintro e w11 ⟨rfl, hb⟩; replace BK267 := Aside0.mk (Hd.kb_ BK267 hb); replace BK268 := Aside0.mk (Hd.kb_ BK268 hb); replace HB := Aside0.mk (below_step Hd.b_ hb); (try clear hb); (try clear hb2); (try clear hk); (try clear hi); obtain ⟨hcz12_0, hcz12_1⟩ := Hd.c2_ BK268.out; obtain ⟨hfz12_0, hfz12_1⟩ := Hd.f2_ BK268.out) | (go_at_call 97; (with_reducible refine (impl_IsPoint.calls a1_0 a1_1 true _ A5.out).mono ?_); rintro e w13 ⟨rfl, hb⟩; replace BK267 := Aside0.mk (Hd.kb_ BK267 hb); replace BK268 := Aside0.mk (Hd.kb_ BK268 hb); replace HB := Aside0.mk (below_step Hd.b_ hb); (try clear hb); (try clear hb2); (try clear hk); (try clear hi); obtain ⟨hcz14_0, hcz14_1⟩ := Hd.c2_ BK267.out; obtain ⟨hfz14_0, hfz14_1⟩ := Hd.f2_ BK267.out; obtain ⟨hcz15_0, hcz15_1⟩ := Hd.c2_ BK268.out; obtain ⟨hfz15_0, hfz15_1⟩ := Hd.f2_ BK268.out))
   repeat (go_quiet (first | ((with_reducible refine gate_dst (N := 2) rfl ?_); refine Hd.box_ 2 (#[.int .i64 a0_0, .int .i64 a0_1]) 75 ?_; intro gb267 hg w7 hbox hb; have BK267 := Aside0.mk (hbox); have GW267 := Aside0.mk ((Hd.g_ hg Hd.b_ : w.heap.size ≤ gb267)); have GE267 := Aside0.mk ((Hd.g_ hg Hd.b_ : w.heap.size ≤ gb267)); replace HB := Aside0.mk (below_step Hd.b_ hb); clear hb hbox hg) | ((with_reducible refine gate_dst (N := 3) rfl ?_); refine Hd.box_ 3 (#[.int .i64 a1_0, .int .i64 a1_1]) 75 ?_; intro gb268 hg w8 hbox hb; have BK268 := Aside0.mk (hbox); have GW268 := Aside0.mk ((Hd.g_ hg Hd.b_ : w.heap.size ≤ gb268)); have GE268 := Aside0.mk ((Hd.g_ hg Hd.b_ : w.heap.size ≤ gb268)); replace HB := Aside0.mk (below_step Hd.b_ hb); have NB267_268 := Aside0.mk ((Hd.lt_ BK267 hg)); have NB268_267 := Aside0.mk ((Hd.gt_ BK267 hg)); replace BK267 := Aside0.mk (Hd.kb_ BK267 hb); clear hb hbox hg; have hnb9 := NB267_268.out; have hnc9 := NB268_267.out; obtain ⟨hcz10_0, hcz10_1⟩ := Hd.c2_ BK267.out; obtain ⟨hfz10_0, hfz10_1⟩ := Hd.f2_ BK267.out) | (go_at_call 97; (with_reducible refine (impl_IsPoint.calls a0_0 a0_1 true _ A3.out).mono ?_); rintro e w11 ⟨rfl, hb⟩; replace BK267 := Aside0.mk (Hd.kb_ BK267 hb); replace BK268 := Aside0.mk (Hd.kb_ BK268 hb); replace HB := Aside0.mk (below_step Hd.b_ hb); (try clear hb); (try clear hb2); (try clear hk); (try clear hi); obtain ⟨hcz12_0, hcz12_1⟩ := Hd.c2_ BK268.out; obtain ⟨hfz12_0, hfz12_1⟩ := Hd.f2_ BK268.out) | (go_at_call 97; (with_reducible refine (impl_IsPoint.calls a1_0 a1_1 true _ A5.out).mono ?_); rintro e w13 ⟨rfl, hb⟩; replace BK267 := Aside0.mk (Hd.kb_ BK267 hb); replace BK268 := Aside0.mk (Hd.kb_ BK268 hb); replace HB := Aside0.mk (below_step Hd.b_ hb); (try clear hb); (try clear hb2); (try clear hk); (try clear hi); obtain ⟨hcz14_0, hcz14_1⟩ := Hd.c2_ BK267.out; obtain ⟨hfz14_0, hfz14_1⟩ := Hd.f2_ BK267.out; obtain ⟨hcz15_0, hcz15_1⟩ := Hd.c2_ BK268.out; obtain ⟨hfz15_0, hfz15_1⟩ := Hd.f2_ BK268.out)); try go_wp2_with (first | ((with_reducible refine gate_dst (N := 2) rfl ?_); refine Hd.box_ 2 (#[.int .i64 a0_0, .int .i64 a0_1]) 75 ?_; intro gb267 hg w7 hbox hb; have BK267 := Aside0.mk (hbox); have GW267 := Aside0.mk ((Hd.g_ hg Hd.b_ : w.heap.size ≤ gb267)); have GE267 := Aside0.mk ((Hd.g_ hg Hd.b_ : w.heap.size ≤ gb267)); replace HB := Aside0.mk (below_step Hd.b_ hb); clear hb hbox hg) | ((with_reducible refine gate_dst (N := 3) rfl ?_); refine Hd.box_ 3 (#[.int .i64 a1_0, .int .i64 a1_1]) 75 ?_; intro gb268 hg w8 hbox hb; have BK268 := Aside0.mk (hbox); have GW268 := Aside0.mk ((Hd.g_ hg Hd.b_ : w.heap.size ≤ gb268)); have GE268 := Aside0.mk ((Hd.g_ hg Hd.b_ : w.heap.size ≤ gb268)); replace HB := Aside0.mk (below_step Hd.b_ hb); have NB267_268 := Aside0.mk ((Hd.lt_ BK267 hg)); have NB268_267 := Aside0.mk ((Hd.gt_ BK267 hg)); replace BK267 := Aside0.mk (Hd.kb_ BK267 hb); clear hb hbox hg; have hnb9 := NB267_268.out; have hnc9 := NB268_267.out; obtain ⟨hcz10_0, hcz10_1⟩ := Hd.c2_ BK267.out; obtain ⟨hfz10_0, hfz10_1⟩ := Hd.f2_ BK267.out) | (go_at_call 97; (with_reducible refine (impl_IsPoint.calls a0_0 a0_1 true _ A3.out).mono ?_); rintro e w11 ⟨rfl, hb⟩; replace BK267 := Aside0.mk (Hd.kb_ BK267 hb); replace BK268 := Aside0.mk (Hd.kb_ BK268 hb); replace HB := Aside0.mk (below_step Hd.b_ hb); (try clear hb); (try clear hb2); (try clear hk); (try clear hi); obtain ⟨hcz12_0, hcz12_1⟩ := Hd.c2_ BK268.out; obtain ⟨hfz12_0, hfz12_1⟩ := Hd.f2_ BK268.out) | (go_at_call 97; (with_reducible refine (impl_IsPoint.calls a1_0 a1_1 true _ A5.out).mono ?_); rintro e w13 ⟨rfl, hb⟩; replace BK267 := Aside0.mk (Hd.kb_ BK267 hb); replace BK268 := Aside0.mk (Hd.kb_ BK268 hb); replace HB := Aside0.mk (below_step Hd.b_ hb); (try clear hb); (try clear hb2); (try clear hk); (try clear hi); obtain ⟨hcz14_0, hcz14_1⟩ := Hd.c2_ BK267.out; obtain ⟨hfz14_0, hfz14_1⟩ := Hd.f2_ BK267.out; obtain ⟨hcz15_0, hcz15_1⟩ := Hd.c2_ BK268.out; obtain ⟨hfz15_0, hfz15_1⟩ := Hd.f2_ BK268.out)))
   go_ret
   exact ⟨Hd.e_, Hd.b_⟩
  ·
   replace c6 := Bool.eq_false_iff.mpr c6
   subst c6
   have H1 : (some (-1)) = some r := by rw [if_neg (show ¬ (false = true) by decide)] at H; exact H
   clear H
   have H := H1
   clear H1
   obtain rfl := Option.some.inj H
   go_enter Try.func51, Try.ntmps51
   go_wp2_with (first | ((with_reducible refine gate_dst (N := 2) rfl ?_); refine Hd.box_ 2 (#[.int .i64 a0_0, .int .i64 a0_1]) 75 ?_; intro gb267 hg w16 hbox hb; have BK267 := Aside0.mk (hbox); have GW267 := Aside0.mk ((Hd.g_ hg Hd.b_ : w.heap.size ≤ gb267)); have GE267 := Aside0.mk ((Hd.g_ hg Hd.b_ : w.heap.size ≤ gb267)); replace HB := Aside0.mk (below_step Hd.b_ hb); clear hb hbox hg) | ((with_reducible refine gate_dst (N := 3) rfl ?_); refine Hd.box_ 3 (#[.int .i64 a1_0, .int .i64 a1_1]) 75 ?_; intro gb268 hg w17 hbox hb; have BK268 := Aside0.mk (hbox); have GW268 := Aside0.mk ((Hd.g_ hg Hd.b_ : w.heap.size ≤ gb268)); have GE268 := Aside0.mk ((Hd.g_ hg Hd.b_ : w.heap.size ≤ gb268)); replace HB := Aside0.mk (below_step Hd.b_ hb); have NB267_268 := Aside0.mk ((Hd.lt_ BK267 hg)); have NB268_267 := Aside0.mk ((Hd.gt_ BK267 hg)); replace BK267 := Aside0.mk (Hd.kb_ BK267 hb); clear hb hbox hg; have hnb18 := NB267_268.out; have hnc18 := NB268_267.out; obtain ⟨hcz19_0, hcz19_1⟩ := Hd.c2_ BK267.out; obtain ⟨hfz19_0, hfz19_1⟩ := Hd.f2_ BK267.out) | (go_at_call 97; (with_reducible refine (impl_IsPoint.calls a0_0 a0_1 true _ A3.out).mono ?_); rintro e w20 ⟨rfl, hb⟩; replace BK267 := Aside0.mk (Hd.kb_ BK267 hb); replace BK268 := Aside0.mk (Hd.kb_ BK268 hb); replace HB := Aside0.mk (below_step Hd.b_ hb); (try clear hb); (try clear hb2); (try clear hk); (try clear hi); obtain ⟨hcz21_0, hcz21_1⟩ := Hd.c2_ BK268.out; obtain ⟨hfz21_0, hfz21_1⟩ := Hd.f2_ BK268.out) | (go_at_call 97; (with_reducible refine (impl_IsPoint.calls a1_0 a1_1 false _ A5.out).mono ?_); rintro e w22 ⟨rfl, hb⟩; replace BK267 := Aside0.mk (Hd.kb_ BK267 hb); replace BK268 := Aside0.mk (Hd.kb_ BK268 hb); replace HB := Aside0.mk (below_step Hd.b_ hb); (try clear hb); (try clear hb2); (try clear hk); (try clear hi)))
   repeat (go_quiet (first | ((with_reducible refine gate_dst (N := 2) rfl ?_); refine Hd.box_ 2 (#[.int .i64 a0_0, .int .i64 a0_1]) 75 ?_; intro gb267 hg w16 hbox hb; have BK267 := Aside0.mk (hbox); have GW267 := Aside0.mk ((Hd.g_ hg Hd.b_ : w.heap.size ≤ gb267)); have GE267 := Aside0.mk ((Hd.g_ hg Hd.b_ : w.heap.size ≤ gb267)); replace HB := Aside0.mk (below_step Hd.b_ hb); clear hb hbox hg) | ((with_reducible refine gate_dst (N := 3) rfl ?_); refine Hd.box_ 3 (#[.int .i64 a1_0, .int .i64 a1_1]) 75 ?_; intro gb268 hg w17 hbox hb; have BK268 := Aside0.mk (hbox); have GW268 := Aside0.mk ((Hd.g_ hg Hd.b_ : w.heap.size ≤ gb268)); have GE268 := Aside0.mk ((Hd.g_ hg Hd.b_ : w.heap.size ≤ gb268)); replace HB := Aside0.mk (below_step Hd.b_ hb); have NB267_268 := Aside0.mk ((Hd.lt_ BK267 hg)); have NB268_267 := Aside0.mk ((Hd.gt_ BK267 hg)); replace BK267 := Aside0.mk (Hd.kb_ BK267 hb); clear hb hbox hg; have hnb18 := NB267_268.out; have hnc18 := NB268_267.out; obtain ⟨hcz19_0, hcz19_1⟩ := Hd.c2_ BK267.out; obtain ⟨hfz19_0, hfz19_1⟩ := Hd.f2_ BK267.out) | (go_at_call 97; (with_reducible refine (impl_IsPoint.calls a0_0 a0_1 true _ A3.out).mono ?_); rintro e w20 ⟨rfl, hb⟩; replace BK267 := Aside0.mk (Hd.kb_ BK267 hb); replace BK268 := Aside0.mk (Hd.kb_ BK268 hb); replace HB := Aside0.mk (below_step Hd.b_ hb); (try clear hb); (try clear hb2); (try clear hk); (try clear hi); obtain ⟨hcz21_0, hcz21_1⟩ := Hd.c2_ BK268.out; obtain ⟨hfz21_0, hfz21_1⟩ := Hd.f2_ BK268.out) | (go_at_call 97; (with_reducible refine (impl_IsPoint.calls a1_0 a1_1 false _ A5.out).mono ?_); rintro e w22 ⟨rfl, hb⟩; replace BK267 := Aside0.mk (Hd.kb_ BK267 hb); replace BK268 := Aside0.mk (Hd.kb_ BK268 hb); replace HB := Aside0.mk (below_step Hd.b_ hb); (try clear hb); (try clear hb2); (try clear hk); (try clear hi))); try go_wp2_with (first | ((with_reducible refine gate_dst (N := 2) rfl ?_); refine Hd.box_ 2 (#[.int .i64 a0_0, .int .i64 a0_1]) 75 ?_; intro gb267 hg w16 hbox hb; have BK267 := Aside0.mk (hbox); have GW267 := Aside0.mk ((Hd.g_ hg Hd.b_ : w.heap.size ≤ gb267)); have GE267 := Aside0.mk ((Hd.g_ hg Hd.b_ : w.heap.size ≤ gb267)); replace HB := Aside0.mk (below_step Hd.b_ hb); clear hb hbox hg) | ((with_reducible refine gate_dst (N := 3) rfl ?_); refine Hd.box_ 3 (#[.int .i64 a1_0, .int .i64 a1_1]) 75 ?_; intro gb268 hg w17 hbox hb; have BK268 := Aside0.mk (hbox); have GW268 := Aside0.mk ((Hd.g_ hg Hd.b_ : w.heap.size ≤ gb268)); have GE268 := Aside0.mk ((Hd.g_ hg Hd.b_ : w.heap.size ≤ gb268)); replace HB := Aside0.mk (below_step Hd.b_ hb); have NB267_268 := Aside0.mk ((Hd.lt_ BK267 hg)); have NB268_267 := Aside0.mk ((Hd.gt_ BK267 hg)); replace BK267 := Aside0.mk (Hd.kb_ BK267 hb); clear hb hbox hg; have hnb18 := NB267_268.out; have hnc18 := NB268_267.out; obtain ⟨hcz19_0, hcz19_1⟩ := Hd.c2_ BK267.out; obtain ⟨hfz19_0, hfz19_1⟩ := Hd.f2_ BK267.out) | (go_at_call 97; (with_reducible refine (impl_IsPoint.calls a0_0 a0_1 true _ A3.out).mono ?_); rintro e w20 ⟨rfl, hb⟩; replace BK267 := Aside0.mk (Hd.kb_ BK267 hb); replace BK268 := Aside0.mk (Hd.kb_ BK268 hb); replace HB := Aside0.mk (below_step Hd.b_ hb); (try clear hb); (try clear hb2); (try clear hk); (try clear hi); obtain ⟨hcz21_0, hcz21_1⟩ := Hd.c2_ BK268.out; obtain ⟨hfz21_0, hfz21_1⟩ := Hd.f2_ BK268.out) | (go_at_call 97; (with_reducible refine (impl_IsPoint.calls a1_0 a1_1 false _ A5.out).mono ?_); rintro e w22 ⟨rfl, hb⟩; replace BK267 := Aside0.mk (Hd.kb_ BK267 hb); replace BK268 := Aside0.mk (Hd.kb_ BK268 hb); replace HB := Aside0.mk (below_step Hd.b_ hb); (try clear hb); (try clear hb2); (try clear hk); (try clear hi))))
   go_ret
   exact ⟨Hd.e_, Hd.b_⟩
 ·
  replace c4 := Bool.eq_false_iff.mpr c4
  subst c4
  have H1 : (some (-1)) = some r := by rw [if_neg (show ¬ (false = true) by decide)] at H; exact H
  clear H
  have H := H1
  clear H1
  obtain rfl := Option.some.inj H
  go_enter Try.func51, Try.ntmps51
  go_wp2_with (first | ((with_reducible refine gate_dst (N := 2) rfl ?_); refine Hd.box_ 2 (#[.int .i64 a0_0, .int .i64 a0_1]) 75 ?_; intro gb267 hg w23 hbox hb; have BK267 := Aside0.mk (hbox); have GW267 := Aside0.mk ((Hd.g_ hg Hd.b_ : w.heap.size ≤ gb267)); have GE267 := Aside0.mk ((Hd.g_ hg Hd.b_ : w.heap.size ≤ gb267)); replace HB := Aside0.mk (below_step Hd.b_ hb); clear hb hbox hg) | ((with_reducible refine gate_dst (N := 3) rfl ?_); refine Hd.box_ 3 (#[.int .i64 a1_0, .int .i64 a1_1]) 75 ?_; intro gb268 hg w24 hbox hb; have BK268 := Aside0.mk (hbox); have GW268 := Aside0.mk ((Hd.g_ hg Hd.b_ : w.heap.size ≤ gb268)); have GE268 := Aside0.mk ((Hd.g_ hg Hd.b_ : w.heap.size ≤ gb268)); replace HB := Aside0.mk (below_step Hd.b_ hb); have NB267_268 := Aside0.mk ((Hd.lt_ BK267 hg)); have NB268_267 := Aside0.mk ((Hd.gt_ BK267 hg)); replace BK267 := Aside0.mk (Hd.kb_ BK267 hb); clear hb hbox hg; have hnb25 := NB267_268.out; have hnc25 := NB268_267.out; obtain ⟨hcz26_0, hcz26_1⟩ := Hd.c2_ BK267.out; obtain ⟨hfz26_0, hfz26_1⟩ := Hd.f2_ BK267.out) | (go_at_call 97; (with_reducible refine (impl_IsPoint.calls a0_0 a0_1 false _ A3.out).mono ?_); rintro e w27 ⟨rfl, hb⟩; replace BK267 := Aside0.mk (Hd.kb_ BK267 hb); replace BK268 := Aside0.mk (Hd.kb_ BK268 hb); replace HB := Aside0.mk (below_step Hd.b_ hb); (try clear hb); (try clear hb2); (try clear hk); (try clear hi)))
  repeat (go_quiet (first | ((with_reducible refine gate_dst (N := 2) rfl ?_); refine Hd.box_ 2 (#[.int .i64 a0_0, .int .i64 a0_1]) 75 ?_; intro gb267 hg w23 hbox hb; have BK267 := Aside0.mk (hbox); have GW267 := Aside0.mk ((Hd.g_ hg Hd.b_ : w.heap.size ≤ gb267)); have GE267 := Aside0.mk ((Hd.g_ hg Hd.b_ : w.heap.size ≤ gb267)); replace HB := Aside0.mk (below_step Hd.b_ hb); clear hb hbox hg) | ((with_reducible refine gate_dst (N := 3) rfl ?_); refine Hd.box_ 3 (#[.int .i64 a1_0, .int .i64 a1_1]) 75 ?_; intro gb268 hg w24 hbox hb; have BK268 := Aside0.mk (hbox); have GW268 := Aside0.mk ((Hd.g_ hg Hd.b_ : w.heap.size ≤ gb268)); have GE268 := Aside0.mk ((Hd.g_ hg Hd.b_ : w.heap.size ≤ gb268)); replace HB := Aside0.mk (below_step Hd.b_ hb); have NB267_268 := Aside0.mk ((Hd.lt_ BK267 hg)); have NB268_267 := Aside0.mk ((Hd.gt_ BK267 hg)); replace BK267 := Aside0.mk (Hd.kb_ BK267 hb); clear hb hbox hg; have hnb25 := NB267_268.out; have hnc25 := NB268_267.out; obtain ⟨hcz26_0, hcz26_1⟩ := Hd.c2_ BK267.out; obtain ⟨hfz26_0, hfz26_1⟩ := Hd.f2_ BK267.out) | (go_at_call 97; (with_reducible refine (impl_IsPoint.calls a0_0 a0_1 false _ A3.out).mono ?_); rintro e w27 ⟨rfl, hb⟩; replace BK267 := Aside0.mk (Hd.kb_ BK267 hb); replace BK268 := Aside0.mk (Hd.kb_ BK268 hb); replace HB := Aside0.mk (below_step Hd.b_ hb); (try clear hb); (try clear hb2); (try clear hk); (try clear hi))); try go_wp2_with (first | ((with_reducible refine gate_dst (N := 2) rfl ?_); refine Hd.box_ 2 (#[.int .i64 a0_0, .int .i64 a0_1]) 75 ?_; intro gb267 hg w23 hbox hb; have BK267 := Aside0.mk (hbox); have GW267 := Aside0.mk ((Hd.g_ hg Hd.b_ : w.heap.size ≤ gb267)); have GE267 := Aside0.mk ((Hd.g_ hg Hd.b_ : w.heap.size ≤ gb267)); replace HB := Aside0.mk (below_step Hd.b_ hb); clear hb hbox hg) | ((with_reducible refine gate_dst (N := 3) rfl ?_); refine Hd.box_ 3 (#[.int .i64 a1_0, .int .i64 a1_1]) 75 ?_; intro gb268 hg w24 hbox hb; have BK268 := Aside0.mk (hbox); have GW268 := Aside0.mk ((Hd.g_ hg Hd.b_ : w.heap.size ≤ gb268)); have GE268 := Aside0.mk ((Hd.g_ hg Hd.b_ : w.heap.size ≤ gb268)); replace HB := Aside0.mk (below_step Hd.b_ hb); have NB267_268 := Aside0.mk ((Hd.lt_ BK267 hg)); have NB268_267 := Aside0.mk ((Hd.gt_ BK267 hg)); replace BK267 := Aside0.mk (Hd.kb_ BK267 hb); clear hb hbox hg; have hnb25 := NB267_268.out; have hnc25 := NB268_267.out; obtain ⟨hcz26_0, hcz26_1⟩ := Hd.c2_ BK267.out; obtain ⟨hfz26_0, hfz26_1⟩ := Hd.f2_ BK267.out) | (go_at_call 97; (with_reducible refine (impl_IsPoint.calls a0_0 a0_1 false _ A3.out).mono ?_); rintro e w27 ⟨rfl, hb⟩; replace BK267 := Aside0.mk (Hd.kb_ BK267 hb); replace BK268 := Aside0.mk (Hd.kb_ BK268 hb); replace HB := Aside0.mk (below_step Hd.b_ hb); (try clear hb); (try clear hb2); (try clear hk); (try clear hi))))
  go_ret
  exact ⟨Hd.e_, Hd.b_⟩
def impl_ArePlaces.l0 : Nat → List (S77) → List (S77) → Int → Int → Option (Bool)
 | 0, _, _, _, _ => none
 | k + 1, x0, x8, x9, x10 => if x10 < x9 then (if 0 ≤ x10 then (if x10 < (x8.length : Int) then ((impl_InRange.f ((rd_T77 x8 x10).f0) 1 99).bind fun t273 => (if t273 = true then ((impl_IsPoint.f ((rd_T77 x8 x10).f1.f0) ((rd_T77 x8 x10).f1.f1)).bind fun t274 => (if t274 = true then ((impl_InRange.f ((rd_T77 x8 x10).f2) 0 9).bind fun t275 => (if t275 = true then (if x10 > 0 then (if 0 ≤ (wrap64 (x10 - 1)) then (if (wrap64 (x10 - 1)) < (x0.length : Int) then (if ((rd_T77 x8 x10).f0) ≤ ((rd_T77 x0 (wrap64 (x10 - 1))).f0) then (some false) else (impl_ArePlaces.l0 k x0 x8 x9 (wrap64 (x10 + 1)))) else (none)) else (none)) else (impl_ArePlaces.l0 k x0 x8 x9 (wrap64 (x10 + 1)))) else (some false))) else (some false))) else (some false))) else (none)) else (none)) else (some true)
def impl_ArePlaces.f (k : Nat) (l0 : List (S77)) : Option (Bool) := if (l0.length : Int) > 16 then (some false) else (impl_ArePlaces.l0 k l0 l0 (l0.length : Int) 0)
set_option maxHeartbeats 8000000 in
set_option maxRecDepth 100000 in
theorem impl_ArePlaces.calls (k : Nat) (A0 : Option Addr) (c0 : Nat) (l0 : List (S77)) (r : Bool) (w : World) (hr0 : Kd.C k77 w A0 l0.length l0) (hc0 : l0.length ≤ c0) (h : impl_ArePlaces.f k l0 = some r) :
  Calls Try.prog 53 #[.slice A0 l0.length c0] w fun e w' => e = .returned (.bool r) ∧ Below w.heap.size w w' := by
 have hu77 := Try.underlying77
 have hu75 := Try.underlying75
 have HR0 := Aside0.mk hr0
 have HC0 := Aside0.mk hc0
 clear hr0 hc0
 have HB := Aside0.mk (Below.refl w.heap.size w)
 have H : (if (l0.length : Int) > 16 then (some false) else (impl_ArePlaces.l0 k l0 l0 (l0.length : Int) 0)) = some r := h
 clear h
 by_cases c2 : (l0.length : Int) > 16
 ·
  rw [if_pos c2] at H
  have c2b0 : decide (16 < (l0.length : Int)) = true := decide_eq_true c2
  have c2b1 : decide (16 < l0.length) = true := decide_eq_true (by omega)
  clear c2
  obtain rfl := Option.some.inj H
  go_enter Try.func53, Try.ntmps53
  go_wp2
  go_ret
  exact ⟨Hd.e_, Hd.b_⟩
 ·
  rw [if_neg c2] at H
  have c2b0 : decide (16 < (l0.length : Int)) = false := decide_eq_false c2
  have c2b1 : decide (16 < l0.length) = false := decide_eq_false (by omega)
  clear c2
  have H' := Aside0.mk H
  clear H
  go_enter Try.func53, Try.ntmps53
  go_wp2
  go_loopg [10] k (fun kq v10 w' => ∃ (x10_1 : Int), v10 = .int .i64 x10_1 ∧ Aside0 (impl_ArePlaces.l0 kq l0 l0 (l0.length : Int) x10_1 = some r) ∧ Aside0 (kq ≤ k) ∧ Aside0 (Below w.heap.size w w'))
  case atStart => exact ⟨(0), (by first | rfl | (simp; done) | (simp [*]; done)), H', ⟨Nat.le_refl _⟩, ⟨Hd.b_⟩⟩
  case round =>
   clear H'
   try clear c2
   try clear c2b0
   try clear c2b1
   try clear p2
   obtain ⟨x10_1, rfl, HA, HK1, HB⟩ := hrel
   cases gk with
   | zero => exact absurd HA.out (by simp [impl_ArePlaces.l0])
   | succ k1 =>
    have H := HA.out
    clear HA
    simp only [impl_ArePlaces.l0] at H
    by_cases c3 : x10_1 < (l0.length : Int)
    ·
     rw [if_pos c3] at H
     have c3b0 : decide (x10_1 < (l0.length : Int)) = true := decide_eq_true c3
     clear c3
     by_cases c4 : 0 ≤ x10_1
     ·
      rw [if_pos c4] at H
      have c4b0 : decide (0 ≤ x10_1) = true := decide_eq_true c4
      clear c4
      by_cases c5 : x10_1 < (l0.length : Int)
      ·
       rw [if_pos c5] at H
       have c5b0 : decide (x10_1 < (l0.length : Int)) = true := decide_eq_true c5
       clear c5
       replace H := Option.bind_eq_some_iff.mp H
       obtain ⟨t273, A60, H⟩ := H
       replace H : (if t273 = true then ((impl_IsPoint.f ((rd_T77 l0 x10_1).f1.f0) ((rd_T77 l0 x10_1).f1.f1)).bind fun t274 => (if t274 = true then ((impl_InRange.f ((rd_T77 l0 x10_1).f2) 0 9).bind fun t275 => (if t275 = true then (if x10_1 > 0 then (if 0 ≤ (wrap64 (x10_1 - 1)) then (if (wrap64 (x10_1 - 1)) < (l0.length : Int) then (if ((rd_T77 l0 x10_1).f0) ≤ ((rd_T77 l0 (wrap64 (x10_1 - 1))).f0) then (some false) else (impl_ArePlaces.l0 k1 l0 l0 (l0.length : Int) (wrap64 (x10_1 + 1)))) else (none)) else (none)) else (impl_ArePlaces.l0 k1 l0 l0 (l0.length : Int) (wrap64 (x10_1 + 1)))) else (some false))) else (some false))) else (some false)) = some r := H
       have A6 := Aside0.mk A60
       clear A60
       by_cases c7 : t273 = true
       ·
        subst c7
        have H1 : ((impl_IsPoint.f ((rd_T77 l0 x10_1).f1.f0) ((rd_T77 l0 x10_1).f1.f1)).bind fun t274 => (if t274 = true then ((impl_InRange.f ((rd_T77 l0 x10_1).f2) 0 9).bind fun t275 => (if t275 = true then (if x10_1 > 0 then (if 0 ≤ (wrap64 (x10_1 - 1)) then (if (wrap64 (x10_1 - 1)) < (l0.length : Int) then (if ((rd_T77 l0 x10_1).f0) ≤ ((rd_T77 l0 (wrap64 (x10_1 - 1))).f0) then (some false) else (impl_ArePlaces.l0 k1 l0 l0 (l0.length : Int) (wrap64 (x10_1 + 1)))) else (none)) else (none)) else (impl_ArePlaces.l0 k1 l0 l0 (l0.length : Int) (wrap64 (x10_1 + 1)))) else (some false))) else (some false))) = some r := by rw [if_pos rfl] at H; exact H
        clear H
        have H := H1
        clear H1
        replace H := Option.bind_eq_some_iff.mp H
        obtain ⟨t274, A80, H⟩ := H
        replace H : (if t274 = true then ((impl_InRange.f ((rd_T77 l0 x10_1).f2) 0 9).bind fun t275 => (if t275 = true then (if x10_1 > 0 then (if 0 ≤ (wrap64 (x10_1 - 1)) then (if (wrap64 (x10_1 - 1)) < (l0.length : Int) then (if ((rd_T77 l0 x10_1).f0) ≤ ((rd_T77 l0 (wrap64 (x10_1 - 1))).f0) then (some false) else (impl_ArePlaces.l0 k1 l0 l0 (l0.length : Int) (wrap64 (x10_1 + 1)))) else (none)) else (none)) else (impl_ArePlaces.l0 k1 l0 l0 (l0.length : Int) (wrap64 (x10_1 + 1)))) else (some false))) else (some false)) = some r := H
        have A8 := Aside0.mk A80
        clear A80
        by_cases c9 : t274 = true
        ·
         subst c9
         have H1 : ((impl_InRange.f ((rd_T77 l0 x10_1).f2) 0 9).bind fun t275 => (if t275 = true then (if x10_1 > 0 then (if 0 ≤ (wrap64 (x10_1 - 1)) then (if (wrap64 (x10_1 - 1)) < (l0.length : Int) then (if ((rd_T77 l0 x10_1).f0) ≤ ((rd_T77 l0 (wrap64 (x10_1 - 1))).f0) then (some false) else (impl_ArePlaces.l0 k1 l0 l0 (l0.length : Int) (wrap64 (x10_1 + 1)))) else (none)) else (none)) else (impl_ArePlaces.l0 k1 l0 l0 (l0.length : Int) (wrap64 (x10_1 + 1)))) else (some false))) = some r := by rw [if_pos rfl] at H; exact H
         clear H
         have H := H1
         clear H1
         replace H := Option.bind_eq_some_iff.mp H
         obtain ⟨t275, A100, H⟩ := H
         replace H : (if t275 = true then (if x10_1 > 0 then (if 0 ≤ (wrap64 (x10_1 - 1)) then (if (wrap64 (x10_1 - 1)) < (l0.length : Int) then (if ((rd_T77 l0 x10_1).f0) ≤ ((rd_T77 l0 (wrap64 (x10_1 - 1))).f0) then (some false) else (impl_ArePlaces.l0 k1 l0 l0 (l0.length : Int) (wrap64 (x10_1 + 1)))) else (none)) else (none)) else (impl_ArePlaces.l0 k1 l0 l0 (l0.length : Int) (wrap64 (x10_1 + 1)))) else (some false)) = some r := H
         have A10 := Aside0.mk A100
         clear A100
         by_cases c11 : t275 = true
         ·
          subst c11
          have H1 : (if x10_1 > 0 then (if 0 ≤ (wrap64 (x10_1 - 1)) then (if (wrap64 (x10_1 - 1)) < (l0.length : Int) then (if ((rd_T77 l0 x10_1).f0) ≤ ((rd_T77 l0 (wrap64 (x10_1 - 1))).f0) then (some false) else (impl_ArePlaces.l0 k1 l0 l0 (l0.length : Int) (wrap64 (x10_1 + 1)))) else (none)) else (none)) else (impl_ArePlaces.l0 k1 l0 l0 (l0.length : Int) (wrap64 (x10_1 + 1)))) = some r := by rw [if_pos rfl] at H; exact H
          clear H
          have H := H1
          clear H1
          by_cases c12 : x10_1 > 0
          ·
           rw [if_pos c12] at H
           have c12b0 : decide (0 < x10_1) = true := decide_eq_true c12
           clear c12
           obtain ⟨ji13, hji13⟩ : ∃ j_ : Int, (wrap64 (x10_1 - 1)) = j_ := ⟨_, rfl⟩
           replace H : (if 0 ≤ (ji13) then (if (ji13) < (l0.length : Int) then (if ((rd_T77 l0 x10_1).f0) ≤ ((rd_T77 l0 (ji13)).f0) then (some false) else (impl_ArePlaces.l0 k1 l0 l0 (l0.length : Int) (wrap64 (x10_1 + 1)))) else (none)) else (none)) = some r := by first | (rw [hji13] at H; exact H) | (simp only [hji13] at H ⊢; exact H)
           (try rw [hji13] at A6)
           (try rw [hji13] at A8)
           (try rw [hji13] at A10)
           have hji13w : (IntKind.i64.wrap (x10_1 - 1)) = ji13 := (i64_w _).trans hji13
           by_cases c14 : 0 ≤ (ji13)
           ·
            rw [if_pos c14] at H
            have c14b0 : decide (0 ≤ (ji13)) = true := decide_eq_true c14
            clear c14
            by_cases c15 : (ji13) < (l0.length : Int)
            ·
             rw [if_pos c15] at H
             have c15b0 : decide ((ji13) < (l0.length : Int)) = true := decide_eq_true c15
             clear c15
             by_cases c16 : ((rd_T77 l0 x10_1).f0) ≤ ((rd_T77 l0 (ji13)).f0)
             ·
              rw [if_pos c16] at H
              have c16b0 : decide (((rd_T77 l0 x10_1).f0) ≤ ((rd_T77 l0 (ji13)).f0)) = true := decide_eq_true c16
              clear c16
              obtain rfl := Option.some.inj H
              have p271 : 0 ≤ (x10_1 : Int) := of_decide_eq_true Hd.a_
              have q271 : x10_1 < (l0.length : Int) := of_decide_eq_true Hd.a_
              obtain ⟨ad271, e271, hx271_0, hx271_1, hx271_2, hx271_3⟩ := at_T77 HR0.out x10_1 p271 q271
              cases e271
              replace hx271_0 := (HB.out.cell (World.block_lt_of_cell? w _ hx271_0)).trans hx271_0
              replace hx271_1 := (HB.out.cell (World.block_lt_of_cell? w _ hx271_1)).trans hx271_1
              replace hx271_2 := (HB.out.cell (World.block_lt_of_cell? w _ hx271_2)).trans hx271_2
              replace hx271_3 := (HB.out.cell (World.block_lt_of_cell? w _ hx271_3)).trans hx271_3
              replace p271 := eq_true p271
              replace q271 := eq_true q271
              try go_wp2_with (first | ((with_reducible refine gate_dst (N := 4) rfl ?_); refine Hd.box_ 4 (#[.int .i64 0, .int .i64 0, .int .i64 0, .int .i64 0]) 77 ?_; intro gb272 hg w17 hbox hb; have BK272 := Aside0.mk (hbox); have GW272 := Aside0.mk ((Hd.g_ hg Hd.b_ : w.heap.size ≤ gb272)); have GE272 := Aside0.mk ((Hd.g_ hg Hd.b_ : w.heap.size ≤ gb272)); replace HB := Aside0.mk (below_step Hd.b_ hb); clear hb hbox hg; obtain ⟨hcz18_0, hcz18_1, hcz18_2, hcz18_3⟩ := Hd.c4_ BK272.out; obtain ⟨hfz18_0, hfz18_1, hfz18_2, hfz18_3⟩ := Hd.f4_ BK272.out))
              have n0_ : Aside0 (((((w17.setCell ⟨gb272, 0, none⟩ (.int .i64 ((rd_T77 l0 x10_1).f0))).setCell ⟨gb272, 1, none⟩ (.int .i64 ((rd_T77 l0 x10_1).f1.f0))).setCell ⟨gb272, 2, none⟩ (.int .i64 ((rd_T77 l0 x10_1).f1.f1))).setCell ⟨gb272, 3, none⟩ (.int .i64 ((rd_T77 l0 x10_1).f2))).heap[gb272]? = some (.cells #[.int .i64 ((rd_T77 l0 x10_1).f0), .int .i64 ((rd_T77 l0 x10_1).f1.f0), .int .i64 ((rd_T77 l0 x10_1).f1.f1), .int .i64 ((rd_T77 l0 x10_1).f2)] 77 (0, 0))) := ⟨by (with_reducible repeat (first | refine blk_drewN ?_ _ | refine blk_drew ?_ | refine blk_alloc ?_ _)); refine blk_put (cs := #[.int .i64 ((rd_T77 l0 x10_1).f0), .int .i64 ((rd_T77 l0 x10_1).f1.f0), .int .i64 ((rd_T77 l0 x10_1).f1.f1), .int .i64 0]) ?_ 3 _ rfl; (with_reducible repeat (first | refine blk_drewN ?_ _ | refine blk_drew ?_ | refine blk_alloc ?_ _)); refine blk_put (cs := #[.int .i64 ((rd_T77 l0 x10_1).f0), .int .i64 ((rd_T77 l0 x10_1).f1.f0), .int .i64 0, .int .i64 0]) ?_ 2 _ rfl; (with_reducible repeat (first | refine blk_drewN ?_ _ | refine blk_drew ?_ | refine blk_alloc ?_ _)); refine blk_put (cs := #[.int .i64 ((rd_T77 l0 x10_1).f0), .int .i64 0, .int .i64 0, .int .i64 0]) ?_ 1 _ rfl; (with_reducible repeat (first | refine blk_drewN ?_ _ | refine blk_drew ?_ | refine blk_alloc ?_ _)); refine blk_put (cs := #[.int .i64 0, .int .i64 0, .int .i64 0, .int .i64 0]) ?_ 0 _ rfl; (with_reducible repeat (first | refine blk_drewN ?_ _ | refine blk_drew ?_ | refine blk_alloc ?_ _)); exact BK272.out⟩
              have n1_ : Aside0 (Below w.heap.size w ((((w17.setCell ⟨gb272, 0, none⟩ (.int .i64 ((rd_T77 l0 x10_1).f0))).setCell ⟨gb272, 1, none⟩ (.int .i64 ((rd_T77 l0 x10_1).f1.f0))).setCell ⟨gb272, 2, none⟩ (.int .i64 ((rd_T77 l0 x10_1).f1.f1))).setCell ⟨gb272, 3, none⟩ (.int .i64 ((rd_T77 l0 x10_1).f2)))) := ⟨Hd.b_⟩
              (try clear BK272)
              (try clear HB)
              generalize ((((w17.setCell ⟨gb272, 0, none⟩ (.int .i64 ((rd_T77 l0 x10_1).f0))).setCell ⟨gb272, 1, none⟩ (.int .i64 ((rd_T77 l0 x10_1).f1.f0))).setCell ⟨gb272, 2, none⟩ (.int .i64 ((rd_T77 l0 x10_1).f1.f1))).setCell ⟨gb272, 3, none⟩ (.int .i64 ((rd_T77 l0 x10_1).f2))) = w19 at n0_ n1_ ⊢
              have BK272 := n0_
              have HB := n1_
              clear n0_ n1_
              replace BK272 := Aside0.mk (blk_drew BK272.out)
              replace HB := Aside0.mk (below_drew1 HB.out)
              have p276 : 0 ≤ ((ji13) : Int) := of_decide_eq_true Hd.a_
              have q276 : (ji13) < (l0.length : Int) := of_decide_eq_true Hd.a_
              obtain ⟨ad276, e276, hx276_0, hx276_1, hx276_2, hx276_3⟩ := at_T77 HR0.out (ji13) p276 q276
              have hw276_3 := hx276_3
              have hw276_2 := hx276_2
              have hw276_1 := hx276_1
              have hw276_0 := hx276_0
              obtain rfl : ad271 = ad276 := (by injection e276)
              replace hx276_0 := (HB.out.cell (World.block_lt_of_cell? w _ hx276_0)).trans hx276_0
              replace hx276_1 := (HB.out.cell (World.block_lt_of_cell? w _ hx276_1)).trans hx276_1
              replace hx276_2 := (HB.out.cell (World.block_lt_of_cell? w _ hx276_2)).trans hx276_2
              replace hx276_3 := (HB.out.cell (World.block_lt_of_cell? w _ hx276_3)).trans hx276_3
              replace p276 := eq_true p276
              replace q276 := eq_true q276
              obtain ⟨s0_, s1_, s2_, s3_⟩ := Hd.HW.k4 (W0 := w19.drew) BK272
              have s4_ := Hd.HW.x (W0 := w19.drew) ((HB.out.cell (World.block_lt_of_cell? w _ hw276_0)).trans hw276_0)
              have s5_ := Hd.HW.x (W0 := w19.drew) ((HB.out.cell (World.block_lt_of_cell? w _ hw276_1)).trans hw276_1)
              have s6_ := Hd.HW.x (W0 := w19.drew) ((HB.out.cell (World.block_lt_of_cell? w _ hw276_2)).trans hw276_2)
              have s7_ := Hd.HW.x (W0 := w19.drew) ((HB.out.cell (World.block_lt_of_cell? w _ hw276_3)).trans hw276_3)
              refine Hd.HW.region (by kernel_rfl) (by kernel_rfl) ?_
              try dsimp only [List.append]
              repeat (go_big_quiet_step ((first | (go_at_call 98; with_reducible exact Hd.HW.d (impl_InRange.calls ((rd_T77 l0 x10_1).f0) 1 99 true _ A6.out)) | (go_at_call 97; with_reducible exact Hd.HW.c (impl_IsPoint.calls ((rd_T77 l0 x10_1).f1.f0) ((rd_T77 l0 x10_1).f1.f1) true _ A8.out)) | (go_at_call 98; with_reducible exact Hd.HW.d (impl_InRange.calls ((rd_T77 l0 x10_1).f2) 0 9 true _ A10.out)))))
              refine wpQuiet_nil ?_
              intro _ hq_
              obtain ⟨q_, rfl⟩ := hq_
              clear s0_ s1_ s2_ s3_ s4_ s5_ s6_ s7_
              replace BK272 := Aside0.mk (blk_below BK272.out q_.b)
              replace HB := Aside0.mk (below_step HB.out q_.b)
              replace hx276_0 := q_.cell hx276_0
              replace hx276_1 := q_.cell hx276_1
              replace hx276_2 := q_.cell hx276_2
              replace hx276_3 := q_.cell hx276_3
              generalize q_.W = w21 at BK272 HB hx276_0 hx276_1 hx276_2 hx276_3 ⊢
              try simp only [i64_w, i32_w]
              try go_wp2
              go_ret
              exact ⟨by first | rfl | (simp [errW_none, errW_some] <;> rfl) | (simp only [← hji13]; first | rfl | (simp [errW_none, errW_some] <;> rfl)) | (simp [*, errW_none, errW_some] <;> rfl), Hd.b_⟩
             ·
              rw [if_neg c16] at H
              have c16b0 : decide (((rd_T77 l0 x10_1).f0) ≤ ((rd_T77 l0 (ji13)).f0)) = false := decide_eq_false c16
              clear c16
              have H' := Aside0.mk H
              clear H
              have p271 : 0 ≤ (x10_1 : Int) := of_decide_eq_true Hd.a_
              have q271 : x10_1 < (l0.length : Int) := of_decide_eq_true Hd.a_
              obtain ⟨ad271, e271, hx271_0, hx271_1, hx271_2, hx271_3⟩ := at_T77 HR0.out x10_1 p271 q271
              cases e271
              replace hx271_0 := (HB.out.cell (World.block_lt_of_cell? w _ hx271_0)).trans hx271_0
              replace hx271_1 := (HB.out.cell (World.block_lt_of_cell? w _ hx271_1)).trans hx271_1
              replace hx271_2 := (HB.out.cell (World.block_lt_of_cell? w _ hx271_2)).trans hx271_2
              replace hx271_3 := (HB.out.cell (World.block_lt_of_cell? w _ hx271_3)).trans hx271_3
              replace p271 := eq_true p271
              replace q271 := eq_true q271
              try go_wp2_with (first | ((with_reducible refine gate_dst (N := 4) rfl ?_); refine Hd.box_ 4 (#[.int .i64 0, .int .i64 0, .int .i64 0, .int .i64 0]) 77 ?_; intro gb272 hg w22 hbox hb; have BK272 := Aside0.mk (hbox); have GW272 := Aside0.mk ((Hd.g_ hg Hd.b_ : w.heap.size ≤ gb272)); have GE272 := Aside0.mk ((Hd.g_ hg Hd.b_ : w.heap.size ≤ gb272)); replace HB := Aside0.mk (below_step Hd.b_ hb); clear hb hbox hg; obtain ⟨hcz23_0, hcz23_1, hcz23_2, hcz23_3⟩ := Hd.c4_ BK272.out; obtain ⟨hfz23_0, hfz23_1, hfz23_2, hfz23_3⟩ := Hd.f4_ BK272.out))
              have n0_ : Aside0 (((((w22.setCell ⟨gb272, 0, none⟩ (.int .i64 ((rd_T77 l0 x10_1).f0))).setCell ⟨gb272, 1, none⟩ (.int .i64 ((rd_T77 l0 x10_1).f1.f0))).setCell ⟨gb272, 2, none⟩ (.int .i64 ((rd_T77 l0 x10_1).f1.f1))).setCell ⟨gb272, 3, none⟩ (.int .i64 ((rd_T77 l0 x10_1).f2))).heap[gb272]? = some (.cells #[.int .i64 ((rd_T77 l0 x10_1).f0), .int .i64 ((rd_T77 l0 x10_1).f1.f0), .int .i64 ((rd_T77 l0 x10_1).f1.f1), .int .i64 ((rd_T77 l0 x10_1).f2)] 77 (0, 0))) := ⟨by (with_reducible repeat (first | refine blk_drewN ?_ _ | refine blk_drew ?_ | refine blk_alloc ?_ _)); refine blk_put (cs := #[.int .i64 ((rd_T77 l0 x10_1).f0), .int .i64 ((rd_T77 l0 x10_1).f1.f0), .int .i64 ((rd_T77 l0 x10_1).f1.f1), .int .i64 0]) ?_ 3 _ rfl; (with_reducible repeat (first | refine blk_drewN ?_ _ | refine blk_drew ?_ | refine blk_alloc ?_ _)); refine blk_put (cs := #[.int .i64 ((rd_T77 l0 x10_1).f0), .int .i64 ((rd_T77 l0 x10_1).f1.f0), .int .i64 0, .int .i64 0]) ?_ 2 _ rfl; (with_reducible repeat (first | refine blk_drewN ?_ _ | refine blk_drew ?_ | refine blk_alloc ?_ _)); refine blk_put (cs := #[.int .i64 ((rd_T77 l0 x10_1).f0), .int .i64 0, .int .i64 0, .int .i64 0]) ?_ 1 _ rfl; (with_reducible repeat (first | refine blk_drewN ?_ _ | refine blk_drew ?_ | refine blk_alloc ?_ _)); refine blk_put (cs := #[.int .i64 0, .int .i64 0, .int .i64 0, .int .i64 0]) ?_ 0 _ rfl; (with_reducible repeat (first | refine blk_drewN ?_ _ | refine blk_drew ?_ | refine blk_alloc ?_ _)); exact BK272.out⟩
              have n1_ : Aside0 (Below w.heap.size w ((((w22.setCell ⟨gb272, 0, none⟩ (.int .i64 ((rd_T77 l0 x10_1).f0))).setCell ⟨gb272, 1, none⟩ (.int .i64 ((rd_T77 l0 x10_1).f1.f0))).setCell ⟨gb272, 2, none⟩ (.int .i64 ((rd_T77 l0 x10_1).f1.f1))).setCell ⟨gb272, 3, none⟩ (.int .i64 ((rd_T77 l0 x10_1).f2)))) := ⟨Hd.b_⟩
              (try clear BK272)
              (try clear HB)
              generalize ((((w22.setCell ⟨gb272, 0, none⟩ (.int .i64 ((rd_T77 l0 x10_1).f0))).setCell ⟨gb272, 1, none⟩ (.int .i64 ((rd_T77 l0 x10_1).f1.f0))).setCell ⟨gb272, 2, none⟩ (.int .i64 ((rd_T77 l0 x10_1).f1.f1))).setCell ⟨gb272, 3, none⟩ (.int .i64 ((rd_T77 l0 x10_1).f2))) = w24 at n0_ n1_ ⊢
              have BK272 := n0_
              have HB := n1_
              clear n0_ n1_
              replace BK272 := Aside0.mk (blk_drew BK272.out)
              replace HB := Aside0.mk (below_drew1 HB.out)
              have p276 : 0 ≤ ((ji13) : Int) := of_decide_eq_true Hd.a_
              have q276 : (ji13) < (l0.length : Int) := of_decide_eq_true Hd.a_
              obtain ⟨ad276, e276, hx276_0, hx276_1, hx276_2, hx276_3⟩ := at_T77 HR0.out (ji13) p276 q276
              have hw276_3 := hx276_3
              have hw276_2 := hx276_2
              have hw276_1 := hx276_1
              have hw276_0 := hx276_0
              obtain rfl : ad271 = ad276 := (by injection e276)
              replace hx276_0 := (HB.out.cell (World.block_lt_of_cell? w _ hx276_0)).trans hx276_0
              replace hx276_1 := (HB.out.cell (World.block_lt_of_cell? w _ hx276_1)).trans hx276_1
              replace hx276_2 := (HB.out.cell (World.block_lt_of_cell? w _ hx276_2)).trans hx276_2
              replace hx276_3 := (HB.out.cell (World.block_lt_of_cell? w _ hx276_3)).trans hx276_3
              replace p276 := eq_true p276
              replace q276 := eq_true q276
              obtain ⟨s0_, s1_, s2_, s3_⟩ := Hd.HW.k4 (W0 := w24.drew) BK272
              have s4_ := Hd.HW.x (W0 := w24.drew) ((HB.out.cell (World.block_lt_of_cell? w _ hw276_0)).trans hw276_0)
              have s5_ := Hd.HW.x (W0 := w24.drew) ((HB.out.cell (World.block_lt_of_cell? w _ hw276_1)).trans hw276_1)
              have s6_ := Hd.HW.x (W0 := w24.drew) ((HB.out.cell (World.block_lt_of_cell? w _ hw276_2)).trans hw276_2)
              have s7_ := Hd.HW.x (W0 := w24.drew) ((HB.out.cell (World.block_lt_of_cell? w _ hw276_3)).trans hw276_3)
              refine Hd.HW.region (by kernel_rfl) (by kernel_rfl) ?_
              try dsimp only [List.append]
              repeat (go_big_quiet_step ((first | (go_at_call 98; with_reducible exact Hd.HW.d (impl_InRange.calls ((rd_T77 l0 x10_1).f0) 1 99 true _ A6.out)) | (go_at_call 97; with_reducible exact Hd.HW.c (impl_IsPoint.calls ((rd_T77 l0 x10_1).f1.f0) ((rd_T77 l0 x10_1).f1.f1) true _ A8.out)) | (go_at_call 98; with_reducible exact Hd.HW.d (impl_InRange.calls ((rd_T77 l0 x10_1).f2) 0 9 true _ A10.out)))))
              refine wpQuiet_nil ?_
              intro _ hq_
              obtain ⟨q_, rfl⟩ := hq_
              clear s0_ s1_ s2_ s3_ s4_ s5_ s6_ s7_
              replace BK272 := Aside0.mk (blk_below BK272.out q_.b)
              replace HB := Aside0.mk (below_step HB.out q_.b)
              replace hx276_0 := q_.cell hx276_0
              replace hx276_1 := q_.cell hx276_1
              replace hx276_2 := q_.cell hx276_2
              replace hx276_3 := q_.cell hx276_3
              generalize q_.W = w26 at BK272 HB hx276_0 hx276_1 hx276_2 hx276_3 ⊢
              try simp only [i64_w, i32_w]
              try go_wp2
              go_roundg k1
              case measure => have := HK1.out; omega
              case rel => exact ⟨(wrap64 (x10_1 + 1)), (by first | rfl | (simp; done) | (simp [*]; done)), H', ⟨by have := HK1.out; omega⟩, ⟨Hd.b_⟩⟩
            ·
             rw [if_neg c15] at H
             exact absurd H (by simp)
           ·
            rw [if_neg c14] at H
            exact absurd H (by simp)
          ·
           rw [if_neg c12] at H
           have c12b0 : decide (0 < x10_1) = false := decide_eq_false c12
           clear c12
           have H' := Aside0.mk H
           clear H
           have p271 : 0 ≤ (x10_1 : Int) := of_decide_eq_true Hd.a_
           have q271 : x10_1 < (l0.length : Int) := of_decide_eq_true Hd.a_
           obtain ⟨ad271, e271, hx271_0, hx271_1, hx271_2, hx271_3⟩ := at_T77 HR0.out x10_1 p271 q271
           cases e271
           replace hx271_0 := (HB.out.cell (World.block_lt_of_cell? w _ hx271_0)).trans hx271_0
           replace hx271_1 := (HB.out.cell (World.block_lt_of_cell? w _ hx271_1)).trans hx271_1
           replace hx271_2 := (HB.out.cell (World.block_lt_of_cell? w _ hx271_2)).trans hx271_2
           replace hx271_3 := (HB.out.cell (World.block_lt_of_cell? w _ hx271_3)).trans hx271_3
           replace p271 := eq_true p271
           replace q271 := eq_true q271
           try go_wp2_with (first | ((with_reducible refine gate_dst (N := 4) rfl ?_); refine Hd.box_ 4 (#[.int .i64 0, .int .i64 0, .int .i64 0, .int .i64 0]) 77 ?_; intro gb272 hg w27 hbox hb; have BK272 := Aside0.mk (hbox); have GW272 := Aside0.mk ((Hd.g_ hg Hd.b_ : w.heap.size ≤ gb272)); have GE272 := Aside0.mk ((Hd.g_ hg Hd.b_ : w.heap.size ≤ gb272)); replace HB := Aside0.mk (below_step Hd.b_ hb); clear hb hbox hg; obtain ⟨hcz28_0, hcz28_1, hcz28_2, hcz28_3⟩ := Hd.c4_ BK272.out; obtain ⟨hfz28_0, hfz28_1, hfz28_2, hfz28_3⟩ := Hd.f4_ BK272.out))
           have n0_ : Aside0 (((((w27.setCell ⟨gb272, 0, none⟩ (.int .i64 ((rd_T77 l0 x10_1).f0))).setCell ⟨gb272, 1, none⟩ (.int .i64 ((rd_T77 l0 x10_1).f1.f0))).setCell ⟨gb272, 2, none⟩ (.int .i64 ((rd_T77 l0 x10_1).f1.f1))).setCell ⟨gb272, 3, none⟩ (.int .i64 ((rd_T77 l0 x10_1).f2))).heap[gb272]? = some (.cells #[.int .i64 ((rd_T77 l0 x10_1).f0), .int .i64 ((rd_T77 l0 x10_1).f1.f0), .int .i64 ((rd_T77 l0 x10_1).f1.f1), .int .i64 ((rd_T77 l0 x10_1).f2)] 77 (0, 0))) := ⟨by (with_reducible repeat (first | refine blk_drewN ?_ _ | refine blk_drew ?_ | refine blk_alloc ?_ _)); refine blk_put (cs := #[.int .i64 ((rd_T77 l0 x10_1).f0), .int .i64 ((rd_T77 l0 x10_1).f1.f0), .int .i64 ((rd_T77 l0 x10_1).f1.f1), .int .i64 0]) ?_ 3 _ rfl; (with_reducible repeat (first | refine blk_drewN ?_ _ | refine blk_drew ?_ | refine blk_alloc ?_ _)); refine blk_put (cs := #[.int .i64 ((rd_T77 l0 x10_1).f0), .int .i64 ((rd_T77 l0 x10_1).f1.f0), .int .i64 0, .int .i64 0]) ?_ 2 _ rfl; (with_reducible repeat (first | refine blk_drewN ?_ _ | refine blk_drew ?_ | refine blk_alloc ?_ _)); refine blk_put (cs := #[.int .i64 ((rd_T77 l0 x10_1).f0), .int .i64 0, .int .i64 0, .int .i64 0]) ?_ 1 _ rfl; (with_reducible repeat (first | refine blk_drewN ?_ _ | refine blk_drew ?_ | refine blk_alloc ?_ _)); refine blk_put (cs := #[.int .i64 0, .int .i64 0, .int .i64 0, .int .i64 0]) ?_ 0 _ rfl; (with_reducible repeat (first | refine blk_drewN ?_ _ | refine blk_drew ?_ | refine blk_alloc ?_ _)); exact BK272.out⟩
           have n1_ : Aside0 (Below w.heap.size w ((((w27.setCell ⟨gb272, 0, none⟩ (.int .i64 ((rd_T77 l0 x10_1).f0))).setCell ⟨gb272, 1, none⟩ (.int .i64 ((rd_T77 l0 x10_1).f1.f0))).setCell ⟨gb272, 2, none⟩ (.int .i64 ((rd_T77 l0 x10_1).f1.f1))).setCell ⟨gb272, 3, none⟩ (.int .i64 ((rd_T77 l0 x10_1).f2)))) := ⟨Hd.b_⟩
           (try clear BK272)
           (try clear HB)
           generalize ((((w27.setCell ⟨gb272, 0, none⟩ (.int .i64 ((rd_T77 l0 x10_1).f0))).setCell ⟨gb272, 1, none⟩ (.int .i64 ((rd_T77 l0 x10_1).f1.f0))).setCell ⟨gb272, 2, none⟩ (.int .i64 ((rd_T77 l0 x10_1).f1.f1))).setCell ⟨gb272, 3, none⟩ (.int .i64 ((rd_T77 l0 x10_1).f2))) = w29 at n0_ n1_ ⊢
           have BK272 := n0_
           have HB := n1_
           clear n0_ n1_
           replace BK272 := Aside0.mk (blk_drew BK272.out)
           replace HB := Aside0.mk (below_drew1 HB.out)
           obtain ⟨s0_, s1_, s2_, s3_⟩ := Hd.HW.k4 (W0 := w29.drew) BK272
           refine Hd.HW.region (by kernel_rfl) (by kernel_rfl) ?_
           try dsimp only [List.append]
           repeat (go_big_quiet_step ((first | (go_at_call 98; with_reducible exact Hd.HW.d (impl_InRange.calls ((rd_T77 l0 x10_1).f0) 1 99 true _ A6.out)) | (go_at_call 97; with_reducible exact Hd.HW.c (impl_IsPoint.calls ((rd_T77 l0 x10_1).f1.f0) ((rd_T77 l0 x10_1).f1.f1) true _ A8.out)) | (go_at_call 98; with_reducible exact Hd.HW.d (impl_InRange.calls ((rd_T77 l0 x10_1).f2) 0 9 true _ A10.out)))))
           refine wpQuiet_nil ?_
           intro _ hq_
           obtain ⟨q_, rfl⟩ := hq_
           clear s0_ s1_ s2_ s3_
           replace BK272 := Aside0.mk (blk_below BK272.out q_.b)
           replace HB := Aside0.mk (below_step HB.out q_.b)
           generalize q_.W = w31 at BK272 HB ⊢
           try simp only [i64_w, i32_w]
           try go_wp2
           go_roundg k1
           case measure => have := HK1.out; omega
           case rel => exact ⟨(wrap64 (x10_1 + 1)), (by first | rfl | (simp; done) | (simp [*]; done)), H', ⟨by have := HK1.out; omega⟩, ⟨Hd.b_⟩⟩
         ·
          replace c11 := Bool.eq_false_iff.mpr c11
          subst c11
          have H1 : (some false) = some r := by rw [if_neg (show ¬ (false = true) by decide)] at H; exact H
          clear H
          have H := H1
          clear H1
          obtain rfl := Option.some.inj H
          have p271 : 0 ≤ (x10_1 : Int) := of_decide_eq_true Hd.a_
          have q271 : x10_1 < (l0.length : Int) := of_decide_eq_true Hd.a_
          obtain ⟨ad271, e271, hx271_0, hx271_1, hx271_2, hx271_3⟩ := at_T77 HR0.out x10_1 p271 q271
          cases e271
          replace hx271_0 := (HB.out.cell (World.block_lt_of_cell? w _ hx271_0)).trans hx271_0
          replace hx271_1 := (HB.out.cell (World.block_lt_of_cell? w _ hx271_1)).trans hx271_1
          replace hx271_2 := (HB.out.cell (World.block_lt_of_cell? w _ hx271_2)).trans hx271_2
          replace hx271_3 := (HB.out.cell (World.block_lt_of_cell? w _ hx271_3)).trans hx271_3
          replace p271 := eq_true p271
          replace q271 := eq_true q271
          try go_wp2_with (first | ((with_reducible refine gate_dst (N := 4) rfl ?_); refine Hd.box_ 4 (#[.int .i64 0, .int .i64 0, .int .i64 0, .int .i64 0]) 77 ?_; intro gb272 hg w32 hbox hb; have BK272 := Aside0.mk (hbox); have GW272 := Aside0.mk ((Hd.g_ hg Hd.b_ : w.heap.size ≤ gb272)); have GE272 := Aside0.mk ((Hd.g_ hg Hd.b_ : w.heap.size ≤ gb272)); replace HB := Aside0.mk (below_step Hd.b_ hb); clear hb hbox hg; obtain ⟨hcz33_0, hcz33_1, hcz33_2, hcz33_3⟩ := Hd.c4_ BK272.out; obtain ⟨hfz33_0, hfz33_1, hfz33_2, hfz33_3⟩ := Hd.f4_ BK272.out))
          have n0_ : Aside0 (((((w32.setCell ⟨gb272, 0, none⟩ (.int .i64 ((rd_T77 l0 x10_1).f0))).setCell ⟨gb272, 1, none⟩ (.int .i64 ((rd_T77 l0 x10_1).f1.f0))).setCell ⟨gb272, 2, none⟩ (.int .i64 ((rd_T77 l0 x10_1).f1.f1))).setCell ⟨gb272, 3, none⟩ (.int .i64 ((rd_T77 l0 x10_1).f2))).heap[gb272]? = some (.cells #[.int .i64 ((rd_T77 l0 x10_1).f0), .int .i64 ((rd_T77 l0 x10_1).f1.f0), .int .i64 ((rd_T77 l0 x10_1).f1.f1), .int .i64 ((rd_T77 l0 x10_1).f2)] 77 (0, 0))) := ⟨by (with_reducible repeat (first | refine blk_drewN ?_ _ | refine blk_drew ?_ | refine blk_alloc ?_ _)); refine blk_put (cs := #[.int .i64 ((rd_T77 l0 x10_1).f0), .int .i64 ((rd_T77 l0 x10_1).f1.f0), .int .i64 ((rd_T77 l0 x10_1).f1.f1), .int .i64 0]) ?_ 3 _ rfl; (with_reducible repeat (first | refine blk_drewN ?_ _ | refine blk_drew ?_ | refine blk_alloc ?_ _)); refine blk_put (cs := #[.int .i64 ((rd_T77 l0 x10_1).f0), .int .i64 ((rd_T77 l0 x10_1).f1.f0), .int .i64 0, .int .i64 0]) ?_ 2 _ rfl; (with_reducible repeat (first | refine blk_drewN ?_ _ | refine blk_drew ?_ | refine blk_alloc ?_ _)); refine blk_put (cs := #[.int .i64 ((rd_T77 l0 x10_1).f0), .int .i64 0, .int .i64 0, .int .i64 0]) ?_ 1 _ rfl; (with_reducible repeat (first | refine blk_drewN ?_ _ | refine blk_drew ?_ | refine blk_alloc ?_ _)); refine blk_put (cs := #[.int .i64 0, .int .i64 0, .int .i64 0, .int .i64 0]) ?_ 0 _ rfl; (with_reducible repeat (first | refine blk_drewN ?_ _ | refine blk_drew ?_ | refine blk_alloc ?_ _)); exact BK272.out⟩
          have n1_ : Aside0 (Below w.heap.size w ((((w32.setCell ⟨gb272, 0, none⟩ (.int .i64 ((rd_T77 l0 x10_1).f0))).setCell ⟨gb272, 1, none⟩ (.int .i64 ((rd_T77 l0 x10_1).f1.f0))).setCell ⟨gb272, 2, none⟩ (.int .i64 ((rd_T77 l0 x10_1).f1.f1))).setCell ⟨gb272, 3, none⟩ (.int .i64 ((rd_T77 l0 x10_1).f2)))) := ⟨Hd.b_⟩
          (try clear BK272)
          (try clear HB)
          generalize ((((w32.setCell ⟨gb272, 0, none⟩ (.int .i64 ((rd_T77 l0 x10_1).f0))).setCell ⟨gb272, 1, none⟩ (.int .i64 ((rd_T77 l0 x10_1).f1.f0))).setCell ⟨gb272, 2, none⟩ (.int .i64 ((rd_T77 l0 x10_1).f1.f1))).setCell ⟨gb272, 3, none⟩ (.int .i64 ((rd_T77 l0 x10_1).f2))) = w34 at n0_ n1_ ⊢
          have BK272 := n0_
          have HB := n1_
          clear n0_ n1_
          replace BK272 := Aside0.mk (blk_drew BK272.out)
          replace HB := Aside0.mk (below_drew1 HB.out)
          obtain ⟨s0_, s1_, s2_, s3_⟩ := Hd.HW.k4 (W0 := w34.drew) BK272
          refine Hd.HW.region (by kernel_rfl) (by kernel_rfl) ?_
          try dsimp only [List.append]
          repeat (go_big_quiet_step ((first | (go_at_call 98; with_reducible exact Hd.HW.d (impl_InRange.calls ((rd_T77 l0 x10_1).f0) 1 99 true _ A6.out)) | (go_at_call 97; with_reducible exact Hd.HW.c (impl_IsPoint.calls ((rd_T77 l0 x10_1).f1.f0) ((rd_T77 l0 x10_1).f1.f1) true _ A8.out)) | (go_at_call 98; with_reducible exact Hd.HW.d (impl_InRange.calls ((rd_T77 l0 x10_1).f2) 0 9 false _ A10.out)))))
          refine wpQuiet_nil ?_
          intro _ hq_
          obtain ⟨q_, rfl⟩ := hq_
          clear s0_ s1_ s2_ s3_
          replace BK272 := Aside0.mk (blk_below BK272.out q_.b)
          replace HB := Aside0.mk (below_step HB.out q_.b)
          generalize q_.W = w36 at BK272 HB ⊢
          try simp only [i64_w, i32_w]
          try go_wp2
          go_ret
          exact ⟨Hd.e_, Hd.b_⟩
        ·
         replace c9 := Bool.eq_false_iff.mpr c9
         subst c9
         have H1 : (some false) = some r := by rw [if_neg (show ¬ (false = true) by decide)] at H; exact H
         clear H
         have H := H1
         clear H1
         obtain rfl := Option.some.inj H
         have p271 : 0 ≤ (x10_1 : Int) := of_decide_eq_true Hd.a_
         have q271 : x10_1 < (l0.length : Int) := of_decide_eq_true Hd.a_
         obtain ⟨ad271, e271, hx271_0, hx271_1, hx271_2, hx271_3⟩ := at_T77 HR0.out x10_1 p271 q271
         cases e271
         replace hx271_0 := (HB.out.cell (World.block_lt_of_cell? w _ hx271_0)).trans hx271_0
         replace hx271_1 := (HB.out.cell (World.block_lt_of_cell? w _ hx271_1)).trans hx271_1
         replace hx271_2 := (HB.out.cell (World.block_lt_of_cell? w _ hx271_2)).trans hx271_2
         replace hx271_3 := (HB.out.cell (World.block_lt_of_cell? w _ hx271_3)).trans hx271_3
         replace p271 := eq_true p271
         replace q271 := eq_true q271
         try go_wp2_with (first | ((with_reducible refine gate_dst (N := 4) rfl ?_); refine Hd.box_ 4 (#[.int .i64 0, .int .i64 0, .int .i64 0, .int .i64 0]) 77 ?_; intro gb272 hg w37 hbox hb; have BK272 := Aside0.mk (hbox); have GW272 := Aside0.mk ((Hd.g_ hg Hd.b_ : w.heap.size ≤ gb272)); have GE272 := Aside0.mk ((Hd.g_ hg Hd.b_ : w.heap.size ≤ gb272)); replace HB := Aside0.mk (below_step Hd.b_ hb); clear hb hbox hg; obtain ⟨hcz38_0, hcz38_1, hcz38_2, hcz38_3⟩ := Hd.c4_ BK272.out; obtain ⟨hfz38_0, hfz38_1, hfz38_2, hfz38_3⟩ := Hd.f4_ BK272.out))
         have n0_ : Aside0 (((((w37.setCell ⟨gb272, 0, none⟩ (.int .i64 ((rd_T77 l0 x10_1).f0))).setCell ⟨gb272, 1, none⟩ (.int .i64 ((rd_T77 l0 x10_1).f1.f0))).setCell ⟨gb272, 2, none⟩ (.int .i64 ((rd_T77 l0 x10_1).f1.f1))).setCell ⟨gb272, 3, none⟩ (.int .i64 ((rd_T77 l0 x10_1).f2))).heap[gb272]? = some (.cells #[.int .i64 ((rd_T77 l0 x10_1).f0), .int .i64 ((rd_T77 l0 x10_1).f1.f0), .int .i64 ((rd_T77 l0 x10_1).f1.f1), .int .i64 ((rd_T77 l0 x10_1).f2)] 77 (0, 0))) := ⟨by (with_reducible repeat (first | refine blk_drewN ?_ _ | refine blk_drew ?_ | refine blk_alloc ?_ _)); refine blk_put (cs := #[.int .i64 ((rd_T77 l0 x10_1).f0), .int .i64 ((rd_T77 l0 x10_1).f1.f0), .int .i64 ((rd_T77 l0 x10_1).f1.f1), .int .i64 0]) ?_ 3 _ rfl; (with_reducible repeat (first | refine blk_drewN ?_ _ | refine blk_drew ?_ | refine blk_alloc ?_ _)); refine blk_put (cs := #[.int .i64 ((rd_T77 l0 x10_1).f0), .int .i64 ((rd_T77 l0 x10_1).f1.f0), .int .i64 0, .int .i64 0]) ?_ 2 _ rfl; (with_reducible repeat (first | refine blk_drewN ?_ _ | refine blk_drew ?_ | refine blk_alloc ?_ _)); refine blk_put (cs := #[.int .i64 ((rd_T77 l0 x10_1).f0), .int .i64 0, .int .i64 0, .int .i64 0]) ?_ 1 _ rfl; (with_reducible repeat (first | refine blk_drewN ?_ _ | refine blk_drew ?_ | refine blk_alloc ?_ _)); refine blk_put (cs := #[.int .i64 0, .int .i64 0, .int .i64 0, .int .i64 0]) ?_ 0 _ rfl; (with_reducible repeat (first | refine blk_drewN ?_ _ | refine blk_drew ?_ | refine blk_alloc ?_ _)); exact BK272.out⟩
         have n1_ : Aside0 (Below w.heap.size w ((((w37.setCell ⟨gb272, 0, none⟩ (.int .i64 ((rd_T77 l0 x10_1).f0))).setCell ⟨gb272, 1, none⟩ (.int .i64 ((rd_T77 l0 x10_1).f1.f0))).setCell ⟨gb272, 2, none⟩ (.int .i64 ((rd_T77 l0 x10_1).f1.f1))).setCell ⟨gb272, 3, none⟩ (.int .i64 ((rd_T77 l0 x10_1).f2)))) := ⟨Hd.b_⟩
         (try clear BK272)
         (try clear HB)
         generalize ((((w37.setCell ⟨gb272, 0, none⟩ (.int .i64 ((rd_T77 l0 x10_1).f0))).setCell ⟨gb272, 1, none⟩ (.int .i64 ((rd_T77 l0 x10_1).f1.f0))).setCell ⟨gb272, 2, none⟩ (.int .i64 ((rd_T77 l0 x10_1).f1.f1))).setCell ⟨gb272, 3, none⟩ (.int .i64 ((rd_T77 l0 x10_1).f2))) = w39 at n0_ n1_ ⊢
         have BK272 := n0_
         have HB := n1_
         clear n0_ n1_
         replace BK272 := Aside0.mk (blk_drew BK272.out)
         replace HB := Aside0.mk (below_drew1 HB.out)
         obtain ⟨s0_, s1_, s2_, s3_⟩ := Hd.HW.k4 (W0 := w39.drew) BK272
         refine Hd.HW.region (by kernel_rfl) (by kernel_rfl) ?_
         try dsimp only [List.append]
         repeat (go_big_quiet_step ((first | (go_at_call 98; with_reducible exact Hd.HW.d (impl_InRange.calls ((rd_T77 l0 x10_1).f0) 1 99 true _ A6.out)) | (go_at_call 97; with_reducible exact Hd.HW.c (impl_IsPoint.calls ((rd_T77 l0 x10_1).f1.f0) ((rd_T77 l0 x10_1).f1.f1) false _ A8.out)))))
         refine wpQuiet_nil ?_
         intro _ hq_
         obtain ⟨q_, rfl⟩ := hq_
         clear s0_ s1_ s2_ s3_
         replace BK272 := Aside0.mk (blk_below BK272.out q_.b)
         replace HB := Aside0.mk (below_step HB.out q_.b)
         generalize q_.W = w41 at BK272 HB ⊢
         try simp only [i64_w, i32_w]
         try go_wp2
         go_ret
         exact ⟨Hd.e_, Hd.b_⟩
       ·
        replace c7 := Bool.eq_false_iff.mpr c7
        subst c7
        have H1 : (some false) = some r := by rw [if_neg (show ¬ (false = true) by decide)] at H; exact H
        clear H
        have H := H1
        clear H1
        obtain rfl := Option.some.inj H
        have p271 : 0 ≤ (x10_1 : Int) := of_decide_eq_true Hd.a_
        have q271 : x10_1 < (l0.length : Int) := of_decide_eq_true Hd.a_
        obtain ⟨ad271, e271, hx271_0, hx271_1, hx271_2, hx271_3⟩ := at_T77 HR0.out x10_1 p271 q271
        cases e271
        replace hx271_0 := (HB.out.cell (World.block_lt_of_cell? w _ hx271_0)).trans hx271_0
        replace hx271_1 := (HB.out.cell (World.block_lt_of_cell? w _ hx271_1)).trans hx271_1
        replace hx271_2 := (HB.out.cell (World.block_lt_of_cell? w _ hx271_2)).trans hx271_2
        replace hx271_3 := (HB.out.cell (World.block_lt_of_cell? w _ hx271_3)).trans hx271_3
        replace p271 := eq_true p271
        replace q271 := eq_true q271
        try go_wp2_with (first | ((with_reducible refine gate_dst (N := 4) rfl ?_); refine Hd.box_ 4 (#[.int .i64 0, .int .i64 0, .int .i64 0, .int .i64 0]) 77 ?_; intro gb272 hg w42 hbox hb; have BK272 := Aside0.mk (hbox); have GW272 := Aside0.mk ((Hd.g_ hg Hd.b_ : w.heap.size ≤ gb272)); have GE272 := Aside0.mk ((Hd.g_ hg Hd.b_ : w.heap.size ≤ gb272)); replace HB := Aside0.mk (below_step Hd.b_ hb); clear hb hbox hg; obtain ⟨hcz43_0, hcz43_1, hcz43_2, hcz43_3⟩ := Hd.c4_ BK272.out; obtain ⟨hfz43_0, hfz43_1, hfz43_2, hfz43_3⟩ := Hd.f4_ BK272.out))
        have n0_ : Aside0 (((((w42.setCell ⟨gb272, 0, none⟩ (.int .i64 ((rd_T77 l0 x10_1).f0))).setCell ⟨gb272, 1, none⟩ (.int .i64 ((rd_T77 l0 x10_1).f1.f0))).setCell ⟨gb272, 2, none⟩ (.int .i64 ((rd_T77 l0 x10_1).f1.f1))).setCell ⟨gb272, 3, none⟩ (.int .i64 ((rd_T77 l0 x10_1).f2))).heap[gb272]? = some (.cells #[.int .i64 ((rd_T77 l0 x10_1).f0), .int .i64 ((rd_T77 l0 x10_1).f1.f0), .int .i64 ((rd_T77 l0 x10_1).f1.f1), .int .i64 ((rd_T77 l0 x10_1).f2)] 77 (0, 0))) := ⟨by (with_reducible repeat (first | refine blk_drewN ?_ _ | refine blk_drew ?_ | refine blk_alloc ?_ _)); refine blk_put (cs := #[.int .i64 ((rd_T77 l0 x10_1).f0), .int .i64 ((rd_T77 l0 x10_1).f1.f0), .int .i64 ((rd_T77 l0 x10_1).f1.f1), .int .i64 0]) ?_ 3 _ rfl; (with_reducible repeat (first | refine blk_drewN ?_ _ | refine blk_drew ?_ | refine blk_alloc ?_ _)); refine blk_put (cs := #[.int .i64 ((rd_T77 l0 x10_1).f0), .int .i64 ((rd_T77 l0 x10_1).f1.f0), .int .i64 0, .int .i64 0]) ?_ 2 _ rfl; (with_reducible repeat (first | refine blk_drewN ?_ _ | refine blk_drew ?_ | refine blk_alloc ?_ _)); refine blk_put (cs := #[.int .i64 ((rd_T77 l0 x10_1).f0), .int .i64 0, .int .i64 0, .int .i64 0]) ?_ 1 _ rfl; (with_reducible repeat (first | refine blk_drewN ?_ _ | refine blk_drew ?_ | refine blk_alloc ?_ _)); refine blk_put (cs := #[.int .i64 0, .int .i64 0, .int .i64 0, .int .i64 0]) ?_ 0 _ rfl; (with_reducible repeat (first | refine blk_drewN ?_ _ | refine blk_drew ?_ | refine blk_alloc ?_ _)); exact BK272.out⟩
        have n1_ : Aside0 (Below w.heap.size w ((((w42.setCell ⟨gb272, 0, none⟩ (.int .i64 ((rd_T77 l0 x10_1).f0))).setCell ⟨gb272, 1, none⟩ (.int .i64 ((rd_T77 l0 x10_1).f1.f0))).setCell ⟨gb272, 2, none⟩ (.int .i64 ((rd_T77 l0 x10_1).f1.f1))).setCell ⟨gb272, 3, none⟩ (.int .i64 ((rd_T77 l0 x10_1).f2)))) := ⟨Hd.b_⟩
        (try clear BK272)
        (try clear HB)
        generalize ((((w42.setCell ⟨gb272, 0, none⟩ (.int .i64 ((rd_T77 l0 x10_1).f0))).setCell ⟨gb272, 1, none⟩ (.int .i64 ((rd_T77 l0 x10_1).f1.f0))).setCell ⟨gb272, 2, none⟩ (.int .i64 ((rd_T77 l0 x10_1).f1.f1))).setCell ⟨gb272, 3, none⟩ (.int .i64 ((rd_T77 l0 x10_1).f2))) = w44 at n0_ n1_ ⊢
        have BK272 := n0_
        have HB := n1_
        clear n0_ n1_
        replace BK272 := Aside0.mk (blk_drew BK272.out)
        replace HB := Aside0.mk (below_drew1 HB.out)
        obtain ⟨s0_, s1_, s2_, s3_⟩ := Hd.HW.k4 (W0 := w44.drew) BK272
        refine Hd.HW.region (by kernel_rfl) (by kernel_rfl) ?_
        try dsimp only [List.append]
        repeat (go_big_quiet_step ((first | (go_at_call 98; with_reducible exact Hd.HW.d (impl_InRange.calls ((rd_T77 l0 x10_1).f0) 1 99 false _ A6.out)))))
        refine wpQuiet_nil ?_
        intro _ hq_
        obtain ⟨q_, rfl⟩ := hq_
        clear s0_ s1_ s2_ s3_
        replace BK272 := Aside0.mk (blk_below BK272.out q_.b)
        replace HB := Aside0.mk (below_step HB.out q_.b)
        generalize q_.W = w45 at BK272 HB ⊢
        try simp only [i64_w, i32_w]
        try go_wp2
        go_ret
        exact ⟨Hd.e_, Hd.b_⟩
      ·
       rw [if_neg c5] at H
       exact absurd H (by simp)
     ·
      rw [if_neg c4] at H
      exact absurd H (by simp)
    ·
     rw [if_neg c3] at H
     have c3b0 : decide (x10_1 < (l0.length : Int)) = false := decide_eq_false c3
     clear c3
     obtain rfl := Option.some.inj H
     go_wp2
     go_ret
     exact ⟨Hd.e_, Hd.b_⟩
def impl_Place_135.f (l0 : List (S77)) : Option ((List (S77))) := (some (([] : List (S77)) : List (S77))).bind fun y277 => (if y277.length + l0.length < 4398046511104 then (some (y277 ++ l0)) else (none))
theorem impl_Place_135.eqnil (W : World) (a : Option Addr) (l c : Nat) : (binOp .eql 61 (.slice a l c) (.slice none 0 0)).run Try.prog W = .ok (.bool a.isNone) W := by
  cases a <;> kernel_rfl
attribute [local go_sem] impl_Place_135.eqnil
set_option maxHeartbeats 8000000 in
set_option maxRecDepth 100000 in
theorem impl_Place_135.calls (A0 : Option Addr) (c0 : Nat) (l0 : List (S77)) (r : List (S77)) (w : World) (hr0 : Kd.C k77 w A0 l0.length l0) (hc0 : l0.length ≤ c0) (h : impl_Place_135.f l0 = some r) :
    Calls Try.prog 135 #[.slice A0 l0.length c0] w fun e w' => ∃ v0_ : Value, e = .returned (v0_) ∧ Kd.R k77 77 w' w.heap.size (fun _ => True) v0_ r ∧ Below w.heap.size w w' := by
  cases A0
  case none =>
    have hl : l0 = [] := by
      obtain ⟨_, _, h3⟩ := hr0
      cases l0 with
      | nil => rfl
      | cons a l => obtain ⟨ad, e, _⟩ := h3 (by simp); cases e
    subst hl
    have hr : r = [] := by simp [impl_Place_135.f] at h; exact h
    subst hr
    go_enter Try.func135, Try.ntmps135
    go_wp2
    go_ret
    exact ⟨_, rfl, Kd.R_nil _ _ _ _ _, by repeat (first | exact Below.refl _ _ | apply below_alloc | apply pw_below_drewN | apply below_drew1)⟩
  have HR0 := Aside0.mk hr0
  have HC0 := Aside0.mk hc0
  clear hr0 hc0
  have HB := Aside0.mk (Below.refl w.heap.size w)
  have H : ((some (([] : List (S77)) : List (S77))).bind fun y277 => (if y277.length + l0.length < 4398046511104 then (some (y277 ++ l0)) else (none))) = some r := h
  clear h
  obtain ⟨y277, hy277⟩ : ∃ y_ : List (S77), y_ = (([] : List (S77))) := ⟨_, rfl⟩
  replace H : (if y277.length + l0.length < 4398046511104 then (some (y277 ++ l0)) else (none)) = some r := by first | (rw [hy277]; with_reducible exact H) | (have H2_ := (Option.bind_some _ _).symm.trans H; rw [hy277]; with_reducible exact H2_) | (have H2_ := (Option.bind_some _ _).symm.trans H; with_reducible exact H2_) | with_reducible exact H | (rw [hy277]; exact H) | exact H
  have Ny277 := Aside0.mk hy277
  clear hy277
  by_cases c2 : y277.length + l0.length < 4398046511104
  · rw [if_pos c2] at H
    have LMc2 := Aside0.mk c2
    clear c2
    obtain ⟨y280, hy280⟩ : ∃ y_ : List (S77), y_ = (y277 ++ l0) := ⟨_, rfl⟩
    replace H : (some y280) = some r := by first | (rw [hy280]; with_reducible exact H) | (have H2_ := (Option.bind_some _ _).symm.trans H; rw [hy280]; with_reducible exact H2_) | (have H2_ := (Option.bind_some _ _).symm.trans H; with_reducible exact H2_) | with_reducible exact H | (rw [hy280]; exact H) | exact H
    have Ny280 := Aside0.mk hy280
    clear hy280
    obtain rfl := Option.some.inj H
    go_enter Try.func135, Try.ntmps135
    go_wp2_with (first | ((with_reducible refine gate_dst (N := 5) rfl ?_); refine Kd.R_lit k77 _ 77 ?hg (N := 5) ?hd (xs := ([] : List (S77))) (inner := []) (ok := fun _ => True) (okp := fun _ => True) ?hr ?hp (fun _ hk => hk) trivial (Below.refl _ _) (Nat.le_refl _) (by simp) ?_; (case hd => rfl); (case hg => rfl); (case hr => first | (go_simp; done) | (go_simp; rfl)); (case hp => exact (Reps.none _ _)); intro v278 w3 ho4 hb hg_ hnew_; clear hg_ hnew_; (first | rw [← Ny277.out] at ho4 | (simp only [Int.reduceToNat] at ho4; rw [← Ny277.out] at ho4)); have n0_ := Aside0.mk (Kd.R_lower ho4 (below_size (by repeat (first | (with_reducible first | exact HB.out | apply below_alloc | apply pw_below_drewN | apply below_drew1) | exact HB.out)))); have n1_ := Aside0.mk (below_step (by repeat (first | (with_reducible first | exact HB.out | apply below_alloc | apply pw_below_drewN | apply below_drew1) | exact HB.out)) hb); clear HB; have HO279 := n0_; have HB := n1_; clear n0_ n1_; clear hb ho4) | ((with_reducible refine gate_builtin (b := .append) (xs := #[.tmp 5, .tmp 6]) rfl ?_); at_builtin; refine Kd.R_append_rows k77 (w0 := w) w.heap.size rfl (.tmp 5) (.tmp 6) 61 77 (.agg #[(.int .i64 0), (.int .i64 0), (.int .i64 0), (.int .i64 0)]) 32 rfl Try.underlying61 info77 rfl (by decide) (by omega) v278 y277 l0 _ _ _ (fun _ => True) (fun _ => False) rfl rfl ?aO ?aR (fun _ _ h => h) (fun _ h => h.elim) ?aF ?aB ?aS ?aL ?_; (case aR => repeat (first | exact (Kd.C_below HR0.out HB.out) | (with_reducible refine Kd.C_alloc ?_ _) | (with_reducible refine Kd.C_drewN ?_ _) | (with_reducible refine Kd.C_drew ?_))); (case aB => exact (by repeat (first | (with_reducible first | exact HB.out | apply below_alloc | apply pw_below_drewN | apply below_drew1) | exact HB.out))); (case aF => exact (fun _ _ => trivial)); (case aO => exact (by (with_reducible repeat (first | apply Kd.R_alloc | apply Kd.R_drewN | apply Kd.R_drew)); exact HO279.out)); (case aS => exact (below_size (by repeat (first | (with_reducible first | exact HB.out | apply below_alloc | apply pw_below_drewN | apply below_drew1) | exact HB.out)))); (case aL => have := LMc2.out; omega); intro v281 w5 ho hb hg hat; rw [← Ny280.out] at ho; have n0_ := Aside0.mk (hb); have n1_ := Aside0.mk (ho); clear HB; clear HO279; have HB := n0_; have HO282 := n1_; clear n0_ n1_; clear ho hb hg hat))
    go_ret
    exact ⟨_, by first | rfl | (simp [errW_none, errW_some] <;> rfl) | (simp [*, errW_none, errW_some] <;> rfl), by (with_reducible repeat (first | apply Kd.R_alloc | apply Kd.R_drewN | apply Kd.R_drew)); exact HO282.out, by repeat (first | (with_reducible first | exact HB.out | apply below_alloc | apply pw_below_drewN | apply below_drew1) | exact HB.out)⟩
  · rw [if_neg c2] at H
    exact absurd H (by simp)
def impl_fromAbove.enc (x : S77) : List Value := [.int .i64 x.f0, .int .i64 x.f1.f0, .int .i64 x.f1.f1, .int .i64 x.f2]
def impl_fromAbove.up (x y : S77) : Bool := if x.f2 > y.f2 then true else if x.f2 = y.f2 then decide (x.f0 < y.f0) else false
def impl_fromAbove.cf (x y : S77) : Int := if impl_fromAbove.up x y = true then -1 else if impl_fromAbove.up y x = true then 1 else 0
theorem impl_fromAbove.abv (x y : S77) (W : World) : Calls Try.prog 50 #[.agg #[.int .i64 x.f0, .int .i64 x.f1.f0, .int .i64 x.f1.f1, .int .i64 x.f2], .agg #[.int .i64 y.f0, .int .i64 y.f1.f0, .int .i64 y.f1.f1, .int .i64 y.f2]] W fun e w' => e = .returned (.bool (impl_fromAbove.up x y)) ∧ ∃ q os', w' = Go.Sort.grow (W.drewN q) os' := by
  obtain ⟨x0, ⟨x1, x2⟩, x3⟩ := x
  obtain ⟨y0, ⟨y1, y2⟩, y3⟩ := y
  unfold impl_fromAbove.up
  dsimp only
  by_cases c3 : x3 > y3
  · rw [if_pos c3]
    have c3b0 : decide (y3 < x3) = true := decide_eq_true c3
    clear c3
    go_enter Try.func50, Try.ntmps50
    go_wp2
    go_ret
    exact ⟨rfl, 0, _, by rw [Go.Sort.alloc_eq_grow, Go.Sort.alloc_eq_grow, Go.Sort.grow_grow]; rfl⟩
  · rw [if_neg c3]
    have c3b0 : decide (y3 < x3) = false := decide_eq_false c3
    clear c3
    by_cases c9 : x3 = y3
    · rw [if_pos c9]
      have c9b0 : (x3 == y3) = true := beq_iff_eq.mpr c9
      clear c9
      go_enter Try.func50, Try.ntmps50
      go_wp2
      go_ret
      exact ⟨rfl, 0, _, by rw [Go.Sort.alloc_eq_grow, Go.Sort.alloc_eq_grow, Go.Sort.grow_grow]; rfl⟩
    · rw [if_neg c9]
      have c9b0 : (x3 == y3) = false := beq_eq_false_iff_ne.mpr c9
      clear c9
      go_enter Try.func50, Try.ntmps50
      go_wp2
      go_ret
      exact ⟨rfl, 0, _, by rw [Go.Sort.alloc_eq_grow, Go.Sort.alloc_eq_grow, Go.Sort.grow_grow]; rfl⟩
theorem impl_fromAbove.gg (W : World) (q : Nat) (os os' : Array Obj) : Go.Sort.grow ((Go.Sort.grow W os).drewN q) os' = Go.Sort.grow (W.drewN q) (os ++ os') := by
  show Go.Sort.grow (Go.Sort.grow (W.drewN q) os) os' = _
  rw [Go.Sort.grow_grow]
theorem impl_fromAbove.cel (x0 x1 x2 x3 y0 y1 y2 y3 : Value) (W : World) (q : Nat) (os : Array Obj) (W' : World) (hW : W' = Go.Sort.grow (((W.alloc (.cells #[x0, x1, x2, x3] 77)).alloc (.cells #[y0, y1, y2, y3] 77)).drewN q) os) :
    W'.cell? ⟨W.heap.size, 0, none⟩ = some x0 ∧ W'.cell? ⟨W.heap.size, 1, none⟩ = some x1 ∧ W'.cell? ⟨W.heap.size, 2, none⟩ = some x2 ∧ W'.cell? ⟨W.heap.size, 3, none⟩ = some x3 ∧ W'.cell? ⟨W.heap.size + 1, 0, none⟩ = some y0 ∧ W'.cell? ⟨W.heap.size + 1, 1, none⟩ = some y1 ∧ W'.cell? ⟨W.heap.size + 1, 2, none⟩ = some y2 ∧ W'.cell? ⟨W.heap.size + 1, 3, none⟩ = some y3 := by
  subst hW
  rw [Go.Sort.alloc_eq_grow, Go.Sort.alloc_eq_grow, Go.Sort.grow_grow, impl_fromAbove.gg]
  have h1 : (Go.Sort.grow (W.drewN q) (#[Obj.cells #[x0, x1, x2, x3] 77] ++ #[Obj.cells #[y0, y1, y2, y3] 77] ++ os)).heap[W.heap.size]? = some (.cells #[x0, x1, x2, x3] 77) := by
    show (W.heap ++ _)[_]? = _
    rw [Array.getElem?_append_right (by omega), Array.getElem?_append_left (by simp)]
    simp
  have h2 : (Go.Sort.grow (W.drewN q) (#[Obj.cells #[x0, x1, x2, x3] 77] ++ #[Obj.cells #[y0, y1, y2, y3] 77] ++ os)).heap[W.heap.size + 1]? = some (.cells #[y0, y1, y2, y3] 77) := by
    show (W.heap ++ _)[_]? = _
    rw [Array.getElem?_append_right (by omega), Array.getElem?_append_left (by simp)]
    simp
  exact ⟨blk_cell h1 0, blk_cell h1 1, blk_cell h1 2, blk_cell h1 3, blk_cell h2 0, blk_cell h2 1, blk_cell h2 2, blk_cell h2 3⟩
set_option maxHeartbeats 400000 in
set_option maxRecDepth 100000 in
theorem impl_fromAbove.clo (x y : S77) (W : World) : Calls Try.prog 137 #[.agg #[.int .i64 x.f0, .int .i64 x.f1.f0, .int .i64 x.f1.f1, .int .i64 x.f2], .agg #[.int .i64 y.f0, .int .i64 y.f1.f0, .int .i64 y.f1.f1, .int .i64 y.f2]] W fun e w' => e = .returned (.int .i64 (impl_fromAbove.cf x y)) ∧ ∃ q os', w' = Go.Sort.grow (W.drewN q) os' := by
  have h1 := impl_fromAbove.abv x y
  have h2 := impl_fromAbove.abv y x
  unfold impl_fromAbove.cf
  generalize impl_fromAbove.up x y = b1 at h1 ⊢
  generalize impl_fromAbove.up y x = b2 at h2 ⊢
  obtain ⟨x0, ⟨x1, x2⟩, x3⟩ := x
  obtain ⟨y0, ⟨y1, y2⟩, y3⟩ := y
  dsimp only at h1 h2 ⊢
  cases b1
  · cases b2
    · go_enter Try.func137, Try.ntmps137
      go_wp2_with (first | (go_at_call 50; with_reducible refine (h1 _).mono ?_; rintro e w1 ⟨rfl, q1, os1, hw1⟩; obtain ⟨d0, d1, d2, d3, d4, d5, d6, d7⟩ := impl_fromAbove.cel _ _ _ _ _ _ _ _ _ _ _ _ hw1; have HW1 := Aside0.mk hw1; clear hw1) | (go_at_call 50; with_reducible refine (h2 _).mono ?_; rintro e w2 ⟨rfl, q2, os2, hw2⟩; have HW2 := Aside0.mk hw2; clear hw2))
      go_ret
      exact ⟨rfl, q1 + q2, _, by rw [HW2.out, HW1.out, Go.Sort.alloc_eq_grow, Go.Sort.alloc_eq_grow, Go.Sort.grow_grow, impl_fromAbove.gg, World.drewN_drewN, impl_fromAbove.gg]⟩
    · go_enter Try.func137, Try.ntmps137
      go_wp2_with (first | (go_at_call 50; with_reducible refine (h1 _).mono ?_; rintro e w1 ⟨rfl, q1, os1, hw1⟩; obtain ⟨d0, d1, d2, d3, d4, d5, d6, d7⟩ := impl_fromAbove.cel _ _ _ _ _ _ _ _ _ _ _ _ hw1; have HW1 := Aside0.mk hw1; clear hw1) | (go_at_call 50; with_reducible refine (h2 _).mono ?_; rintro e w2 ⟨rfl, q2, os2, hw2⟩; have HW2 := Aside0.mk hw2; clear hw2))
      go_ret
      exact ⟨rfl, q1 + q2, _, by rw [HW2.out, HW1.out, Go.Sort.alloc_eq_grow, Go.Sort.alloc_eq_grow, Go.Sort.grow_grow, impl_fromAbove.gg, World.drewN_drewN, impl_fromAbove.gg]⟩
  · go_enter Try.func137, Try.ntmps137
    go_wp2_with (go_at_call 50; with_reducible refine (h1 _).mono ?_; rintro e w1 ⟨rfl, q1, os1, rfl⟩)
    go_ret
    exact ⟨rfl, q1, _, by rw [Go.Sort.alloc_eq_grow, Go.Sort.alloc_eq_grow, Go.Sort.grow_grow, impl_fromAbove.gg]⟩
def impl_fromAbove.ren : Go.Shelf.Ren := ⟨fun | 20 => 174 | n => n, fun | 24 => 77 | 22 => 61 | 3 => 3 | 25 => 149 | 4 => 4 | 0 => 0 | n => n, fun | n => n⟩
theorem impl_fromAbove.lay : Go.Proofs.SlLaysF0.n20 Try.prog impl_fromAbove.ren := {
  mixed := by kernel_rfl
  f20 := ⟨Try.f174.name, by decide, Try.func174.trans (congrArg some (by kernel_rfl))⟩
  t0 := Try.underlying0
  a0 := Try.isAgg0
  z0 := Try.sizeOf0
  v0 := Try.zeroValue0
  t3 := Try.underlying3
  a3 := Try.isAgg3
  z3 := Try.sizeOf3
  v3 := Try.zeroValue3
  t4 := Try.underlying4
  a4 := Try.isAgg4
  z4 := Try.sizeOf4
  v4 := Try.zeroValue4
  t22 := Try.underlying61
  a22 := Try.isAgg61
  z22 := Try.sizeOf61
  v22 := Try.zeroValue61
  t25 := Try.underlying149
  a25 := Try.isAgg149
  z25 := Try.sizeOf149
  v25 := Try.zeroValue149 }
theorem impl_fromAbove.stab (A : Option Addr) (n c : Nat) (W : World) (Q : World → Prop) (hn : n ≤ 16)
    (h : Calls Try.prog 174 #[.slice A n c, .int .i64 0, .int .i64 n, .func (.func 137) #[] #[]] W fun e w' => e = .returned (.tuple #[]) ∧ Q w') :
    Calls Try.prog 163 #[.slice A n c, .int .i64 n, .func (.func 137) #[] #[]] W fun e w' => e = .returned (.tuple #[]) ∧ Q w' := by
  have H := Aside0.mk h
  clear h
  go_enter Try.func163, Try.ntmps163
  go_wp2
  go_loopg [7, 8] 1 (fun g v7 v8 wr => v7 = .int .i64 0 ∧ v8 = .int .i64 20 ∧ wr = W)
  case atStart => exact ⟨rfl, rfl, rfl⟩
  case round =>
    obtain ⟨rfl, rfl, rfl⟩ := hrel
    have z1 : ¬ (20 : Int) ≤ (n : Int) := by omega
    go_wp2_with (go_at_call 174; (with_reducible refine H.out.mono ?_); rintro e w1 ⟨rfl, hq⟩; have HQ := Aside0.mk hq; clear hq)
    go_loopg [6] 1 (fun g v6 wr => v6 = .int .i64 20 ∧ wr = w1)
    case atStart => exact ⟨rfl, rfl⟩
    case round =>
      obtain ⟨rfl, rfl⟩ := hrel
      have z2 : ¬ (20 : Int) < (n : Int) := by omega
      go_wp2
      go_end0
      exact ⟨rfl, HQ.out⟩
theorem impl_fromAbove.sort (A : Option Addr) (n c : Nat) (W : World) (Q : World → Prop) (hn : n ≤ 16)
    (h : Calls Try.prog 174 #[.slice A n c, .int .i64 0, .int .i64 n, .func (.func 137) #[] #[]] W fun e w' => e = .returned (.tuple #[]) ∧ Q w') :
    Calls Try.prog 136 #[.slice A n c, .func (.func 137) #[] #[]] W fun e w' => e = .returned (.tuple #[]) ∧ Q w' := by
  have H := impl_fromAbove.stab A n c W Q hn h
  clear h
  go_enter Try.func136, Try.ntmps136
  go_wp2_with (go_at_call 163; (with_reducible refine H.mono ?_); rintro e w1 ⟨rfl, hq⟩; have HQ := Aside0.mk hq; clear hq)
  go_end0
  exact ⟨rfl, HQ.out⟩
theorem impl_fromAbove.ins0 (A : Option Addr) (c : Nat) (W : World) : Calls Try.prog 174 #[.slice A 0 c, .int .i64 0, .int .i64 (0 : Nat), .func (.func 137) #[] #[]] W fun e w' => e = .returned (.tuple #[]) ∧ w' = W := by
  go_enter Try.func174, Try.ntmps174
  go_wp2
  go_loopg [8] 1 (fun g v8 wr => v8 = .int .i64 1 ∧ wr = W)
  case atStart => exact ⟨rfl, rfl⟩
  case round =>
    obtain ⟨rfl, rfl⟩ := hrel
    go_wp2
    go_end0
    exact ⟨rfl, rfl⟩
instance impl_fromAbove.inh : Inhabited S77 := ⟨z77⟩
def impl_fromAbove.f (l0 : List S77) : Option (List S77) := (impl_Place_135.f l0).bind fun l => if l.length ≤ 16 then some (Go.Sort.insertionSort (Go.Proofs.ltOf impl_fromAbove.cf) l.toArray 0 l.length).toList else none
theorem impl_fromAbove.sz1 (lt : S77 → S77 → Bool) (a : Nat) : ∀ (j : Nat) (d : Array S77), (Go.Sort.insInner lt a j d).size = d.size
  | 0, _ => rfl
  | j + 1, d => by
    unfold Go.Sort.insInner
    by_cases h : (decide (j + 1 > a) && lt d[j + 1]! d[j]!) = true
    · rw [if_pos h, impl_fromAbove.sz1 lt a j, Go.Sort.size_swp]
    · rw [if_neg h]
theorem impl_fromAbove.sz2 (lt : S77 → S77 → Bool) (a b : Nat) : ∀ (n i : Nat) (d : Array S77), b - i = n → (Go.Sort.insOuter lt a b i d).size = d.size := fun n => by
  induction n with
  | zero => intro i d h; rw [Go.Sort.insOuter, if_neg (by omega)]
  | succ n ih => intro i d h; rw [Go.Sort.insOuter, if_pos (by omega), ih _ _ (by omega), impl_fromAbove.sz1]
theorem impl_fromAbove.blw {B : Nat} {w0 w : World} (h : Below B w0 w) (hB : B ≤ w.heap.size) (os : Array Obj) : Below B w0 (Go.Sort.grow w os) :=
  ⟨h.os, h.tape, h.output, Nat.le_trans h.size (by simp [Go.Sort.grow]), fun i hi => (Go.Sort.heap_grow_old w os (by omega)).trans (h.block i hi)⟩
theorem impl_fromAbove.insN (g n c : Nat) (l : List S77) (base : Nat) (w1 : World) (hn : l.length ≤ 16) (hR : Kd.R k77 77 w1 base (fun _ => True) (.slice (some ⟨g, 0, none⟩) n c) l) :
    Calls Try.prog 174 #[.slice (some ⟨g, 0, none⟩) n c, .int .i64 0, .int .i64 n, .func (.func 137) #[] #[]] w1 fun e w' => e = .returned (.tuple #[]) ∧ (Kd.R k77 77 w' base (fun _ => True) (.slice (some ⟨g, 0, none⟩) n c) (Go.Sort.insertionSort (Go.Proofs.ltOf impl_fromAbove.cf) l.toArray 0 l.length).toList ∧ ∀ B w0, Below B w0 w1 → B ≤ g → Below B w0 w') := by
  have hk : ∀ x, (impl_fromAbove.enc x).length = k77.sz := fun _ => rfl
  have hM : ∀ {w base ok x cs}, k77.M w base ok x cs → cs = impl_fromAbove.enc x := fun h => k77_openM h
  have hH := Rw.holds hk hM hR 0 (Nat.zero_le _)
  obtain ⟨cur, hh, rfl, _, _, _, _, _⟩ := Rw.cells hM hR
  have hg : g < w1.heap.size := (Array.getElem?_eq_some_iff.1 hh).1
  have eg : ∀ args w, (callFunc 137 args).run Try.prog w = .ok (.enter 137 args) w := enters_of Try.func137 (by kernel_rfl) rfl
  have hcl : CmpLays Try.prog 137 #[] impl_fromAbove.enc k77.sz impl_fromAbove.cf g (0 * k77.sz) l.toArray.size w1 := fun _ _ _ _ x y => impl_fromAbove.clo x y _
  rw [List.drop_zero] at hH
  have hcon := AnyQ.insertionSortCmpFunc impl_fromAbove.lay k77.sz Try.isAgg77 Try.sizeOf77 impl_fromAbove.enc hk (fun x v hv => by simp [impl_fromAbove.enc] at hv; rcases hv with rfl | rfl | rfl | rfl <;> rfl) impl_fromAbove.cf 137 #[] g (0 * k77.sz) c 0 l.length l.toArray w1 eg hcl hH hg (Nat.zero_le _) (by simp) (by simp; omega)
  refine Calls.mono (show Calls Try.prog 174 #[.slice (some ⟨g, 0, none⟩) l.length c, .int .i64 0, .int .i64 l.length, .func (.func 137) #[] #[]] w1 _ from hcon) ?_
  rintro e w2 ⟨rfl, m, os, rfl⟩
  have hl : (Go.Sort.insertionSort (Go.Proofs.ltOf impl_fromAbove.cf) l.toArray 0 l.length).size = l.length := by unfold Go.Sort.insertionSort; rw [impl_fromAbove.sz2 _ _ _ _ _ _ rfl]; simp
  generalize Go.Sort.insertionSort (Go.Proofs.ltOf impl_fromAbove.cf) l.toArray 0 l.length = r at hl ⊢
  have hs : (Go.Sort.putRowK impl_fromAbove.enc k77.sz (Go.Sort.ahead w1 m) g (0 * k77.sz) r).heap.size = w1.heap.size := by simp [Go.Sort.putRowK, Go.Sort.putRow, Go.Sort.mapBlock, Go.Sort.ahead]
  have hp := Rw.put hk hM (fun {w base ok x} => k77_mkM w base ok x) hR 0 r.toList (by simp; omega) m
  rw [List.take_zero, List.nil_append, Array.toArray_toList] at hp
  unfold sortWorldK
  exact ⟨rfl, Kd.R_below hp (impl_fromAbove.blw (Below.refl _ _) (Nat.le_refl _) os), fun B w0 hb hB => impl_fromAbove.blw (Rw.below_put hb hB m _ _ _) (by rw [hs]; omega) os⟩
theorem impl_fromAbove.step (A1 : Option Addr) (c1 : Nat) (l : List S77) (w w1 : World) (hn : l.length ≤ 16) (hR : Kd.R k77 77 w1 w.heap.size (fun _ => True) (.slice A1 l.length c1) l) (hb : Below w.heap.size w w1) :
    Calls Try.prog 136 #[.slice A1 l.length c1, .func (.func 137) #[] #[]] w1 fun e w' => e = .returned (.tuple #[]) ∧ (Kd.R k77 77 w' w.heap.size (fun _ => True) (.slice A1 l.length c1) (Go.Sort.insertionSort (Go.Proofs.ltOf impl_fromAbove.cf) l.toArray 0 l.length).toList ∧ Below w.heap.size w w') := by
  refine impl_fromAbove.sort A1 l.length c1 w1 _ hn ?_
  by_cases h0 : l.length = 0
  · have : l = [] := List.length_eq_zero_iff.1 h0
    subst this
    have e1 : (Go.Sort.insertionSort (Go.Proofs.ltOf impl_fromAbove.cf) ([] : List S77).toArray 0 ([] : List S77).length).toList = [] := by
      unfold Go.Sort.insertionSort; rw [Go.Sort.insOuter, if_neg (by simp)]
    rw [e1]
    exact (impl_fromAbove.ins0 A1 c1 w1).mono fun e w2 ⟨h1, h2⟩ => ⟨h1, by rw [h2]; exact ⟨hR, hb⟩⟩
  · obtain ⟨g, c2, he, hg, _, _⟩ := Kd.R_form hR (by omega)
    injection he with he _ he2
    subst he; subst he2
    exact (impl_fromAbove.insN g l.length c1 l w.heap.size w1 hn hR).mono fun e w2 ⟨h1, h2, h3⟩ => ⟨h1, h2, h3 _ _ hb hg⟩
set_option maxHeartbeats 8000000 in
set_option maxRecDepth 100000 in
theorem impl_fromAbove.calls (A0 : Option Addr) (c0 : Nat) (l0 : List S77) (r : List S77) (w : World) (hr0 : Kd.C k77 w A0 l0.length l0) (hc0 : l0.length ≤ c0) (h : impl_fromAbove.f l0 = some r) :
    Calls Try.prog 116 #[.slice A0 l0.length c0] w fun e w' => ∃ v0_ : Value, e = .returned (v0_) ∧ Kd.R k77 77 w' w.heap.size (fun _ => True) v0_ r ∧ Below w.heap.size w w' := by
  unfold impl_fromAbove.f at h
  obtain ⟨l, hl, h⟩ := Option.bind_eq_some_iff.1 h
  by_cases h16 : l.length ≤ 16
  case neg => rw [if_neg h16] at h; cases h
  rw [if_pos h16] at h
  obtain rfl := Option.some.inj h
  have HL := Aside0.mk hl
  have HR := Aside0.mk hr0
  have HC := Aside0.mk hc0
  have H16 := Aside0.mk h16
  clear h hl hr0 hc0 h16
  go_enter Try.func116, Try.ntmps116
  go_wp2_with (first | (go_at_call 135; (with_reducible refine (impl_Place_135.calls A0 c0 l0 l w HR.out HC.out HL.out).mono ?_); rintro e w1 ⟨v0, rfl, hR, hb⟩; obtain ⟨A1, c1, rfl⟩ := Kd.R_slice hR; have hst := impl_fromAbove.step A1 c1 l w w1 H16.out hR hb; clear hR hb) | (go_at_call 136; (with_reducible refine hst.mono ?_); rintro e w2 ⟨rfl, hR2, hb2⟩; have HR2 := Aside0.mk hR2; have HB2 := Aside0.mk hb2; clear hR2 hb2))
  go_ret
  exact ⟨_, rfl, HR2.out, HB2.out⟩
end Go.Proofs.Ytbackoeakepngab.MFnExactThinPlaces
