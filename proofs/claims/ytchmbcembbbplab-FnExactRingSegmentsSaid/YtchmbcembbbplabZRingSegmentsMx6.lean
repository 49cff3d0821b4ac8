-- Laid by this session's program pp.py, after the kit's print and texts of the session's own. Not trusted: Lean checks it.
import Derived.Test.YtchmbcembbbplabZRingSegmentsMx0
import Derived.Test.YtchmbcembbbplabZRingSegmentsMx1
import Derived.Test.YtchmbcembbbplabZRingSegmentsMx5
namespace Go.Proofs.Ytchmbcembbbplab.MFnExactRingSegments
open Go.RowKit Go.Proofs.YtchmbcembbbplabW.PrintWords Go.Proofs.YtchmbcembbbplabW.PrintLast Go.Proofs.YtchmbcembbbplabW.PrintMore
attribute [local go_sem] max2_int min2_int max_two min_two max_three min_three max_four min_four   -- for this text's walks alone
set_option linter.unusedVariables false
set_option linter.unusedSimpArgs false
attribute [local go_sem high] eqA27
def spec_IsPoint.f (a0_0 : Int) (a0_1 : Int) : Option (Bool) := (spec_l1In.f a0_0 0 200).bind fun t216 => (if t216 = true then ((spec_l1In.f a0_1 0 200).bind fun t217 => (some t217)) else (some false))
set_option maxHeartbeats 8000000 in
set_option maxRecDepth 100000 in
theorem spec_IsPoint.calls (a0_0 : Int) (a0_1 : Int) (r : Bool) (w : World) (h : spec_IsPoint.f a0_0 a0_1 = some r) :
  Calls Try.prog 111 #[.agg #[.int .i64 a0_0, .int .i64 a0_1]] w fun e w' => e = .returned (.bool r) ∧ Below w.heap.size w w' := by
 have hu27 := Try.underlying27
 have HB := Aside0.mk (Below.refl w.heap.size w)
 have H : ((spec_l1In.f a0_0 0 200).bind fun t216 => (if t216 = true then ((spec_l1In.f a0_1 0 200).bind fun t217 => (some t217)) else (some false))) = some r := h
 clear h
 replace H := Option.bind_eq_some_iff.mp H
 obtain ⟨t216, A20, H⟩ := H
 replace H : (if t216 = true then ((spec_l1In.f a0_1 0 200).bind fun t217 => (some t217)) else (some false)) = some r := H
 have A2 := Aside0.mk A20
 clear A20
 by_cases c3 : t216 = true
 ·
  subst c3
  have H1 : ((spec_l1In.f a0_1 0 200).bind fun t217 => (some t217)) = some r := by rw [if_pos rfl] at H; exact H
  clear H
  have H := H1
  clear H1
  replace H := Option.bind_eq_some_iff.mp H
  obtain ⟨t217, A40, H⟩ := H
  replace H : (some t217) = some r := H
  have A4 := Aside0.mk A40
  clear A40
  obtain rfl := Option.some.inj H
  go_enter Try.func111, Try.ntmps111
  go_wp2_with (first | ((with_reducible refine gate_dst (N := 1) rfl ?_); refine Hd.box_ 1 (#[.int .i64 a0_0, .int .i64 a0_1]) 27 ?_; intro gb215 hg w5 hbox hb; have BK215 := Aside0.mk (hbox); have GW215 := Aside0.mk ((Hd.g_ hg Hd.b_ : w.heap.size ≤ gb215)); have GE215 := Aside0.mk ((Hd.g_ hg Hd.b_ : w.heap.size ≤ gb215)); replace HB := Aside0.mk (below_step Hd.b_ hb); clear hb hbox hg; obtain ⟨hcz6_0, hcz6_1⟩ := Hd.c2_ BK215.out; obtain ⟨hfz6_0, hfz6_1⟩ := Hd.f2_ BK215.out) | ((with_reducible refine gate_callee (f := 88) rfl ?_); refine goesL_ (some 5) rfl rfl Try.func88 (by kernel_rfl) rfl #[.int .i64 a0_0, .int .i64 0, .int .i64 200] rfl Hd.m_ ?_; (with_reducible refine (spec_l1In.calls a0_0 0 200 true _ A2.out).mono ?_); rintro e w' ⟨rfl, ⟨nd, rfl⟩⟩; refine ⟨_, rfl, ?_⟩) | (go_at_call 88; (with_reducible refine (spec_l1In.calls a0_1 0 200 t217 _ A4.out).mono ?_); rintro e w' ⟨rfl, ⟨nd, rfl⟩⟩))
  go_ret
  exact ⟨Hd.e_, Hd.b_⟩
 ·
  replace c3 := Bool.eq_false_iff.mpr c3
  subst c3
  have H1 : (some false) = some r := by rw [if_neg (show ¬ (false = true) by decide)] at H; exact H
  clear H
  have H := H1
  clear H1
  obtain rfl := Option.some.inj H
  go_enter Try.func111, Try.ntmps111
  go_wp2_with (first | ((with_reducible refine gate_dst (N := 1) rfl ?_); refine Hd.box_ 1 (#[.int .i64 a0_0, .int .i64 a0_1]) 27 ?_; intro gb215 hg w7 hbox hb; have BK215 := Aside0.mk (hbox); have GW215 := Aside0.mk ((Hd.g_ hg Hd.b_ : w.heap.size ≤ gb215)); have GE215 := Aside0.mk ((Hd.g_ hg Hd.b_ : w.heap.size ≤ gb215)); replace HB := Aside0.mk (below_step Hd.b_ hb); clear hb hbox hg; obtain ⟨hcz8_0, hcz8_1⟩ := Hd.c2_ BK215.out; obtain ⟨hfz8_0, hfz8_1⟩ := Hd.f2_ BK215.out) | ((with_reducible refine gate_callee (f := 88) rfl ?_); refine goesL_ (some 5) rfl rfl Try.func88 (by kernel_rfl) rfl #[.int .i64 a0_0, .int .i64 0, .int .i64 200] rfl Hd.m_ ?_; (with_reducible refine (spec_l1In.calls a0_0 0 200 false _ A2.out).mono ?_); rintro e w' ⟨rfl, ⟨nd, rfl⟩⟩; refine ⟨_, rfl, ?_⟩))
  go_ret
  exact ⟨Hd.e_, Hd.b_⟩
def spec_IsSegment.f (a0_0 : Int) (a0_1 : Int) (a0_2 : Int) (a0_3 : Int) : Option (Bool) := (spec_IsPoint.f a0_0 a0_1).bind fun t219 => (if t219 = true then ((spec_IsPoint.f a0_2 a0_3).bind fun t220 => (if t220 = true then (some (!(a0_0 == a0_2) || (!(a0_1 == a0_3)))) else (some false))) else (some false))
set_option maxHeartbeats 8000000 in
set_option maxRecDepth 100000 in
theorem spec_IsSegment.calls (a0_0 : Int) (a0_1 : Int) (a0_2 : Int) (a0_3 : Int) (r : Bool) (w : World) (h : spec_IsSegment.f a0_0 a0_1 a0_2 a0_3 = some r) :
  Calls Try.prog 118 #[.agg #[.int .i64 a0_0, .int .i64 a0_1, .int .i64 a0_2, .int .i64 a0_3]] w fun e w' => e = .returned (.bool r) ∧ Below w.heap.size w w' := by
 have hu60 := Try.underlying60
 have hu27 := Try.underlying27
 have HB := Aside0.mk (Below.refl w.heap.size w)
 have H : ((spec_IsPoint.f a0_0 a0_1).bind fun t219 => (if t219 = true then ((spec_IsPoint.f a0_2 a0_3).bind fun t220 => (if t220 = true then (some (!(a0_0 == a0_2) || (!(a0_1 == a0_3)))) else (some false))) else (some false))) = some r := h
 clear h
 replace H := Option.bind_eq_some_iff.mp H
 obtain ⟨t219, A20, H⟩ := H
 replace H : (if t219 = true then ((spec_IsPoint.f a0_2 a0_3).bind fun t220 => (if t220 = true then (some (!(a0_0 == a0_2) || (!(a0_1 == a0_3)))) else (some false))) else (some false)) = some r := H
 have A2 := Aside0.mk A20
 clear A20
 by_cases c3 : t219 = true
 ·
  subst c3
  have H1 : ((spec_IsPoint.f a0_2 a0_3).bind fun t220 => (if t220 = true then (some (!(a0_0 == a0_2) || (!(a0_1 == a0_3)))) else (some false))) = some r := by rw [if_pos rfl] at H; exact H
  clear H
  have H := H1
  clear H1
  replace H := Option.bind_eq_some_iff.mp H
  obtain ⟨t220, A40, H⟩ := H
  replace H : (if t220 = true then (some (!(a0_0 == a0_2) || (!(a0_1 == a0_3)))) else (some false)) = some r := H
  have A4 := Aside0.mk A40
  clear A40
  by_cases c5 : t220 = true
  ·
   subst c5
   have H1 : (some (!(a0_0 == a0_2) || (!(a0_1 == a0_3)))) = some r := by rw [if_pos rfl] at H; exact H
   clear H
   have H := H1
   clear H1
   obtain rfl := Option.some.inj H
   go_enter Try.func118, Try.ntmps118
   go_wp2_with (first | ((with_reducible refine gate_dst (N := 1) rfl ?_); refine Hd.box_ 1 (#[.int .i64 a0_0, .int .i64 a0_1, .int .i64 a0_2, .int .i64 a0_3]) 60 ?_; intro gb218 hg w6 hbox hb; have BK218 := Aside0.mk (hbox); have GW218 := Aside0.mk ((Hd.g_ hg Hd.b_ : w.heap.size ≤ gb218)); have GE218 := Aside0.mk ((Hd.g_ hg Hd.b_ : w.heap.size ≤ gb218)); replace HB := Aside0.mk (below_step Hd.b_ hb); clear hb hbox hg; obtain ⟨hcz7_0, hcz7_1, hcz7_2, hcz7_3⟩ := Hd.c4_ BK218.out; obtain ⟨hfz7_0, hfz7_1, hfz7_2, hfz7_3⟩ := Hd.f4_ BK218.out) | ((with_reducible refine gate_callee (f := 111) rfl ?_); refine goesL_ (some 5) rfl rfl Try.func111 (by kernel_rfl) rfl #[.agg #[.int .i64 a0_0, .int .i64 a0_1]] rfl Hd.m_ ?_; (with_reducible refine (spec_IsPoint.calls a0_0 a0_1 true _ A2.out).mono ?_); rintro e w8 ⟨rfl, hb⟩; refine ⟨_, rfl, ?_⟩; replace BK218 := Aside0.mk (Hd.kb_ BK218 hb); replace HB := Aside0.mk (below_step Hd.b_ hb); (try clear hb); (try clear hb2); (try clear hk); (try clear hi); obtain ⟨hcz9_0, hcz9_1, hcz9_2, hcz9_3⟩ := Hd.c4_ BK218.out; obtain ⟨hfz9_0, hfz9_1, hfz9_2, hfz9_3⟩ := Hd.f4_ BK218.out) | (go_at_call 111; (with_reducible refine (spec_IsPoint.calls a0_2 a0_3 true _ A4.out).mono ?_); rintro e w10 ⟨rfl, hb⟩; replace BK218 := Aside0.mk (Hd.kb_ BK218 hb); replace HB := Aside0.mk (below_step Hd.b_ hb); (try clear hb); (try clear hb2); (try clear hk); (try clear hi); obtain ⟨hcz11_0, hcz11_1, hcz11_2, hcz11_3⟩ := Hd.c4_ BK218.out; obtain ⟨hfz11_0, hfz11_1, hfz11_2, hfz11_3⟩ := Hd.f4_ BK218.out))
   go_ret
   exact ⟨Hd.e_, Hd.b_⟩
  ·
   replace c5 := Bool.eq_false_iff.mpr c5
   subst c5
   have H1 : (some false) = some r := by rw [if_neg (show ¬ (false = true) by decide)] at H; exact H
   clear H
   have H := H1
   clear H1
   obtain rfl := Option.some.inj H
   go_enter Try.func118, Try.ntmps118
   go_wp2_with (first | ((with_reducible refine gate_dst (N := 1) rfl ?_); refine Hd.box_ 1 (#[.int .i64 a0_0, .int .i64 a0_1, .int .i64 a0_2, .int .i64 a0_3]) 60 ?_; intro gb218 hg w12 hbox hb; have BK218 := Aside0.mk (hbox); have GW218 := Aside0.mk ((Hd.g_ hg Hd.b_ : w.heap.size ≤ gb218)); have GE218 := Aside0.mk ((Hd.g_ hg Hd.b_ : w.heap.size ≤ gb218)); replace HB := Aside0.mk (below_step Hd.b_ hb); clear hb hbox hg; obtain ⟨hcz13_0, hcz13_1, hcz13_2, hcz13_3⟩ := Hd.c4_ BK218.out; obtain ⟨hfz13_0, hfz13_1, hfz13_2, hfz13_3⟩ := Hd.f4_ BK218.out) | ((with_reducible refine gate_callee (f := 111) rfl ?_); refine goesL_ (some 5) rfl rfl Try.func111 (by kernel_rfl) rfl #[.agg #[.int .i64 a0_0, .int .i64 a0_1]] rfl Hd.m_ ?_; (with_reducible refine (spec_IsPoint.calls a0_0 a0_1 true _ A2.out).mono ?_); rintro e w14 ⟨rfl, hb⟩; refine ⟨_, rfl, ?_⟩; replace BK218 := Aside0.mk (Hd.kb_ BK218 hb); replace HB := Aside0.mk (below_step Hd.b_ hb); (try clear hb); (try clear hb2); (try clear hk); (try clear hi); obtain ⟨hcz15_0, hcz15_1, hcz15_2, hcz15_3⟩ := Hd.c4_ BK218.out; obtain ⟨hfz15_0, hfz15_1, hfz15_2, hfz15_3⟩ := Hd.f4_ BK218.out) | (go_at_call 111; (with_reducible refine (spec_IsPoint.calls a0_2 a0_3 false _ A4.out).mono ?_); rintro e w16 ⟨rfl, hb⟩; replace BK218 := Aside0.mk (Hd.kb_ BK218 hb); replace HB := Aside0.mk (below_step Hd.b_ hb); (try clear hb); (try clear hb2); (try clear hk); (try clear hi)))
   go_ret
   exact ⟨Hd.e_, Hd.b_⟩
 ·
  replace c3 := Bool.eq_false_iff.mpr c3
  subst c3
  have H1 : (some false) = some r := by rw [if_neg (show ¬ (false = true) by decide)] at H; exact H
  clear H
  have H := H1
  clear H1
  obtain rfl := Option.some.inj H
  go_enter Try.func118, Try.ntmps118
  go_wp2_with (first | ((with_reducible refine gate_dst (N := 1) rfl ?_); refine Hd.box_ 1 (#[.int .i64 a0_0, .int .i64 a0_1, .int .i64 a0_2, .int .i64 a0_3]) 60 ?_; intro gb218 hg w17 hbox hb; have BK218 := Aside0.mk (hbox); have GW218 := Aside0.mk ((Hd.g_ hg Hd.b_ : w.heap.size ≤ gb218)); have GE218 := Aside0.mk ((Hd.g_ hg Hd.b_ : w.heap.size ≤ gb218)); replace HB := Aside0.mk (below_step Hd.b_ hb); clear hb hbox hg; obtain ⟨hcz18_0, hcz18_1, hcz18_2, hcz18_3⟩ := Hd.c4_ BK218.out; obtain ⟨hfz18_0, hfz18_1, hfz18_2, hfz18_3⟩ := Hd.f4_ BK218.out) | ((with_reducible refine gate_callee (f := 111) rfl ?_); refine goesL_ (some 5) rfl rfl Try.func111 (by kernel_rfl) rfl #[.agg #[.int .i64 a0_0, .int .i64 a0_1]] rfl Hd.m_ ?_; (with_reducible refine (spec_IsPoint.calls a0_0 a0_1 false _ A2.out).mono ?_); rintro e w19 ⟨rfl, hb⟩; refine ⟨_, rfl, ?_⟩; replace BK218 := Aside0.mk (Hd.kb_ BK218 hb); replace HB := Aside0.mk (below_step Hd.b_ hb); (try clear hb); (try clear hb2); (try clear hk); (try clear hi)))
  go_ret
  exact ⟨Hd.e_, Hd.b_⟩
def spec_Max.f (a0 : Int) (a1 : Int) : Option (Int) := if a1 > a0 then (some a1) else (some a0)
set_option maxHeartbeats 8000000 in
set_option maxRecDepth 100000 in
theorem spec_Max.calls (a0 : Int) (a1 : Int) (r : Int) (w : World) (h : spec_Max.f a0 a1 = some r) :
  Calls Try.prog 100 #[.int .i64 a0, .int .i64 a1] w fun e w' => e = .returned (.int .i64 r) ∧ Drawn0 w w' := by
 have H : (if a1 > a0 then (some a1) else (some a0)) = some r := h
 clear h
 by_cases c3 : a1 > a0
 ·
  rw [if_pos c3] at H
  have c3b0 : decide (a0 < a1) = true := decide_eq_true c3
  clear c3
  obtain rfl := Option.some.inj H
  go_enter Try.func100, Try.ntmps100
  go_wp2
  go_ret
  exact ⟨by first | rfl | (simp; done) | (simp [*]; done), by repeat (first | exact Drawn0.refl _ | apply Drawn0.step)⟩
 ·
  rw [if_neg c3] at H
  have c3b0 : decide (a0 < a1) = false := decide_eq_false c3
  clear c3
  obtain rfl := Option.some.inj H
  go_enter Try.func100, Try.ntmps100
  go_wp2
  go_ret
  exact ⟨by first | rfl | (simp; done) | (simp [*]; done), by repeat (first | exact Drawn0.refl _ | apply Drawn0.step)⟩
def spec_Min.f (a0 : Int) (a1 : Int) : Option (Int) := if a1 < a0 then (some a1) else (some a0)
set_option maxHeartbeats 8000000 in
set_option maxRecDepth 100000 in
theorem spec_Min.calls (a0 : Int) (a1 : Int) (r : Int) (w : World) (h : spec_Min.f a0 a1 = some r) :
  Calls Try.prog 134 #[.int .i64 a0, .int .i64 a1] w fun e w' => e = .returned (.int .i64 r) ∧ Drawn0 w w' := by
 have H : (if a1 < a0 then (some a1) else (some a0)) = some r := h
 clear h
 by_cases c3 : a1 < a0
 ·
  rw [if_pos c3] at H
  have c3b0 : decide (a1 < a0) = true := decide_eq_true c3
  clear c3
  obtain rfl := Option.some.inj H
  go_enter Try.func134, Try.ntmps134
  go_wp2
  go_ret
  exact ⟨by first | rfl | (simp; done) | (simp [*]; done), by repeat (first | exact Drawn0.refl _ | apply Drawn0.step)⟩
 ·
  rw [if_neg c3] at H
  have c3b0 : decide (a1 < a0) = false := decide_eq_false c3
  clear c3
  obtain rfl := Option.some.inj H
  go_enter Try.func134, Try.ntmps134
  go_wp2
  go_ret
  exact ⟨by first | rfl | (simp; done) | (simp [*]; done), by repeat (first | exact Drawn0.refl _ | apply Drawn0.step)⟩
def spec_l4Cross.f (a0_0 : Int) (a0_1 : Int) (a1_0 : Int) (a1_1 : Int) (a2_0 : Int) (a2_1 : Int) : Option (Int) := some (wrap64 ((wrap64 ((wrap64 (a1_0 - a0_0)) * (wrap64 (a2_1 - a0_1)))) - (wrap64 ((wrap64 (a1_1 - a0_1)) * (wrap64 (a2_0 - a0_0))))))
set_option maxHeartbeats 8000000 in
set_option maxRecDepth 100000 in
theorem spec_l4Cross.calls (a0_0 : Int) (a0_1 : Int) (a1_0 : Int) (a1_1 : Int) (a2_0 : Int) (a2_1 : Int) (r : Int) (w : World) (h : spec_l4Cross.f a0_0 a0_1 a1_0 a1_1 a2_0 a2_1 = some r) :
  Calls Try.prog 99 #[.agg #[.int .i64 a0_0, .int .i64 a0_1], .agg #[.int .i64 a1_0, .int .i64 a1_1], .agg #[.int .i64 a2_0, .int .i64 a2_1]] w fun e w' => e = .returned (.int .i64 r) ∧ Below w.heap.size w w' := by
 have hu27 := Try.underlying27
 have HB := Aside0.mk (Below.refl w.heap.size w)
 have H : (some (wrap64 ((wrap64 ((wrap64 (a1_0 - a0_0)) * (wrap64 (a2_1 - a0_1)))) - (wrap64 ((wrap64 (a1_1 - a0_1)) * (wrap64 (a2_0 - a0_0))))))) = some r := h
 clear h
 obtain rfl := Option.some.inj H
 go_enter Try.func99, Try.ntmps99
 go_wp2_with (first | ((with_reducible refine gate_dst (N := 3) rfl ?_); refine Hd.box_ 3 (#[.int .i64 a0_0, .int .i64 a0_1]) 27 ?_; intro gb221 hg w4 hbox hb; have BK221 := Aside0.mk (hbox); have GW221 := Aside0.mk ((Hd.g_ hg Hd.b_ : w.heap.size ≤ gb221)); have GE221 := Aside0.mk ((Hd.g_ hg Hd.b_ : w.heap.size ≤ gb221)); replace HB := Aside0.mk (below_step Hd.b_ hb); clear hb hbox hg) | ((with_reducible refine gate_dst (N := 4) rfl ?_); refine Hd.box_ 4 (#[.int .i64 a1_0, .int .i64 a1_1]) 27 ?_; intro gb222 hg w5 hbox hb; have BK222 := Aside0.mk (hbox); have GW222 := Aside0.mk ((Hd.g_ hg Hd.b_ : w.heap.size ≤ gb222)); have GE222 := Aside0.mk ((Hd.g_ hg Hd.b_ : w.heap.size ≤ gb222)); replace HB := Aside0.mk (below_step Hd.b_ hb); have NB221_222 := Aside0.mk ((Hd.lt_ BK221 hg)); have NB222_221 := Aside0.mk ((Hd.gt_ BK221 hg)); replace BK221 := Aside0.mk (Hd.kb_ BK221 hb); clear hb hbox hg) | ((with_reducible refine gate_dst (N := 5) rfl ?_); refine Hd.box_ 5 (#[.int .i64 a2_0, .int .i64 a2_1]) 27 ?_; intro gb223 hg w6 hbox hb; have BK223 := Aside0.mk (hbox); have GW223 := Aside0.mk ((Hd.g_ hg Hd.b_ : w.heap.size ≤ gb223)); have GE223 := Aside0.mk ((Hd.g_ hg Hd.b_ : w.heap.size ≤ gb223)); replace HB := Aside0.mk (below_step Hd.b_ hb); have NB221_223 := Aside0.mk ((Hd.lt_ BK221 hg)); have NB223_221 := Aside0.mk ((Hd.gt_ BK221 hg)); replace BK221 := Aside0.mk (Hd.kb_ BK221 hb); have NB222_223 := Aside0.mk ((Hd.lt_ BK222 hg)); have NB223_222 := Aside0.mk ((Hd.gt_ BK222 hg)); replace BK222 := Aside0.mk (Hd.kb_ BK222 hb); clear hb hbox hg; have hnb7 := NB222_221.out; have hnc7 := NB221_222.out; have hnb8 := NB222_223.out; have hnc8 := NB223_222.out; obtain ⟨hcz9_0, hcz9_1⟩ := Hd.c2_ BK222.out; obtain ⟨hfz9_0, hfz9_1⟩ := Hd.f2_ BK222.out; have hnb10 := NB221_223.out; have hnc10 := NB223_221.out; obtain ⟨hcz11_0, hcz11_1⟩ := Hd.c2_ BK221.out; obtain ⟨hfz11_0, hfz11_1⟩ := Hd.f2_ BK221.out; obtain ⟨hcz12_0, hcz12_1⟩ := Hd.c2_ BK223.out; obtain ⟨hfz12_0, hfz12_1⟩ := Hd.f2_ BK223.out))
 go_ret
 exact ⟨Hd.e_, Hd.b_⟩
def spec_IsOn.f (a0_0 : Int) (a0_1 : Int) (a0_2 : Int) (a0_3 : Int) (a1_0 : Int) (a1_1 : Int) : Option (Bool) := (spec_IsSegment.f a0_0 a0_1 a0_2 a0_3).bind fun t226 => (if t226 = true then ((spec_IsPoint.f a1_0 a1_1).bind fun t227 => (if t227 = true then ((spec_l4Cross.f a0_0 a0_1 a0_2 a0_3 a1_0 a1_1).bind fun t228 => (if t228 = 0 then ((spec_Min.f a0_0 a0_2).bind fun t229 => ((spec_Max.f a0_0 a0_2).bind fun t230 => ((spec_l1In.f a1_0 t229 t230).bind fun t231 => (if t231 = true then ((spec_Min.f a0_1 a0_3).bind fun t232 => ((spec_Max.f a0_1 a0_3).bind fun t233 => ((spec_l1In.f a1_1 t232 t233).bind fun t234 => (some t234)))) else (some false))))) else (some false))) else (some false))) else (some false))
set_option maxHeartbeats 8000000 in
set_option maxRecDepth 100000 in
theorem spec_IsOn.calls (a0_0 : Int) (a0_1 : Int) (a0_2 : Int) (a0_3 : Int) (a1_0 : Int) (a1_1 : Int) (r : Bool) (w : World) (h : spec_IsOn.f a0_0 a0_1 a0_2 a0_3 a1_0 a1_1 = some r) :
  Calls Try.prog 113 #[.agg #[.int .i64 a0_0, .int .i64 a0_1, .int .i64 a0_2, .int .i64 a0_3], .agg #[.int .i64 a1_0, .int .i64 a1_1]] w fun e w' => e = .returned (.bool r) ∧ Below w.heap.size w w' := by
 have hu60 := Try.underlying60
 have hu27 := Try.underlying27
 have HB := Aside0.mk (Below.refl w.heap.size w)
 have H : ((spec_IsSegment.f a0_0 a0_1 a0_2 a0_3).bind fun t226 => (if t226 = true then ((spec_IsPoint.f a1_0 a1_1).bind fun t227 => (if t227 = true then ((spec_l4Cross.f a0_0 a0_1 a0_2 a0_3 a1_0 a1_1).bind fun t228 => (if t228 = 0 then ((spec_Min.f a0_0 a0_2).bind fun t229 => ((spec_Max.f a0_0 a0_2).bind fun t230 => ((spec_l1In.f a1_0 t229 t230).bind fun t231 => (if t231 = true then ((spec_Min.f a0_1 a0_3).bind fun t232 => ((spec_Max.f a0_1 a0_3).bind fun t233 => ((spec_l1In.f a1_1 t232 t233).bind fun t234 => (some t234)))) else (some false))))) else (some false))) else (some false))) else (some false))) = some r := h
 clear h
 replace H := Option.bind_eq_some_iff.mp H
 obtain ⟨t226, A30, H⟩ := H
 replace H : (if t226 = true then ((spec_IsPoint.f a1_0 a1_1).bind fun t227 => (if t227 = true then ((spec_l4Cross.f a0_0 a0_1 a0_2 a0_3 a1_0 a1_1).bind fun t228 => (if t228 = 0 then ((spec_Min.f a0_0 a0_2).bind fun t229 => ((spec_Max.f a0_0 a0_2).bind fun t230 => ((spec_l1In.f a1_0 t229 t230).bind fun t231 => (if t231 = true then ((spec_Min.f a0_1 a0_3).bind fun t232 => ((spec_Max.f a0_1 a0_3).bind fun t233 => ((spec_l1In.f a1_1 t232 t233).bind fun t234 => (some t234)))) else (some false))))) else (some false))) else (some false))) else (some false)) = some r := H
 have A3 := Aside0.mk A30
 clear A30
 by_cases c4 : t226 = true
 ·
  subst c4
  have H1 : ((spec_IsPoint.f a1_0 a1_1).bind fun t227 => (if t227 = true then ((spec_l4Cross.f a0_0 a0_1 a0_2 a0_3 a1_0 a1_1).bind fun t228 => (if t228 = 0 then ((spec_Min.f a0_0 a0_2).bind fun t229 => ((spec_Max.f a0_0 a0_2).bind fun t230 => ((spec_l1In.f a1_0 t229 t230).bind fun t231 => (if t231 = true then ((spec_Min.f a0_1 a0_3).bind fun t232 => ((spec_Max.f a0_1 a0_3).bind fun t233 => ((spec_l1In.f a1_1 t232 t233).bind fun t234 => (some t234)))) else (some false))))) else (some false))) else (some false))) = some r := by rw [if_pos rfl] at H; exact H
  clear H
  have H := H1
  clear H1
  replace H := Option.bind_eq_some_iff.mp H
  obtain ⟨t227, A50, H⟩ := H
  replace H : (if t227 = true then ((spec_l4Cross.f a0_0 a0_1 a0_2 a0_3 a1_0 a1_1).bind fun t228 => (if t228 = 0 then ((spec_Min.f a0_0 a0_2).bind fun t229 => ((spec_Max.f a0_0 a0_2).bind fun t230 => ((spec_l1In.f a1_0 t229 t230).bind fun t231 => (if t231 = true then ((spec_Min.f a0_1 a0_3).bind fun t232 => ((spec_Max.f a0_1 a0_3).bind fun t233 => ((spec_l1In.f a1_1 t232 t233).bind fun t234 => (some t234)))) else (some false))))) else (some false))) else (some false)) = some r := H
  have A5 := Aside0.mk A50
  clear A50
  by_cases c6 : t227 = true
  ·
   subst c6
   have H1 : ((spec_l4Cross.f a0_0 a0_1 a0_2 a0_3 a1_0 a1_1).bind fun t228 => (if t228 = 0 then ((spec_Min.f a0_0 a0_2).bind fun t229 => ((spec_Max.f a0_0 a0_2).bind fun t230 => ((spec_l1In.f a1_0 t229 t230).bind fun t231 => (if t231 = true then ((spec_Min.f a0_1 a0_3).bind fun t232 => ((spec_Max.f a0_1 a0_3).bind fun t233 => ((spec_l1In.f a1_1 t232 t233).bind fun t234 => (some t234)))) else (some false))))) else (some false))) = some r := by rw [if_pos rfl] at H; exact H
   clear H
   have H := H1
   clear H1
   replace H := Option.bind_eq_some_iff.mp H
   obtain ⟨t228, A70, H⟩ := H
   replace H : (if t228 = 0 then ((spec_Min.f a0_0 a0_2).bind fun t229 => ((spec_Max.f a0_0 a0_2).bind fun t230 => ((spec_l1In.f a1_0 t229 t230).bind fun t231 => (if t231 = true then ((spec_Min.f a0_1 a0_3).bind fun t232 => ((spec_Max.f a0_1 a0_3).bind fun t233 => ((spec_l1In.f a1_1 t232 t233).bind fun t234 => (some t234)))) else (some false))))) else (some false)) = some r := H
   have A7 := Aside0.mk A70
   clear A70
   by_cases c8 : t228 = 0
   ·
    rw [if_pos c8] at H
    have c8b0 : (t228 == 0) = true := beq_iff_eq.mpr c8
    have c8b1 : (t228 != 0) = false := bne_eq_false_iff_eq.mpr c8
    clear c8
    replace H := Option.bind_eq_some_iff.mp H
    obtain ⟨t229, A90, H⟩ := H
    replace H : ((spec_Max.f a0_0 a0_2).bind fun t230 => ((spec_l1In.f a1_0 t229 t230).bind fun t231 => (if t231 = true then ((spec_Min.f a0_1 a0_3).bind fun t232 => ((spec_Max.f a0_1 a0_3).bind fun t233 => ((spec_l1In.f a1_1 t232 t233).bind fun t234 => (some t234)))) else (some false)))) = some r := H
    have A9 := Aside0.mk A90
    clear A90
    replace H := Option.bind_eq_some_iff.mp H
    obtain ⟨t230, A100, H⟩ := H
    replace H : ((spec_l1In.f a1_0 t229 t230).bind fun t231 => (if t231 = true then ((spec_Min.f a0_1 a0_3).bind fun t232 => ((spec_Max.f a0_1 a0_3).bind fun t233 => ((spec_l1In.f a1_1 t232 t233).bind fun t234 => (some t234)))) else (some false))) = some r := H
    have A10 := Aside0.mk A100
    clear A100
    replace H := Option.bind_eq_some_iff.mp H
    obtain ⟨t231, A110, H⟩ := H
    replace H : (if t231 = true then ((spec_Min.f a0_1 a0_3).bind fun t232 => ((spec_Max.f a0_1 a0_3).bind fun t233 => ((spec_l1In.f a1_1 t232 t233).bind fun t234 => (some t234)))) else (some false)) = some r := H
    have A11 := Aside0.mk A110
    clear A110
    by_cases c12 : t231 = true
    ·
     subst c12
     have H1 : ((spec_Min.f a0_1 a0_3).bind fun t232 => ((spec_Max.f a0_1 a0_3).bind fun t233 => ((spec_l1In.f a1_1 t232 t233).bind fun t234 => (some t234)))) = some r := by rw [if_pos rfl] at H; exact H
     clear H
     have H := H1
     clear H1
     replace H := Option.bind_eq_some_iff.mp H
     obtain ⟨t232, A130, H⟩ := H
     replace H : ((spec_Max.f a0_1 a0_3).bind fun t233 => ((spec_l1In.f a1_1 t232 t233).bind fun t234 => (some t234))) = some r := H
     have A13 := Aside0.mk A130
     clear A130
     replace H := Option.bind_eq_some_iff.mp H
     obtain ⟨t233, A140, H⟩ := H
     replace H : ((spec_l1In.f a1_1 t232 t233).bind fun t234 => (some t234)) = some r := H
     have A14 := Aside0.mk A140
     clear A140
     replace H := Option.bind_eq_some_iff.mp H
     obtain ⟨t234, A150, H⟩ := H
     replace H : (some t234) = some r := H
     have A15 := Aside0.mk A150
     clear A150
     obtain rfl := Option.some.inj H
     go_enter Try.func113, Try.ntmps113
     try go_wp2_with (first | ((with_reducible refine gate_dst (N := 2) rfl ?_); refine Hd.box_ 2 (#[.int .i64 a0_0, .int .i64 a0_1, .int .i64 a0_2, .int .i64 a0_3]) 60 ?_; intro gb224 hg w16 hbox hb; have BK224 := Aside0.mk (hbox); have GW224 := Aside0.mk ((Hd.g_ hg Hd.b_ : w.heap.size ≤ gb224)); have GE224 := Aside0.mk ((Hd.g_ hg Hd.b_ : w.heap.size ≤ gb224)); replace HB := Aside0.mk (below_step Hd.b_ hb); clear hb hbox hg) | ((with_reducible refine gate_dst (N := 3) rfl ?_); refine Hd.box_ 3 (#[.int .i64 a1_0, .int .i64 a1_1]) 27 ?_; intro gb225 hg w17 hbox hb; have BK225 := Aside0.mk (hbox); have GW225 := Aside0.mk ((Hd.g_ hg Hd.b_ : w.heap.size ≤ gb225)); have GE225 := Aside0.mk ((Hd.g_ hg Hd.b_ : w.heap.size ≤ gb225)); replace HB := Aside0.mk (below_step Hd.b_ hb); have NB224_225 := Aside0.mk ((Hd.lt_ BK224 hg)); have NB225_224 := Aside0.mk ((Hd.gt_ BK224 hg)); replace BK224 := Aside0.mk (Hd.kb_ BK224 hb); clear hb hbox hg))
     replace BK224 := Aside0.mk (blk_drew BK224.out)
     replace BK225 := Aside0.mk (blk_drew BK225.out)
     replace HB := Aside0.mk (below_drew1 HB.out)
     obtain ⟨s0_, s1_, s2_, s3_⟩ := Hd.HW.k4 (W0 := w17.drew) BK224
     obtain ⟨s4_, s5_⟩ := Hd.HW.k2 (W0 := w17.drew) BK225
     refine Hd.HW.region (by kernel_rfl) (by kernel_rfl) ?_
     try dsimp only [List.append]
     repeat (go_big_quiet_step ((first | (go_at_call 118; with_reducible exact Hd.HW.c (spec_IsSegment.calls a0_0 a0_1 a0_2 a0_3 true _ A3.out)) | (go_at_call 111; with_reducible exact Hd.HW.c (spec_IsPoint.calls a1_0 a1_1 true _ A5.out)) | (go_at_call 99; with_reducible exact Hd.HW.c (spec_l4Cross.calls a0_0 a0_1 a0_2 a0_3 a1_0 a1_1 t228 _ A7.out)) | (go_at_call 134; with_reducible exact Hd.HW.d (spec_Min.calls a0_0 a0_2 t229 _ A9.out)) | (go_at_call 100; with_reducible exact Hd.HW.d (spec_Max.calls a0_0 a0_2 t230 _ A10.out)) | (go_at_call 88; with_reducible exact Hd.HW.d (spec_l1In.calls a1_0 t229 t230 true _ A11.out)) | (go_at_call 134; with_reducible exact Hd.HW.d (spec_Min.calls a0_1 a0_3 t232 _ A13.out)) | (go_at_call 100; with_reducible exact Hd.HW.d (spec_Max.calls a0_1 a0_3 t233 _ A14.out)) | (go_at_call 88; with_reducible exact Hd.HW.d (spec_l1In.calls a1_1 t232 t233 t234 _ A15.out)))))
     refine wpQuiet_nil ?_
     intro _ hq_
     obtain ⟨q_, rfl⟩ := hq_
     clear s0_ s1_ s2_ s3_ s4_ s5_
     replace BK224 := Aside0.mk (blk_below BK224.out q_.b)
     replace BK225 := Aside0.mk (blk_below BK225.out q_.b)
     replace HB := Aside0.mk (below_step HB.out q_.b)
     generalize q_.W = w21 at BK224 BK225 HB ⊢
     try simp only [i64_w, i32_w]
     try go_wp2
     go_ret
     exact ⟨Hd.e_, Hd.b_⟩
    ·
     replace c12 := Bool.eq_false_iff.mpr c12
     subst c12
     have H1 : (some false) = some r := by rw [if_neg (show ¬ (false = true) by decide)] at H; exact H
     clear H
     have H := H1
     clear H1
     obtain rfl := Option.some.inj H
     go_enter Try.func113, Try.ntmps113
     try go_wp2_with (first | ((with_reducible refine gate_dst (N := 2) rfl ?_); refine Hd.box_ 2 (#[.int .i64 a0_0, .int .i64 a0_1, .int .i64 a0_2, .int .i64 a0_3]) 60 ?_; intro gb224 hg w22 hbox hb; have BK224 := Aside0.mk (hbox); have GW224 := Aside0.mk ((Hd.g_ hg Hd.b_ : w.heap.size ≤ gb224)); have GE224 := Aside0.mk ((Hd.g_ hg Hd.b_ : w.heap.size ≤ gb224)); replace HB := Aside0.mk (below_step Hd.b_ hb); clear hb hbox hg) | ((with_reducible refine gate_dst (N := 3) rfl ?_); refine Hd.box_ 3 (#[.int .i64 a1_0, .int .i64 a1_1]) 27 ?_; intro gb225 hg w23 hbox hb; have BK225 := Aside0.mk (hbox); have GW225 := Aside0.mk ((Hd.g_ hg Hd.b_ : w.heap.size ≤ gb225)); have GE225 := Aside0.mk ((Hd.g_ hg Hd.b_ : w.heap.size ≤ gb225)); replace HB := Aside0.mk (below_step Hd.b_ hb); have NB224_225 := Aside0.mk ((Hd.lt_ BK224 hg)); have NB225_224 := Aside0.mk ((Hd.gt_ BK224 hg)); replace BK224 := Aside0.mk (Hd.kb_ BK224 hb); clear hb hbox hg))
     replace BK224 := Aside0.mk (blk_drew BK224.out)
     replace BK225 := Aside0.mk (blk_drew BK225.out)
     replace HB := Aside0.mk (below_drew1 HB.out)
     obtain ⟨s0_, s1_, s2_, s3_⟩ := Hd.HW.k4 (W0 := w23.drew) BK224
     obtain ⟨s4_, s5_⟩ := Hd.HW.k2 (W0 := w23.drew) BK225
     refine Hd.HW.region (by kernel_rfl) (by kernel_rfl) ?_
     try dsimp only [List.append]
     repeat (go_big_quiet_step ((first | (go_at_call 118; with_reducible exact Hd.HW.c (spec_IsSegment.calls a0_0 a0_1 a0_2 a0_3 true _ A3.out)) | (go_at_call 111; with_reducible exact Hd.HW.c (spec_IsPoint.calls a1_0 a1_1 true _ A5.out)) | (go_at_call 99; with_reducible exact Hd.HW.c (spec_l4Cross.calls a0_0 a0_1 a0_2 a0_3 a1_0 a1_1 t228 _ A7.out)) | (go_at_call 134; with_reducible exact Hd.HW.d (spec_Min.calls a0_0 a0_2 t229 _ A9.out)) | (go_at_call 100; with_reducible exact Hd.HW.d (spec_Max.calls a0_0 a0_2 t230 _ A10.out)) | (go_at_call 88; with_reducible exact Hd.HW.d (spec_l1In.calls a1_0 t229 t230 false _ A11.out)))))
     refine wpQuiet_nil ?_
     intro _ hq_
     obtain ⟨q_, rfl⟩ := hq_
     clear s0_ s1_ s2_ s3_ s4_ s5_
     replace BK224 := Aside0.mk (blk_below BK224.out q_.b)
     replace BK225 := Aside0.mk (blk_below BK225.out q_.b)
     replace HB := Aside0.mk (below_step HB.out q_.b)
     generalize q_.W = w27 at BK224 BK225 HB ⊢
     try simp only [i64_w, i32_w]
     try go_wp2
     go_ret
     exact ⟨Hd.e_, Hd.b_⟩
   ·
    rw [if_neg c8] at H
    have c8b0 : (t228 == 0) = false := beq_eq_false_iff_ne.mpr c8
    have c8b1 : (t228 != 0) = true := bne_iff_ne.mpr c8
    obtain rfl := Option.some.inj H
    go_enter Try.func113, Try.ntmps113
    try go_wp2_with (first | ((with_reducible refine gate_dst (N := 2) rfl ?_); refine Hd.box_ 2 (#[.int .i64 a0_0, .int .i64 a0_1, .int .i64 a0_2, .int .i64 a0_3]) 60 ?_; intro gb224 hg w28 hbox hb; have BK224 := Aside0.mk (hbox); have GW224 := Aside0.mk ((Hd.g_ hg Hd.b_ : w.heap.size ≤ gb224)); have GE224 := Aside0.mk ((Hd.g_ hg Hd.b_ : w.heap.size ≤ gb224)); replace HB := Aside0.mk (below_step Hd.b_ hb); clear hb hbox hg) | ((with_reducible refine gate_dst (N := 3) rfl ?_); refine Hd.box_ 3 (#[.int .i64 a1_0, .int .i64 a1_1]) 27 ?_; intro gb225 hg w29 hbox hb; have BK225 := Aside0.mk (hbox); have GW225 := Aside0.mk ((Hd.g_ hg Hd.b_ : w.heap.size ≤ gb225)); have GE225 := Aside0.mk ((Hd.g_ hg Hd.b_ : w.heap.size ≤ gb225)); replace HB := Aside0.mk (below_step Hd.b_ hb); have NB224_225 := Aside0.mk ((Hd.lt_ BK224 hg)); have NB225_224 := Aside0.mk ((Hd.gt_ BK224 hg)); replace BK224 := Aside0.mk (Hd.kb_ BK224 hb); clear hb hbox hg))
    replace BK224 := Aside0.mk (blk_drew BK224.out)
    replace BK225 := Aside0.mk (blk_drew BK225.out)
    replace HB := Aside0.mk (below_drew1 HB.out)
    obtain ⟨s0_, s1_, s2_, s3_⟩ := Hd.HW.k4 (W0 := w29.drew) BK224
    obtain ⟨s4_, s5_⟩ := Hd.HW.k2 (W0 := w29.drew) BK225
    refine Hd.HW.region (by kernel_rfl) (by kernel_rfl) ?_
    try dsimp only [List.append]
    repeat (go_big_quiet_step ((first | (go_at_call 118; with_reducible exact Hd.HW.c (spec_IsSegment.calls a0_0 a0_1 a0_2 a0_3 true _ A3.out)) | (go_at_call 111; with_reducible exact Hd.HW.c (spec_IsPoint.calls a1_0 a1_1 true _ A5.out)) | (go_at_call 99; with_reducible exact Hd.HW.c (spec_l4Cross.calls a0_0 a0_1 a0_2 a0_3 a1_0 a1_1 t228 _ A7.out)))))
    refine wpQuiet_nil ?_
    intro _ hq_
    obtain ⟨q_, rfl⟩ := hq_
    clear s0_ s1_ s2_ s3_ s4_ s5_
    replace BK224 := Aside0.mk (blk_below BK224.out q_.b)
    replace BK225 := Aside0.mk (blk_below BK225.out q_.b)
    replace HB := Aside0.mk (below_step HB.out q_.b)
    generalize q_.W = w33 at BK224 BK225 HB ⊢
    try simp only [i64_w, i32_w]
    try go_wp2
    go_ret
    exact ⟨Hd.e_, Hd.b_⟩
  ·
   replace c6 := Bool.eq_false_iff.mpr c6
   subst c6
   have H1 : (some false) = some r := by rw [if_neg (show ¬ (false = true) by decide)] at H; exact H
   clear H
   have H := H1
   clear H1
   obtain rfl := Option.some.inj H
   go_enter Try.func113, Try.ntmps113
   try go_wp2_with (first | ((with_reducible refine gate_dst (N := 2) rfl ?_); refine Hd.box_ 2 (#[.int .i64 a0_0, .int .i64 a0_1, .int .i64 a0_2, .int .i64 a0_3]) 60 ?_; intro gb224 hg w34 hbox hb; have BK224 := Aside0.mk (hbox); have GW224 := Aside0.mk ((Hd.g_ hg Hd.b_ : w.heap.size ≤ gb224)); have GE224 := Aside0.mk ((Hd.g_ hg Hd.b_ : w.heap.size ≤ gb224)); replace HB := Aside0.mk (below_step Hd.b_ hb); clear hb hbox hg) | ((with_reducible refine gate_dst (N := 3) rfl ?_); refine Hd.box_ 3 (#[.int .i64 a1_0, .int .i64 a1_1]) 27 ?_; intro gb225 hg w35 hbox hb; have BK225 := Aside0.mk (hbox); have GW225 := Aside0.mk ((Hd.g_ hg Hd.b_ : w.heap.size ≤ gb225)); have GE225 := Aside0.mk ((Hd.g_ hg Hd.b_ : w.heap.size ≤ gb225)); replace HB := Aside0.mk (below_step Hd.b_ hb); have NB224_225 := Aside0.mk ((Hd.lt_ BK224 hg)); have NB225_224 := Aside0.mk ((Hd.gt_ BK224 hg)); replace BK224 := Aside0.mk (Hd.kb_ BK224 hb); clear hb hbox hg))
   replace BK224 := Aside0.mk (blk_drew BK224.out)
   replace BK225 := Aside0.mk (blk_drew BK225.out)
   replace HB := Aside0.mk (below_drew1 HB.out)
   obtain ⟨s0_, s1_, s2_, s3_⟩ := Hd.HW.k4 (W0 := w35.drew) BK224
   obtain ⟨s4_, s5_⟩ := Hd.HW.k2 (W0 := w35.drew) BK225
   refine Hd.HW.region (by kernel_rfl) (by kernel_rfl) ?_
   try dsimp only [List.append]
   repeat (go_big_quiet_step ((first | (go_at_call 118; with_reducible exact Hd.HW.c (spec_IsSegment.calls a0_0 a0_1 a0_2 a0_3 true _ A3.out)) | (go_at_call 111; with_reducible exact Hd.HW.c (spec_IsPoint.calls a1_0 a1_1 false _ A5.out)))))
   refine wpQuiet_nil ?_
   intro _ hq_
   obtain ⟨q_, rfl⟩ := hq_
   clear s0_ s1_ s2_ s3_ s4_ s5_
   replace BK224 := Aside0.mk (blk_below BK224.out q_.b)
   replace BK225 := Aside0.mk (blk_below BK225.out q_.b)
   replace HB := Aside0.mk (below_step HB.out q_.b)
   generalize q_.W = w38 at BK224 BK225 HB ⊢
   try simp only [i64_w, i32_w]
   try go_wp2
   go_ret
   exact ⟨Hd.e_, Hd.b_⟩
 ·
  replace c4 := Bool.eq_false_iff.mpr c4
  subst c4
  have H1 : (some false) = some r := by rw [if_neg (show ¬ (false = true) by decide)] at H; exact H
  clear H
  have H := H1
  clear H1
  obtain rfl := Option.some.inj H
  go_enter Try.func113, Try.ntmps113
  try go_wp2_with (first | ((with_reducible refine gate_dst (N := 2) rfl ?_); refine Hd.box_ 2 (#[.int .i64 a0_0, .int .i64 a0_1, .int .i64 a0_2, .int .i64 a0_3]) 60 ?_; intro gb224 hg w39 hbox hb; have BK224 := Aside0.mk (hbox); have GW224 := Aside0.mk ((Hd.g_ hg Hd.b_ : w.heap.size ≤ gb224)); have GE224 := Aside0.mk ((Hd.g_ hg Hd.b_ : w.heap.size ≤ gb224)); replace HB := Aside0.mk (below_step Hd.b_ hb); clear hb hbox hg) | ((with_reducible refine gate_dst (N := 3) rfl ?_); refine Hd.box_ 3 (#[.int .i64 a1_0, .int .i64 a1_1]) 27 ?_; intro gb225 hg w40 hbox hb; have BK225 := Aside0.mk (hbox); have GW225 := Aside0.mk ((Hd.g_ hg Hd.b_ : w.heap.size ≤ gb225)); have GE225 := Aside0.mk ((Hd.g_ hg Hd.b_ : w.heap.size ≤ gb225)); replace HB := Aside0.mk (below_step Hd.b_ hb); have NB224_225 := Aside0.mk ((Hd.lt_ BK224 hg)); have NB225_224 := Aside0.mk ((Hd.gt_ BK224 hg)); replace BK224 := Aside0.mk (Hd.kb_ BK224 hb); clear hb hbox hg))
  replace BK224 := Aside0.mk (blk_drew BK224.out)
  replace BK225 := Aside0.mk (blk_drew BK225.out)
  replace HB := Aside0.mk (below_drew1 HB.out)
  obtain ⟨s0_, s1_, s2_, s3_⟩ := Hd.HW.k4 (W0 := w40.drew) BK224
  refine Hd.HW.region (by kernel_rfl) (by kernel_rfl) ?_
  try dsimp only [List.append]
  repeat (go_big_quiet_step ((first | (go_at_call 118; with_reducible exact Hd.HW.c (spec_IsSegment.calls a0_0 a0_1 a0_2 a0_3 false _ A3.out)))))
  refine wpQuiet_nil ?_
  intro _ hq_
  obtain ⟨q_, rfl⟩ := hq_
  clear s0_ s1_ s2_ s3_
  replace BK224 := Aside0.mk (blk_below BK224.out q_.b)
  replace BK225 := Aside0.mk (blk_below BK225.out q_.b)
  replace HB := Aside0.mk (below_step HB.out q_.b)
  generalize q_.W = w42 at BK224 BK225 HB ⊢
  try simp only [i64_w, i32_w]
  try go_wp2
  go_ret
  exact ⟨Hd.e_, Hd.b_⟩
end Go.Proofs.Ytchmbcembbbplab.MFnExactRingSegments
