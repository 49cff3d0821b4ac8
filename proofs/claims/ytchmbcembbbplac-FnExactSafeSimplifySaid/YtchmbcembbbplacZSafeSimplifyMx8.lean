-- Laid by this session's program pp.py, after the kit's print and texts of the session's own. Not trusted: Lean checks it.
import Derived.Test.YtchmbcembbbplacZSafeSimplifyMx0
import Derived.Test.YtchmbcembbbplacZSafeSimplifyMx1
import Derived.Test.YtchmbcembbbplacZSafeSimplifyMx7
namespace Go.Proofs.Ytchmbcembbbplac.MFnExactSafeSimplify
open Go.RowKit Go.Proofs.YtchmbcembbbplacW.PrintWords Go.Proofs.YtchmbcembbbplacW.PrintLast Go.Proofs.YtchmbcembbbplacW.PrintMore
attribute [local go_sem] max2_int min2_int max_two min_two max_three min_three max_four min_four   -- for this text's walks alone
set_option linter.unusedVariables false
set_option linter.unusedSimpArgs false
attribute [local go_sem high] eqA49
def spec_IsSegment.f (a0_0 : Int) (a0_1 : Int) (a0_2 : Int) (a0_3 : Int) : Option (Bool) := (spec_IsPoint.f a0_0 a0_1).bind fun t282 => (if t282 = true then ((spec_IsPoint.f a0_2 a0_3).bind fun t283 => (if t283 = true then (some (!(a0_0 == a0_2) || (!(a0_1 == a0_3)))) else (some false))) else (some false))
set_option maxHeartbeats 8000000 in
set_option maxRecDepth 100000 in
theorem spec_IsSegment.calls (a0_0 : Int) (a0_1 : Int) (a0_2 : Int) (a0_3 : Int) (r : Bool) (w : World) (h : spec_IsSegment.f a0_0 a0_1 a0_2 a0_3 = some r) :
  Calls Try.prog 137 #[.agg #[.int .i64 a0_0, .int .i64 a0_1, .int .i64 a0_2, .int .i64 a0_3]] w fun e w' => e = .returned (.bool r) ∧ Below w.heap.size w w' := by
 have hu111 := Try.underlying111
 have hu49 := Try.underlying49
 have HB := Aside0.mk (Below.refl w.heap.size w)
 have H : ((spec_IsPoint.f a0_0 a0_1).bind fun t282 => (if t282 = true then ((spec_IsPoint.f a0_2 a0_3).bind fun t283 => (if t283 = true then (some (!(a0_0 == a0_2) || (!(a0_1 == a0_3)))) else (some false))) else (some false))) = some r := h
 clear h
 replace H := Option.bind_eq_some_iff.mp H
 obtain ⟨t282, A20, H⟩ := H
 replace H : (if t282 = true then ((spec_IsPoint.f a0_2 a0_3).bind fun t283 => (if t283 = true then (some (!(a0_0 == a0_2) || (!(a0_1 == a0_3)))) else (some false))) else (some false)) = some r := H
 have A2 := Aside0.mk A20
 clear A20
 by_cases c3 : t282 = true
 ·
  subst c3
  have H1 : ((spec_IsPoint.f a0_2 a0_3).bind fun t283 => (if t283 = true then (some (!(a0_0 == a0_2) || (!(a0_1 == a0_3)))) else (some false))) = some r := by rw [if_pos rfl] at H; exact H
  clear H
  have H := H1
  clear H1
  replace H := Option.bind_eq_some_iff.mp H
  obtain ⟨t283, A40, H⟩ := H
  replace H : (if t283 = true then (some (!(a0_0 == a0_2) || (!(a0_1 == a0_3)))) else (some false)) = some r := H
  have A4 := Aside0.mk A40
  clear A40
  by_cases c5 : t283 = true
  ·
   subst c5
   have H1 : (some (!(a0_0 == a0_2) || (!(a0_1 == a0_3)))) = some r := by rw [if_pos rfl] at H; exact H
   clear H
   have H := H1
   clear H1
   obtain rfl := Option.some.inj H
   go_enter Try.func137, Try.ntmps137
   go_wp2_with (first | ((with_reducible refine gate_dst (N := 1) rfl ?_); refine Hd.box_ 1 (#[.int .i64 a0_0, .int .i64 a0_1, .int .i64 a0_2, .int .i64 a0_3]) 111 ?_; intro gb281 hg w6 hbox hb; have BK281 := Aside0.mk (hbox); have GW281 := Aside0.mk ((Hd.g_ hg Hd.b_ : w.heap.size ≤ gb281)); have GE281 := Aside0.mk ((Hd.g_ hg Hd.b_ : w.heap.size ≤ gb281)); replace HB := Aside0.mk (below_step Hd.b_ hb); clear hb hbox hg; obtain ⟨hcz7_0, hcz7_1, hcz7_2, hcz7_3⟩ := Hd.c4_ BK281.out; obtain ⟨hfz7_0, hfz7_1, hfz7_2, hfz7_3⟩ := Hd.f4_ BK281.out) | ((with_reducible refine gate_callee (f := 125) rfl ?_); refine goesL_ (some 5) rfl rfl Try.func125 (by kernel_rfl) rfl #[.agg #[.int .i64 a0_0, .int .i64 a0_1]] rfl Hd.m_ ?_; (with_reducible refine (spec_IsPoint.calls a0_0 a0_1 true _ A2.out).mono ?_); rintro e w8 ⟨rfl, hb⟩; refine ⟨_, rfl, ?_⟩; replace BK281 := Aside0.mk (Hd.kb_ BK281 hb); replace HB := Aside0.mk (below_step Hd.b_ hb); (try clear hb); (try clear hb2); (try clear hk); (try clear hi); obtain ⟨hcz9_0, hcz9_1, hcz9_2, hcz9_3⟩ := Hd.c4_ BK281.out; obtain ⟨hfz9_0, hfz9_1, hfz9_2, hfz9_3⟩ := Hd.f4_ BK281.out) | (go_at_call 125; (with_reducible refine (spec_IsPoint.calls a0_2 a0_3 true _ A4.out).mono ?_); rintro e w10 ⟨rfl, hb⟩; replace BK281 := Aside0.mk (Hd.kb_ BK281 hb); replace HB := Aside0.mk (below_step Hd.b_ hb); (try clear hb); (try clear hb2); (try clear hk); (try clear hi); obtain ⟨hcz11_0, hcz11_1, hcz11_2, hcz11_3⟩ := Hd.c4_ BK281.out; obtain ⟨hfz11_0, hfz11_1, hfz11_2, hfz11_3⟩ := Hd.f4_ BK281.out))
   go_ret
   exact ⟨Hd.e_, Hd.b_⟩
  ·
   replace c5 := Bool.eq_false_iff.mpr c5
   subst c5
   have H1 : (some false) = some r := by rw [if_neg (show ¬ (false = true) by decide)] at H; exact H
   clear H
   have H := H1
   clear H1
   obtain rfl := Option.some.inj H
   go_enter Try.func137, Try.ntmps137
   go_wp2_with (first | ((with_reducible refine gate_dst (N := 1) rfl ?_); refine Hd.box_ 1 (#[.int .i64 a0_0, .int .i64 a0_1, .int .i64 a0_2, .int .i64 a0_3]) 111 ?_; intro gb281 hg w12 hbox hb; have BK281 := Aside0.mk (hbox); have GW281 := Aside0.mk ((Hd.g_ hg Hd.b_ : w.heap.size ≤ gb281)); have GE281 := Aside0.mk ((Hd.g_ hg Hd.b_ : w.heap.size ≤ gb281)); replace HB := Aside0.mk (below_step Hd.b_ hb); clear hb hbox hg; obtain ⟨hcz13_0, hcz13_1, hcz13_2, hcz13_3⟩ := Hd.c4_ BK281.out; obtain ⟨hfz13_0, hfz13_1, hfz13_2, hfz13_3⟩ := Hd.f4_ BK281.out) | ((with_reducible refine gate_callee (f := 125) rfl ?_); refine goesL_ (some 5) rfl rfl Try.func125 (by kernel_rfl) rfl #[.agg #[.int .i64 a0_0, .int .i64 a0_1]] rfl Hd.m_ ?_; (with_reducible refine (spec_IsPoint.calls a0_0 a0_1 true _ A2.out).mono ?_); rintro e w14 ⟨rfl, hb⟩; refine ⟨_, rfl, ?_⟩; replace BK281 := Aside0.mk (Hd.kb_ BK281 hb); replace HB := Aside0.mk (below_step Hd.b_ hb); (try clear hb); (try clear hb2); (try clear hk); (try clear hi); obtain ⟨hcz15_0, hcz15_1, hcz15_2, hcz15_3⟩ := Hd.c4_ BK281.out; obtain ⟨hfz15_0, hfz15_1, hfz15_2, hfz15_3⟩ := Hd.f4_ BK281.out) | (go_at_call 125; (with_reducible refine (spec_IsPoint.calls a0_2 a0_3 false _ A4.out).mono ?_); rintro e w16 ⟨rfl, hb⟩; replace BK281 := Aside0.mk (Hd.kb_ BK281 hb); replace HB := Aside0.mk (below_step Hd.b_ hb); (try clear hb); (try clear hb2); (try clear hk); (try clear hi)))
   go_ret
   exact ⟨Hd.e_, Hd.b_⟩
 ·
  replace c3 := Bool.eq_false_iff.mpr c3
  subst c3
  have H1 : (some false) = some r := by rw [if_neg (show ¬ (false = true) by decide)] at H; exact H
  clear H
  have H := H1
  clear H1
  obtain rfl := Option.some.inj H
  go_enter Try.func137, Try.ntmps137
  go_wp2_with (first | ((with_reducible refine gate_dst (N := 1) rfl ?_); refine Hd.box_ 1 (#[.int .i64 a0_0, .int .i64 a0_1, .int .i64 a0_2, .int .i64 a0_3]) 111 ?_; intro gb281 hg w17 hbox hb; have BK281 := Aside0.mk (hbox); have GW281 := Aside0.mk ((Hd.g_ hg Hd.b_ : w.heap.size ≤ gb281)); have GE281 := Aside0.mk ((Hd.g_ hg Hd.b_ : w.heap.size ≤ gb281)); replace HB := Aside0.mk (below_step Hd.b_ hb); clear hb hbox hg; obtain ⟨hcz18_0, hcz18_1, hcz18_2, hcz18_3⟩ := Hd.c4_ BK281.out; obtain ⟨hfz18_0, hfz18_1, hfz18_2, hfz18_3⟩ := Hd.f4_ BK281.out) | ((with_reducible refine gate_callee (f := 125) rfl ?_); refine goesL_ (some 5) rfl rfl Try.func125 (by kernel_rfl) rfl #[.agg #[.int .i64 a0_0, .int .i64 a0_1]] rfl Hd.m_ ?_; (with_reducible refine (spec_IsPoint.calls a0_0 a0_1 false _ A2.out).mono ?_); rintro e w19 ⟨rfl, hb⟩; refine ⟨_, rfl, ?_⟩; replace BK281 := Aside0.mk (Hd.kb_ BK281 hb); replace HB := Aside0.mk (below_step Hd.b_ hb); (try clear hb); (try clear hb2); (try clear hk); (try clear hi)))
  go_ret
  exact ⟨Hd.e_, Hd.b_⟩
def spec_Min.f (a0 : Int) (a1 : Int) : Option (Int) := if a1 < a0 then (some a1) else (some a0)
set_option maxHeartbeats 8000000 in
set_option maxRecDepth 100000 in
theorem spec_Min.calls (a0 : Int) (a1 : Int) (r : Int) (w : World) (h : spec_Min.f a0 a1 = some r) :
  Calls Try.prog 156 #[.int .i64 a0, .int .i64 a1] w fun e w' => e = .returned (.int .i64 r) ∧ Drawn0 w w' := by
 have H : (if a1 < a0 then (some a1) else (some a0)) = some r := h
 clear h
 by_cases c3 : a1 < a0
 ·
  rw [if_pos c3] at H
  have c3b0 : decide (a1 < a0) = true := decide_eq_true c3
  clear c3
  obtain rfl := Option.some.inj H
  go_enter Try.func156, Try.ntmps156
  go_wp2
  go_ret
  exact ⟨by first | rfl | (simp; done) | (simp [*]; done), by repeat (first | exact Drawn0.refl _ | apply Drawn0.step)⟩
 ·
  rw [if_neg c3] at H
  have c3b0 : decide (a1 < a0) = false := decide_eq_false c3
  clear c3
  obtain rfl := Option.some.inj H
  go_enter Try.func156, Try.ntmps156
  go_wp2
  go_ret
  exact ⟨by first | rfl | (simp; done) | (simp [*]; done), by repeat (first | exact Drawn0.refl _ | apply Drawn0.step)⟩
def spec_l4Cross.f (a0_0 : Int) (a0_1 : Int) (a1_0 : Int) (a1_1 : Int) (a2_0 : Int) (a2_1 : Int) : Option (Int) := some (wrap64 ((wrap64 ((wrap64 (a1_0 - a0_0)) * (wrap64 (a2_1 - a0_1)))) - (wrap64 ((wrap64 (a1_1 - a0_1)) * (wrap64 (a2_0 - a0_0))))))
set_option maxHeartbeats 8000000 in
set_option maxRecDepth 100000 in
theorem spec_l4Cross.calls (a0_0 : Int) (a0_1 : Int) (a1_0 : Int) (a1_1 : Int) (a2_0 : Int) (a2_1 : Int) (r : Int) (w : World) (h : spec_l4Cross.f a0_0 a0_1 a1_0 a1_1 a2_0 a2_1 = some r) :
  Calls Try.prog 155 #[.agg #[.int .i64 a0_0, .int .i64 a0_1], .agg #[.int .i64 a1_0, .int .i64 a1_1], .agg #[.int .i64 a2_0, .int .i64 a2_1]] w fun e w' => e = .returned (.int .i64 r) ∧ Below w.heap.size w w' := by
 have hu49 := Try.underlying49
 have HB := Aside0.mk (Below.refl w.heap.size w)
 have H : (some (wrap64 ((wrap64 ((wrap64 (a1_0 - a0_0)) * (wrap64 (a2_1 - a0_1)))) - (wrap64 ((wrap64 (a1_1 - a0_1)) * (wrap64 (a2_0 - a0_0))))))) = some r := h
 clear h
 obtain rfl := Option.some.inj H
 go_enter Try.func155, Try.ntmps155
 go_wp2_with (first | ((with_reducible refine gate_dst (N := 3) rfl ?_); refine Hd.box_ 3 (#[.int .i64 a0_0, .int .i64 a0_1]) 49 ?_; intro gb284 hg w4 hbox hb; have BK284 := Aside0.mk (hbox); have GW284 := Aside0.mk ((Hd.g_ hg Hd.b_ : w.heap.size ≤ gb284)); have GE284 := Aside0.mk ((Hd.g_ hg Hd.b_ : w.heap.size ≤ gb284)); replace HB := Aside0.mk (below_step Hd.b_ hb); clear hb hbox hg) | ((with_reducible refine gate_dst (N := 4) rfl ?_); refine Hd.box_ 4 (#[.int .i64 a1_0, .int .i64 a1_1]) 49 ?_; intro gb285 hg w5 hbox hb; have BK285 := Aside0.mk (hbox); have GW285 := Aside0.mk ((Hd.g_ hg Hd.b_ : w.heap.size ≤ gb285)); have GE285 := Aside0.mk ((Hd.g_ hg Hd.b_ : w.heap.size ≤ gb285)); replace HB := Aside0.mk (below_step Hd.b_ hb); have NB284_285 := Aside0.mk ((Hd.lt_ BK284 hg)); have NB285_284 := Aside0.mk ((Hd.gt_ BK284 hg)); replace BK284 := Aside0.mk (Hd.kb_ BK284 hb); clear hb hbox hg) | ((with_reducible refine gate_dst (N := 5) rfl ?_); refine Hd.box_ 5 (#[.int .i64 a2_0, .int .i64 a2_1]) 49 ?_; intro gb286 hg w6 hbox hb; have BK286 := Aside0.mk (hbox); have GW286 := Aside0.mk ((Hd.g_ hg Hd.b_ : w.heap.size ≤ gb286)); have GE286 := Aside0.mk ((Hd.g_ hg Hd.b_ : w.heap.size ≤ gb286)); replace HB := Aside0.mk (below_step Hd.b_ hb); have NB284_286 := Aside0.mk ((Hd.lt_ BK284 hg)); have NB286_284 := Aside0.mk ((Hd.gt_ BK284 hg)); replace BK284 := Aside0.mk (Hd.kb_ BK284 hb); have NB285_286 := Aside0.mk ((Hd.lt_ BK285 hg)); have NB286_285 := Aside0.mk ((Hd.gt_ BK285 hg)); replace BK285 := Aside0.mk (Hd.kb_ BK285 hb); clear hb hbox hg; have hnb7 := NB285_284.out; have hnc7 := NB284_285.out; have hnb8 := NB285_286.out; have hnc8 := NB286_285.out; obtain ⟨hcz9_0, hcz9_1⟩ := Hd.c2_ BK285.out; obtain ⟨hfz9_0, hfz9_1⟩ := Hd.f2_ BK285.out; have hnb10 := NB284_286.out; have hnc10 := NB286_284.out; obtain ⟨hcz11_0, hcz11_1⟩ := Hd.c2_ BK284.out; obtain ⟨hfz11_0, hfz11_1⟩ := Hd.f2_ BK284.out; obtain ⟨hcz12_0, hcz12_1⟩ := Hd.c2_ BK286.out; obtain ⟨hfz12_0, hfz12_1⟩ := Hd.f2_ BK286.out))
 go_ret
 exact ⟨Hd.e_, Hd.b_⟩
def spec_IsOn.f (a0_0 : Int) (a0_1 : Int) (a0_2 : Int) (a0_3 : Int) (a1_0 : Int) (a1_1 : Int) : Option (Bool) := (spec_IsSegment.f a0_0 a0_1 a0_2 a0_3).bind fun t289 => (if t289 = true then ((spec_IsPoint.f a1_0 a1_1).bind fun t290 => (if t290 = true then ((spec_l4Cross.f a0_0 a0_1 a0_2 a0_3 a1_0 a1_1).bind fun t291 => (if t291 = 0 then ((spec_Min.f a0_0 a0_2).bind fun t292 => ((spec_Max.f a0_0 a0_2).bind fun t293 => ((spec_l1In.f a1_0 t292 t293).bind fun t294 => (if t294 = true then ((spec_Min.f a0_1 a0_3).bind fun t295 => ((spec_Max.f a0_1 a0_3).bind fun t296 => ((spec_l1In.f a1_1 t295 t296).bind fun t297 => (some t297)))) else (some false))))) else (some false))) else (some false))) else (some false))
set_option maxHeartbeats 8000000 in
set_option maxRecDepth 100000 in
theorem spec_IsOn.calls (a0_0 : Int) (a0_1 : Int) (a0_2 : Int) (a0_3 : Int) (a1_0 : Int) (a1_1 : Int) (r : Bool) (w : World) (h : spec_IsOn.f a0_0 a0_1 a0_2 a0_3 a1_0 a1_1 = some r) :
  Calls Try.prog 167 #[.agg #[.int .i64 a0_0, .int .i64 a0_1, .int .i64 a0_2, .int .i64 a0_3], .agg #[.int .i64 a1_0, .int .i64 a1_1]] w fun e w' => e = .returned (.bool r) ∧ Below w.heap.size w w' := by
 have hu111 := Try.underlying111
 have hu49 := Try.underlying49
 have HB := Aside0.mk (Below.refl w.heap.size w)
 have H : ((spec_IsSegment.f a0_0 a0_1 a0_2 a0_3).bind fun t289 => (if t289 = true then ((spec_IsPoint.f a1_0 a1_1).bind fun t290 => (if t290 = true then ((spec_l4Cross.f a0_0 a0_1 a0_2 a0_3 a1_0 a1_1).bind fun t291 => (if t291 = 0 then ((spec_Min.f a0_0 a0_2).bind fun t292 => ((spec_Max.f a0_0 a0_2).bind fun t293 => ((spec_l1In.f a1_0 t292 t293).bind fun t294 => (if t294 = true then ((spec_Min.f a0_1 a0_3).bind fun t295 => ((spec_Max.f a0_1 a0_3).bind fun t296 => ((spec_l1In.f a1_1 t295 t296).bind fun t297 => (some t297)))) else (some false))))) else (some false))) else (some false))) else (some false))) = some r := h
 clear h
 replace H := Option.bind_eq_some_iff.mp H
 obtain ⟨t289, A30, H⟩ := H
 replace H : (if t289 = true then ((spec_IsPoint.f a1_0 a1_1).bind fun t290 => (if t290 = true then ((spec_l4Cross.f a0_0 a0_1 a0_2 a0_3 a1_0 a1_1).bind fun t291 => (if t291 = 0 then ((spec_Min.f a0_0 a0_2).bind fun t292 => ((spec_Max.f a0_0 a0_2).bind fun t293 => ((spec_l1In.f a1_0 t292 t293).bind fun t294 => (if t294 = true then ((spec_Min.f a0_1 a0_3).bind fun t295 => ((spec_Max.f a0_1 a0_3).bind fun t296 => ((spec_l1In.f a1_1 t295 t296).bind fun t297 => (some t297)))) else (some false))))) else (some false))) else (some false))) else (some false)) = some r := H
 have A3 := Aside0.mk A30
 clear A30
 by_cases c4 : t289 = true
 ·
  subst c4
  have H1 : ((spec_IsPoint.f a1_0 a1_1).bind fun t290 => (if t290 = true then ((spec_l4Cross.f a0_0 a0_1 a0_2 a0_3 a1_0 a1_1).bind fun t291 => (if t291 = 0 then ((spec_Min.f a0_0 a0_2).bind fun t292 => ((spec_Max.f a0_0 a0_2).bind fun t293 => ((spec_l1In.f a1_0 t292 t293).bind fun t294 => (if t294 = true then ((spec_Min.f a0_1 a0_3).bind fun t295 => ((spec_Max.f a0_1 a0_3).bind fun t296 => ((spec_l1In.f a1_1 t295 t296).bind fun t297 => (some t297)))) else (some false))))) else (some false))) else (some false))) = some r := by rw [if_pos rfl] at H; exact H
  clear H
  have H := H1
  clear H1
  replace H := Option.bind_eq_some_iff.mp H
  obtain ⟨t290, A50, H⟩ := H
  replace H : (if t290 = true then ((spec_l4Cross.f a0_0 a0_1 a0_2 a0_3 a1_0 a1_1).bind fun t291 => (if t291 = 0 then ((spec_Min.f a0_0 a0_2).bind fun t292 => ((spec_Max.f a0_0 a0_2).bind fun t293 => ((spec_l1In.f a1_0 t292 t293).bind fun t294 => (if t294 = true then ((spec_Min.f a0_1 a0_3).bind fun t295 => ((spec_Max.f a0_1 a0_3).bind fun t296 => ((spec_l1In.f a1_1 t295 t296).bind fun t297 => (some t297)))) else (some false))))) else (some false))) else (some false)) = some r := H
  have A5 := Aside0.mk A50
  clear A50
  by_cases c6 : t290 = true
  ·
   subst c6
   have H1 : ((spec_l4Cross.f a0_0 a0_1 a0_2 a0_3 a1_0 a1_1).bind fun t291 => (if t291 = 0 then ((spec_Min.f a0_0 a0_2).bind fun t292 => ((spec_Max.f a0_0 a0_2).bind fun t293 => ((spec_l1In.f a1_0 t292 t293).bind fun t294 => (if t294 = true then ((spec_Min.f a0_1 a0_3).bind fun t295 => ((spec_Max.f a0_1 a0_3).bind fun t296 => ((spec_l1In.f a1_1 t295 t296).bind fun t297 => (some t297)))) else (some false))))) else (some false))) = some r := by rw [if_pos rfl] at H; exact H
   clear H
   have H := H1
   clear H1
   replace H := Option.bind_eq_some_iff.mp H
   obtain ⟨t291, A70, H⟩ := H
   replace H : (if t291 = 0 then ((spec_Min.f a0_0 a0_2).bind fun t292 => ((spec_Max.f a0_0 a0_2).bind fun t293 => ((spec_l1In.f a1_0 t292 t293).bind fun t294 => (if t294 = true then ((spec_Min.f a0_1 a0_3).bind fun t295 => ((spec_Max.f a0_1 a0_3).bind fun t296 => ((spec_l1In.f a1_1 t295 t296).bind fun t297 => (some t297)))) else (some false))))) else (some false)) = some r := H
   have A7 := Aside0.mk A70
   clear A70
   by_cases c8 : t291 = 0
   ·
    rw [if_pos c8] at H
    have c8b0 : (t291 == 0) = true := beq_iff_eq.mpr c8
    have c8b1 : (t291 != 0) = false := bne_eq_false_iff_eq.mpr c8
    clear c8
    replace H := Option.bind_eq_some_iff.mp H
    obtain ⟨t292, A90, H⟩ := H
    replace H : ((spec_Max.f a0_0 a0_2).bind fun t293 => ((spec_l1In.f a1_0 t292 t293).bind fun t294 => (if t294 = true then ((spec_Min.f a0_1 a0_3).bind fun t295 => ((spec_Max.f a0_1 a0_3).bind fun t296 => ((spec_l1In.f a1_1 t295 t296).bind fun t297 => (some t297)))) else (some false)))) = some r := H
    have A9 := Aside0.mk A90
    clear A90
    replace H := Option.bind_eq_some_iff.mp H
    obtain ⟨t293, A100, H⟩ := H
    replace H : ((spec_l1In.f a1_0 t292 t293).bind fun t294 => (if t294 = true then ((spec_Min.f a0_1 a0_3).bind fun t295 => ((spec_Max.f a0_1 a0_3).bind fun t296 => ((spec_l1In.f a1_1 t295 t296).bind fun t297 => (some t297)))) else (some false))) = some r := H
    have A10 := Aside0.mk A100
    clear A100
    replace H := Option.bind_eq_some_iff.mp H
    obtain ⟨t294, A110, H⟩ := H
    replace H : (if t294 = true then ((spec_Min.f a0_1 a0_3).bind fun t295 => ((spec_Max.f a0_1 a0_3).bind fun t296 => ((spec_l1In.f a1_1 t295 t296).bind fun t297 => (some t297)))) else (some false)) = some r := H
    have A11 := Aside0.mk A110
    clear A110
    by_cases c12 : t294 = true
    ·
     subst c12
     have H1 : ((spec_Min.f a0_1 a0_3).bind fun t295 => ((spec_Max.f a0_1 a0_3).bind fun t296 => ((spec_l1In.f a1_1 t295 t296).bind fun t297 => (some t297)))) = some r := by rw [if_pos rfl] at H; exact H
     clear H
     have H := H1
     clear H1
     replace H := Option.bind_eq_some_iff.mp H
     obtain ⟨t295, A130, H⟩ := H
     replace H : ((spec_Max.f a0_1 a0_3).bind fun t296 => ((spec_l1In.f a1_1 t295 t296).bind fun t297 => (some t297))) = some r := H
     have A13 := Aside0.mk A130
     clear A130
     replace H := Option.bind_eq_some_iff.mp H
     obtain ⟨t296, A140, H⟩ := H
     replace H : ((spec_l1In.f a1_1 t295 t296).bind fun t297 => (some t297)) = some r := H
     have A14 := Aside0.mk A140
     clear A140
     replace H := Option.bind_eq_some_iff.mp H
     obtain ⟨t297, A150, H⟩ := H
     replace H : (some t297) = some r := H
     have A15 := Aside0.mk A150
     clear A150
     obtain rfl := Option.some.inj H
     go_enter Try.func167, Try.ntmps167
     try go_wp2_with (first | ((with_reducible refine gate_dst (N := 2) rfl ?_); refine Hd.box_ 2 (#[.int .i64 a0_0, .int .i64 a0_1, .int .i64 a0_2, .int .i64 a0_3]) 111 ?_; intro gb287 hg w16 hbox hb; have BK287 := Aside0.mk (hbox); have GW287 := Aside0.mk ((Hd.g_ hg Hd.b_ : w.heap.size ≤ gb287)); have GE287 := Aside0.mk ((Hd.g_ hg Hd.b_ : w.heap.size ≤ gb287)); replace HB := Aside0.mk (below_step Hd.b_ hb); clear hb hbox hg) | ((with_reducible refine gate_dst (N := 3) rfl ?_); refine Hd.box_ 3 (#[.int .i64 a1_0, .int .i64 a1_1]) 49 ?_; intro gb288 hg w17 hbox hb; have BK288 := Aside0.mk (hbox); have GW288 := Aside0.mk ((Hd.g_ hg Hd.b_ : w.heap.size ≤ gb288)); have GE288 := Aside0.mk ((Hd.g_ hg Hd.b_ : w.heap.size ≤ gb288)); replace HB := Aside0.mk (below_step Hd.b_ hb); have NB287_288 := Aside0.mk ((Hd.lt_ BK287 hg)); have NB288_287 := Aside0.mk ((Hd.gt_ BK287 hg)); replace BK287 := Aside0.mk (Hd.kb_ BK287 hb); clear hb hbox hg))
     replace BK287 := Aside0.mk (blk_drew BK287.out)
     replace BK288 := Aside0.mk (blk_drew BK288.out)
     replace HB := Aside0.mk (below_drew1 HB.out)
     obtain ⟨s0_, s1_, s2_, s3_⟩ := Hd.HW.k4 (W0 := w17.drew) BK287
     obtain ⟨s4_, s5_⟩ := Hd.HW.k2 (W0 := w17.drew) BK288
     refine Hd.HW.region (by kernel_rfl) (by kernel_rfl) ?_
     try dsimp only [List.append]
     repeat (go_big_quiet_step ((first | (go_at_call 137; with_reducible exact Hd.HW.c (spec_IsSegment.calls a0_0 a0_1 a0_2 a0_3 true _ A3.out)) | (go_at_call 125; with_reducible exact Hd.HW.c (spec_IsPoint.calls a1_0 a1_1 true _ A5.out)) | (go_at_call 155; with_reducible exact Hd.HW.c (spec_l4Cross.calls a0_0 a0_1 a0_2 a0_3 a1_0 a1_1 t291 _ A7.out)) | (go_at_call 156; with_reducible exact Hd.HW.d (spec_Min.calls a0_0 a0_2 t292 _ A9.out)) | (go_at_call 128; with_reducible exact Hd.HW.d (spec_Max.calls a0_0 a0_2 t293 _ A10.out)) | (go_at_call 83; with_reducible exact Hd.HW.d (spec_l1In.calls a1_0 t292 t293 true _ A11.out)) | (go_at_call 156; with_reducible exact Hd.HW.d (spec_Min.calls a0_1 a0_3 t295 _ A13.out)) | (go_at_call 128; with_reducible exact Hd.HW.d (spec_Max.calls a0_1 a0_3 t296 _ A14.out)) | (go_at_call 83; with_reducible exact Hd.HW.d (spec_l1In.calls a1_1 t295 t296 t297 _ A15.out)))))
     refine wpQuiet_nil ?_
     intro _ hq_
     obtain ⟨q_, rfl⟩ := hq_
     clear s0_ s1_ s2_ s3_ s4_ s5_
     replace BK287 := Aside0.mk (blk_below BK287.out q_.b)
     replace BK288 := Aside0.mk (blk_below BK288.out q_.b)
     replace HB := Aside0.mk (below_step HB.out q_.b)
     generalize q_.W = w21 at BK287 BK288 HB ⊢
     try simp only [i64_w, i32_w]
     try go_wp2
     go_ret
     exact ⟨Hd.e_, Hd.b_⟩
    ·
     replace c12 := Bool.eq_false_iff.mpr c12
     subst c12
     have H1 : (some false) = some r := by rw [if_neg (show ¬ (false = true) by decide)] at H; exact H
     clear H
     have H := H1
     clear H1
     obtain rfl := Option.some.inj H
     go_enter Try.func167, Try.ntmps167
     try go_wp2_with (first | ((with_reducible refine gate_dst (N := 2) rfl ?_); refine Hd.box_ 2 (#[.int .i64 a0_0, .int .i64 a0_1, .int .i64 a0_2, .int .i64 a0_3]) 111 ?_; intro gb287 hg w22 hbox hb; have BK287 := Aside0.mk (hbox); have GW287 := Aside0.mk ((Hd.g_ hg Hd.b_ : w.heap.size ≤ gb287)); have GE287 := Aside0.mk ((Hd.g_ hg Hd.b_ : w.heap.size ≤ gb287)); replace HB := Aside0.mk (below_step Hd.b_ hb); clear hb hbox hg) | ((with_reducible refine gate_dst (N := 3) rfl ?_); refine Hd.box_ 3 (#[.int .i64 a1_0, .int .i64 a1_1]) 49 ?_; intro gb288 hg w23 hbox hb; have BK288 := Aside0.mk (hbox); have GW288 := Aside0.mk ((Hd.g_ hg Hd.b_ : w.heap.size ≤ gb288)); have GE288 := Aside0.mk ((Hd.g_ hg Hd.b_ : w.heap.size ≤ gb288)); replace HB := Aside0.mk (below_step Hd.b_ hb); have NB287_288 := Aside0.mk ((Hd.lt_ BK287 hg)); have NB288_287 := Aside0.mk ((Hd.gt_ BK287 hg)); replace BK287 := Aside0.mk (Hd.kb_ BK287 hb); clear hb hbox hg))
     replace BK287 := Aside0.mk (blk_drew BK287.out)
     replace BK288 := Aside0.mk (blk_drew BK288.out)
     replace HB := Aside0.mk (below_drew1 HB.out)
     obtain ⟨s0_, s1_, s2_, s3_⟩ := Hd.HW.k4 (W0 := w23.drew) BK287
     obtain ⟨s4_, s5_⟩ := Hd.HW.k2 (W0 := w23.drew) BK288
     refine Hd.HW.region (by kernel_rfl) (by kernel_rfl) ?_
     try dsimp only [List.append]
     repeat (go_big_quiet_step ((first | (go_at_call 137; with_reducible exact Hd.HW.c (spec_IsSegment.calls a0_0 a0_1 a0_2 a0_3 true _ A3.out)) | (go_at_call 125; with_reducible exact Hd.HW.c (spec_IsPoint.calls a1_0 a1_1 true _ A5.out)) | (go_at_call 155; with_reducible exact Hd.HW.c (spec_l4Cross.calls a0_0 a0_1 a0_2 a0_3 a1_0 a1_1 t291 _ A7.out)) | (go_at_call 156; with_reducible exact Hd.HW.d (spec_Min.calls a0_0 a0_2 t292 _ A9.out)) | (go_at_call 128; with_reducible exact Hd.HW.d (spec_Max.calls a0_0 a0_2 t293 _ A10.out)) | (go_at_call 83; with_reducible exact Hd.HW.d (spec_l1In.calls a1_0 t292 t293 false _ A11.out)))))
     refine wpQuiet_nil ?_
     intro _ hq_
     obtain ⟨q_, rfl⟩ := hq_
     clear s0_ s1_ s2_ s3_ s4_ s5_
     replace BK287 := Aside0.mk (blk_below BK287.out q_.b)
     replace BK288 := Aside0.mk (blk_below BK288.out q_.b)
     replace HB := Aside0.mk (below_step HB.out q_.b)
     generalize q_.W = w27 at BK287 BK288 HB ⊢
     try simp only [i64_w, i32_w]
     try go_wp2
     go_ret
     exact ⟨Hd.e_, Hd.b_⟩
   ·
    rw [if_neg c8] at H
    have c8b0 : (t291 == 0) = false := beq_eq_false_iff_ne.mpr c8
    have c8b1 : (t291 != 0) = true := bne_iff_ne.mpr c8
    obtain rfl := Option.some.inj H
    go_enter Try.func167, Try.ntmps167
    try go_wp2_with (first | ((with_reducible refine gate_dst (N := 2) rfl ?_); refine Hd.box_ 2 (#[.int .i64 a0_0, .int .i64 a0_1, .int .i64 a0_2, .int .i64 a0_3]) 111 ?_; intro gb287 hg w28 hbox hb; have BK287 := Aside0.mk (hbox); have GW287 := Aside0.mk ((Hd.g_ hg Hd.b_ : w.heap.size ≤ gb287)); have GE287 := Aside0.mk ((Hd.g_ hg Hd.b_ : w.heap.size ≤ gb287)); replace HB := Aside0.mk (below_step Hd.b_ hb); clear hb hbox hg) | ((with_reducible refine gate_dst (N := 3) rfl ?_); refine Hd.box_ 3 (#[.int .i64 a1_0, .int .i64 a1_1]) 49 ?_; intro gb288 hg w29 hbox hb; have BK288 := Aside0.mk (hbox); have GW288 := Aside0.mk ((Hd.g_ hg Hd.b_ : w.heap.size ≤ gb288)); have GE288 := Aside0.mk ((Hd.g_ hg Hd.b_ : w.heap.size ≤ gb288)); replace HB := Aside0.mk (below_step Hd.b_ hb); have NB287_288 := Aside0.mk ((Hd.lt_ BK287 hg)); have NB288_287 := Aside0.mk ((Hd.gt_ BK287 hg)); replace BK287 := Aside0.mk (Hd.kb_ BK287 hb); clear hb hbox hg))
    replace BK287 := Aside0.mk (blk_drew BK287.out)
    replace BK288 := Aside0.mk (blk_drew BK288.out)
    replace HB := Aside0.mk (below_drew1 HB.out)
    obtain ⟨s0_, s1_, s2_, s3_⟩ := Hd.HW.k4 (W0 := w29.drew) BK287
    obtain ⟨s4_, s5_⟩ := Hd.HW.k2 (W0 := w29.drew) BK288
    refine Hd.HW.region (by kernel_rfl) (by kernel_rfl) ?_
    try dsimp only [List.append]
    repeat (go_big_quiet_step ((first | (go_at_call 137; with_reducible exact Hd.HW.c (spec_IsSegment.calls a0_0 a0_1 a0_2 a0_3 true _ A3.out)) | (go_at_call 125; with_reducible exact Hd.HW.c (spec_IsPoint.calls a1_0 a1_1 true _ A5.out)) | (go_at_call 155; with_reducible exact Hd.HW.c (spec_l4Cross.calls a0_0 a0_1 a0_2 a0_3 a1_0 a1_1 t291 _ A7.out)))))
    refine wpQuiet_nil ?_
    intro _ hq_
    obtain ⟨q_, rfl⟩ := hq_
    clear s0_ s1_ s2_ s3_ s4_ s5_
    replace BK287 := Aside0.mk (blk_below BK287.out q_.b)
    replace BK288 := Aside0.mk (blk_below BK288.out q_.b)
    replace HB := Aside0.mk (below_step HB.out q_.b)
    generalize q_.W = w33 at BK287 BK288 HB ⊢
    try simp only [i64_w, i32_w]
    try go_wp2
    go_ret
    exact ⟨Hd.e_, Hd.b_⟩
  ·
   replace c6 := Bool.eq_false_iff.mpr c6
   subst c6
   have H1 : (some false) = some r := by rw [if_neg (show ¬ (false = true) by decide)] at H; exact H
   clear H
   have H := H1
   clear H1
   obtain rfl := Option.some.inj H
   go_enter Try.func167, Try.ntmps167
   try go_wp2_with (first | ((with_reducible refine gate_dst (N := 2) rfl ?_); refine Hd.box_ 2 (#[.int .i64 a0_0, .int .i64 a0_1, .int .i64 a0_2, .int .i64 a0_3]) 111 ?_; intro gb287 hg w34 hbox hb; have BK287 := Aside0.mk (hbox); have GW287 := Aside0.mk ((Hd.g_ hg Hd.b_ : w.heap.size ≤ gb287)); have GE287 := Aside0.mk ((Hd.g_ hg Hd.b_ : w.heap.size ≤ gb287)); replace HB := Aside0.mk (below_step Hd.b_ hb); clear hb hbox hg) | ((with_reducible refine gate_dst (N := 3) rfl ?_); refine Hd.box_ 3 (#[.int .i64 a1_0, .int .i64 a1_1]) 49 ?_; intro gb288 hg w35 hbox hb; have BK288 := Aside0.mk (hbox); have GW288 := Aside0.mk ((Hd.g_ hg Hd.b_ : w.heap.size ≤ gb288)); have GE288 := Aside0.mk ((Hd.g_ hg Hd.b_ : w.heap.size ≤ gb288)); replace HB := Aside0.mk (below_step Hd.b_ hb); have NB287_288 := Aside0.mk ((Hd.lt_ BK287 hg)); have NB288_287 := Aside0.mk ((Hd.gt_ BK287 hg)); replace BK287 := Aside0.mk (Hd.kb_ BK287 hb); clear hb hbox hg))
   replace BK287 := Aside0.mk (blk_drew BK287.out)
   replace BK288 := Aside0.mk (blk_drew BK288.out)
   replace HB := Aside0.mk (below_drew1 HB.out)
   obtain ⟨s0_, s1_, s2_, s3_⟩ := Hd.HW.k4 (W0 := w35.drew) BK287
   obtain ⟨s4_, s5_⟩ := Hd.HW.k2 (W0 := w35.drew) BK288
   refine Hd.HW.region (by kernel_rfl) (by kernel_rfl) ?_
   try dsimp only [List.append]
   repeat (go_big_quiet_step ((first | (go_at_call 137; with_reducible exact Hd.HW.c (spec_IsSegment.calls a0_0 a0_1 a0_2 a0_3 true _ A3.out)) | (go_at_call 125; with_reducible exact Hd.HW.c (spec_IsPoint.calls a1_0 a1_1 false _ A5.out)))))
   refine wpQuiet_nil ?_
   intro _ hq_
   obtain ⟨q_, rfl⟩ := hq_
   clear s0_ s1_ s2_ s3_ s4_ s5_
   replace BK287 := Aside0.mk (blk_below BK287.out q_.b)
   replace BK288 := Aside0.mk (blk_below BK288.out q_.b)
   replace HB := Aside0.mk (below_step HB.out q_.b)
   generalize q_.W = w38 at BK287 BK288 HB ⊢
   try simp only [i64_w, i32_w]
   try go_wp2
   go_ret
   exact ⟨Hd.e_, Hd.b_⟩
 ·
  replace c4 := Bool.eq_false_iff.mpr c4
  subst c4
  have H1 : (some false) = some r := by rw [if_neg (show ¬ (false = true) by decide)] at H; exact H
  clear H
  have H := H1
  clear H1
  obtain rfl := Option.some.inj H
  go_enter Try.func167, Try.ntmps167
  try go_wp2_with (first | ((with_reducible refine gate_dst (N := 2) rfl ?_); refine Hd.box_ 2 (#[.int .i64 a0_0, .int .i64 a0_1, .int .i64 a0_2, .int .i64 a0_3]) 111 ?_; intro gb287 hg w39 hbox hb; have BK287 := Aside0.mk (hbox); have GW287 := Aside0.mk ((Hd.g_ hg Hd.b_ : w.heap.size ≤ gb287)); have GE287 := Aside0.mk ((Hd.g_ hg Hd.b_ : w.heap.size ≤ gb287)); replace HB := Aside0.mk (below_step Hd.b_ hb); clear hb hbox hg) | ((with_reducible refine gate_dst (N := 3) rfl ?_); refine Hd.box_ 3 (#[.int .i64 a1_0, .int .i64 a1_1]) 49 ?_; intro gb288 hg w40 hbox hb; have BK288 := Aside0.mk (hbox); have GW288 := Aside0.mk ((Hd.g_ hg Hd.b_ : w.heap.size ≤ gb288)); have GE288 := Aside0.mk ((Hd.g_ hg Hd.b_ : w.heap.size ≤ gb288)); replace HB := Aside0.mk (below_step Hd.b_ hb); have NB287_288 := Aside0.mk ((Hd.lt_ BK287 hg)); have NB288_287 := Aside0.mk ((Hd.gt_ BK287 hg)); replace BK287 := Aside0.mk (Hd.kb_ BK287 hb); clear hb hbox hg))
  replace BK287 := Aside0.mk (blk_drew BK287.out)
  replace BK288 := Aside0.mk (blk_drew BK288.out)
  replace HB := Aside0.mk (below_drew1 HB.out)
  obtain ⟨s0_, s1_, s2_, s3_⟩ := Hd.HW.k4 (W0 := w40.drew) BK287
  refine Hd.HW.region (by kernel_rfl) (by kernel_rfl) ?_
  try dsimp only [List.append]
  repeat (go_big_quiet_step ((first | (go_at_call 137; with_reducible exact Hd.HW.c (spec_IsSegment.calls a0_0 a0_1 a0_2 a0_3 false _ A3.out)))))
  refine wpQuiet_nil ?_
  intro _ hq_
  obtain ⟨q_, rfl⟩ := hq_
  clear s0_ s1_ s2_ s3_
  replace BK287 := Aside0.mk (blk_below BK287.out q_.b)
  replace BK288 := Aside0.mk (blk_below BK288.out q_.b)
  replace HB := Aside0.mk (below_step HB.out q_.b)
  generalize q_.W = w42 at BK287 BK288 HB ⊢
  try simp only [i64_w, i32_w]
  try go_wp2
  go_ret
  exact ⟨Hd.e_, Hd.b_⟩
end Go.Proofs.Ytchmbcembbbplac.MFnExactSafeSimplify
