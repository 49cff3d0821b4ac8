-- Laid by this session's program pp.py, after the kit's print and texts of the session's own. Not trusted: Lean checks it.
import Derived.Test.YtbbdhlggnglfgaaZTakeFeatureMx0
import Derived.Test.YtbbdhlggnglfgaaZTakeFeatureMx1
import Derived.Test.YtbbdhlggnglfgaaZTakeFeatureMx4
namespace Go.Proofs.Ytbbdhlggnglfgaa.MFnExactTakeFeature
open Go.RowKit Go.Proofs.YtbbdhlggnglfgaaW.PrintWords Go.Proofs.YtbbdhlggnglfgaaW.PrintLast Go.Proofs.YtbbdhlggnglfgaaW.PrintMore
attribute [local go_sem] max2_int min2_int max_two min_two max_three min_three max_four min_four   -- for this text's walks alone
set_option linter.unusedVariables false
set_option linter.unusedSimpArgs false
attribute [local go_sem high] eqA75
def impl_IsSegment.f (a0_0 : Int) (a0_1 : Int) (a0_2 : Int) (a0_3 : Int) : Option (Bool) := (impl_IsPoint.f a0_0 a0_1).bind fun t163 => (if t163 = true then ((impl_IsPoint.f a0_2 a0_3).bind fun t164 => (if t164 = true then (some (!(a0_0 == a0_2) || (!(a0_1 == a0_3)))) else (some false))) else (some false))
set_option maxHeartbeats 8000000 in
set_option maxRecDepth 100000 in
theorem impl_IsSegment.calls (a0_0 : Int) (a0_1 : Int) (a0_2 : Int) (a0_3 : Int) (r : Bool) (w : World) (h : impl_IsSegment.f a0_0 a0_1 a0_2 a0_3 = some r) :
  Calls Try.prog 90 #[.agg #[.int .i64 a0_0, .int .i64 a0_1, .int .i64 a0_2, .int .i64 a0_3]] w fun e w' => e = .returned (.bool r) ∧ Below w.heap.size w w' := by
 have hu101 := Try.underlying101
 have hu75 := Try.underlying75
 have HB := Aside0.mk (Below.refl w.heap.size w)
 have H : ((impl_IsPoint.f a0_0 a0_1).bind fun t163 => (if t163 = true then ((impl_IsPoint.f a0_2 a0_3).bind fun t164 => (if t164 = true then (some (!(a0_0 == a0_2) || (!(a0_1 == a0_3)))) else (some false))) else (some false))) = some r := h
 clear h
 replace H := Option.bind_eq_some_iff.mp H
 obtain ⟨t163, A20, H⟩ := H
 replace H : (if t163 = true then ((impl_IsPoint.f a0_2 a0_3).bind fun t164 => (if t164 = true then (some (!(a0_0 == a0_2) || (!(a0_1 == a0_3)))) else (some false))) else (some false)) = some r := H
 have A2 := Aside0.mk A20
 clear A20
 by_cases c3 : t163 = true
 ·
  subst c3
  have H1 : ((impl_IsPoint.f a0_2 a0_3).bind fun t164 => (if t164 = true then (some (!(a0_0 == a0_2) || (!(a0_1 == a0_3)))) else (some false))) = some r := by rw [if_pos rfl] at H; exact H
  clear H
  have H := H1
  clear H1
  replace H := Option.bind_eq_some_iff.mp H
  obtain ⟨t164, A40, H⟩ := H
  replace H : (if t164 = true then (some (!(a0_0 == a0_2) || (!(a0_1 == a0_3)))) else (some false)) = some r := H
  have A4 := Aside0.mk A40
  clear A40
  by_cases c5 : t164 = true
  ·
   subst c5
   have H1 : (some (!(a0_0 == a0_2) || (!(a0_1 == a0_3)))) = some r := by rw [if_pos rfl] at H; exact H
   clear H
   have H := H1
   clear H1
   obtain rfl := Option.some.inj H
   go_enter Try.func90, Try.ntmps90
   go_wp2_with (first | ((with_reducible refine gate_dst (N := 1) rfl ?_); refine Hd.box_ 1 (#[.int .i64 a0_0, .int .i64 a0_1, .int .i64 a0_2, .int .i64 a0_3]) 101 ?_; intro gb162 hg w6 hbox hb; have BK162 := Aside0.mk (hbox); have GW162 := Aside0.mk ((Hd.g_ hg Hd.b_ : w.heap.size ≤ gb162)); have GE162 := Aside0.mk ((Hd.g_ hg Hd.b_ : w.heap.size ≤ gb162)); replace HB := Aside0.mk (below_step Hd.b_ hb); clear hb hbox hg; obtain ⟨hcz7_0, hcz7_1, hcz7_2, hcz7_3⟩ := Hd.c4_ BK162.out; obtain ⟨hfz7_0, hfz7_1, hfz7_2, hfz7_3⟩ := Hd.f4_ BK162.out) | ((with_reducible refine gate_callee (f := 73) rfl ?_); refine goesL_ (some 5) rfl rfl Try.func73 (by kernel_rfl) rfl #[.agg #[.int .i64 a0_0, .int .i64 a0_1]] rfl Hd.m_ ?_; (with_reducible refine (impl_IsPoint.calls a0_0 a0_1 true _ A2.out).mono ?_); rintro e w8 ⟨rfl, hb⟩; refine ⟨_, rfl, ?_⟩; replace BK162 := Aside0.mk (Hd.kb_ BK162 hb); replace HB := Aside0.mk (below_step Hd.b_ hb); (try clear hb); (try clear hb2); (try clear hk); (try clear hi); obtain ⟨hcz9_0, hcz9_1, hcz9_2, hcz9_3⟩ := Hd.c4_ BK162.out; obtain ⟨hfz9_0, hfz9_1, hfz9_2, hfz9_3⟩ := Hd.f4_ BK162.out) | (go_at_call 73; (with_reducible refine (impl_IsPoint.calls a0_2 a0_3 true _ A4.out).mono ?_); rintro e w10 ⟨rfl, hb⟩; replace BK162 := Aside0.mk (Hd.kb_ BK162 hb); replace HB := Aside0.mk (below_step Hd.b_ hb); (try clear hb); (try clear hb2); (try clear hk); (try clear hi); obtain ⟨hcz11_0, hcz11_1, hcz11_2, hcz11_3⟩ := Hd.c4_ BK162.out; obtain ⟨hfz11_0, hfz11_1, hfz11_2, hfz11_3⟩ := Hd.f4_ BK162.out))
   go_ret
   exact ⟨Hd.e_, Hd.b_⟩
  ·
   replace c5 := Bool.eq_false_iff.mpr c5
   subst c5
   have H1 : (some false) = some r := by rw [if_neg (show ¬ (false = true) by decide)] at H; exact H
   clear H
   have H := H1
   clear H1
   obtain rfl := Option.some.inj H
   go_enter Try.func90, Try.ntmps90
   go_wp2_with (first | ((with_reducible refine gate_dst (N := 1) rfl ?_); refine Hd.box_ 1 (#[.int .i64 a0_0, .int .i64 a0_1, .int .i64 a0_2, .int .i64 a0_3]) 101 ?_; intro gb162 hg w12 hbox hb; have BK162 := Aside0.mk (hbox); have GW162 := Aside0.mk ((Hd.g_ hg Hd.b_ : w.heap.size ≤ gb162)); have GE162 := Aside0.mk ((Hd.g_ hg Hd.b_ : w.heap.size ≤ gb162)); replace HB := Aside0.mk (below_step Hd.b_ hb); clear hb hbox hg; obtain ⟨hcz13_0, hcz13_1, hcz13_2, hcz13_3⟩ := Hd.c4_ BK162.out; obtain ⟨hfz13_0, hfz13_1, hfz13_2, hfz13_3⟩ := Hd.f4_ BK162.out) | ((with_reducible refine gate_callee (f := 73) rfl ?_); refine goesL_ (some 5) rfl rfl Try.func73 (by kernel_rfl) rfl #[.agg #[.int .i64 a0_0, .int .i64 a0_1]] rfl Hd.m_ ?_; (with_reducible refine (impl_IsPoint.calls a0_0 a0_1 true _ A2.out).mono ?_); rintro e w14 ⟨rfl, hb⟩; refine ⟨_, rfl, ?_⟩; replace BK162 := Aside0.mk (Hd.kb_ BK162 hb); replace HB := Aside0.mk (below_step Hd.b_ hb); (try clear hb); (try clear hb2); (try clear hk); (try clear hi); obtain ⟨hcz15_0, hcz15_1, hcz15_2, hcz15_3⟩ := Hd.c4_ BK162.out; obtain ⟨hfz15_0, hfz15_1, hfz15_2, hfz15_3⟩ := Hd.f4_ BK162.out) | (go_at_call 73; (with_reducible refine (impl_IsPoint.calls a0_2 a0_3 false _ A4.out).mono ?_); rintro e w16 ⟨rfl, hb⟩; replace BK162 := Aside0.mk (Hd.kb_ BK162 hb); replace HB := Aside0.mk (below_step Hd.b_ hb); (try clear hb); (try clear hb2); (try clear hk); (try clear hi)))
   go_ret
   exact ⟨Hd.e_, Hd.b_⟩
 ·
  replace c3 := Bool.eq_false_iff.mpr c3
  subst c3
  have H1 : (some false) = some r := by rw [if_neg (show ¬ (false = true) by decide)] at H; exact H
  clear H
  have H := H1
  clear H1
  obtain rfl := Option.some.inj H
  go_enter Try.func90, Try.ntmps90
  go_wp2_with (first | ((with_reducible refine gate_dst (N := 1) rfl ?_); refine Hd.box_ 1 (#[.int .i64 a0_0, .int .i64 a0_1, .int .i64 a0_2, .int .i64 a0_3]) 101 ?_; intro gb162 hg w17 hbox hb; have BK162 := Aside0.mk (hbox); have GW162 := Aside0.mk ((Hd.g_ hg Hd.b_ : w.heap.size ≤ gb162)); have GE162 := Aside0.mk ((Hd.g_ hg Hd.b_ : w.heap.size ≤ gb162)); replace HB := Aside0.mk (below_step Hd.b_ hb); clear hb hbox hg; obtain ⟨hcz18_0, hcz18_1, hcz18_2, hcz18_3⟩ := Hd.c4_ BK162.out; obtain ⟨hfz18_0, hfz18_1, hfz18_2, hfz18_3⟩ := Hd.f4_ BK162.out) | ((with_reducible refine gate_callee (f := 73) rfl ?_); refine goesL_ (some 5) rfl rfl Try.func73 (by kernel_rfl) rfl #[.agg #[.int .i64 a0_0, .int .i64 a0_1]] rfl Hd.m_ ?_; (with_reducible refine (impl_IsPoint.calls a0_0 a0_1 false _ A2.out).mono ?_); rintro e w19 ⟨rfl, hb⟩; refine ⟨_, rfl, ?_⟩; replace BK162 := Aside0.mk (Hd.kb_ BK162 hb); replace HB := Aside0.mk (below_step Hd.b_ hb); (try clear hb); (try clear hb2); (try clear hk); (try clear hi)))
  go_ret
  exact ⟨Hd.e_, Hd.b_⟩
def cmp_isNaN_int.f (a0 : Int) : Option (Bool) := some (a0 != a0)
set_option maxHeartbeats 8000000 in
set_option maxRecDepth 100000 in
theorem cmp_isNaN_int.calls (a0 : Int) (r : Bool) (w : World) (h : cmp_isNaN_int.f a0 = some r) :
  Calls Try.prog 113 #[.int .i64 a0] w fun e w' => e = .returned (.bool r) ∧ Drawn0 w w' := by
 have H : (some (a0 != a0)) = some r := h
 clear h
 obtain rfl := Option.some.inj H
 go_enter Try.func113, Try.ntmps113
 go_wp2
 go_ret
 exact ⟨by first | rfl | (simp; done) | (simp [*]; done), by repeat (first | exact Drawn0.refl _ | apply Drawn0.step)⟩
def cmp_Compare_int.f (a0 : Int) (a1 : Int) : Option (Int) := (cmp_isNaN_int.f a0).bind fun t165 => ((cmp_isNaN_int.f a1).bind fun t166 => (if t165 = true then (if t166 = true then (some 0) else (some (-1))) else (if t166 = true then (some 1) else (if a0 < a1 then (some (-1)) else (if a0 > a1 then (some 1) else (some 0))))))
set_option maxHeartbeats 8000000 in
set_option maxRecDepth 100000 in
theorem cmp_Compare_int.calls (a0 : Int) (a1 : Int) (r : Int) (w : World) (h : cmp_Compare_int.f a0 a1 = some r) :
  Calls Try.prog 106 #[.int .i64 a0, .int .i64 a1] w fun e w' => e = .returned (.int .i64 r) ∧ Drawn0 w w' := by
 have H : ((cmp_isNaN_int.f a0).bind fun t165 => ((cmp_isNaN_int.f a1).bind fun t166 => (if t165 = true then (if t166 = true then (some 0) else (some (-1))) else (if t166 = true then (some 1) else (if a0 < a1 then (some (-1)) else (if a0 > a1 then (some 1) else (some 0))))))) = some r := h
 clear h
 replace H := Option.bind_eq_some_iff.mp H
 obtain ⟨t165, A30, H⟩ := H
 replace H : ((cmp_isNaN_int.f a1).bind fun t166 => (if t165 = true then (if t166 = true then (some 0) else (some (-1))) else (if t166 = true then (some 1) else (if a0 < a1 then (some (-1)) else (if a0 > a1 then (some 1) else (some 0)))))) = some r := H
 have A3 := Aside0.mk A30
 clear A30
 replace H := Option.bind_eq_some_iff.mp H
 obtain ⟨t166, A40, H⟩ := H
 replace H : (if t165 = true then (if t166 = true then (some 0) else (some (-1))) else (if t166 = true then (some 1) else (if a0 < a1 then (some (-1)) else (if a0 > a1 then (some 1) else (some 0))))) = some r := H
 have A4 := Aside0.mk A40
 clear A40
 by_cases c5 : t165 = true
 ·
  subst c5
  have H1 : (if t166 = true then (some 0) else (some (-1))) = some r := by rw [if_pos rfl] at H; exact H
  clear H
  have H := H1
  clear H1
  by_cases c6 : t166 = true
  ·
   subst c6
   have H1 : (some 0) = some r := by rw [if_pos rfl] at H; exact H
   clear H
   have H := H1
   clear H1
   obtain rfl := Option.some.inj H
   go_enter Try.func106, Try.ntmps106
   go_wp2_with (first | ((with_reducible refine gate_callee (f := 113) rfl ?_); refine goesL_ (some 8) rfl rfl Try.func113 (by kernel_rfl) rfl #[.int .i64 a0] rfl Hd.m_ ?_; (with_reducible refine (cmp_isNaN_int.calls a0 true _ A3.out).mono ?_); rintro e w' ⟨rfl, ⟨nd, rfl⟩⟩; refine ⟨_, rfl, ?_⟩) | ((with_reducible refine gate_callee (f := 113) rfl ?_); refine goesL_ (some 10) rfl rfl Try.func113 (by kernel_rfl) rfl #[.int .i64 a1] rfl Hd.m_ ?_; (with_reducible refine (cmp_isNaN_int.calls a1 true _ A4.out).mono ?_); rintro e w' ⟨rfl, ⟨nd, rfl⟩⟩; refine ⟨_, rfl, ?_⟩))
   go_ret
   exact ⟨by first | rfl | (simp; done) | (simp [*]; done), by repeat (first | exact Drawn0.refl _ | apply Drawn0.step)⟩
  ·
   replace c6 := Bool.eq_false_iff.mpr c6
   subst c6
   have H1 : (some (-1)) = some r := by rw [if_neg (show ¬ (false = true) by decide)] at H; exact H
   clear H
   have H := H1
   clear H1
   obtain rfl := Option.some.inj H
   go_enter Try.func106, Try.ntmps106
   go_wp2_with (first | ((with_reducible refine gate_callee (f := 113) rfl ?_); refine goesL_ (some 8) rfl rfl Try.func113 (by kernel_rfl) rfl #[.int .i64 a0] rfl Hd.m_ ?_; (with_reducible refine (cmp_isNaN_int.calls a0 true _ A3.out).mono ?_); rintro e w' ⟨rfl, ⟨nd, rfl⟩⟩; refine ⟨_, rfl, ?_⟩) | ((with_reducible refine gate_callee (f := 113) rfl ?_); refine goesL_ (some 10) rfl rfl Try.func113 (by kernel_rfl) rfl #[.int .i64 a1] rfl Hd.m_ ?_; (with_reducible refine (cmp_isNaN_int.calls a1 false _ A4.out).mono ?_); rintro e w' ⟨rfl, ⟨nd, rfl⟩⟩; refine ⟨_, rfl, ?_⟩))
   go_ret
   exact ⟨by first | rfl | (simp; done) | (simp [*]; done), by repeat (first | exact Drawn0.refl _ | apply Drawn0.step)⟩
 ·
  replace c5 := Bool.eq_false_iff.mpr c5
  subst c5
  have H1 : (if t166 = true then (some 1) else (if a0 < a1 then (some (-1)) else (if a0 > a1 then (some 1) else (some 0)))) = some r := by rw [if_neg (show ¬ (false = true) by decide)] at H; exact H
  clear H
  have H := H1
  clear H1
  by_cases c7 : t166 = true
  ·
   subst c7
   have H1 : (some 1) = some r := by rw [if_pos rfl] at H; exact H
   clear H
   have H := H1
   clear H1
   obtain rfl := Option.some.inj H
   go_enter Try.func106, Try.ntmps106
   go_wp2_with (first | ((with_reducible refine gate_callee (f := 113) rfl ?_); refine goesL_ (some 8) rfl rfl Try.func113 (by kernel_rfl) rfl #[.int .i64 a0] rfl Hd.m_ ?_; (with_reducible refine (cmp_isNaN_int.calls a0 false _ A3.out).mono ?_); rintro e w' ⟨rfl, ⟨nd, rfl⟩⟩; refine ⟨_, rfl, ?_⟩) | ((with_reducible refine gate_callee (f := 113) rfl ?_); refine goesL_ (some 10) rfl rfl Try.func113 (by kernel_rfl) rfl #[.int .i64 a1] rfl Hd.m_ ?_; (with_reducible refine (cmp_isNaN_int.calls a1 true _ A4.out).mono ?_); rintro e w' ⟨rfl, ⟨nd, rfl⟩⟩; refine ⟨_, rfl, ?_⟩))
   go_ret
   exact ⟨by first | rfl | (simp; done) | (simp [*]; done), by repeat (first | exact Drawn0.refl _ | apply Drawn0.step)⟩
  ·
   replace c7 := Bool.eq_false_iff.mpr c7
   subst c7
   have H1 : (if a0 < a1 then (some (-1)) else (if a0 > a1 then (some 1) else (some 0))) = some r := by rw [if_neg (show ¬ (false = true) by decide)] at H; exact H
   clear H
   have H := H1
   clear H1
   by_cases c8 : a0 < a1
   ·
    rw [if_pos c8] at H
    have c8b0 : decide (a0 < a1) = true := decide_eq_true c8
    clear c8
    obtain rfl := Option.some.inj H
    go_enter Try.func106, Try.ntmps106
    go_wp2_with (first | ((with_reducible refine gate_callee (f := 113) rfl ?_); refine goesL_ (some 8) rfl rfl Try.func113 (by kernel_rfl) rfl #[.int .i64 a0] rfl Hd.m_ ?_; (with_reducible refine (cmp_isNaN_int.calls a0 false _ A3.out).mono ?_); rintro e w' ⟨rfl, ⟨nd, rfl⟩⟩; refine ⟨_, rfl, ?_⟩) | ((with_reducible refine gate_callee (f := 113) rfl ?_); refine goesL_ (some 10) rfl rfl Try.func113 (by kernel_rfl) rfl #[.int .i64 a1] rfl Hd.m_ ?_; (with_reducible refine (cmp_isNaN_int.calls a1 false _ A4.out).mono ?_); rintro e w' ⟨rfl, ⟨nd, rfl⟩⟩; refine ⟨_, rfl, ?_⟩))
    go_ret
    exact ⟨by first | rfl | (simp; done) | (simp [*]; done), by repeat (first | exact Drawn0.refl _ | apply Drawn0.step)⟩
   ·
    rw [if_neg c8] at H
    have c8b0 : decide (a0 < a1) = false := decide_eq_false c8
    clear c8
    by_cases c9 : a0 > a1
    ·
     rw [if_pos c9] at H
     have c9b0 : decide (a1 < a0) = true := decide_eq_true c9
     clear c9
     obtain rfl := Option.some.inj H
     go_enter Try.func106, Try.ntmps106
     go_wp2_with (first | ((with_reducible refine gate_callee (f := 113) rfl ?_); refine goesL_ (some 8) rfl rfl Try.func113 (by kernel_rfl) rfl #[.int .i64 a0] rfl Hd.m_ ?_; (with_reducible refine (cmp_isNaN_int.calls a0 false _ A3.out).mono ?_); rintro e w' ⟨rfl, ⟨nd, rfl⟩⟩; refine ⟨_, rfl, ?_⟩) | ((with_reducible refine gate_callee (f := 113) rfl ?_); refine goesL_ (some 10) rfl rfl Try.func113 (by kernel_rfl) rfl #[.int .i64 a1] rfl Hd.m_ ?_; (with_reducible refine (cmp_isNaN_int.calls a1 false _ A4.out).mono ?_); rintro e w' ⟨rfl, ⟨nd, rfl⟩⟩; refine ⟨_, rfl, ?_⟩))
     go_ret
     exact ⟨by first | rfl | (simp; done) | (simp [*]; done), by repeat (first | exact Drawn0.refl _ | apply Drawn0.step)⟩
    ·
     rw [if_neg c9] at H
     have c9b0 : decide (a1 < a0) = false := decide_eq_false c9
     clear c9
     obtain rfl := Option.some.inj H
     go_enter Try.func106, Try.ntmps106
     go_wp2_with (first | ((with_reducible refine gate_callee (f := 113) rfl ?_); refine goesL_ (some 8) rfl rfl Try.func113 (by kernel_rfl) rfl #[.int .i64 a0] rfl Hd.m_ ?_; (with_reducible refine (cmp_isNaN_int.calls a0 false _ A3.out).mono ?_); rintro e w' ⟨rfl, ⟨nd, rfl⟩⟩; refine ⟨_, rfl, ?_⟩) | ((with_reducible refine gate_callee (f := 113) rfl ?_); refine goesL_ (some 10) rfl rfl Try.func113 (by kernel_rfl) rfl #[.int .i64 a1] rfl Hd.m_ ?_; (with_reducible refine (cmp_isNaN_int.calls a1 false _ A4.out).mono ?_); rintro e w' ⟨rfl, ⟨nd, rfl⟩⟩; refine ⟨_, rfl, ?_⟩))
     go_ret
     exact ⟨by first | rfl | (simp; done) | (simp [*]; done), by repeat (first | exact Drawn0.refl _ | apply Drawn0.step)⟩
def impl_cross.f (a0_0 : Int) (a0_1 : Int) (a1_0 : Int) (a1_1 : Int) (a2_0 : Int) (a2_1 : Int) : Option (Int) := some (wrap64 ((wrap64 ((wrap64 (a1_0 - a0_0)) * (wrap64 (a2_1 - a0_1)))) - (wrap64 ((wrap64 (a1_1 - a0_1)) * (wrap64 (a2_0 - a0_0))))))
set_option maxHeartbeats 8000000 in
set_option maxRecDepth 100000 in
theorem impl_cross.calls (a0_0 : Int) (a0_1 : Int) (a1_0 : Int) (a1_1 : Int) (a2_0 : Int) (a2_1 : Int) (r : Int) (w : World) (h : impl_cross.f a0_0 a0_1 a1_0 a1_1 a2_0 a2_1 = some r) :
  Calls Try.prog 107 #[.agg #[.int .i64 a0_0, .int .i64 a0_1], .agg #[.int .i64 a1_0, .int .i64 a1_1], .agg #[.int .i64 a2_0, .int .i64 a2_1]] w fun e w' => e = .returned (.int .i64 r) ∧ Below w.heap.size w w' := by
 have hu75 := Try.underlying75
 have HB := Aside0.mk (Below.refl w.heap.size w)
 have H : (some (wrap64 ((wrap64 ((wrap64 (a1_0 - a0_0)) * (wrap64 (a2_1 - a0_1)))) - (wrap64 ((wrap64 (a1_1 - a0_1)) * (wrap64 (a2_0 - a0_0))))))) = some r := h
 clear h
 obtain rfl := Option.some.inj H
 go_enter Try.func107, Try.ntmps107
 go_wp2_with (first | ((with_reducible refine gate_dst (N := 3) rfl ?_); refine Hd.box_ 3 (#[.int .i64 a0_0, .int .i64 a0_1]) 75 ?_; intro gb167 hg w4 hbox hb; have BK167 := Aside0.mk (hbox); have GW167 := Aside0.mk ((Hd.g_ hg Hd.b_ : w.heap.size ≤ gb167)); have GE167 := Aside0.mk ((Hd.g_ hg Hd.b_ : w.heap.size ≤ gb167)); replace HB := Aside0.mk (below_step Hd.b_ hb); clear hb hbox hg) | ((with_reducible refine gate_dst (N := 4) rfl ?_); refine Hd.box_ 4 (#[.int .i64 a1_0, .int .i64 a1_1]) 75 ?_; intro gb168 hg w5 hbox hb; have BK168 := Aside0.mk (hbox); have GW168 := Aside0.mk ((Hd.g_ hg Hd.b_ : w.heap.size ≤ gb168)); have GE168 := Aside0.mk ((Hd.g_ hg Hd.b_ : w.heap.size ≤ gb168)); replace HB := Aside0.mk (below_step Hd.b_ hb); have NB167_168 := Aside0.mk ((Hd.lt_ BK167 hg)); have NB168_167 := Aside0.mk ((Hd.gt_ BK167 hg)); replace BK167 := Aside0.mk (Hd.kb_ BK167 hb); clear hb hbox hg) | ((with_reducible refine gate_dst (N := 5) rfl ?_); refine Hd.box_ 5 (#[.int .i64 a2_0, .int .i64 a2_1]) 75 ?_; intro gb169 hg w6 hbox hb; have BK169 := Aside0.mk (hbox); have GW169 := Aside0.mk ((Hd.g_ hg Hd.b_ : w.heap.size ≤ gb169)); have GE169 := Aside0.mk ((Hd.g_ hg Hd.b_ : w.heap.size ≤ gb169)); replace HB := Aside0.mk (below_step Hd.b_ hb); have NB167_169 := Aside0.mk ((Hd.lt_ BK167 hg)); have NB169_167 := Aside0.mk ((Hd.gt_ BK167 hg)); replace BK167 := Aside0.mk (Hd.kb_ BK167 hb); have NB168_169 := Aside0.mk ((Hd.lt_ BK168 hg)); have NB169_168 := Aside0.mk ((Hd.gt_ BK168 hg)); replace BK168 := Aside0.mk (Hd.kb_ BK168 hb); clear hb hbox hg; have hnb7 := NB168_167.out; have hnc7 := NB167_168.out; have hnb8 := NB168_169.out; have hnc8 := NB169_168.out; obtain ⟨hcz9_0, hcz9_1⟩ := Hd.c2_ BK168.out; obtain ⟨hfz9_0, hfz9_1⟩ := Hd.f2_ BK168.out; have hnb10 := NB167_169.out; have hnc10 := NB169_167.out; obtain ⟨hcz11_0, hcz11_1⟩ := Hd.c2_ BK167.out; obtain ⟨hfz11_0, hfz11_1⟩ := Hd.f2_ BK167.out; obtain ⟨hcz12_0, hcz12_1⟩ := Hd.c2_ BK169.out; obtain ⟨hfz12_0, hfz12_1⟩ := Hd.f2_ BK169.out))
 go_ret
 exact ⟨Hd.e_, Hd.b_⟩
def impl_SideOf.j0 : Nat → Bool → Int → Int → Int → Int → Int → Int → Option (Int)
 | 0, _, _, _, _, _, _, _ => none
 | k + 1, x19, x171000, x171001, x172000, x172001, x173000, x173001 => if x19 = true then (some 0) else ((impl_cross.f x171000 x171001 x172000 x172001 x173000 x173001).bind fun t176 => ((cmp_Compare_int.f t176 0).bind fun t177 => (some t177)))
def impl_SideOf.f (k : Nat) (a0_0 : Int) (a0_1 : Int) (a1_0 : Int) (a1_1 : Int) (a2_0 : Int) (a2_1 : Int) : Option (Int) := (impl_IsPoint.f a0_0 a0_1).bind fun t173 => (if t173 = true then ((impl_IsPoint.f a1_0 a1_1).bind fun t174 => (if t174 = true then ((impl_IsPoint.f a2_0 a2_1).bind fun t175 => (impl_SideOf.j0 k (!t175) a0_0 a0_1 a1_0 a1_1 a2_0 a2_1)) else (impl_SideOf.j0 k true a0_0 a0_1 a1_0 a1_1 a2_0 a2_1))) else (impl_SideOf.j0 k true a0_0 a0_1 a1_0 a1_1 a2_0 a2_1))
set_option maxHeartbeats 8000000 in
set_option maxRecDepth 100000 in
theorem impl_SideOf.calls (k : Nat) (a0_0 : Int) (a0_1 : Int) (a1_0 : Int) (a1_1 : Int) (a2_0 : Int) (a2_1 : Int) (r : Int) (w : World) (h : impl_SideOf.f k a0_0 a0_1 a1_0 a1_1 a2_0 a2_1 = some r) :
  Calls Try.prog 91 #[.agg #[.int .i64 a0_0, .int .i64 a0_1], .agg #[.int .i64 a1_0, .int .i64 a1_1], .agg #[.int .i64 a2_0, .int .i64 a2_1]] w fun e w' => e = .returned (.int .i64 r) ∧ Below w.heap.size w w' := by
 have hu75 := Try.underlying75
 have HB := Aside0.mk (Below.refl w.heap.size w)
 have H : ((impl_IsPoint.f a0_0 a0_1).bind fun t173 => (if t173 = true then ((impl_IsPoint.f a1_0 a1_1).bind fun t174 => (if t174 = true then ((impl_IsPoint.f a2_0 a2_1).bind fun t175 => (impl_SideOf.j0 k (!t175) a0_0 a0_1 a1_0 a1_1 a2_0 a2_1)) else (impl_SideOf.j0 k true a0_0 a0_1 a1_0 a1_1 a2_0 a2_1))) else (impl_SideOf.j0 k true a0_0 a0_1 a1_0 a1_1 a2_0 a2_1))) = some r := h
 clear h
 have HC4 := Aside0.mk H
 clear H
 go_enter Try.func91, Try.ntmps91
 go_upto_region 1 with (first | ((with_reducible refine gate_dst (N := 3) rfl ?_); refine Hd.box_ 3 (#[.int .i64 a0_0, .int .i64 a0_1]) 75 ?_; intro gb170 hg w5 hbox hb; have BK170 := Aside0.mk (hbox); have GW170 := Aside0.mk ((Hd.g_ hg Hd.b_ : w.heap.size ≤ gb170)); have GE170 := Aside0.mk ((Hd.g_ hg Hd.b_ : w.heap.size ≤ gb170)); replace HB := Aside0.mk (below_step Hd.b_ hb); clear hb hbox hg) | ((with_reducible refine gate_dst (N := 4) rfl ?_); refine Hd.box_ 4 (#[.int .i64 a1_0, .int .i64 a1_1]) 75 ?_; intro gb171 hg w6 hbox hb; have BK171 := Aside0.mk (hbox); have GW171 := Aside0.mk ((Hd.g_ hg Hd.b_ : w.heap.size ≤ gb171)); have GE171 := Aside0.mk ((Hd.g_ hg Hd.b_ : w.heap.size ≤ gb171)); replace HB := Aside0.mk (below_step Hd.b_ hb); have NB170_171 := Aside0.mk ((Hd.lt_ BK170 hg)); have NB171_170 := Aside0.mk ((Hd.gt_ BK170 hg)); replace BK170 := Aside0.mk (Hd.kb_ BK170 hb); clear hb hbox hg) | ((with_reducible refine gate_dst (N := 5) rfl ?_); refine Hd.box_ 5 (#[.int .i64 a2_0, .int .i64 a2_1]) 75 ?_; intro gb172 hg w7 hbox hb; have BK172 := Aside0.mk (hbox); have GW172 := Aside0.mk ((Hd.g_ hg Hd.b_ : w.heap.size ≤ gb172)); have GE172 := Aside0.mk ((Hd.g_ hg Hd.b_ : w.heap.size ≤ gb172)); replace HB := Aside0.mk (below_step Hd.b_ hb); have NB170_172 := Aside0.mk ((Hd.lt_ BK170 hg)); have NB172_170 := Aside0.mk ((Hd.gt_ BK170 hg)); replace BK170 := Aside0.mk (Hd.kb_ BK170 hb); have NB171_172 := Aside0.mk ((Hd.lt_ BK171 hg)); have NB172_171 := Aside0.mk ((Hd.gt_ BK171 hg)); replace BK171 := Aside0.mk (Hd.kb_ BK171 hb); clear hb hbox hg))
 (try simp only [Act.put, List.setIfInBounds_toArray, List.set_cons_zero, List.set_cons_succ])
 go_cut [19] (fun v19 wc => ∃ (kq : Nat) (x19_3 : Bool), v19 = .bool x19_3 ∧ Aside0 (impl_SideOf.j0 kq x19_3 a0_0 a0_1 a1_0 a1_1 a2_0 a2_1 = some r) ∧ Aside0 (kq ≤ k) ∧ Aside0 (wc.heap[gb170]? = some (.cells #[.int .i64 a0_0, .int .i64 a0_1] 75 (0, 0))) ∧ Aside0 (wc.heap[gb171]? = some (.cells #[.int .i64 a1_0, .int .i64 a1_1] 75 (0, 0))) ∧ Aside0 (wc.heap[gb172]? = some (.cells #[.int .i64 a2_0, .int .i64 a2_1] 75 (0, 0))) ∧ Aside0 (Below w.heap.size w wc))
 case first =>
  have H := HC4.out
  clear HC4
  replace H := Option.bind_eq_some_iff.mp H
  obtain ⟨t173, A80, H⟩ := H
  replace H : (if t173 = true then ((impl_IsPoint.f a1_0 a1_1).bind fun t174 => (if t174 = true then ((impl_IsPoint.f a2_0 a2_1).bind fun t175 => (impl_SideOf.j0 k (!t175) a0_0 a0_1 a1_0 a1_1 a2_0 a2_1)) else (impl_SideOf.j0 k true a0_0 a0_1 a1_0 a1_1 a2_0 a2_1))) else (impl_SideOf.j0 k true a0_0 a0_1 a1_0 a1_1 a2_0 a2_1)) = some r := H
  have A8 := Aside0.mk A80
  clear A80
  by_cases c9 : t173 = true
  ·
   subst c9
   have H1 : ((impl_IsPoint.f a1_0 a1_1).bind fun t174 => (if t174 = true then ((impl_IsPoint.f a2_0 a2_1).bind fun t175 => (impl_SideOf.j0 k (!t175) a0_0 a0_1 a1_0 a1_1 a2_0 a2_1)) else (impl_SideOf.j0 k true a0_0 a0_1 a1_0 a1_1 a2_0 a2_1))) = some r := by rw [if_pos rfl] at H; exact H
   clear H
   have H := H1
   clear H1
   replace H := Option.bind_eq_some_iff.mp H
   obtain ⟨t174, A100, H⟩ := H
   replace H : (if t174 = true then ((impl_IsPoint.f a2_0 a2_1).bind fun t175 => (impl_SideOf.j0 k (!t175) a0_0 a0_1 a1_0 a1_1 a2_0 a2_1)) else (impl_SideOf.j0 k true a0_0 a0_1 a1_0 a1_1 a2_0 a2_1)) = some r := H
   have A10 := Aside0.mk A100
   clear A100
   by_cases c11 : t174 = true
   ·
    subst c11
    have H1 : ((impl_IsPoint.f a2_0 a2_1).bind fun t175 => (impl_SideOf.j0 k (!t175) a0_0 a0_1 a1_0 a1_1 a2_0 a2_1)) = some r := by rw [if_pos rfl] at H; exact H
    clear H
    have H := H1
    clear H1
    replace H := Option.bind_eq_some_iff.mp H
    obtain ⟨t175, A120, H⟩ := H
    replace H : (impl_SideOf.j0 k (!t175) a0_0 a0_1 a1_0 a1_1 a2_0 a2_1) = some r := H
    have A12 := Aside0.mk A120
    clear A120
    have H' := Aside0.mk H
    clear H
    have hnb13 := NB170_171.out
    have hnc13 := NB171_170.out
    have hnb14 := NB170_172.out
    have hnc14 := NB172_170.out
    obtain ⟨hcz15_0, hcz15_1⟩ := Hd.c2_ BK170.out
    obtain ⟨hfz15_0, hfz15_1⟩ := Hd.f2_ BK170.out
    go_wp2_with (first | ((with_reducible refine gate_callee (f := 73) rfl ?_); refine goesL_ (some 8) rfl rfl Try.func73 (by kernel_rfl) rfl #[.agg #[.int .i64 a0_0, .int .i64 a0_1]] rfl Hd.m_ ?_; (with_reducible refine (impl_IsPoint.calls a0_0 a0_1 true _ A8.out).mono ?_); rintro e w16 ⟨rfl, hb⟩; refine ⟨_, rfl, ?_⟩; replace BK170 := Aside0.mk (Hd.kb_ BK170 hb); replace BK171 := Aside0.mk (Hd.kb_ BK171 hb); replace BK172 := Aside0.mk (Hd.kb_ BK172 hb); replace HB := Aside0.mk (below_step Hd.b_ hb); (try clear hb); (try clear hb2); (try clear hk); (try clear hi); have hnb17 := NB171_172.out; have hnc17 := NB172_171.out; obtain ⟨hcz18_0, hcz18_1⟩ := Hd.c2_ BK171.out; obtain ⟨hfz18_0, hfz18_1⟩ := Hd.f2_ BK171.out) | (go_at_call 73; (with_reducible refine (impl_IsPoint.calls a1_0 a1_1 true _ A10.out).mono ?_); rintro e w19 ⟨rfl, hb⟩; replace BK170 := Aside0.mk (Hd.kb_ BK170 hb); replace BK171 := Aside0.mk (Hd.kb_ BK171 hb); replace BK172 := Aside0.mk (Hd.kb_ BK172 hb); replace HB := Aside0.mk (below_step Hd.b_ hb); (try clear hb); (try clear hb2); (try clear hk); (try clear hi); obtain ⟨hcz20_0, hcz20_1⟩ := Hd.c2_ BK172.out; obtain ⟨hfz20_0, hfz20_1⟩ := Hd.f2_ BK172.out) | (go_at_call 73; (with_reducible refine (impl_IsPoint.calls a2_0 a2_1 t175 _ A12.out).mono ?_); rintro e w21 ⟨rfl, hb⟩; replace BK170 := Aside0.mk (Hd.kb_ BK170 hb); replace BK171 := Aside0.mk (Hd.kb_ BK171 hb); replace BK172 := Aside0.mk (Hd.kb_ BK172 hb); replace HB := Aside0.mk (below_step Hd.b_ hb); (try clear hb); (try clear hb2); (try clear hk); (try clear hi)))
    go_meet
    case rel => exact ⟨_, (!t175), (by first | rfl | (simp; done) | (simp [*]; done)), H', ⟨by first | omega | exact Nat.le_refl _⟩, ⟨by (with_reducible repeat (first | refine blk_drewN ?_ _ | refine blk_drew ?_ | refine blk_alloc ?_ _)); exact BK170.out⟩, ⟨by (with_reducible repeat (first | refine blk_drewN ?_ _ | refine blk_drew ?_ | refine blk_alloc ?_ _)); exact BK171.out⟩, ⟨by (with_reducible repeat (first | refine blk_drewN ?_ _ | refine blk_drew ?_ | refine blk_alloc ?_ _)); exact BK172.out⟩, ⟨Hd.b_⟩⟩
   ·
    replace c11 := Bool.eq_false_iff.mpr c11
    subst c11
    have H1 : (impl_SideOf.j0 k true a0_0 a0_1 a1_0 a1_1 a2_0 a2_1) = some r := by rw [if_neg (show ¬ (false = true) by decide)] at H; exact H
    clear H
    have H := H1
    clear H1
    have H' := Aside0.mk H
    clear H
    have hnb22 := NB170_171.out
    have hnc22 := NB171_170.out
    have hnb23 := NB170_172.out
    have hnc23 := NB172_170.out
    obtain ⟨hcz24_0, hcz24_1⟩ := Hd.c2_ BK170.out
    obtain ⟨hfz24_0, hfz24_1⟩ := Hd.f2_ BK170.out
    go_wp2_with (first | ((with_reducible refine gate_callee (f := 73) rfl ?_); refine goesL_ (some 8) rfl rfl Try.func73 (by kernel_rfl) rfl #[.agg #[.int .i64 a0_0, .int .i64 a0_1]] rfl Hd.m_ ?_; (with_reducible refine (impl_IsPoint.calls a0_0 a0_1 true _ A8.out).mono ?_); rintro e w25 ⟨rfl, hb⟩; refine ⟨_, rfl, ?_⟩; replace BK170 := Aside0.mk (Hd.kb_ BK170 hb); replace BK171 := Aside0.mk (Hd.kb_ BK171 hb); replace BK172 := Aside0.mk (Hd.kb_ BK172 hb); replace HB := Aside0.mk (below_step Hd.b_ hb); (try clear hb); (try clear hb2); (try clear hk); (try clear hi); have hnb26 := NB171_172.out; have hnc26 := NB172_171.out; obtain ⟨hcz27_0, hcz27_1⟩ := Hd.c2_ BK171.out; obtain ⟨hfz27_0, hfz27_1⟩ := Hd.f2_ BK171.out) | (go_at_call 73; (with_reducible refine (impl_IsPoint.calls a1_0 a1_1 false _ A10.out).mono ?_); rintro e w28 ⟨rfl, hb⟩; replace BK170 := Aside0.mk (Hd.kb_ BK170 hb); replace BK171 := Aside0.mk (Hd.kb_ BK171 hb); replace BK172 := Aside0.mk (Hd.kb_ BK172 hb); replace HB := Aside0.mk (below_step Hd.b_ hb); (try clear hb); (try clear hb2); (try clear hk); (try clear hi)))
    go_meet
    case rel => exact ⟨_, (true), (by first | rfl | (simp; done) | (simp [*]; done)), H', ⟨by first | omega | exact Nat.le_refl _⟩, ⟨by (with_reducible repeat (first | refine blk_drewN ?_ _ | refine blk_drew ?_ | refine blk_alloc ?_ _)); exact BK170.out⟩, ⟨by (with_reducible repeat (first | refine blk_drewN ?_ _ | refine blk_drew ?_ | refine blk_alloc ?_ _)); exact BK171.out⟩, ⟨by (with_reducible repeat (first | refine blk_drewN ?_ _ | refine blk_drew ?_ | refine blk_alloc ?_ _)); exact BK172.out⟩, ⟨Hd.b_⟩⟩
  ·
   replace c9 := Bool.eq_false_iff.mpr c9
   subst c9
   have H1 : (impl_SideOf.j0 k true a0_0 a0_1 a1_0 a1_1 a2_0 a2_1) = some r := by rw [if_neg (show ¬ (false = true) by decide)] at H; exact H
   clear H
   have H := H1
   clear H1
   have H' := Aside0.mk H
   clear H
   have hnb29 := NB170_171.out
   have hnc29 := NB171_170.out
   have hnb30 := NB170_172.out
   have hnc30 := NB172_170.out
   obtain ⟨hcz31_0, hcz31_1⟩ := Hd.c2_ BK170.out
   obtain ⟨hfz31_0, hfz31_1⟩ := Hd.f2_ BK170.out
   go_wp2_with (first | ((with_reducible refine gate_callee (f := 73) rfl ?_); refine goesL_ (some 8) rfl rfl Try.func73 (by kernel_rfl) rfl #[.agg #[.int .i64 a0_0, .int .i64 a0_1]] rfl Hd.m_ ?_; (with_reducible refine (impl_IsPoint.calls a0_0 a0_1 false _ A8.out).mono ?_); rintro e w32 ⟨rfl, hb⟩; refine ⟨_, rfl, ?_⟩; replace BK170 := Aside0.mk (Hd.kb_ BK170 hb); replace BK171 := Aside0.mk (Hd.kb_ BK171 hb); replace BK172 := Aside0.mk (Hd.kb_ BK172 hb); replace HB := Aside0.mk (below_step Hd.b_ hb); (try clear hb); (try clear hb2); (try clear hk); (try clear hi)))
   go_meet
   case rel => exact ⟨_, (true), (by first | rfl | (simp; done) | (simp [*]; done)), H', ⟨by first | omega | exact Nat.le_refl _⟩, ⟨by (with_reducible repeat (first | refine blk_drewN ?_ _ | refine blk_drew ?_ | refine blk_alloc ?_ _)); exact BK170.out⟩, ⟨by (with_reducible repeat (first | refine blk_drewN ?_ _ | refine blk_drew ?_ | refine blk_alloc ?_ _)); exact BK171.out⟩, ⟨by (with_reducible repeat (first | refine blk_drewN ?_ _ | refine blk_drew ?_ | refine blk_alloc ?_ _)); exact BK172.out⟩, ⟨Hd.b_⟩⟩
 case rest =>
  clear HC4
  try clear c1
  try clear c2
  try clear p2
  try clear c3
  try clear c7
  try clear c9
  try clear c11
  try clear c13
  try clear c14
  try clear c17
  try clear c22
  try clear c23
  try clear c26
  try clear c29
  try clear c30
  try clear hcz15_0
  try clear hcz15_1
  try clear hcz18_0
  try clear hcz18_1
  try clear hcz20_0
  try clear hcz20_1
  try clear hcz24_0
  try clear hcz24_1
  try clear hcz27_0
  try clear hcz27_1
  try clear hcz31_0
  try clear hcz31_1
  try clear hfz15_0
  try clear hfz15_1
  try clear hfz18_0
  try clear hfz18_1
  try clear hfz20_0
  try clear hfz20_1
  try clear hfz24_0
  try clear hfz24_1
  try clear hfz27_0
  try clear hfz27_1
  try clear hfz31_0
  try clear hfz31_1
  obtain ⟨kq, x19_3, rfl, HA, HJ3, BK170, BK171, BK172, HB⟩ := hcut
  cases kq with
  | zero => exact absurd HA.out (by simp [impl_SideOf.j0])
  | succ kj3 =>
   have H := HA.out
   clear HA
   simp only [impl_SideOf.j0] at H
   by_cases c33 : x19_3 = true
   ·
    subst c33
    have H1 : (some 0) = some r := by rw [if_pos rfl] at H; exact H
    clear H
    have H := H1
    clear H1
    obtain rfl := Option.some.inj H
    go_wp2
    go_ret
    exact ⟨Hd.e_, Hd.b_⟩
   ·
    replace c33 := Bool.eq_false_iff.mpr c33
    subst c33
    have H1 : ((impl_cross.f a0_0 a0_1 a1_0 a1_1 a2_0 a2_1).bind fun t176 => ((cmp_Compare_int.f t176 0).bind fun t177 => (some t177))) = some r := by rw [if_neg (show ¬ (false = true) by decide)] at H; exact H
    clear H
    have H := H1
    clear H1
    replace H := Option.bind_eq_some_iff.mp H
    obtain ⟨t176, A340, H⟩ := H
    replace H : ((cmp_Compare_int.f t176 0).bind fun t177 => (some t177)) = some r := H
    have A34 := Aside0.mk A340
    clear A340
    replace H := Option.bind_eq_some_iff.mp H
    obtain ⟨t177, A350, H⟩ := H
    replace H : (some t177) = some r := H
    have A35 := Aside0.mk A350
    clear A350
    obtain rfl := Option.some.inj H
    have hnb36 := NB170_171.out
    have hnc36 := NB171_170.out
    have hnb37 := NB170_172.out
    have hnc37 := NB172_170.out
    obtain ⟨hcz38_0, hcz38_1⟩ := Hd.c2_ BK170.out
    obtain ⟨hfz38_0, hfz38_1⟩ := Hd.f2_ BK170.out
    have hnb39 := NB171_172.out
    have hnc39 := NB172_171.out
    obtain ⟨hcz40_0, hcz40_1⟩ := Hd.c2_ BK171.out
    obtain ⟨hfz40_0, hfz40_1⟩ := Hd.f2_ BK171.out
    obtain ⟨hcz41_0, hcz41_1⟩ := Hd.c2_ BK172.out
    obtain ⟨hfz41_0, hfz41_1⟩ := Hd.f2_ BK172.out
    go_wp2_with (first | ((with_reducible refine gate_callee (f := 107) rfl ?_); refine goesL_ (some 23) rfl rfl Try.func107 (by kernel_rfl) rfl #[.agg #[.int .i64 a0_0, .int .i64 a0_1], .agg #[.int .i64 a1_0, .int .i64 a1_1], .agg #[.int .i64 a2_0, .int .i64 a2_1]] rfl Hd.m_ ?_; (with_reducible refine (impl_cross.calls a0_0 a0_1 a1_0 a1_1 a2_0 a2_1 t176 _ A34.out).mono ?_); rintro e w42 ⟨rfl, hb⟩; refine ⟨_, rfl, ?_⟩; replace BK170 := Aside0.mk (Hd.kb_ BK170 hb); replace BK171 := Aside0.mk (Hd.kb_ BK171 hb); replace BK172 := Aside0.mk (Hd.kb_ BK172 hb); replace HB := Aside0.mk (below_step Hd.b_ hb); (try clear hb); (try clear hb2); (try clear hk); (try clear hi)) | ((with_reducible refine gate_callee (f := 106) rfl ?_); refine goesL_ (some 24) rfl rfl Try.func106 (by kernel_rfl) rfl #[.int .i64 t176, .int .i64 0] rfl Hd.m_ ?_; (with_reducible refine (cmp_Compare_int.calls t176 0 t177 _ A35.out).mono ?_); rintro e w' ⟨rfl, ⟨nd, rfl⟩⟩; refine ⟨_, rfl, ?_⟩))
    go_ret
    exact ⟨Hd.e_, Hd.b_⟩
def impl_BeforePoint.f (a0_0 : Int) (a0_1 : Int) (a1_0 : Int) (a1_1 : Int) : Option (Bool) := if a0_1 < a1_1 then (some true) else (if a0_1 = a1_1 then (some (decide (a0_0 < a1_0))) else (some false))
set_option maxHeartbeats 8000000 in
set_option maxRecDepth 100000 in
theorem impl_BeforePoint.calls (a0_0 : Int) (a0_1 : Int) (a1_0 : Int) (a1_1 : Int) (r : Bool) (w : World) (h : impl_BeforePoint.f a0_0 a0_1 a1_0 a1_1 = some r) :
  Calls Try.prog 93 #[.agg #[.int .i64 a0_0, .int .i64 a0_1], .agg #[.int .i64 a1_0, .int .i64 a1_1]] w fun e w' => e = .returned (.bool r) ∧ Below w.heap.size w w' := by
 have hu75 := Try.underlying75
 have HB := Aside0.mk (Below.refl w.heap.size w)
 have H : (if a0_1 < a1_1 then (some true) else (if a0_1 = a1_1 then (some (decide (a0_0 < a1_0))) else (some false))) = some r := h
 clear h
 by_cases c3 : a0_1 < a1_1
 ·
  rw [if_pos c3] at H
  have c3b0 : decide (a0_1 < a1_1) = true := decide_eq_true c3
  clear c3
  obtain rfl := Option.some.inj H
  go_enter Try.func93, Try.ntmps93
  go_wp2_with (first | ((with_reducible refine gate_dst (N := 2) rfl ?_); refine Hd.box_ 2 (#[.int .i64 a0_0, .int .i64 a0_1]) 75 ?_; intro gb178 hg w4 hbox hb; have BK178 := Aside0.mk (hbox); have GW178 := Aside0.mk ((Hd.g_ hg Hd.b_ : w.heap.size ≤ gb178)); have GE178 := Aside0.mk ((Hd.g_ hg Hd.b_ : w.heap.size ≤ gb178)); replace HB := Aside0.mk (below_step Hd.b_ hb); clear hb hbox hg) | ((with_reducible refine gate_dst (N := 3) rfl ?_); refine Hd.box_ 3 (#[.int .i64 a1_0, .int .i64 a1_1]) 75 ?_; intro gb179 hg w5 hbox hb; have BK179 := Aside0.mk (hbox); have GW179 := Aside0.mk ((Hd.g_ hg Hd.b_ : w.heap.size ≤ gb179)); have GE179 := Aside0.mk ((Hd.g_ hg Hd.b_ : w.heap.size ≤ gb179)); replace HB := Aside0.mk (below_step Hd.b_ hb); have NB178_179 := Aside0.mk ((Hd.lt_ BK178 hg)); have NB179_178 := Aside0.mk ((Hd.gt_ BK178 hg)); replace BK178 := Aside0.mk (Hd.kb_ BK178 hb); clear hb hbox hg; have hnb6 := NB178_179.out; have hnc6 := NB179_178.out; obtain ⟨hcz7_0, hcz7_1⟩ := Hd.c2_ BK178.out; obtain ⟨hfz7_0, hfz7_1⟩ := Hd.f2_ BK178.out; obtain ⟨hcz8_0, hcz8_1⟩ := Hd.c2_ BK179.out; obtain ⟨hfz8_0, hfz8_1⟩ := Hd.f2_ BK179.out))
  go_ret
  exact ⟨Hd.e_, Hd.b_⟩
 ·
  rw [if_neg c3] at H
  have c3b0 : decide (a0_1 < a1_1) = false := decide_eq_false c3
  clear c3
  by_cases c9 : a0_1 = a1_1
  ·
   rw [if_pos c9] at H
   have c9b0 : (a0_1 == a1_1) = true := beq_iff_eq.mpr c9
   have c9b1 : (a0_1 != a1_1) = false := bne_eq_false_iff_eq.mpr c9
   clear c9
   obtain rfl := Option.some.inj H
   go_enter Try.func93, Try.ntmps93
   go_wp2_with (first | ((with_reducible refine gate_dst (N := 2) rfl ?_); refine Hd.box_ 2 (#[.int .i64 a0_0, .int .i64 a0_1]) 75 ?_; intro gb178 hg w10 hbox hb; have BK178 := Aside0.mk (hbox); have GW178 := Aside0.mk ((Hd.g_ hg Hd.b_ : w.heap.size ≤ gb178)); have GE178 := Aside0.mk ((Hd.g_ hg Hd.b_ : w.heap.size ≤ gb178)); replace HB := Aside0.mk (below_step Hd.b_ hb); clear hb hbox hg) | ((with_reducible refine gate_dst (N := 3) rfl ?_); refine Hd.box_ 3 (#[.int .i64 a1_0, .int .i64 a1_1]) 75 ?_; intro gb179 hg w11 hbox hb; have BK179 := Aside0.mk (hbox); have GW179 := Aside0.mk ((Hd.g_ hg Hd.b_ : w.heap.size ≤ gb179)); have GE179 := Aside0.mk ((Hd.g_ hg Hd.b_ : w.heap.size ≤ gb179)); replace HB := Aside0.mk (below_step Hd.b_ hb); have NB178_179 := Aside0.mk ((Hd.lt_ BK178 hg)); have NB179_178 := Aside0.mk ((Hd.gt_ BK178 hg)); replace BK178 := Aside0.mk (Hd.kb_ BK178 hb); clear hb hbox hg; have hnb12 := NB178_179.out; have hnc12 := NB179_178.out; obtain ⟨hcz13_0, hcz13_1⟩ := Hd.c2_ BK178.out; obtain ⟨hfz13_0, hfz13_1⟩ := Hd.f2_ BK178.out; obtain ⟨hcz14_0, hcz14_1⟩ := Hd.c2_ BK179.out; obtain ⟨hfz14_0, hfz14_1⟩ := Hd.f2_ BK179.out))
   go_ret
   exact ⟨Hd.e_, Hd.b_⟩
  ·
   rw [if_neg c9] at H
   have c9b0 : (a0_1 == a1_1) = false := beq_eq_false_iff_ne.mpr c9
   have c9b1 : (a0_1 != a1_1) = true := bne_iff_ne.mpr c9
   obtain rfl := Option.some.inj H
   go_enter Try.func93, Try.ntmps93
   go_wp2_with (first | ((with_reducible refine gate_dst (N := 2) rfl ?_); refine Hd.box_ 2 (#[.int .i64 a0_0, .int .i64 a0_1]) 75 ?_; intro gb178 hg w15 hbox hb; have BK178 := Aside0.mk (hbox); have GW178 := Aside0.mk ((Hd.g_ hg Hd.b_ : w.heap.size ≤ gb178)); have GE178 := Aside0.mk ((Hd.g_ hg Hd.b_ : w.heap.size ≤ gb178)); replace HB := Aside0.mk (below_step Hd.b_ hb); clear hb hbox hg) | ((with_reducible refine gate_dst (N := 3) rfl ?_); refine Hd.box_ 3 (#[.int .i64 a1_0, .int .i64 a1_1]) 75 ?_; intro gb179 hg w16 hbox hb; have BK179 := Aside0.mk (hbox); have GW179 := Aside0.mk ((Hd.g_ hg Hd.b_ : w.heap.size ≤ gb179)); have GE179 := Aside0.mk ((Hd.g_ hg Hd.b_ : w.heap.size ≤ gb179)); replace HB := Aside0.mk (below_step Hd.b_ hb); have NB178_179 := Aside0.mk ((Hd.lt_ BK178 hg)); have NB179_178 := Aside0.mk ((Hd.gt_ BK178 hg)); replace BK178 := Aside0.mk (Hd.kb_ BK178 hb); clear hb hbox hg; have hnb17 := NB178_179.out; have hnc17 := NB179_178.out; obtain ⟨hcz18_0, hcz18_1⟩ := Hd.c2_ BK178.out; obtain ⟨hfz18_0, hfz18_1⟩ := Hd.f2_ BK178.out; obtain ⟨hcz19_0, hcz19_1⟩ := Hd.c2_ BK179.out; obtain ⟨hfz19_0, hfz19_1⟩ := Hd.f2_ BK179.out))
   go_ret
   exact ⟨Hd.e_, Hd.b_⟩
def impl_TurnSegment.f (a0_0 : Int) (a0_1 : Int) (a0_2 : Int) (a0_3 : Int) : Option (Int × Int × Int × Int) := some (a0_2, a0_3, a0_0, a0_1)
set_option maxHeartbeats 8000000 in
set_option maxRecDepth 100000 in
theorem impl_TurnSegment.calls (a0_0 : Int) (a0_1 : Int) (a0_2 : Int) (a0_3 : Int) (r1 : Int) (r2 : Int) (r3 : Int) (r4 : Int) (w : World) (h : impl_TurnSegment.f a0_0 a0_1 a0_2 a0_3 = some (r1, r2, r3, r4)) :
  Calls Try.prog 108 #[.agg #[.int .i64 a0_0, .int .i64 a0_1, .int .i64 a0_2, .int .i64 a0_3]] w fun e w' => e = .returned (.agg #[.int .i64 r1, .int .i64 r2, .int .i64 r3, .int .i64 r4]) ∧ Below w.heap.size w w' := by
 have hu101 := Try.underlying101
 have hu75 := Try.underlying75
 have HB := Aside0.mk (Below.refl w.heap.size w)
 have H : (some (a0_2, a0_3, a0_0, a0_1)) = some (r1, r2, r3, r4) := h
 clear h
 simp only [Option.some.injEq, Prod.mk.injEq] at H
 obtain ⟨rfl, rfl, rfl, rfl⟩ := H
 go_enter Try.func108, Try.ntmps108
 go_wp2_with (first | ((with_reducible refine gate_dst (N := 1) rfl ?_); refine Hd.box_ 1 (#[.int .i64 a0_0, .int .i64 a0_1, .int .i64 a0_2, .int .i64 a0_3]) 101 ?_; intro gb180 hg w2 hbox hb; have BK180 := Aside0.mk (hbox); have GW180 := Aside0.mk ((Hd.g_ hg Hd.b_ : w.heap.size ≤ gb180)); have GE180 := Aside0.mk ((Hd.g_ hg Hd.b_ : w.heap.size ≤ gb180)); replace HB := Aside0.mk (below_step Hd.b_ hb); clear hb hbox hg) | ((with_reducible refine gate_dst (N := 2) rfl ?_); refine Hd.box_ 2 (#[.int .i64 0, .int .i64 0, .int .i64 0, .int .i64 0]) 101 ?_; intro gb181 hg w3 hbox hb; have BK181 := Aside0.mk (hbox); have GW181 := Aside0.mk ((Hd.g_ hg Hd.b_ : w.heap.size ≤ gb181)); have GE181 := Aside0.mk ((Hd.g_ hg Hd.b_ : w.heap.size ≤ gb181)); replace HB := Aside0.mk (below_step Hd.b_ hb); have NB180_181 := Aside0.mk ((Hd.lt_ BK180 hg)); have NB181_180 := Aside0.mk ((Hd.gt_ BK180 hg)); replace BK180 := Aside0.mk (Hd.kb_ BK180 hb); clear hb hbox hg; have hnb4 := NB180_181.out; have hnc4 := NB181_180.out; obtain ⟨hcz5_0, hcz5_1, hcz5_2, hcz5_3⟩ := Hd.c4_ BK180.out; obtain ⟨hfz5_0, hfz5_1, hfz5_2, hfz5_3⟩ := Hd.f4_ BK180.out; obtain ⟨hcz6_0, hcz6_1, hcz6_2, hcz6_3⟩ := Hd.c4_ BK181.out; obtain ⟨hfz6_0, hfz6_1, hfz6_2, hfz6_3⟩ := Hd.f4_ BK181.out))
 refine bodyPost_ret (results_cell_row rfl _ _ gb181 101 #[.int .i64 a0_2, .int .i64 a0_3, .int .i64 a0_0, .int .i64 a0_1] (0, 0) _ rfl (by (with_reducible repeat (first | refine blk_drewN ?_ _ | refine blk_drew ?_ | refine blk_alloc ?_ _)); refine blk_put (cs := #[.int .i64 a0_2, .int .i64 a0_3, .int .i64 a0_0, .int .i64 0]) ?_ 3 _ rfl; (with_reducible repeat (first | refine blk_drewN ?_ _ | refine blk_drew ?_ | refine blk_alloc ?_ _)); refine blk_put (cs := #[.int .i64 a0_2, .int .i64 a0_3, .int .i64 0, .int .i64 0]) ?_ 2 _ rfl; (with_reducible repeat (first | refine blk_drewN ?_ _ | refine blk_drew ?_ | refine blk_alloc ?_ _)); refine blk_put (cs := #[.int .i64 a0_2, .int .i64 0, .int .i64 0, .int .i64 0]) ?_ 1 _ rfl; (with_reducible repeat (first | refine blk_drewN ?_ _ | refine blk_drew ?_ | refine blk_alloc ?_ _)); refine blk_put (cs := #[.int .i64 0, .int .i64 0, .int .i64 0, .int .i64 0]) ?_ 0 _ rfl; (with_reducible repeat (first | refine blk_drewN ?_ _ | refine blk_drew ?_ | refine blk_alloc ?_ _)); exact BK181.out) Try.underlying101 rfl (by kernel_rfl)) rfl ?_
 exact ⟨Hd.e_, Hd.b_⟩
def impl_forward.f (a0_0 : Int) (a0_1 : Int) (a0_2 : Int) (a0_3 : Int) : Option (Int × Int × Int × Int) := (impl_BeforePoint.f a0_2 a0_3 a0_0 a0_1).bind fun t184 => (if t184 = true then ((impl_TurnSegment.f a0_0 a0_1 a0_2 a0_3).bind fun bt185 => (some (bt185.1, bt185.2.1, bt185.2.2.1, bt185.2.2.2))) else (some (a0_0, a0_1, a0_2, a0_3)))
set_option maxHeartbeats 8000000 in
set_option maxRecDepth 100000 in
theorem impl_forward.calls (a0_0 : Int) (a0_1 : Int) (a0_2 : Int) (a0_3 : Int) (r1 : Int) (r2 : Int) (r3 : Int) (r4 : Int) (w : World) (h : impl_forward.f a0_0 a0_1 a0_2 a0_3 = some (r1, r2, r3, r4)) :
  Calls Try.prog 92 #[.agg #[.int .i64 a0_0, .int .i64 a0_1, .int .i64 a0_2, .int .i64 a0_3]] w fun e w' => e = .returned (.agg #[.int .i64 r1, .int .i64 r2, .int .i64 r3, .int .i64 r4]) ∧ Below w.heap.size w w' := by
 have hu101 := Try.underlying101
 have hu75 := Try.underlying75
 have HB := Aside0.mk (Below.refl w.heap.size w)
 have H : ((impl_BeforePoint.f a0_2 a0_3 a0_0 a0_1).bind fun t184 => (if t184 = true then ((impl_TurnSegment.f a0_0 a0_1 a0_2 a0_3).bind fun bt185 => (some (bt185.1, bt185.2.1, bt185.2.2.1, bt185.2.2.2))) else (some (a0_0, a0_1, a0_2, a0_3)))) = some (r1, r2, r3, r4) := h
 clear h
 replace H := Option.bind_eq_some_iff.mp H
 obtain ⟨t184, A20, H⟩ := H
 replace H : (if t184 = true then ((impl_TurnSegment.f a0_0 a0_1 a0_2 a0_3).bind fun bt185 => (some (bt185.1, bt185.2.1, bt185.2.2.1, bt185.2.2.2))) else (some (a0_0, a0_1, a0_2, a0_3))) = some (r1, r2, r3, r4) := H
 have A2 := Aside0.mk A20
 clear A20
 by_cases c3 : t184 = true
 ·
  subst c3
  have H1 : ((impl_TurnSegment.f a0_0 a0_1 a0_2 a0_3).bind fun bt185 => (some (bt185.1, bt185.2.1, bt185.2.2.1, bt185.2.2.2))) = some (r1, r2, r3, r4) := by rw [if_pos rfl] at H; exact H
  clear H
  have H := H1
  clear H1
  replace H := Option.bind_eq_some_iff.mp H
  obtain ⟨⟨t185, t186, t187, t188⟩, A40, H⟩ := H
  replace H : (some (t185, t186, t187, t188)) = some (r1, r2, r3, r4) := H
  have A4 := Aside0.mk A40
  clear A40
  simp only [Option.some.injEq, Prod.mk.injEq] at H
  obtain ⟨rfl, rfl, rfl, rfl⟩ := H
  go_enter Try.func92, Try.ntmps92
  go_wp2_with (first | ((with_reducible refine gate_dst (N := 1) rfl ?_); refine Hd.box_ 1 (#[.int .i64 a0_0, .int .i64 a0_1, .int .i64 a0_2, .int .i64 a0_3]) 101 ?_; intro gb182 hg w5 hbox hb; have BK182 := Aside0.mk (hbox); have GW182 := Aside0.mk ((Hd.g_ hg Hd.b_ : w.heap.size ≤ gb182)); have GE182 := Aside0.mk ((Hd.g_ hg Hd.b_ : w.heap.size ≤ gb182)); replace HB := Aside0.mk (below_step Hd.b_ hb); clear hb hbox hg) | ((with_reducible refine gate_dst (N := 2) rfl ?_); refine Hd.box_ 2 (#[.int .i64 0, .int .i64 0, .int .i64 0, .int .i64 0]) 101 ?_; intro gb183 hg w6 hbox hb; have BK183 := Aside0.mk (hbox); have GW183 := Aside0.mk ((Hd.g_ hg Hd.b_ : w.heap.size ≤ gb183)); have GE183 := Aside0.mk ((Hd.g_ hg Hd.b_ : w.heap.size ≤ gb183)); replace HB := Aside0.mk (below_step Hd.b_ hb); have NB182_183 := Aside0.mk ((Hd.lt_ BK182 hg)); have NB183_182 := Aside0.mk ((Hd.gt_ BK182 hg)); replace BK182 := Aside0.mk (Hd.kb_ BK182 hb); clear hb hbox hg; have hnb7 := NB182_183.out; have hnc7 := NB183_182.out; obtain ⟨hcz8_0, hcz8_1, hcz8_2, hcz8_3⟩ := Hd.c4_ BK182.out; obtain ⟨hfz8_0, hfz8_1, hfz8_2, hfz8_3⟩ := Hd.f4_ BK182.out) | ((with_reducible refine gate_callee (f := 93) rfl ?_); refine goesL_ (some 7) rfl rfl Try.func93 (by kernel_rfl) rfl #[.agg #[.int .i64 a0_2, .int .i64 a0_3], .agg #[.int .i64 a0_0, .int .i64 a0_1]] rfl Hd.m_ ?_; (with_reducible refine (impl_BeforePoint.calls a0_2 a0_3 a0_0 a0_1 true _ A2.out).mono ?_); rintro e w9 ⟨rfl, hb⟩; refine ⟨_, rfl, ?_⟩; replace BK182 := Aside0.mk (Hd.kb_ BK182 hb); replace BK183 := Aside0.mk (Hd.kb_ BK183 hb); replace HB := Aside0.mk (below_step Hd.b_ hb); (try clear hb); (try clear hb2); (try clear hk); (try clear hi); obtain ⟨hcz10_0, hcz10_1, hcz10_2, hcz10_3⟩ := Hd.c4_ BK182.out; obtain ⟨hfz10_0, hfz10_1, hfz10_2, hfz10_3⟩ := Hd.f4_ BK182.out) | ((with_reducible refine gate_callee (f := 108) rfl ?_); refine goesL_ (some 9) rfl rfl Try.func108 (by kernel_rfl) rfl #[.agg #[.int .i64 a0_0, .int .i64 a0_1, .int .i64 a0_2, .int .i64 a0_3]] rfl Hd.m_ ?_; (with_reducible refine (impl_TurnSegment.calls a0_0 a0_1 a0_2 a0_3 t185 t186 t187 t188 _ A4.out).mono ?_); rintro e w11 ⟨rfl, hb⟩; refine ⟨_, rfl, ?_⟩; replace BK182 := Aside0.mk (Hd.kb_ BK182 hb); replace BK183 := Aside0.mk (Hd.kb_ BK183 hb); replace HB := Aside0.mk (below_step Hd.b_ hb); (try clear hb); (try clear hb2); (try clear hk); (try clear hi); obtain ⟨hcz12_0, hcz12_1, hcz12_2, hcz12_3⟩ := Hd.c4_ BK183.out; obtain ⟨hfz12_0, hfz12_1, hfz12_2, hfz12_3⟩ := Hd.f4_ BK183.out))
  refine bodyPost_ret (results_cell_row rfl _ _ gb183 101 #[.int .i64 t185, .int .i64 t186, .int .i64 t187, .int .i64 t188] (0, 0) _ rfl (by (with_reducible repeat (first | refine blk_drewN ?_ _ | refine blk_drew ?_ | refine blk_alloc ?_ _)); refine blk_put (cs := #[.int .i64 t185, .int .i64 t186, .int .i64 t187, .int .i64 0]) ?_ 3 _ rfl; (with_reducible repeat (first | refine blk_drewN ?_ _ | refine blk_drew ?_ | refine blk_alloc ?_ _)); refine blk_put (cs := #[.int .i64 t185, .int .i64 t186, .int .i64 0, .int .i64 0]) ?_ 2 _ rfl; (with_reducible repeat (first | refine blk_drewN ?_ _ | refine blk_drew ?_ | refine blk_alloc ?_ _)); refine blk_put (cs := #[.int .i64 t185, .int .i64 0, .int .i64 0, .int .i64 0]) ?_ 1 _ rfl; (with_reducible repeat (first | refine blk_drewN ?_ _ | refine blk_drew ?_ | refine blk_alloc ?_ _)); refine blk_put (cs := #[.int .i64 0, .int .i64 0, .int .i64 0, .int .i64 0]) ?_ 0 _ rfl; (with_reducible repeat (first | refine blk_drewN ?_ _ | refine blk_drew ?_ | refine blk_alloc ?_ _)); exact BK183.out) Try.underlying101 rfl (by kernel_rfl)) rfl ?_
  exact ⟨Hd.e_, Hd.b_⟩
 ·
  replace c3 := Bool.eq_false_iff.mpr c3
  subst c3
  have H1 : (some (a0_0, a0_1, a0_2, a0_3)) = some (r1, r2, r3, r4) := by rw [if_neg (show ¬ (false = true) by decide)] at H; exact H
  clear H
  have H := H1
  clear H1
  simp only [Option.some.injEq, Prod.mk.injEq] at H
  obtain ⟨rfl, rfl, rfl, rfl⟩ := H
  go_enter Try.func92, Try.ntmps92
  go_wp2_with (first | ((with_reducible refine gate_dst (N := 1) rfl ?_); refine Hd.box_ 1 (#[.int .i64 a0_0, .int .i64 a0_1, .int .i64 a0_2, .int .i64 a0_3]) 101 ?_; intro gb182 hg w13 hbox hb; have BK182 := Aside0.mk (hbox); have GW182 := Aside0.mk ((Hd.g_ hg Hd.b_ : w.heap.size ≤ gb182)); have GE182 := Aside0.mk ((Hd.g_ hg Hd.b_ : w.heap.size ≤ gb182)); replace HB := Aside0.mk (below_step Hd.b_ hb); clear hb hbox hg) | ((with_reducible refine gate_dst (N := 2) rfl ?_); refine Hd.box_ 2 (#[.int .i64 0, .int .i64 0, .int .i64 0, .int .i64 0]) 101 ?_; intro gb183 hg w14 hbox hb; have BK183 := Aside0.mk (hbox); have GW183 := Aside0.mk ((Hd.g_ hg Hd.b_ : w.heap.size ≤ gb183)); have GE183 := Aside0.mk ((Hd.g_ hg Hd.b_ : w.heap.size ≤ gb183)); replace HB := Aside0.mk (below_step Hd.b_ hb); have NB182_183 := Aside0.mk ((Hd.lt_ BK182 hg)); have NB183_182 := Aside0.mk ((Hd.gt_ BK182 hg)); replace BK182 := Aside0.mk (Hd.kb_ BK182 hb); clear hb hbox hg; have hnb15 := NB182_183.out; have hnc15 := NB183_182.out; obtain ⟨hcz16_0, hcz16_1, hcz16_2, hcz16_3⟩ := Hd.c4_ BK182.out; obtain ⟨hfz16_0, hfz16_1, hfz16_2, hfz16_3⟩ := Hd.f4_ BK182.out) | ((with_reducible refine gate_callee (f := 93) rfl ?_); refine goesL_ (some 7) rfl rfl Try.func93 (by kernel_rfl) rfl #[.agg #[.int .i64 a0_2, .int .i64 a0_3], .agg #[.int .i64 a0_0, .int .i64 a0_1]] rfl Hd.m_ ?_; (with_reducible refine (impl_BeforePoint.calls a0_2 a0_3 a0_0 a0_1 false _ A2.out).mono ?_); rintro e w17 ⟨rfl, hb⟩; refine ⟨_, rfl, ?_⟩; replace BK182 := Aside0.mk (Hd.kb_ BK182 hb); replace BK183 := Aside0.mk (Hd.kb_ BK183 hb); replace HB := Aside0.mk (below_step Hd.b_ hb); (try clear hb); (try clear hb2); (try clear hk); (try clear hi); obtain ⟨hcz18_0, hcz18_1, hcz18_2, hcz18_3⟩ := Hd.c4_ BK182.out; obtain ⟨hfz18_0, hfz18_1, hfz18_2, hfz18_3⟩ := Hd.f4_ BK182.out; obtain ⟨hcz19_0, hcz19_1, hcz19_2, hcz19_3⟩ := Hd.c4_ BK183.out; obtain ⟨hfz19_0, hfz19_1, hfz19_2, hfz19_3⟩ := Hd.f4_ BK183.out))
  refine bodyPost_ret (results_cell_row rfl _ _ gb183 101 #[.int .i64 a0_0, .int .i64 a0_1, .int .i64 a0_2, .int .i64 a0_3] (0, 0) _ rfl (by (with_reducible repeat (first | refine blk_drewN ?_ _ | refine blk_drew ?_ | refine blk_alloc ?_ _)); refine blk_put (cs := #[.int .i64 a0_0, .int .i64 a0_1, .int .i64 a0_2, .int .i64 0]) ?_ 3 _ rfl; (with_reducible repeat (first | refine blk_drewN ?_ _ | refine blk_drew ?_ | refine blk_alloc ?_ _)); refine blk_put (cs := #[.int .i64 a0_0, .int .i64 a0_1, .int .i64 0, .int .i64 0]) ?_ 2 _ rfl; (with_reducible repeat (first | refine blk_drewN ?_ _ | refine blk_drew ?_ | refine blk_alloc ?_ _)); refine blk_put (cs := #[.int .i64 a0_0, .int .i64 0, .int .i64 0, .int .i64 0]) ?_ 1 _ rfl; (with_reducible repeat (first | refine blk_drewN ?_ _ | refine blk_drew ?_ | refine blk_alloc ?_ _)); refine blk_put (cs := #[.int .i64 0, .int .i64 0, .int .i64 0, .int .i64 0]) ?_ 0 _ rfl; (with_reducible repeat (first | refine blk_drewN ?_ _ | refine blk_drew ?_ | refine blk_alloc ?_ _)); exact BK183.out) Try.underlying101 rfl (by kernel_rfl)) rfl ?_
  exact ⟨Hd.e_, Hd.b_⟩
def impl_IsOn.f (k : Nat) (a0_0 : Int) (a0_1 : Int) (a0_2 : Int) (a0_3 : Int) (a1_0 : Int) (a1_1 : Int) : Option (Bool) := (impl_IsSegment.f a0_0 a0_1 a0_2 a0_3).bind fun t191 => (if t191 = true then ((impl_IsPoint.f a1_0 a1_1).bind fun t192 => (if t192 = true then ((impl_SideOf.f k a0_0 a0_1 a0_2 a0_3 a1_0 a1_1).bind fun t193 => (if t193 = 0 then ((impl_InRange.f a1_0 (mn a0_0 a0_2) (mx a0_0 a0_2)).bind fun t194 => (if t194 = true then ((impl_InRange.f a1_1 (mn a0_1 a0_3) (mx a0_1 a0_3)).bind fun t195 => (some t195)) else (some false))) else (some false))) else (some false))) else (some false))
set_option maxHeartbeats 8000000 in
set_option maxRecDepth 100000 in
theorem impl_IsOn.calls (k : Nat) (a0_0 : Int) (a0_1 : Int) (a0_2 : Int) (a0_3 : Int) (a1_0 : Int) (a1_1 : Int) (r : Bool) (w : World) (h : impl_IsOn.f k a0_0 a0_1 a0_2 a0_3 a1_0 a1_1 = some r) :
  Calls Try.prog 94 #[.agg #[.int .i64 a0_0, .int .i64 a0_1, .int .i64 a0_2, .int .i64 a0_3], .agg #[.int .i64 a1_0, .int .i64 a1_1]] w fun e w' => e = .returned (.bool r) ∧ Below w.heap.size w w' := by
 have hu101 := Try.underlying101
 have hu75 := Try.underlying75
 have HB := Aside0.mk (Below.refl w.heap.size w)
 have H : ((impl_IsSegment.f a0_0 a0_1 a0_2 a0_3).bind fun t191 => (if t191 = true then ((impl_IsPoint.f a1_0 a1_1).bind fun t192 => (if t192 = true then ((impl_SideOf.f k a0_0 a0_1 a0_2 a0_3 a1_0 a1_1).bind fun t193 => (if t193 = 0 then ((impl_InRange.f a1_0 (mn a0_0 a0_2) (mx a0_0 a0_2)).bind fun t194 => (if t194 = true then ((impl_InRange.f a1_1 (mn a0_1 a0_3) (mx a0_1 a0_3)).bind fun t195 => (some t195)) else (some false))) else (some false))) else (some false))) else (some false))) = some r := h
 clear h
 replace H := Option.bind_eq_some_iff.mp H
 obtain ⟨t191, A30, H⟩ := H
 replace H : (if t191 = true then ((impl_IsPoint.f a1_0 a1_1).bind fun t192 => (if t192 = true then ((impl_SideOf.f k a0_0 a0_1 a0_2 a0_3 a1_0 a1_1).bind fun t193 => (if t193 = 0 then ((impl_InRange.f a1_0 (mn a0_0 a0_2) (mx a0_0 a0_2)).bind fun t194 => (if t194 = true then ((impl_InRange.f a1_1 (mn a0_1 a0_3) (mx a0_1 a0_3)).bind fun t195 => (some t195)) else (some false))) else (some false))) else (some false))) else (some false)) = some r := H
 have A3 := Aside0.mk A30
 clear A30
 by_cases c4 : t191 = true
 ·
  subst c4
  have H1 : ((impl_IsPoint.f a1_0 a1_1).bind fun t192 => (if t192 = true then ((impl_SideOf.f k a0_0 a0_1 a0_2 a0_3 a1_0 a1_1).bind fun t193 => (if t193 = 0 then ((impl_InRange.f a1_0 (mn a0_0 a0_2) (mx a0_0 a0_2)).bind fun t194 => (if t194 = true then ((impl_InRange.f a1_1 (mn a0_1 a0_3) (mx a0_1 a0_3)).bind fun t195 => (some t195)) else (some false))) else (some false))) else (some false))) = some r := by rw [if_pos rfl] at H; exact H
  clear H
  have H := H1
  clear H1
  replace H := Option.bind_eq_some_iff.mp H
  obtain ⟨t192, A50, H⟩ := H
  replace H : (if t192 = true then ((impl_SideOf.f k a0_0 a0_1 a0_2 a0_3 a1_0 a1_1).bind fun t193 => (if t193 = 0 then ((impl_InRange.f a1_0 (mn a0_0 a0_2) (mx a0_0 a0_2)).bind fun t194 => (if t194 = true then ((impl_InRange.f a1_1 (mn a0_1 a0_3) (mx a0_1 a0_3)).bind fun t195 => (some t195)) else (some false))) else (some false))) else (some false)) = some r := H
  have A5 := Aside0.mk A50
  clear A50
  by_cases c6 : t192 = true
  ·
   subst c6
   have H1 : ((impl_SideOf.f k a0_0 a0_1 a0_2 a0_3 a1_0 a1_1).bind fun t193 => (if t193 = 0 then ((impl_InRange.f a1_0 (mn a0_0 a0_2) (mx a0_0 a0_2)).bind fun t194 => (if t194 = true then ((impl_InRange.f a1_1 (mn a0_1 a0_3) (mx a0_1 a0_3)).bind fun t195 => (some t195)) else (some false))) else (some false))) = some r := by rw [if_pos rfl] at H; exact H
   clear H
   have H := H1
   clear H1
   replace H := Option.bind_eq_some_iff.mp H
   obtain ⟨t193, A70, H⟩ := H
   replace H : (if t193 = 0 then ((impl_InRange.f a1_0 (mn a0_0 a0_2) (mx a0_0 a0_2)).bind fun t194 => (if t194 = true then ((impl_InRange.f a1_1 (mn a0_1 a0_3) (mx a0_1 a0_3)).bind fun t195 => (some t195)) else (some false))) else (some false)) = some r := H
   have A7 := Aside0.mk A70
   clear A70
   by_cases c8 : t193 = 0
   ·
    rw [if_pos c8] at H
    have c8b0 : (t193 == 0) = true := beq_iff_eq.mpr c8
    have c8b1 : (t193 != 0) = false := bne_eq_false_iff_eq.mpr c8
    clear c8
    obtain ⟨ji9, hji9⟩ : ∃ j_ : Int, (mn a0_0 a0_2) = j_ := ⟨_, rfl⟩
    replace H : ((impl_InRange.f a1_0 (ji9) (mx a0_0 a0_2)).bind fun t194 => (if t194 = true then ((impl_InRange.f a1_1 (mn a0_1 a0_3) (mx a0_1 a0_3)).bind fun t195 => (some t195)) else (some false))) = some r := by first | (rw [hji9] at H; exact H) | (simp only [hji9] at H ⊢; exact H)
    (try rw [hji9] at A3)
    (try rw [hji9] at A5)
    (try rw [hji9] at A7)
    have hji9_ : (if a0_2 < a0_0 then a0_2 else a0_0) = ji9 := hji9
    obtain ⟨ji10, hji10⟩ : ∃ j_ : Int, (mx a0_0 a0_2) = j_ := ⟨_, rfl⟩
    replace H : ((impl_InRange.f a1_0 (ji9) (ji10)).bind fun t194 => (if t194 = true then ((impl_InRange.f a1_1 (mn a0_1 a0_3) (mx a0_1 a0_3)).bind fun t195 => (some t195)) else (some false))) = some r := by first | (rw [hji10] at H; exact H) | (simp only [hji10] at H ⊢; exact H)
    (try rw [hji10] at A3)
    (try rw [hji10] at A5)
    (try rw [hji10] at A7)
    have hji10_ : (if a0_0 < a0_2 then a0_2 else a0_0) = ji10 := hji10
    replace H := Option.bind_eq_some_iff.mp H
    obtain ⟨t194, A110, H⟩ := H
    replace H : (if t194 = true then ((impl_InRange.f a1_1 (mn a0_1 a0_3) (mx a0_1 a0_3)).bind fun t195 => (some t195)) else (some false)) = some r := H
    have A11 := Aside0.mk A110
    clear A110
    by_cases c12 : t194 = true
    ·
     subst c12
     have H1 : ((impl_InRange.f a1_1 (mn a0_1 a0_3) (mx a0_1 a0_3)).bind fun t195 => (some t195)) = some r := by rw [if_pos rfl] at H; exact H
     clear H
     have H := H1
     clear H1
     obtain ⟨ji13, hji13⟩ : ∃ j_ : Int, (mn a0_1 a0_3) = j_ := ⟨_, rfl⟩
     replace H : ((impl_InRange.f a1_1 (ji13) (mx a0_1 a0_3)).bind fun t195 => (some t195)) = some r := by first | (rw [hji13] at H; exact H) | (simp only [hji13] at H ⊢; exact H)
     (try rw [hji13] at A3)
     (try rw [hji13] at A5)
     (try rw [hji13] at A7)
     (try rw [hji13] at A11)
     have hji13_ : (if a0_3 < a0_1 then a0_3 else a0_1) = ji13 := hji13
     obtain ⟨ji14, hji14⟩ : ∃ j_ : Int, (mx a0_1 a0_3) = j_ := ⟨_, rfl⟩
     replace H : ((impl_InRange.f a1_1 (ji13) (ji14)).bind fun t195 => (some t195)) = some r := by first | (rw [hji14] at H; exact H) | (simp only [hji14] at H ⊢; exact H)
     (try rw [hji14] at A3)
     (try rw [hji14] at A5)
     (try rw [hji14] at A7)
     (try rw [hji14] at A11)
     have hji14_ : (if a0_1 < a0_3 then a0_3 else a0_1) = ji14 := hji14
     replace H := Option.bind_eq_some_iff.mp H
     obtain ⟨t195, A150, H⟩ := H
     replace H : (some t195) = some r := H
     have A15 := Aside0.mk A150
     clear A150
     obtain rfl := Option.some.inj H
     go_enter Try.func94, Try.ntmps94
     go_wp2_with (first | ((with_reducible refine gate_dst (N := 2) rfl ?_); (try (refine gate_guard (by rfl) ?_; dsimp only)); refine Hd.box_ 2 (#[.int .i64 a0_0, .int .i64 a0_1, .int .i64 a0_2, .int .i64 a0_3]) 101 ?_; intro gb189 hg w16 hbox hb; have BK189 := Aside0.mk (hbox); have GW189 := Aside0.mk ((Hd.g_ hg Hd.b_ : w.heap.size ≤ gb189)); have GE189 := Aside0.mk ((Hd.g_ hg Hd.b_ : w.heap.size ≤ gb189)); replace HB := Aside0.mk (below_step Hd.b_ hb); clear hb hbox hg) | ((with_reducible refine gate_dst (N := 3) rfl ?_); (try (refine gate_guard (by rfl) ?_; dsimp only)); refine Hd.box_ 3 (#[.int .i64 a1_0, .int .i64 a1_1]) 75 ?_; intro gb190 hg w17 hbox hb; have BK190 := Aside0.mk (hbox); have GW190 := Aside0.mk ((Hd.g_ hg Hd.b_ : w.heap.size ≤ gb190)); have GE190 := Aside0.mk ((Hd.g_ hg Hd.b_ : w.heap.size ≤ gb190)); replace HB := Aside0.mk (below_step Hd.b_ hb); have NB189_190 := Aside0.mk ((Hd.lt_ BK189 hg)); have NB190_189 := Aside0.mk ((Hd.gt_ BK189 hg)); replace BK189 := Aside0.mk (Hd.kb_ BK189 hb); clear hb hbox hg; have hnb18 := NB189_190.out; have hnc18 := NB190_189.out; obtain ⟨hcz19_0, hcz19_1, hcz19_2, hcz19_3⟩ := Hd.c4_ BK189.out; obtain ⟨hfz19_0, hfz19_1, hfz19_2, hfz19_3⟩ := Hd.f4_ BK189.out) | ((with_reducible refine gate_callee (f := 90) rfl ?_); refine goesL_ (some 6) rfl rfl Try.func90 (by kernel_rfl) rfl #[.agg #[.int .i64 a0_0, .int .i64 a0_1, .int .i64 a0_2, .int .i64 a0_3]] rfl Hd.m_ ?_; (with_reducible refine (impl_IsSegment.calls a0_0 a0_1 a0_2 a0_3 true _ A3.out).mono ?_); rintro e w20 ⟨rfl, hb⟩; refine ⟨_, rfl, ?_⟩; replace BK189 := Aside0.mk (Hd.kb_ BK189 hb); replace BK190 := Aside0.mk (Hd.kb_ BK190 hb); replace HB := Aside0.mk (below_step Hd.b_ hb); (try clear hb); (try clear hb2); (try clear hk); (try clear hi); obtain ⟨hcz21_0, hcz21_1⟩ := Hd.c2_ BK190.out; obtain ⟨hfz21_0, hfz21_1⟩ := Hd.f2_ BK190.out) | (go_at_call 73; (with_reducible refine (impl_IsPoint.calls a1_0 a1_1 true _ A5.out).mono ?_); rintro e w22 ⟨rfl, hb⟩; replace BK189 := Aside0.mk (Hd.kb_ BK189 hb); replace BK190 := Aside0.mk (Hd.kb_ BK190 hb); replace HB := Aside0.mk (below_step Hd.b_ hb); (try clear hb); (try clear hb2); (try clear hk); (try clear hi); obtain ⟨hcz23_0, hcz23_1, hcz23_2, hcz23_3⟩ := Hd.c4_ BK189.out; obtain ⟨hfz23_0, hfz23_1, hfz23_2, hfz23_3⟩ := Hd.f4_ BK189.out; obtain ⟨hcz24_0, hcz24_1⟩ := Hd.c2_ BK190.out; obtain ⟨hfz24_0, hfz24_1⟩ := Hd.f2_ BK190.out) | (go_at_call 91; (with_reducible refine (impl_SideOf.calls k a0_0 a0_1 a0_2 a0_3 a1_0 a1_1 t193 _ A7.out).mono ?_); rintro e w25 ⟨rfl, hb⟩; replace BK189 := Aside0.mk (Hd.kb_ BK189 hb); replace BK190 := Aside0.mk (Hd.kb_ BK190 hb); replace HB := Aside0.mk (below_step Hd.b_ hb); (try clear hb); (try clear hb2); (try clear hk); (try clear hi); obtain ⟨hcz26_0, hcz26_1⟩ := Hd.c2_ BK190.out; obtain ⟨hfz26_0, hfz26_1⟩ := Hd.f2_ BK190.out; obtain ⟨hcz27_0, hcz27_1, hcz27_2, hcz27_3⟩ := Hd.c4_ BK189.out; obtain ⟨hfz27_0, hfz27_1, hfz27_2, hfz27_3⟩ := Hd.f4_ BK189.out) | (go_at_call 71; (with_reducible refine (impl_InRange.calls a1_0 ji9 ji10 true _ A11.out).mono ?_); rintro e w' ⟨rfl, ⟨nd, rfl⟩⟩) | (go_at_call 71; (with_reducible refine (impl_InRange.calls a1_1 ji13 ji14 t195 _ A15.out).mono ?_); rintro e w' ⟨rfl, ⟨nd, rfl⟩⟩))
     go_ret
     exact ⟨by first | rfl | (simp [errW_none, errW_some] <;> rfl) | (simp only [← hji9, ← hji10, ← hji13, ← hji14]; first | rfl | (simp [errW_none, errW_some] <;> rfl)) | (simp [*, errW_none, errW_some] <;> rfl), Hd.b_⟩
    ·
     replace c12 := Bool.eq_false_iff.mpr c12
     subst c12
     have H1 : (some false) = some r := by rw [if_neg (show ¬ (false = true) by decide)] at H; exact H
     clear H
     have H := H1
     clear H1
     obtain rfl := Option.some.inj H
     go_enter Try.func94, Try.ntmps94
     go_wp2_with (first | ((with_reducible refine gate_dst (N := 2) rfl ?_); (try (refine gate_guard (by rfl) ?_; dsimp only)); refine Hd.box_ 2 (#[.int .i64 a0_0, .int .i64 a0_1, .int .i64 a0_2, .int .i64 a0_3]) 101 ?_; intro gb189 hg w28 hbox hb; have BK189 := Aside0.mk (hbox); have GW189 := Aside0.mk ((Hd.g_ hg Hd.b_ : w.heap.size ≤ gb189)); have GE189 := Aside0.mk ((Hd.g_ hg Hd.b_ : w.heap.size ≤ gb189)); replace HB := Aside0.mk (below_step Hd.b_ hb); clear hb hbox hg) | ((with_reducible refine gate_dst (N := 3) rfl ?_); (try (refine gate_guard (by rfl) ?_; dsimp only)); refine Hd.box_ 3 (#[.int .i64 a1_0, .int .i64 a1_1]) 75 ?_; intro gb190 hg w29 hbox hb; have BK190 := Aside0.mk (hbox); have GW190 := Aside0.mk ((Hd.g_ hg Hd.b_ : w.heap.size ≤ gb190)); have GE190 := Aside0.mk ((Hd.g_ hg Hd.b_ : w.heap.size ≤ gb190)); replace HB := Aside0.mk (below_step Hd.b_ hb); have NB189_190 := Aside0.mk ((Hd.lt_ BK189 hg)); have NB190_189 := Aside0.mk ((Hd.gt_ BK189 hg)); replace BK189 := Aside0.mk (Hd.kb_ BK189 hb); clear hb hbox hg; have hnb30 := NB189_190.out; have hnc30 := NB190_189.out; obtain ⟨hcz31_0, hcz31_1, hcz31_2, hcz31_3⟩ := Hd.c4_ BK189.out; obtain ⟨hfz31_0, hfz31_1, hfz31_2, hfz31_3⟩ := Hd.f4_ BK189.out) | ((with_reducible refine gate_callee (f := 90) rfl ?_); refine goesL_ (some 6) rfl rfl Try.func90 (by kernel_rfl) rfl #[.agg #[.int .i64 a0_0, .int .i64 a0_1, .int .i64 a0_2, .int .i64 a0_3]] rfl Hd.m_ ?_; (with_reducible refine (impl_IsSegment.calls a0_0 a0_1 a0_2 a0_3 true _ A3.out).mono ?_); rintro e w32 ⟨rfl, hb⟩; refine ⟨_, rfl, ?_⟩; replace BK189 := Aside0.mk (Hd.kb_ BK189 hb); replace BK190 := Aside0.mk (Hd.kb_ BK190 hb); replace HB := Aside0.mk (below_step Hd.b_ hb); (try clear hb); (try clear hb2); (try clear hk); (try clear hi); obtain ⟨hcz33_0, hcz33_1⟩ := Hd.c2_ BK190.out; obtain ⟨hfz33_0, hfz33_1⟩ := Hd.f2_ BK190.out) | (go_at_call 73; (with_reducible refine (impl_IsPoint.calls a1_0 a1_1 true _ A5.out).mono ?_); rintro e w34 ⟨rfl, hb⟩; replace BK189 := Aside0.mk (Hd.kb_ BK189 hb); replace BK190 := Aside0.mk (Hd.kb_ BK190 hb); replace HB := Aside0.mk (below_step Hd.b_ hb); (try clear hb); (try clear hb2); (try clear hk); (try clear hi); obtain ⟨hcz35_0, hcz35_1, hcz35_2, hcz35_3⟩ := Hd.c4_ BK189.out; obtain ⟨hfz35_0, hfz35_1, hfz35_2, hfz35_3⟩ := Hd.f4_ BK189.out; obtain ⟨hcz36_0, hcz36_1⟩ := Hd.c2_ BK190.out; obtain ⟨hfz36_0, hfz36_1⟩ := Hd.f2_ BK190.out) | (go_at_call 91; (with_reducible refine (impl_SideOf.calls k a0_0 a0_1 a0_2 a0_3 a1_0 a1_1 t193 _ A7.out).mono ?_); rintro e w37 ⟨rfl, hb⟩; replace BK189 := Aside0.mk (Hd.kb_ BK189 hb); replace BK190 := Aside0.mk (Hd.kb_ BK190 hb); replace HB := Aside0.mk (below_step Hd.b_ hb); (try clear hb); (try clear hb2); (try clear hk); (try clear hi); obtain ⟨hcz38_0, hcz38_1⟩ := Hd.c2_ BK190.out; obtain ⟨hfz38_0, hfz38_1⟩ := Hd.f2_ BK190.out; obtain ⟨hcz39_0, hcz39_1, hcz39_2, hcz39_3⟩ := Hd.c4_ BK189.out; obtain ⟨hfz39_0, hfz39_1, hfz39_2, hfz39_3⟩ := Hd.f4_ BK189.out) | (go_at_call 71; (with_reducible refine (impl_InRange.calls a1_0 ji9 ji10 false _ A11.out).mono ?_); rintro e w' ⟨rfl, ⟨nd, rfl⟩⟩))
     go_ret
     exact ⟨by first | rfl | (simp [errW_none, errW_some] <;> rfl) | (simp only [← hji9, ← hji10]; first | rfl | (simp [errW_none, errW_some] <;> rfl)) | (simp [*, errW_none, errW_some] <;> rfl), Hd.b_⟩
   ·
    rw [if_neg c8] at H
    have c8b0 : (t193 == 0) = false := beq_eq_false_iff_ne.mpr c8
    have c8b1 : (t193 != 0) = true := bne_iff_ne.mpr c8
    obtain rfl := Option.some.inj H
    go_enter Try.func94, Try.ntmps94
    go_wp2_with (first | ((with_reducible refine gate_dst (N := 2) rfl ?_); (try (refine gate_guard (by rfl) ?_; dsimp only)); refine Hd.box_ 2 (#[.int .i64 a0_0, .int .i64 a0_1, .int .i64 a0_2, .int .i64 a0_3]) 101 ?_; intro gb189 hg w40 hbox hb; have BK189 := Aside0.mk (hbox); have GW189 := Aside0.mk ((Hd.g_ hg Hd.b_ : w.heap.size ≤ gb189)); have GE189 := Aside0.mk ((Hd.g_ hg Hd.b_ : w.heap.size ≤ gb189)); replace HB := Aside0.mk (below_step Hd.b_ hb); clear hb hbox hg) | ((with_reducible refine gate_dst (N := 3) rfl ?_); (try (refine gate_guard (by rfl) ?_; dsimp only)); refine Hd.box_ 3 (#[.int .i64 a1_0, .int .i64 a1_1]) 75 ?_; intro gb190 hg w41 hbox hb; have BK190 := Aside0.mk (hbox); have GW190 := Aside0.mk ((Hd.g_ hg Hd.b_ : w.heap.size ≤ gb190)); have GE190 := Aside0.mk ((Hd.g_ hg Hd.b_ : w.heap.size ≤ gb190)); replace HB := Aside0.mk (below_step Hd.b_ hb); have NB189_190 := Aside0.mk ((Hd.lt_ BK189 hg)); have NB190_189 := Aside0.mk ((Hd.gt_ BK189 hg)); replace BK189 := Aside0.mk (Hd.kb_ BK189 hb); clear hb hbox hg; have hnb42 := NB189_190.out; have hnc42 := NB190_189.out; obtain ⟨hcz43_0, hcz43_1, hcz43_2, hcz43_3⟩ := Hd.c4_ BK189.out; obtain ⟨hfz43_0, hfz43_1, hfz43_2, hfz43_3⟩ := Hd.f4_ BK189.out) | ((with_reducible refine gate_callee (f := 90) rfl ?_); refine goesL_ (some 6) rfl rfl Try.func90 (by kernel_rfl) rfl #[.agg #[.int .i64 a0_0, .int .i64 a0_1, .int .i64 a0_2, .int .i64 a0_3]] rfl Hd.m_ ?_; (with_reducible refine (impl_IsSegment.calls a0_0 a0_1 a0_2 a0_3 true _ A3.out).mono ?_); rintro e w44 ⟨rfl, hb⟩; refine ⟨_, rfl, ?_⟩; replace BK189 := Aside0.mk (Hd.kb_ BK189 hb); replace BK190 := Aside0.mk (Hd.kb_ BK190 hb); replace HB := Aside0.mk (below_step Hd.b_ hb); (try clear hb); (try clear hb2); (try clear hk); (try clear hi); obtain ⟨hcz45_0, hcz45_1⟩ := Hd.c2_ BK190.out; obtain ⟨hfz45_0, hfz45_1⟩ := Hd.f2_ BK190.out) | (go_at_call 73; (with_reducible refine (impl_IsPoint.calls a1_0 a1_1 true _ A5.out).mono ?_); rintro e w46 ⟨rfl, hb⟩; replace BK189 := Aside0.mk (Hd.kb_ BK189 hb); replace BK190 := Aside0.mk (Hd.kb_ BK190 hb); replace HB := Aside0.mk (below_step Hd.b_ hb); (try clear hb); (try clear hb2); (try clear hk); (try clear hi); obtain ⟨hcz47_0, hcz47_1, hcz47_2, hcz47_3⟩ := Hd.c4_ BK189.out; obtain ⟨hfz47_0, hfz47_1, hfz47_2, hfz47_3⟩ := Hd.f4_ BK189.out; obtain ⟨hcz48_0, hcz48_1⟩ := Hd.c2_ BK190.out; obtain ⟨hfz48_0, hfz48_1⟩ := Hd.f2_ BK190.out) | (go_at_call 91; (with_reducible refine (impl_SideOf.calls k a0_0 a0_1 a0_2 a0_3 a1_0 a1_1 t193 _ A7.out).mono ?_); rintro e w49 ⟨rfl, hb⟩; replace BK189 := Aside0.mk (Hd.kb_ BK189 hb); replace BK190 := Aside0.mk (Hd.kb_ BK190 hb); replace HB := Aside0.mk (below_step Hd.b_ hb); (try clear hb); (try clear hb2); (try clear hk); (try clear hi)))
    go_ret
    exact ⟨Hd.e_, Hd.b_⟩
  ·
   replace c6 := Bool.eq_false_iff.mpr c6
   subst c6
   have H1 : (some false) = some r := by rw [if_neg (show ¬ (false = true) by decide)] at H; exact H
   clear H
   have H := H1
   clear H1
   obtain rfl := Option.some.inj H
   go_enter Try.func94, Try.ntmps94
   go_wp2_with (first | ((with_reducible refine gate_dst (N := 2) rfl ?_); (try (refine gate_guard (by rfl) ?_; dsimp only)); refine Hd.box_ 2 (#[.int .i64 a0_0, .int .i64 a0_1, .int .i64 a0_2, .int .i64 a0_3]) 101 ?_; intro gb189 hg w50 hbox hb; have BK189 := Aside0.mk (hbox); have GW189 := Aside0.mk ((Hd.g_ hg Hd.b_ : w.heap.size ≤ gb189)); have GE189 := Aside0.mk ((Hd.g_ hg Hd.b_ : w.heap.size ≤ gb189)); replace HB := Aside0.mk (below_step Hd.b_ hb); clear hb hbox hg) | ((with_reducible refine gate_dst (N := 3) rfl ?_); (try (refine gate_guard (by rfl) ?_; dsimp only)); refine Hd.box_ 3 (#[.int .i64 a1_0, .int .i64 a1_1]) 75 ?_; intro gb190 hg w51 hbox hb; have BK190 := Aside0.mk (hbox); have GW190 := Aside0.mk ((Hd.g_ hg Hd.b_ : w.heap.size ≤ gb190)); have GE190 := Aside0.mk ((Hd.g_ hg Hd.b_ : w.heap.size ≤ gb190)); replace HB := Aside0.mk (below_step Hd.b_ hb); have NB189_190 := Aside0.mk ((Hd.lt_ BK189 hg)); have NB190_189 := Aside0.mk ((Hd.gt_ BK189 hg)); replace BK189 := Aside0.mk (Hd.kb_ BK189 hb); clear hb hbox hg; have hnb52 := NB189_190.out; have hnc52 := NB190_189.out; obtain ⟨hcz53_0, hcz53_1, hcz53_2, hcz53_3⟩ := Hd.c4_ BK189.out; obtain ⟨hfz53_0, hfz53_1, hfz53_2, hfz53_3⟩ := Hd.f4_ BK189.out) | ((with_reducible refine gate_callee (f := 90) rfl ?_); refine goesL_ (some 6) rfl rfl Try.func90 (by kernel_rfl) rfl #[.agg #[.int .i64 a0_0, .int .i64 a0_1, .int .i64 a0_2, .int .i64 a0_3]] rfl Hd.m_ ?_; (with_reducible refine (impl_IsSegment.calls a0_0 a0_1 a0_2 a0_3 true _ A3.out).mono ?_); rintro e w54 ⟨rfl, hb⟩; refine ⟨_, rfl, ?_⟩; replace BK189 := Aside0.mk (Hd.kb_ BK189 hb); replace BK190 := Aside0.mk (Hd.kb_ BK190 hb); replace HB := Aside0.mk (below_step Hd.b_ hb); (try clear hb); (try clear hb2); (try clear hk); (try clear hi); obtain ⟨hcz55_0, hcz55_1⟩ := Hd.c2_ BK190.out; obtain ⟨hfz55_0, hfz55_1⟩ := Hd.f2_ BK190.out) | (go_at_call 73; (with_reducible refine (impl_IsPoint.calls a1_0 a1_1 false _ A5.out).mono ?_); rintro e w56 ⟨rfl, hb⟩; replace BK189 := Aside0.mk (Hd.kb_ BK189 hb); replace BK190 := Aside0.mk (Hd.kb_ BK190 hb); replace HB := Aside0.mk (below_step Hd.b_ hb); (try clear hb); (try clear hb2); (try clear hk); (try clear hi)))
   go_ret
   exact ⟨Hd.e_, Hd.b_⟩
 ·
  replace c4 := Bool.eq_false_iff.mpr c4
  subst c4
  have H1 : (some false) = some r := by rw [if_neg (show ¬ (false = true) by decide)] at H; exact H
  clear H
  have H := H1
  clear H1
  obtain rfl := Option.some.inj H
  go_enter Try.func94, Try.ntmps94
  go_wp2_with (first | ((with_reducible refine gate_dst (N := 2) rfl ?_); (try (refine gate_guard (by rfl) ?_; dsimp only)); refine Hd.box_ 2 (#[.int .i64 a0_0, .int .i64 a0_1, .int .i64 a0_2, .int .i64 a0_3]) 101 ?_; intro gb189 hg w57 hbox hb; have BK189 := Aside0.mk (hbox); have GW189 := Aside0.mk ((Hd.g_ hg Hd.b_ : w.heap.size ≤ gb189)); have GE189 := Aside0.mk ((Hd.g_ hg Hd.b_ : w.heap.size ≤ gb189)); replace HB := Aside0.mk (below_step Hd.b_ hb); clear hb hbox hg) | ((with_reducible refine gate_dst (N := 3) rfl ?_); (try (refine gate_guard (by rfl) ?_; dsimp only)); refine Hd.box_ 3 (#[.int .i64 a1_0, .int .i64 a1_1]) 75 ?_; intro gb190 hg w58 hbox hb; have BK190 := Aside0.mk (hbox); have GW190 := Aside0.mk ((Hd.g_ hg Hd.b_ : w.heap.size ≤ gb190)); have GE190 := Aside0.mk ((Hd.g_ hg Hd.b_ : w.heap.size ≤ gb190)); replace HB := Aside0.mk (below_step Hd.b_ hb); have NB189_190 := Aside0.mk ((Hd.lt_ BK189 hg)); have NB190_189 := Aside0.mk ((Hd.gt_ BK189 hg)); replace BK189 := Aside0.mk (Hd.kb_ BK189 hb); clear hb hbox hg; have hnb59 := NB189_190.out; have hnc59 := NB190_189.out; obtain ⟨hcz60_0, hcz60_1, hcz60_2, hcz60_3⟩ := Hd.c4_ BK189.out; obtain ⟨hfz60_0, hfz60_1, hfz60_2, hfz60_3⟩ := Hd.f4_ BK189.out) | ((with_reducible refine gate_callee (f := 90) rfl ?_); refine goesL_ (some 6) rfl rfl Try.func90 (by kernel_rfl) rfl #[.agg #[.int .i64 a0_0, .int .i64 a0_1, .int .i64 a0_2, .int .i64 a0_3]] rfl Hd.m_ ?_; (with_reducible refine (impl_IsSegment.calls a0_0 a0_1 a0_2 a0_3 false _ A3.out).mono ?_); rintro e w61 ⟨rfl, hb⟩; refine ⟨_, rfl, ?_⟩; replace BK189 := Aside0.mk (Hd.kb_ BK189 hb); replace BK190 := Aside0.mk (Hd.kb_ BK190 hb); replace HB := Aside0.mk (below_step Hd.b_ hb); (try clear hb); (try clear hb2); (try clear hk); (try clear hi)))
  go_ret
  exact ⟨Hd.e_, Hd.b_⟩
end Go.Proofs.Ytbbdhlggnglfgaa.MFnExactTakeFeature
