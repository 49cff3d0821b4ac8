-- Laid by this session's program pp.py, after the kit's print and texts of the session's own. Not trusted: Lean checks it.
import Derived.Test.YtbackoeakepngabZFnThinnedMx0
namespace Go.Proofs.Ytbackoeakepngab.MFnThinned
open Go.RowKit Go.Proofs.YtbackoeakepngabW.PrintWords Go.Proofs.YtbackoeakepngabW.PrintLast Go.Proofs.YtbackoeakepngabW.PrintMore
attribute [local go_sem] max2_int min2_int max_two min_two max_three min_three max_four min_four   -- for this text's walks alone
set_option linter.unusedVariables false
set_option linter.unusedSimpArgs false
def laws_big.f (l0 : List Int) : Option (Bool) := some (decide ((l0.length : Int) > 1048576))
set_option maxHeartbeats 8000000 in
set_option maxRecDepth 100000 in
theorem laws_big.calls (A0 : Option Addr) (c0 : Nat) (l0 : List Int) (r : Bool) (w : World) (hr0 : Kd.C (Kd.int .u8) w A0 l0.length l0) (hc0 : l0.length ≤ c0) (h : laws_big.f l0 = some r) :
  Calls Try.prog 21 #[.slice A0 l0.length c0] w fun e w' => e = .returned (.bool r) ∧ Drawn0 w w' := by
 have HR0 := Aside0.mk hr0
 have HC0 := Aside0.mk hc0
 clear hr0 hc0
 have H : (some (decide ((l0.length : Int) > 1048576))) = some r := h
 clear h
 obtain rfl := Option.some.inj H
 go_enter Try.func21, Try.ntmps21
 go_wp2
 go_ret
 exact ⟨by first | rfl | (simp; done) | (simp [*]; done), by repeat (first | exact Drawn0.refl _ | apply Drawn0.step)⟩
def impl_IsAbove.f (a0_0 : Int) (a0_1 : Int) (a0_2 : Int) (a0_3 : Int) (a1_0 : Int) (a1_1 : Int) (a1_2 : Int) (a1_3 : Int) : Option (Bool) := if a0_3 > a1_3 then (some true) else (if a0_3 = a1_3 then (some (decide (a0_0 < a1_0))) else (some false))
set_option maxHeartbeats 8000000 in
set_option maxRecDepth 100000 in
theorem impl_IsAbove.calls (a0_0 : Int) (a0_1 : Int) (a0_2 : Int) (a0_3 : Int) (a1_0 : Int) (a1_1 : Int) (a1_2 : Int) (a1_3 : Int) (r : Bool) (w : World) (h : impl_IsAbove.f a0_0 a0_1 a0_2 a0_3 a1_0 a1_1 a1_2 a1_3 = some r) :
  Calls Try.prog 50 #[.agg #[.int .i64 a0_0, .int .i64 a0_1, .int .i64 a0_2, .int .i64 a0_3], .agg #[.int .i64 a1_0, .int .i64 a1_1, .int .i64 a1_2, .int .i64 a1_3]] w fun e w' => e = .returned (.bool r) ∧ Below w.heap.size w w' := by
 have hu77 := Try.underlying77
 have HB := Aside0.mk (Below.refl w.heap.size w)
 have H : (if a0_3 > a1_3 then (some true) else (if a0_3 = a1_3 then (some (decide (a0_0 < a1_0))) else (some false))) = some r := h
 clear h
 by_cases c3 : a0_3 > a1_3
 ·
  rw [if_pos c3] at H
  have c3b0 : decide (a1_3 < a0_3) = true := decide_eq_true c3
  clear c3
  obtain rfl := Option.some.inj H
  go_enter Try.func50, Try.ntmps50
  go_wp2_with (first | ((with_reducible refine gate_dst (N := 2) rfl ?_); refine Hd.box_ 2 (#[.int .i64 a0_0, .int .i64 a0_1, .int .i64 a0_2, .int .i64 a0_3]) 77 ?_; intro gb101 hg w4 hbox hb; have BK101 := Aside0.mk (hbox); have GW101 := Aside0.mk ((Hd.g_ hg Hd.b_ : w.heap.size ≤ gb101)); have GE101 := Aside0.mk ((Hd.g_ hg Hd.b_ : w.heap.size ≤ gb101)); replace HB := Aside0.mk (below_step Hd.b_ hb); clear hb hbox hg) | ((with_reducible refine gate_dst (N := 3) rfl ?_); refine Hd.box_ 3 (#[.int .i64 a1_0, .int .i64 a1_1, .int .i64 a1_2, .int .i64 a1_3]) 77 ?_; intro gb102 hg w5 hbox hb; have BK102 := Aside0.mk (hbox); have GW102 := Aside0.mk ((Hd.g_ hg Hd.b_ : w.heap.size ≤ gb102)); have GE102 := Aside0.mk ((Hd.g_ hg Hd.b_ : w.heap.size ≤ gb102)); replace HB := Aside0.mk (below_step Hd.b_ hb); have NB101_102 := Aside0.mk ((Hd.lt_ BK101 hg)); have NB102_101 := Aside0.mk ((Hd.gt_ BK101 hg)); replace BK101 := Aside0.mk (Hd.kb_ BK101 hb); clear hb hbox hg; have hnb6 := NB101_102.out; have hnc6 := NB102_101.out; obtain ⟨hcz7_0, hcz7_1, hcz7_2, hcz7_3⟩ := Hd.c4_ BK101.out; obtain ⟨hfz7_0, hfz7_1, hfz7_2, hfz7_3⟩ := Hd.f4_ BK101.out; obtain ⟨hcz8_0, hcz8_1, hcz8_2, hcz8_3⟩ := Hd.c4_ BK102.out; obtain ⟨hfz8_0, hfz8_1, hfz8_2, hfz8_3⟩ := Hd.f4_ BK102.out))
  go_ret
  exact ⟨Hd.e_, Hd.b_⟩
 ·
  rw [if_neg c3] at H
  have c3b0 : decide (a1_3 < a0_3) = false := decide_eq_false c3
  clear c3
  by_cases c9 : a0_3 = a1_3
  ·
   rw [if_pos c9] at H
   have c9b0 : (a0_3 == a1_3) = true := beq_iff_eq.mpr c9
   have c9b1 : (a0_3 != a1_3) = false := bne_eq_false_iff_eq.mpr c9
   clear c9
   obtain rfl := Option.some.inj H
   go_enter Try.func50, Try.ntmps50
   go_wp2_with (first | ((with_reducible refine gate_dst (N := 2) rfl ?_); refine Hd.box_ 2 (#[.int .i64 a0_0, .int .i64 a0_1, .int .i64 a0_2, .int .i64 a0_3]) 77 ?_; intro gb101 hg w10 hbox hb; have BK101 := Aside0.mk (hbox); have GW101 := Aside0.mk ((Hd.g_ hg Hd.b_ : w.heap.size ≤ gb101)); have GE101 := Aside0.mk ((Hd.g_ hg Hd.b_ : w.heap.size ≤ gb101)); replace HB := Aside0.mk (below_step Hd.b_ hb); clear hb hbox hg) | ((with_reducible refine gate_dst (N := 3) rfl ?_); refine Hd.box_ 3 (#[.int .i64 a1_0, .int .i64 a1_1, .int .i64 a1_2, .int .i64 a1_3]) 77 ?_; intro gb102 hg w11 hbox hb; have BK102 := Aside0.mk (hbox); have GW102 := Aside0.mk ((Hd.g_ hg Hd.b_ : w.heap.size ≤ gb102)); have GE102 := Aside0.mk ((Hd.g_ hg Hd.b_ : w.heap.size ≤ gb102)); replace HB := Aside0.mk (below_step Hd.b_ hb); have NB101_102 := Aside0.mk ((Hd.lt_ BK101 hg)); have NB102_101 := Aside0.mk ((Hd.gt_ BK101 hg)); replace BK101 := Aside0.mk (Hd.kb_ BK101 hb); clear hb hbox hg; have hnb12 := NB101_102.out; have hnc12 := NB102_101.out; obtain ⟨hcz13_0, hcz13_1, hcz13_2, hcz13_3⟩ := Hd.c4_ BK101.out; obtain ⟨hfz13_0, hfz13_1, hfz13_2, hfz13_3⟩ := Hd.f4_ BK101.out; obtain ⟨hcz14_0, hcz14_1, hcz14_2, hcz14_3⟩ := Hd.c4_ BK102.out; obtain ⟨hfz14_0, hfz14_1, hfz14_2, hfz14_3⟩ := Hd.f4_ BK102.out))
   go_ret
   exact ⟨Hd.e_, Hd.b_⟩
  ·
   rw [if_neg c9] at H
   have c9b0 : (a0_3 == a1_3) = false := beq_eq_false_iff_ne.mpr c9
   have c9b1 : (a0_3 != a1_3) = true := bne_iff_ne.mpr c9
   obtain rfl := Option.some.inj H
   go_enter Try.func50, Try.ntmps50
   go_wp2_with (first | ((with_reducible refine gate_dst (N := 2) rfl ?_); refine Hd.box_ 2 (#[.int .i64 a0_0, .int .i64 a0_1, .int .i64 a0_2, .int .i64 a0_3]) 77 ?_; intro gb101 hg w15 hbox hb; have BK101 := Aside0.mk (hbox); have GW101 := Aside0.mk ((Hd.g_ hg Hd.b_ : w.heap.size ≤ gb101)); have GE101 := Aside0.mk ((Hd.g_ hg Hd.b_ : w.heap.size ≤ gb101)); replace HB := Aside0.mk (below_step Hd.b_ hb); clear hb hbox hg) | ((with_reducible refine gate_dst (N := 3) rfl ?_); refine Hd.box_ 3 (#[.int .i64 a1_0, .int .i64 a1_1, .int .i64 a1_2, .int .i64 a1_3]) 77 ?_; intro gb102 hg w16 hbox hb; have BK102 := Aside0.mk (hbox); have GW102 := Aside0.mk ((Hd.g_ hg Hd.b_ : w.heap.size ≤ gb102)); have GE102 := Aside0.mk ((Hd.g_ hg Hd.b_ : w.heap.size ≤ gb102)); replace HB := Aside0.mk (below_step Hd.b_ hb); have NB101_102 := Aside0.mk ((Hd.lt_ BK101 hg)); have NB102_101 := Aside0.mk ((Hd.gt_ BK101 hg)); replace BK101 := Aside0.mk (Hd.kb_ BK101 hb); clear hb hbox hg; have hnb17 := NB101_102.out; have hnc17 := NB102_101.out; obtain ⟨hcz18_0, hcz18_1, hcz18_2, hcz18_3⟩ := Hd.c4_ BK101.out; obtain ⟨hfz18_0, hfz18_1, hfz18_2, hfz18_3⟩ := Hd.f4_ BK101.out; obtain ⟨hcz19_0, hcz19_1, hcz19_2, hcz19_3⟩ := Hd.c4_ BK102.out; obtain ⟨hfz19_0, hfz19_1, hfz19_2, hfz19_3⟩ := Hd.f4_ BK102.out))
   go_ret
   exact ⟨Hd.e_, Hd.b_⟩
def impl_InRange.f (a0 : Int) (a1 : Int) (a2 : Int) : Option (Bool) := if a1 ≤ a0 then (some (decide (a0 ≤ a2))) else (some false)
set_option maxHeartbeats 8000000 in
set_option maxRecDepth 100000 in
theorem impl_InRange.calls (a0 : Int) (a1 : Int) (a2 : Int) (r : Bool) (w : World) (h : impl_InRange.f a0 a1 a2 = some r) :
  Calls Try.prog 98 #[.int .i64 a0, .int .i64 a1, .int .i64 a2] w fun e w' => e = .returned (.bool r) ∧ Drawn0 w w' := by
 have H : (if a1 ≤ a0 then (some (decide (a0 ≤ a2))) else (some false)) = some r := h
 clear h
 by_cases c4 : a1 ≤ a0
 ·
  rw [if_pos c4] at H
  have c4b0 : decide (a1 ≤ a0) = true := decide_eq_true c4
  clear c4
  obtain rfl := Option.some.inj H
  go_enter Try.func98, Try.ntmps98
  go_wp2
  go_ret
  exact ⟨by first | rfl | (simp; done) | (simp [*]; done), by repeat (first | exact Drawn0.refl _ | apply Drawn0.step)⟩
 ·
  rw [if_neg c4] at H
  have c4b0 : decide (a1 ≤ a0) = false := decide_eq_false c4
  clear c4
  obtain rfl := Option.some.inj H
  go_enter Try.func98, Try.ntmps98
  go_wp2
  go_ret
  exact ⟨by first | rfl | (simp; done) | (simp [*]; done), by repeat (first | exact Drawn0.refl _ | apply Drawn0.step)⟩
def impl_IsPoint.f (a0_0 : Int) (a0_1 : Int) : Option (Bool) := (impl_InRange.f a0_0 0 200).bind fun t104 => (if t104 = true then ((impl_InRange.f a0_1 0 200).bind fun t105 => (some t105)) else (some false))
set_option maxHeartbeats 8000000 in
set_option maxRecDepth 100000 in
theorem impl_IsPoint.calls (a0_0 : Int) (a0_1 : Int) (r : Bool) (w : World) (h : impl_IsPoint.f a0_0 a0_1 = some r) :
  Calls Try.prog 97 #[.agg #[.int .i64 a0_0, .int .i64 a0_1]] w fun e w' => e = .returned (.bool r) ∧ Below w.heap.size w w' := by
 have hu75 := Try.underlying75
 have HB := Aside0.mk (Below.refl w.heap.size w)
 have H : ((impl_InRange.f a0_0 0 200).bind fun t104 => (if t104 = true then ((impl_InRange.f a0_1 0 200).bind fun t105 => (some t105)) else (some false))) = some r := h
 clear h
 replace H := Option.bind_eq_some_iff.mp H
 obtain ⟨t104, A20, H⟩ := H
 replace H : (if t104 = true then ((impl_InRange.f a0_1 0 200).bind fun t105 => (some t105)) else (some false)) = some r := H
 have A2 := Aside0.mk A20
 clear A20
 by_cases c3 : t104 = true
 ·
  subst c3
  have H1 : ((impl_InRange.f a0_1 0 200).bind fun t105 => (some t105)) = some r := by rw [if_pos rfl] at H; exact H
  clear H
  have H := H1
  clear H1
  replace H := Option.bind_eq_some_iff.mp H
  obtain ⟨t105, A40, H⟩ := H
  replace H : (some t105) = some r := H
  have A4 := Aside0.mk A40
  clear A40
  obtain rfl := Option.some.inj H
  go_enter Try.func97, Try.ntmps97
  go_wp2_with (first | ((with_reducible refine gate_dst (N := 1) rfl ?_); refine Hd.box_ 1 (#[.int .i64 a0_0, .int .i64 a0_1]) 75 ?_; intro gb103 hg w5 hbox hb; have BK103 := Aside0.mk (hbox); have GW103 := Aside0.mk ((Hd.g_ hg Hd.b_ : w.heap.size ≤ gb103)); have GE103 := Aside0.mk ((Hd.g_ hg Hd.b_ : w.heap.size ≤ gb103)); replace HB := Aside0.mk (below_step Hd.b_ hb); clear hb hbox hg; obtain ⟨hcz6_0, hcz6_1⟩ := Hd.c2_ BK103.out; obtain ⟨hfz6_0, hfz6_1⟩ := Hd.f2_ BK103.out) | ((with_reducible refine gate_callee (f := 98) rfl ?_); refine goesL_ (some 5) rfl rfl Try.func98 (by kernel_rfl) rfl #[.int .i64 a0_0, .int .i64 0, .int .i64 200] rfl Hd.m_ ?_; (with_reducible refine (impl_InRange.calls a0_0 0 200 true _ A2.out).mono ?_); rintro e w' ⟨rfl, ⟨nd, rfl⟩⟩; refine ⟨_, rfl, ?_⟩) | (go_at_call 98; (with_reducible refine (impl_InRange.calls a0_1 0 200 t105 _ A4.out).mono ?_); rintro e w' ⟨rfl, ⟨nd, rfl⟩⟩))
  go_ret
  exact ⟨Hd.e_, Hd.b_⟩
 ·
  replace c3 := Bool.eq_false_iff.mpr c3
  subst c3
  have H1 : (some false) = some r := by rw [if_neg (show ¬ (false = true) by decide)] at H; exact H
  clear H
  have H := H1
  clear H1
  obtain rfl := Option.some.inj H
  go_enter Try.func97, Try.ntmps97
  go_wp2_with (first | ((with_reducible refine gate_dst (N := 1) rfl ?_); refine Hd.box_ 1 (#[.int .i64 a0_0, .int .i64 a0_1]) 75 ?_; intro gb103 hg w7 hbox hb; have BK103 := Aside0.mk (hbox); have GW103 := Aside0.mk ((Hd.g_ hg Hd.b_ : w.heap.size ≤ gb103)); have GE103 := Aside0.mk ((Hd.g_ hg Hd.b_ : w.heap.size ≤ gb103)); replace HB := Aside0.mk (below_step Hd.b_ hb); clear hb hbox hg; obtain ⟨hcz8_0, hcz8_1⟩ := Hd.c2_ BK103.out; obtain ⟨hfz8_0, hfz8_1⟩ := Hd.f2_ BK103.out) | ((with_reducible refine gate_callee (f := 98) rfl ?_); refine goesL_ (some 5) rfl rfl Try.func98 (by kernel_rfl) rfl #[.int .i64 a0_0, .int .i64 0, .int .i64 200] rfl Hd.m_ ?_; (with_reducible refine (impl_InRange.calls a0_0 0 200 false _ A2.out).mono ?_); rintro e w' ⟨rfl, ⟨nd, rfl⟩⟩; refine ⟨_, rfl, ?_⟩))
  go_ret
  exact ⟨Hd.e_, Hd.b_⟩
def impl_FarSquared.f (a0_0 : Int) (a0_1 : Int) (a1_0 : Int) (a1_1 : Int) : Option (Int) := (impl_IsPoint.f a0_0 a0_1).bind fun t108 => (if t108 = true then ((impl_IsPoint.f a1_0 a1_1).bind fun t109 => (if t109 = true then (some (wrap64 ((wrap64 ((wrap64 (a0_0 - a1_0)) * (wrap64 (a0_0 - a1_0)))) + (wrap64 ((wrap64 (a0_1 - a1_1)) * (wrap64 (a0_1 - a1_1))))))) else (some (-1)))) else (some (-1)))
set_option maxHeartbeats 8000000 in
set_option maxRecDepth 100000 in
theorem impl_FarSquared.calls (a0_0 : Int) (a0_1 : Int) (a1_0 : Int) (a1_1 : Int) (r : Int) (w : World) (h : impl_FarSquared.f a0_0 a0_1 a1_0 a1_1 = some r) :
  Calls Try.prog 51 #[.agg #[.int .i64 a0_0, .int .i64 a0_1], .agg #[.int .i64 a1_0, .int .i64 a1_1]] w fun e w' => e = .returned (.int .i64 r) ∧ Below w.heap.size w w' := by
 have hu75 := Try.underlying75
 have HB := Aside0.mk (Below.refl w.heap.size w)
 have H : ((impl_IsPoint.f a0_0 a0_1).bind fun t108 => (if t108 = true then ((impl_IsPoint.f a1_0 a1_1).bind fun t109 => (if t109 = true then (some (wrap64 ((wrap64 ((wrap64 (a0_0 - a1_0)) * (wrap64 (a0_0 - a1_0)))) + (wrap64 ((wrap64 (a0_1 - a1_1)) * (wrap64 (a0_1 - a1_1))))))) else (some (-1)))) else (some (-1)))) = some r := h
 clear h
 replace H := Option.bind_eq_some_iff.mp H
 obtain ⟨t108, A30, H⟩ := H
 replace H : (if t108 = true then ((impl_IsPoint.f a1_0 a1_1).bind fun t109 => (if t109 = true then (some (wrap64 ((wrap64 ((wrap64 (a0_0 - a1_0)) * (wrap64 (a0_0 - a1_0)))) + (wrap64 ((wrap64 (a0_1 - a1_1)) * (wrap64 (a0_1 - a1_1))))))) else (some (-1)))) else (some (-1))) = some r := H
 have A3 := Aside0.mk A30
 clear A30
 by_cases c4 : t108 = true
 ·
  subst c4
  have H1 : ((impl_IsPoint.f a1_0 a1_1).bind fun t109 => (if t109 = true then (some (wrap64 ((wrap64 ((wrap64 (a0_0 - a1_0)) * (wrap64 (a0_0 - a1_0)))) + (wrap64 ((wrap64 (a0_1 - a1_1)) * (wrap64 (a0_1 - a1_1))))))) else (some (-1)))) = some r := by rw [if_pos rfl] at H; exact H
  clear H
  have H := H1
  clear H1
  replace H := Option.bind_eq_some_iff.mp H
  obtain ⟨t109, A50, H⟩ := H
  replace H : (if t109 = true then (some (wrap64 ((wrap64 ((wrap64 (a0_0 - a1_0)) * (wrap64 (a0_0 - a1_0)))) + (wrap64 ((wrap64 (a0_1 - a1_1)) * (wrap64 (a0_1 - a1_1))))))) else (some (-1))) = some r := H
  have A5 := Aside0.mk A50
  clear A50
  by_cases c6 : t109 = true
  ·
   subst c6
   have H1 : (some (wrap64 ((wrap64 ((wrap64 (a0_0 - a1_0)) * (wrap64 (a0_0 - a1_0)))) + (wrap64 ((wrap64 (a0_1 - a1_1)) * (wrap64 (a0_1 - a1_1))))))) = some r := by rw [if_pos rfl] at H; exact H
   clear H
   have H := H1
   clear H1
   obtain rfl := Option.some.inj H
   go_enter Try.func51, Try.ntmps51
   go_wp2_with (first | ((with_reducible refine gate_dst (N := 2) rfl ?_); refine Hd.box_ 2 (#[.int .i64 a0_0, .int .i64 a0_1]) 75 ?_; intro gb106 hg w7 hbox hb; have BK106 := Aside0.mk (hbox); have GW106 := Aside0.mk ((Hd.g_ hg Hd.b_ : w.heap.size ≤ gb106)); have GE106 := Aside0.mk ((Hd.g_ hg Hd.b_ : w.heap.size ≤ gb106)); replace HB := Aside0.mk (below_step Hd.b_ hb); clear hb hbox hg) | ((with_reducible refine gate_dst (N := 3) rfl ?_); refine Hd.box_ 3 (#[.int .i64 a1_0, .int .i64 a1_1]) 75 ?_; intro gb107 hg w8 hbox hb; have BK107 := Aside0.mk (hbox); have GW107 := Aside0.mk ((Hd.g_ hg Hd.b_ : w.heap.size ≤ gb107)); have GE107 := Aside0.mk ((Hd.g_ hg Hd.b_ : w.heap.size ≤ gb107)); replace HB := Aside0.mk (below_step Hd.b_ hb); have NB106_107 := Aside0.mk ((Hd.lt_ BK106 hg)); have NB107_106 := Aside0.mk ((Hd.gt_ BK106 hg)); replace BK106 := Aside0.mk (Hd.kb_ BK106 hb); clear hb hbox hg; have hnb9 := NB106_107.out; have hnc9 := NB107_106.out; obtain ⟨hcz10_0, hcz10_1⟩ := Hd.c2_ BK106.out; obtain ⟨hfz10_0, hfz10_1⟩ := Hd.f2_ BK106.out) | (go_at_call 97; (with_reducible refine (impl_IsPoint.calls a0_0 a0_1 true _ A3.out).mono ?_); rintro e w11 ⟨rfl, hb⟩; replace BK106 := Aside0.mk (Hd.kb_ BK106 hb); replace BK107 := Aside0.mk (Hd.kb_ BK107 hb); replace HB := Aside0.mk (below_step Hd.b_ hb); (try clear hb); (try clear hb2); (try clear hk); (try clear hi); obtain ⟨hcz12_0, hcz12_1⟩ := Hd.c2_ BK107.out; obtain ⟨hfz12_0, hfz12_1⟩ := Hd.f2_ BK107.out) | (go_at_call 97; (with_reducible refine (impl_IsPoint.calls a1_0 a1_1 true _ A5.out).mono ?_); rintro e w13 ⟨rfl, hb⟩; replace BK106 := Aside0.mk (Hd.kb_ BK106 hb); replace BK107 := Aside0.mk (Hd.kb_ BK107 hb); replace HB := Aside0.mk (below_step Hd.b_ hb); (try clear hb); (try clear hb2); (try clear hk); (try clear hi); obtain ⟨hcz14_0, hcz14_1⟩ := Hd.c2_ BK106.out; obtain ⟨hfz14_0, hfz14_1⟩ := Hd.f2_ BK106.out; obtain ⟨hcz15_0, hcz15_1⟩ := Hd.c2_ BK107.out; obtain ⟨hfz15_0, hfz15_1⟩ := Hd.f2_ BK107.out))
   repeat (go_quiet (first | ((with_reducible refine gate_dst (N := 2) rfl ?_); refine Hd.box_ 2 (#[.int .i64 a0_0, .int .i64 a0_1]) 75 ?_; intro gb106 hg w7 hbox hb; have BK106 := Aside0.mk (hbox); have GW106 := Aside0.mk ((Hd.g_ hg Hd.b_ : w.heap.size ≤ gb106)); have GE106 := Aside0.mk ((Hd.g_ hg Hd.b_ : w.heap.size ≤ gb106)); replace HB := Aside0.mk (below_step Hd.b_ hb); clear hb hbox hg) | ((with_reducible refine gate_dst (N := 3) rfl ?_); refine Hd.box_ 3 (#[.int .i64 a1_0, .int .i64 a1_1]) 75 ?_; intro gb107 hg w8 hbox hb; have BK107 := Aside0.mk (hbox); have GW107 := Aside0.mk ((Hd.g_ hg Hd.b_ : w.heap.size ≤ gb107)); have GE107 := Aside0.mk ((Hd.g_ hg Hd.b_ : w.heap.size ≤ gb107)); replace HB := Aside0.mk (below_step Hd.b_ hb); have NB106_107 := Aside0.mk ((Hd.lt_ BK106 hg)); have NB107_106 := Aside0.mk ((Hd.gt_ BK106 hg)); replace BK106 := Aside0.mk (Hd.kb_ BK106 hb); clear hb hbox hg; have hnb9 := NB106_107.out; have hnc9 := NB107_106.out; obtain ⟨hcz10_0, hcz10_1⟩ := Hd.c2_ BK106.out; obtain ⟨hfz10_0, hfz10_1⟩ := Hd.f2_ BK106.out) | (go_at_call 97; (with_reducible refine (impl_IsPoint.calls a0_0 a0_1 true _ A3.out).mono ?_); rintro e w11 ⟨rfl, hb⟩; replace BK106 := Aside0.mk (Hd.kb_ BK106 hb); replace BK107 := Aside0.mk (Hd.kb_ BK107 hb); replace HB := Aside0.mk (below_step Hd.b_ hb); (try clear hb); (try clear hb2); (try clear hk); (try clear hi); obtain ⟨hcz12_0, hcz12_1⟩ := Hd.c2_ BK107.out; obtain ⟨hfz12_0, hfz12_1⟩ := Hd.f2_ BK107.out) | (go_at_call 97; (with_reducible refine (impl_IsPoint.calls a1_0 a1_1 true _ A5.out).mono ?_); rintro e w13 ⟨rfl, hb⟩; replace BK106 := Aside0.mk (Hd.kb_ BK106 hb); replace BK107 := Aside0.mk (Hd.kb_ BK107 hb); replace HB := Aside0.mk (below_step Hd.b_ hb); (try clear hb); (try clear hb2); (try clear hk); (try clear hi); obtain ⟨hcz14_0, hcz14_1⟩ := Hd.c2_ BK106.out; obtain ⟨hfz14_0, hfz14_1⟩ := Hd.f2_ BK106.out; obtain ⟨hcz15_0, hcz15_1⟩ := Hd.c2_ BK107.out; obtain ⟨hfz15_0, hfz15_1⟩ := Hd.f2_ BK107.out)); try go_wp2_with (first | ((with_reducible refine gate_dst (N := 2) rfl ?_); refine Hd.box_ 2 (#[.int .i64 a0_0, .int .i64 a0_1]) 75 ?_; intro gb106 hg w7 hbox hb; have BK106 := Aside0.mk (hbox); have GW106 := Aside0.mk ((Hd.g_ hg Hd.b_ : w.heap.size ≤ gb106)); have GE106 := Aside0.mk ((Hd.g_ hg Hd.b_ : w.heap.size ≤ gb106)); replace HB := Aside0.mk (below_step Hd.b_ hb); clear hb hbox hg) | ((with_reducible refine gate_dst (N := 3) rfl ?_); refine Hd.box_ 3 (#[.int .i64 a1_0, .int .i64 a1_1]) 75 ?_; intro gb107 hg w8 hbox hb; have BK107 := Aside0.mk (hbox); have GW107 := Aside0.mk ((Hd.g_ hg Hd.b_ : w.heap.size ≤ gb107)); have GE107 := Aside0.mk ((Hd.g_ hg Hd.b_ : w.heap.size ≤ gb107)); replace HB := Aside0.mk (below_step Hd.b_ hb); have NB106_107 := Aside0.mk ((Hd.lt_ BK106 hg)); have NB107_106 := Aside0.mk ((Hd.gt_ BK106 hg)); replace BK106 := Aside0.mk (Hd.kb_ BK106 hb); clear hb hbox hg; have hnb9 := NB106_107.out; have hnc9 := NB107_106.out; obtain ⟨hcz10_0, hcz10_1⟩ := Hd.c2_ BK106.out; obtain ⟨hfz10_0, hfz10_1⟩ := Hd.f2_ BK106.out) | (go_at_call 97; (with_reducible refine (impl_IsPoint.calls a0_0 a0_1 true _ A3.out).mono ?_); rintro e w11 ⟨rfl, hb⟩; replace BK106 := Aside0.mk (Hd.kb_ BK106 hb); replace BK107 := Aside0.mk (Hd.kb_ BK107 hb); replace HB := Aside0.mk (below_step Hd.b_ hb); (try clear hb); (try clear hb2); (try clear hk); (try clear hi); obtain ⟨hcz12_0, hcz12_1⟩ := Hd.c2_ BK107.out; obtain ⟨hfz12_0, hfz12_1⟩ := Hd.f2_ BK107.out) | (go_at_call 97; (with_reducible refine (impl_IsPoint.calls a1_0 a1_1 true _ A5.out).mono ?_); rintro e w13 ⟨rfl, hb⟩; replace BK106 := Aside0.mk (Hd.kb_ BK106 hb); replace BK107 := Aside0.mk (Hd.kb_ BK107 hb); replace HB := Aside0.mk (below_step Hd.b_ hb); (try clear hb); (try clear hb2); (try clear hk); (try clear hi); obtain ⟨hcz14_0, hcz14_1⟩ := Hd.c2_ BK106.out; obtain ⟨hfz14_0, hfz14_1⟩ := Hd.f2_ BK106.out; obtain ⟨hcz15_0, hcz15_1⟩ := Hd.c2_ BK107.out; obtain ⟨hfz15_0, hfz15_1⟩ := Hd.f2_ BK107.out)))
   go_ret
   exact ⟨Hd.e_, Hd.b_⟩
  ·
   replace c6 := Bool.eq_false_iff.mpr c6
   subst c6
   have H1 : (some (-1)) = some r := by rw [if_neg (show ¬ (false = true) by decide)] at H; exact H
   clear H
   have H := H1
   clear H1
   obtain rfl := Option.some.inj H
   go_enter Try.func51, Try.ntmps51
   go_wp2_with (first | ((with_reducible refine gate_dst (N := 2) rfl ?_); refine Hd.box_ 2 (#[.int .i64 a0_0, .int .i64 a0_1]) 75 ?_; intro gb106 hg w16 hbox hb; have BK106 := Aside0.mk (hbox); have GW106 := Aside0.mk ((Hd.g_ hg Hd.b_ : w.heap.size ≤ gb106)); have GE106 := Aside0.mk ((Hd.g_ hg Hd.b_ : w.heap.size ≤ gb106)); replace HB := Aside0.mk (below_step Hd.b_ hb); clear hb hbox hg) | ((with_reducible refine gate_dst (N := 3) rfl ?_); refine Hd.box_ 3 (#[.int .i64 a1_0, .int .i64 a1_1]) 75 ?_; intro gb107 hg w17 hbox hb; have BK107 := Aside0.mk (hbox); have GW107 := Aside0.mk ((Hd.g_ hg Hd.b_ : w.heap.size ≤ gb107)); have GE107 := Aside0.mk ((Hd.g_ hg Hd.b_ : w.heap.size ≤ gb107)); replace HB := Aside0.mk (below_step Hd.b_ hb); have NB106_107 := Aside0.mk ((Hd.lt_ BK106 hg)); have NB107_106 := Aside0.mk ((Hd.gt_ BK106 hg)); replace BK106 := Aside0.mk (Hd.kb_ BK106 hb); clear hb hbox hg; have hnb18 := NB106_107.out; have hnc18 := NB107_106.out; obtain ⟨hcz19_0, hcz19_1⟩ := Hd.c2_ BK106.out; obtain ⟨hfz19_0, hfz19_1⟩ := Hd.f2_ BK106.out) | (go_at_call 97; (with_reducible refine (impl_IsPoint.calls a0_0 a0_1 true _ A3.out).mono ?_); rintro e w20 ⟨rfl, hb⟩; replace BK106 := Aside0.mk (Hd.kb_ BK106 hb); replace BK107 := Aside0.mk (Hd.kb_ BK107 hb); replace HB := Aside0.mk (below_step Hd.b_ hb); (try clear hb); (try clear hb2); (try clear hk); (try clear hi); obtain ⟨hcz21_0, hcz21_1⟩ := Hd.c2_ BK107.out; obtain ⟨hfz21_0, hfz21_1⟩ := Hd.f2_ BK107.out) | (go_at_call 97; (with_reducible refine (impl_IsPoint.calls a1_0 a1_1 false _ A5.out).mono ?_); rintro e w22 ⟨rfl, hb⟩; replace BK106 := Aside0.mk (Hd.kb_ BK106 hb); replace BK107 := Aside0.mk (Hd.kb_ BK107 hb); replace HB := Aside0.mk (below_step Hd.b_ hb); (try clear hb); (try clear hb2); (try clear hk); (try clear hi)))
   repeat (go_quiet (first | ((with_reducible refine gate_dst (N := 2) rfl ?_); refine Hd.box_ 2 (#[.int .i64 a0_0, .int .i64 a0_1]) 75 ?_; intro gb106 hg w16 hbox hb; have BK106 := Aside0.mk (hbox); have GW106 := Aside0.mk ((Hd.g_ hg Hd.b_ : w.heap.size ≤ gb106)); have GE106 := Aside0.mk ((Hd.g_ hg Hd.b_ : w.heap.size ≤ gb106)); replace HB := Aside0.mk (below_step Hd.b_ hb); clear hb hbox hg) | ((with_reducible refine gate_dst (N := 3) rfl ?_); refine Hd.box_ 3 (#[.int .i64 a1_0, .int .i64 a1_1]) 75 ?_; intro gb107 hg w17 hbox hb; have BK107 := Aside0.mk (hbox); have GW107 := Aside0.mk ((Hd.g_ hg Hd.b_ : w.heap.size ≤ gb107)); have GE107 := Aside0.mk ((Hd.g_ hg Hd.b_ : w.heap.size ≤ gb107)); replace HB := Aside0.mk (below_step Hd.b_ hb); have NB106_107 := Aside0.mk ((Hd.lt_ BK106 hg)); have NB107_106 := Aside0.mk ((Hd.gt_ BK106 hg)); replace BK106 := Aside0.mk (Hd.kb_ BK106 hb); clear hb hbox hg; have hnb18 := NB106_107.out; have hnc18 := NB107_106.out; obtain ⟨hcz19_0, hcz19_1⟩ := Hd.c2_ BK106.out; obtain ⟨hfz19_0, hfz19_1⟩ := Hd.f2_ BK106.out) | (go_at_call 97; (with_reducible refine (impl_IsPoint.calls a0_0 a0_1 true _ A3.out).mono ?_); rintro e w20 ⟨rfl, hb⟩; replace BK106 := Aside0.mk (Hd.kb_ BK106 hb); replace BK107 := Aside0.mk (Hd.kb_ BK107 hb); replace HB := Aside0.mk (below_step Hd.b_ hb); (try clear hb); (try clear hb2); (try clear hk); (try clear hi); obtain ⟨hcz21_0, hcz21_1⟩ := Hd.c2_ BK107.out; obtain ⟨hfz21_0, hfz21_1⟩ := Hd.f2_ BK107.out) | (go_at_call 97; (with_reducible refine (impl_IsPoint.calls a1_0 a1_1 false _ A5.out).mono ?_); rintro e w22 ⟨rfl, hb⟩; replace BK106 := Aside0.mk (Hd.kb_ BK106 hb); replace BK107 := Aside0.mk (Hd.kb_ BK107 hb); replace HB := Aside0.mk (below_step Hd.b_ hb); (try clear hb); (try clear hb2); (try clear hk); (try clear hi))); try go_wp2_with (first | ((with_reducible refine gate_dst (N := 2) rfl ?_); refine Hd.box_ 2 (#[.int .i64 a0_0, .int .i64 a0_1]) 75 ?_; intro gb106 hg w16 hbox hb; have BK106 := Aside0.mk (hbox); have GW106 := Aside0.mk ((Hd.g_ hg Hd.b_ : w.heap.size ≤ gb106)); have GE106 := Aside0.mk ((Hd.g_ hg Hd.b_ : w.heap.size ≤ gb106)); replace HB := Aside0.mk (below_step Hd.b_ hb); clear hb hbox hg) | ((with_reducible refine gate_dst (N := 3) rfl ?_); refine Hd.box_ 3 (#[.int .i64 a1_0, .int .i64 a1_1]) 75 ?_; intro gb107 hg w17 hbox hb; have BK107 := Aside0.mk (hbox); have GW107 := Aside0.mk ((Hd.g_ hg Hd.b_ : w.heap.size ≤ gb107)); have GE107 := Aside0.mk ((Hd.g_ hg Hd.b_ : w.heap.size ≤ gb107)); replace HB := Aside0.mk (below_step Hd.b_ hb); have NB106_107 := Aside0.mk ((Hd.lt_ BK106 hg)); have NB107_106 := Aside0.mk ((Hd.gt_ BK106 hg)); replace BK106 := Aside0.mk (Hd.kb_ BK106 hb); clear hb hbox hg; have hnb18 := NB106_107.out; have hnc18 := NB107_106.out; obtain ⟨hcz19_0, hcz19_1⟩ := Hd.c2_ BK106.out; obtain ⟨hfz19_0, hfz19_1⟩ := Hd.f2_ BK106.out) | (go_at_call 97; (with_reducible refine (impl_IsPoint.calls a0_0 a0_1 true _ A3.out).mono ?_); rintro e w20 ⟨rfl, hb⟩; replace BK106 := Aside0.mk (Hd.kb_ BK106 hb); replace BK107 := Aside0.mk (Hd.kb_ BK107 hb); replace HB := Aside0.mk (below_step Hd.b_ hb); (try clear hb); (try clear hb2); (try clear hk); (try clear hi); obtain ⟨hcz21_0, hcz21_1⟩ := Hd.c2_ BK107.out; obtain ⟨hfz21_0, hfz21_1⟩ := Hd.f2_ BK107.out) | (go_at_call 97; (with_reducible refine (impl_IsPoint.calls a1_0 a1_1 false _ A5.out).mono ?_); rintro e w22 ⟨rfl, hb⟩; replace BK106 := Aside0.mk (Hd.kb_ BK106 hb); replace BK107 := Aside0.mk (Hd.kb_ BK107 hb); replace HB := Aside0.mk (below_step Hd.b_ hb); (try clear hb); (try clear hb2); (try clear hk); (try clear hi))))
   go_ret
   exact ⟨Hd.e_, Hd.b_⟩
 ·
  replace c4 := Bool.eq_false_iff.mpr c4
  subst c4
  have H1 : (some (-1)) = some r := by rw [if_neg (show ¬ (false = true) by decide)] at H; exact H
  clear H
  have H := H1
  clear H1
  obtain rfl := Option.some.inj H
  go_enter Try.func51, Try.ntmps51
  go_wp2_with (first | ((with_reducible refine gate_dst (N := 2) rfl ?_); refine Hd.box_ 2 (#[.int .i64 a0_0, .int .i64 a0_1]) 75 ?_; intro gb106 hg w23 hbox hb; have BK106 := Aside0.mk (hbox); have GW106 := Aside0.mk ((Hd.g_ hg Hd.b_ : w.heap.size ≤ gb106)); have GE106 := Aside0.mk ((Hd.g_ hg Hd.b_ : w.heap.size ≤ gb106)); replace HB := Aside0.mk (below_step Hd.b_ hb); clear hb hbox hg) | ((with_reducible refine gate_dst (N := 3) rfl ?_); refine Hd.box_ 3 (#[.int .i64 a1_0, .int .i64 a1_1]) 75 ?_; intro gb107 hg w24 hbox hb; have BK107 := Aside0.mk (hbox); have GW107 := Aside0.mk ((Hd.g_ hg Hd.b_ : w.heap.size ≤ gb107)); have GE107 := Aside0.mk ((Hd.g_ hg Hd.b_ : w.heap.size ≤ gb107)); replace HB := Aside0.mk (below_step Hd.b_ hb); have NB106_107 := Aside0.mk ((Hd.lt_ BK106 hg)); have NB107_106 := Aside0.mk ((Hd.gt_ BK106 hg)); replace BK106 := Aside0.mk (Hd.kb_ BK106 hb); clear hb hbox hg; have hnb25 := NB106_107.out; have hnc25 := NB107_106.out; obtain ⟨hcz26_0, hcz26_1⟩ := Hd.c2_ BK106.out; obtain ⟨hfz26_0, hfz26_1⟩ := Hd.f2_ BK106.out) | (go_at_call 97; (with_reducible refine (impl_IsPoint.calls a0_0 a0_1 false _ A3.out).mono ?_); rintro e w27 ⟨rfl, hb⟩; replace BK106 := Aside0.mk (Hd.kb_ BK106 hb); replace BK107 := Aside0.mk (Hd.kb_ BK107 hb); replace HB := Aside0.mk (below_step Hd.b_ hb); (try clear hb); (try clear hb2); (try clear hk); (try clear hi)))
  repeat (go_quiet (first | ((with_reducible refine gate_dst (N := 2) rfl ?_); refine Hd.box_ 2 (#[.int .i64 a0_0, .int .i64 a0_1]) 75 ?_; intro gb106 hg w23 hbox hb; have BK106 := Aside0.mk (hbox); have GW106 := Aside0.mk ((Hd.g_ hg Hd.b_ : w.heap.size ≤ gb106)); have GE106 := Aside0.mk ((Hd.g_ hg Hd.b_ : w.heap.size ≤ gb106)); replace HB := Aside0.mk (below_step Hd.b_ hb); clear hb hbox hg) | ((with_reducible refine gate_dst (N := 3) rfl ?_); refine Hd.box_ 3 (#[.int .i64 a1_0, .int .i64 a1_1]) 75 ?_; intro gb107 hg w24 hbox hb; have BK107 := Aside0.mk (hbox); have GW107 := Aside0.mk ((Hd.g_ hg Hd.b_ : w.heap.size ≤ gb107)); have GE107 := Aside0.mk ((Hd.g_ hg Hd.b_ : w.heap.size ≤ gb107)); replace HB := Aside0.mk (below_step Hd.b_ hb); have NB106_107 := Aside0.mk ((Hd.lt_ BK106 hg)); have NB107_106 := Aside0.mk ((Hd.gt_ BK106 hg)); replace BK106 := Aside0.mk (Hd.kb_ BK106 hb); clear hb hbox hg; have hnb25 := NB106_107.out; have hnc25 := NB107_106.out; obtain ⟨hcz26_0, hcz26_1⟩ := Hd.c2_ BK106.out; obtain ⟨hfz26_0, hfz26_1⟩ := Hd.f2_ BK106.out) | (go_at_call 97; (with_reducible refine (impl_IsPoint.calls a0_0 a0_1 false _ A3.out).mono ?_); rintro e w27 ⟨rfl, hb⟩; replace BK106 := Aside0.mk (Hd.kb_ BK106 hb); replace BK107 := Aside0.mk (Hd.kb_ BK107 hb); replace HB := Aside0.mk (below_step Hd.b_ hb); (try clear hb); (try clear hb2); (try clear hk); (try clear hi))); try go_wp2_with (first | ((with_reducible refine gate_dst (N := 2) rfl ?_); refine Hd.box_ 2 (#[.int .i64 a0_0, .int .i64 a0_1]) 75 ?_; intro gb106 hg w23 hbox hb; have BK106 := Aside0.mk (hbox); have GW106 := Aside0.mk ((Hd.g_ hg Hd.b_ : w.heap.size ≤ gb106)); have GE106 := Aside0.mk ((Hd.g_ hg Hd.b_ : w.heap.size ≤ gb106)); replace HB := Aside0.mk (below_step Hd.b_ hb); clear hb hbox hg) | ((with_reducible refine gate_dst (N := 3) rfl ?_); refine Hd.box_ 3 (#[.int .i64 a1_0, .int .i64 a1_1]) 75 ?_; intro gb107 hg w24 hbox hb; have BK107 := Aside0.mk (hbox); have GW107 := Aside0.mk ((Hd.g_ hg Hd.b_ : w.heap.size ≤ gb107)); have GE107 := Aside0.mk ((Hd.g_ hg Hd.b_ : w.heap.size ≤ gb107)); replace HB := Aside0.mk (below_step Hd.b_ hb); have NB106_107 := Aside0.mk ((Hd.lt_ BK106 hg)); have NB107_106 := Aside0.mk ((Hd.gt_ BK106 hg)); replace BK106 := Aside0.mk (Hd.kb_ BK106 hb); clear hb hbox hg; have hnb25 := NB106_107.out; have hnc25 := NB107_106.out; obtain ⟨hcz26_0, hcz26_1⟩ := Hd.c2_ BK106.out; obtain ⟨hfz26_0, hfz26_1⟩ := Hd.f2_ BK106.out) | (go_at_call 97; (with_reducible refine (impl_IsPoint.calls a0_0 a0_1 false _ A3.out).mono ?_); rintro e w27 ⟨rfl, hb⟩; replace BK106 := Aside0.mk (Hd.kb_ BK106 hb); replace BK107 := Aside0.mk (Hd.kb_ BK107 hb); replace HB := Aside0.mk (below_step Hd.b_ hb); (try clear hb); (try clear hb2); (try clear hk); (try clear hi))))
  go_ret
  exact ⟨Hd.e_, Hd.b_⟩
def impl_ArePlaces.l0 : Nat → List (S77) → List (S77) → Int → Int → Option (Bool)
 | 0, _, _, _, _ => none
 | k + 1, x0, x8, x9, x10 => if x10 < x9 then (if 0 ≤ x10 then (if x10 < (x8.length : Int) then ((impl_InRange.f ((rd_T77 x8 x10).f0) 1 99).bind fun t112 => (if t112 = true then ((impl_IsPoint.f ((rd_T77 x8 x10).f1.f0) ((rd_T77 x8 x10).f1.f1)).bind fun t113 => (if t113 = true then ((impl_InRange.f ((rd_T77 x8 x10).f2) 0 9).bind fun t114 => (if t114 = true then (if x10 > 0 then (if 0 ≤ (wrap64 (x10 - 1)) then (if (wrap64 (x10 - 1)) < (x0.length : Int) then (if ((rd_T77 x8 x10).f0) ≤ ((rd_T77 x0 (wrap64 (x10 - 1))).f0) then (some false) else (impl_ArePlaces.l0 k x0 x8 x9 (wrap64 (x10 + 1)))) else (none)) else (none)) else (impl_ArePlaces.l0 k x0 x8 x9 (wrap64 (x10 + 1)))) else (some false))) else (some false))) else (some false))) else (none)) else (none)) else (some true)
def impl_ArePlaces.f (k : Nat) (l0 : List (S77)) : Option (Bool) := if (l0.length : Int) > 16 then (some false) else (impl_ArePlaces.l0 k l0 l0 (l0.length : Int) 0)
set_option maxHeartbeats 8000000 in
set_option maxRecDepth 100000 in
theorem impl_ArePlaces.calls (k : Nat) (A0 : Option Addr) (c0 : Nat) (l0 : List (S77)) (r : Bool) (w : World) (hr0 : Kd.C k77 w A0 l0.length l0) (hc0 : l0.length ≤ c0) (h : impl_ArePlaces.f k l0 = some r) :
  Calls Try.prog 53 #[.slice A0 l0.length c0] w fun e w' => e = .returned (.bool r) ∧ Below w.heap.size w w' := by
 have hu77 := Try.underlying77
 have hu75 := Try.underlying75
 have HR0 := Aside0.mk hr0
 have HC0 := Aside0.mk hc0
 clear hr0 hc0
 have HB := Aside0.mk (Below.refl w.heap.size w)
 have H : (if (l0.length : Int) > 16 then (some false) else (impl_ArePlaces.l0 k l0 l0 (l0.length : Int) 0)) = some r := h
 clear h
 by_cases c2 : (l0.length : Int) > 16
 ·
  rw [if_pos c2] at H
  have c2b0 : decide (16 < (l0.length : Int)) = true := decide_eq_true c2
  have c2b1 : decide (16 < l0.length) = true := decide_eq_true (by omega)
  clear c2
  obtain rfl := Option.some.inj H
  go_enter Try.func53, Try.ntmps53
  go_wp2
  go_ret
  exact ⟨Hd.e_, Hd.b_⟩
 ·
  rw [if_neg c2] at H
  have c2b0 : decide (16 < (l0.length : Int)) = false := decide_eq_false c2
  have c2b1 : decide (16 < l0.length) = false := decide_eq_false (by omega)
  clear c2
  have H' := Aside0.mk H
  clear H
  go_enter Try.func53, Try.ntmps53
  go_wp2
  go_loopg [10] k (fun kq v10 w' => ∃ (x10_1 : Int), v10 = .int .i64 x10_1 ∧ Aside0 (impl_ArePlaces.l0 kq l0 l0 (l0.length : Int) x10_1 = some r) ∧ Aside0 (kq ≤ k) ∧ Aside0 (Below w.heap.size w w'))
  case atStart => exact ⟨(0), (by first | rfl | (simp; done) | (simp [*]; done)), H', ⟨Nat.le_refl _⟩, ⟨Hd.b_⟩⟩
  case round =>
   clear H'
   try clear c2
   try clear c2b0
   try clear c2b1
   try clear p2
   obtain ⟨x10_1, rfl, HA, HK1, HB⟩ := hrel
   cases gk with
   | zero => exact absurd HA.out (by simp [impl_ArePlaces.l0])
   | succ k1 =>
    have H := HA.out
    clear HA
    simp only [impl_ArePlaces.l0] at H
    by_cases c3 : x10_1 < (l0.length : Int)
    ·
     rw [if_pos c3] at H
     have c3b0 : decide (x10_1 < (l0.length : Int)) = true := decide_eq_true c3
     clear c3
     by_cases c4 : 0 ≤ x10_1
     ·
      rw [if_pos c4] at H
      have c4b0 : decide (0 ≤ x10_1) = true := decide_eq_true c4
      clear c4
      by_cases c5 : x10_1 < (l0.length : Int)
      ·
       rw [if_pos c5] at H
       have c5b0 : decide (x10_1 < (l0.length : Int)) = true := decide_eq_true c5
       clear c5
       replace H := Option.bind_eq_some_iff.mp H
       obtain ⟨t112, A60, H⟩ := H
       replace H : (if t112 = true then ((impl_IsPoint.f ((rd_T77 l0 x10_1).f1.f0) ((rd_T77 l0 x10_1).f1.f1)).bind fun t113 => (if t113 = true then ((impl_InRange.f ((rd_T77 l0 x10_1).f2) 0 9).bind fun t114 => (if t114 = true then (if x10_1 > 0 then (if 0 ≤ (wrap64 (x10_1 - 1)) then (if (wrap64 (x10_1 - 1)) < (l0.length : Int) then (if ((rd_T77 l0 x10_1).f0) ≤ ((rd_T77 l0 (wrap64 (x10_1 - 1))).f0) then (some false) else (impl_ArePlaces.l0 k1 l0 l0 (l0.length : Int) (wrap64 (x10_1 + 1)))) else (none)) else (none)) else (impl_ArePlaces.l0 k1 l0 l0 (l0.length : Int) (wrap64 (x10_1 + 1)))) else (some false))) else (some false))) else (some false)) = some r := H
       have A6 := Aside0.mk A60
       clear A60
       by_cases c7 : t112 = true
       ·
        subst c7
        have H1 : ((impl_IsPoint.f ((rd_T77 l0 x10_1).f1.f0) ((rd_T77 l0 x10_1).f1.f1)).bind fun t113 => (if t113 = true then ((impl_InRange.f ((rd_T77 l0 x10_1).f2) 0 9).bind fun t114 => (if t114 = true then (if x10_1 > 0 then (if 0 ≤ (wrap64 (x10_1 - 1)) then (if (wrap64 (x10_1 - 1)) < (l0.length : Int) then (if ((rd_T77 l0 x10_1).f0) ≤ ((rd_T77 l0 (wrap64 (x10_1 - 1))).f0) then (some false) else (impl_ArePlaces.l0 k1 l0 l0 (l0.length : Int) (wrap64 (x10_1 + 1)))) else (none)) else (none)) else (impl_ArePlaces.l0 k1 l0 l0 (l0.length : Int) (wrap64 (x10_1 + 1)))) else (some false))) else (some false))) = some r := by rw [if_pos rfl] at H; exact H
        clear H
        have H := H1
        clear H1
        replace H := Option.bind_eq_some_iff.mp H
        obtain ⟨t113, A80, H⟩ := H
        replace H : (if t113 = true then ((impl_InRange.f ((rd_T77 l0 x10_1).f2) 0 9).bind fun t114 => (if t114 = true then (if x10_1 > 0 then (if 0 ≤ (wrap64 (x10_1 - 1)) then (if (wrap64 (x10_1 - 1)) < (l0.length : Int) then (if ((rd_T77 l0 x10_1).f0) ≤ ((rd_T77 l0 (wrap64 (x10_1 - 1))).f0) then (some false) else (impl_ArePlaces.l0 k1 l0 l0 (l0.length : Int) (wrap64 (x10_1 + 1)))) else (none)) else (none)) else (impl_ArePlaces.l0 k1 l0 l0 (l0.length : Int) (wrap64 (x10_1 + 1)))) else (some false))) else (some false)) = some r := H
        have A8 := Aside0.mk A80
        clear A80
        by_cases c9 : t113 = true
        ·
         subst c9
         have H1 : ((impl_InRange.f ((rd_T77 l0 x10_1).f2) 0 9).bind fun t114 => (if t114 = true then (if x10_1 > 0 then (if 0 ≤ (wrap64 (x10_1 - 1)) then (if (wrap64 (x10_1 - 1)) < (l0.length : Int) then (if ((rd_T77 l0 x10_1).f0) ≤ ((rd_T77 l0 (wrap64 (x10_1 - 1))).f0) then (some false) else (impl_ArePlaces.l0 k1 l0 l0 (l0.length : Int) (wrap64 (x10_1 + 1)))) else (none)) else (none)) else (impl_ArePlaces.l0 k1 l0 l0 (l0.length : Int) (wrap64 (x10_1 + 1)))) else (some false))) = some r := by rw [if_pos rfl] at H; exact H
         clear H
         have H := H1
         clear H1
         replace H := Option.bind_eq_some_iff.mp H
         obtain ⟨t114, A100, H⟩ := H
         replace H : (if t114 = true then (if x10_1 > 0 then (if 0 ≤ (wrap64 (x10_1 - 1)) then (if (wrap64 (x10_1 - 1)) < (l0.length : Int) then (if ((rd_T77 l0 x10_1).f0) ≤ ((rd_T77 l0 (wrap64 (x10_1 - 1))).f0) then (some false) else (impl_ArePlaces.l0 k1 l0 l0 (l0.length : Int) (wrap64 (x10_1 + 1)))) else (none)) else (none)) else (impl_ArePlaces.l0 k1 l0 l0 (l0.length : Int) (wrap64 (x10_1 + 1)))) else (some false)) = some r := H
         have A10 := Aside0.mk A100
         clear A100
         by_cases c11 : t114 = true
         ·
          subst c11
          have H1 : (if x10_1 > 0 then (if 0 ≤ (wrap64 (x10_1 - 1)) then (if (wrap64 (x10_1 - 1)) < (l0.length : Int) then (if ((rd_T77 l0 x10_1).f0) ≤ ((rd_T77 l0 (wrap64 (x10_1 - 1))).f0) then (some false) else (impl_ArePlaces.l0 k1 l0 l0 (l0.length : Int) (wrap64 (x10_1 + 1)))) else (none)) else (none)) else (impl_ArePlaces.l0 k1 l0 l0 (l0.length : Int) (wrap64 (x10_1 + 1)))) = some r := by rw [if_pos rfl] at H; exact H
          clear H
          have H := H1
          clear H1
          by_cases c12 : x10_1 > 0
          ·
           rw [if_pos c12] at H
           have c12b0 : decide (0 < x10_1) = true := decide_eq_true c12
           clear c12
           obtain ⟨ji13, hji13⟩ : ∃ j_ : Int, (wrap64 (x10_1 - 1)) = j_ := ⟨_, rfl⟩
           replace H : (if 0 ≤ (ji13) then (if (ji13) < (l0.length : Int) then (if ((rd_T77 l0 x10_1).f0) ≤ ((rd_T77 l0 (ji13)).f0) then (some false) else (impl_ArePlaces.l0 k1 l0 l0 (l0.length : Int) (wrap64 (x10_1 + 1)))) else (none)) else (none)) = some r := by first | (rw [hji13] at H; exact H) | (simp only [hji13] at H ⊢; exact H)
           (try rw [hji13] at A6)
           (try rw [hji13] at A8)
           (try rw [hji13] at A10)
           have hji13w : (IntKind.i64.wrap (x10_1 - 1)) = ji13 := (i64_w _).trans hji13
           by_cases c14 : 0 ≤ (ji13)
           ·
            rw [if_pos c14] at H
            have c14b0 : decide (0 ≤ (ji13)) = true := decide_eq_true c14
            clear c14
            by_cases c15 : (ji13) < (l0.length : Int)
            ·
             rw [if_pos c15] at H
             have c15b0 : decide ((ji13) < (l0.length : Int)) = true := decide_eq_true c15
             clear c15
             by_cases c16 : ((rd_T77 l0 x10_1).f0) ≤ ((rd_T77 l0 (ji13)).f0)
             ·
              rw [if_pos c16] at H
              have c16b0 : decide (((rd_T77 l0 x10_1).f0) ≤ ((rd_T77 l0 (ji13)).f0)) = true := decide_eq_true c16
              clear c16
              obtain rfl := Option.some.inj H
              have p110 : 0 ≤ (x10_1 : Int) := of_decide_eq_true Hd.a_
              have q110 : x10_1 < (l0.length : Int) := of_decide_eq_true Hd.a_
              obtain ⟨ad110, e110, hx110_0, hx110_1, hx110_2, hx110_3⟩ := at_T77 HR0.out x10_1 p110 q110
              cases e110
              replace hx110_0 := (HB.out.cell (World.block_lt_of_cell? w _ hx110_0)).trans hx110_0
              replace hx110_1 := (HB.out.cell (World.block_lt_of_cell? w _ hx110_1)).trans hx110_1
              replace hx110_2 := (HB.out.cell (World.block_lt_of_cell? w _ hx110_2)).trans hx110_2
              replace hx110_3 := (HB.out.cell (World.block_lt_of_cell? w _ hx110_3)).trans hx110_3
              replace p110 := eq_true p110
              replace q110 := eq_true q110
              try go_wp2_with (first | ((with_reducible refine gate_dst (N := 4) rfl ?_); refine Hd.box_ 4 (#[.int .i64 0, .int .i64 0, .int .i64 0, .int .i64 0]) 77 ?_; intro gb111 hg w17 hbox hb; have BK111 := Aside0.mk (hbox); have GW111 := Aside0.mk ((Hd.g_ hg Hd.b_ : w.heap.size ≤ gb111)); have GE111 := Aside0.mk ((Hd.g_ hg Hd.b_ : w.heap.size ≤ gb111)); replace HB := Aside0.mk (below_step Hd.b_ hb); clear hb hbox hg; obtain ⟨hcz18_0, hcz18_1, hcz18_2, hcz18_3⟩ := Hd.c4_ BK111.out; obtain ⟨hfz18_0, hfz18_1, hfz18_2, hfz18_3⟩ := Hd.f4_ BK111.out))
              have n0_ : Aside0 (((((w17.setCell ⟨gb111, 0, none⟩ (.int .i64 ((rd_T77 l0 x10_1).f0))).setCell ⟨gb111, 1, none⟩ (.int .i64 ((rd_T77 l0 x10_1).f1.f0))).setCell ⟨gb111, 2, none⟩ (.int .i64 ((rd_T77 l0 x10_1).f1.f1))).setCell ⟨gb111, 3, none⟩ (.int .i64 ((rd_T77 l0 x10_1).f2))).heap[gb111]? = some (.cells #[.int .i64 ((rd_T77 l0 x10_1).f0), .int .i64 ((rd_T77 l0 x10_1).f1.f0), .int .i64 ((rd_T77 l0 x10_1).f1.f1), .int .i64 ((rd_T77 l0 x10_1).f2)] 77 (0, 0))) := ⟨by (with_reducible repeat (first | refine blk_drewN ?_ _ | refine blk_drew ?_ | refine blk_alloc ?_ _)); refine blk_put (cs := #[.int .i64 ((rd_T77 l0 x10_1).f0), .int .i64 ((rd_T77 l0 x10_1).f1.f0), .int .i64 ((rd_T77 l0 x10_1).f1.f1), .int .i64 0]) ?_ 3 _ rfl; (with_reducible repeat (first | refine blk_drewN ?_ _ | refine blk_drew ?_ | refine blk_alloc ?_ _)); refine blk_put (cs := #[.int .i64 ((rd_T77 l0 x10_1).f0), .int .i64 ((rd_T77 l0 x10_1).f1.f0), .int .i64 0, .int .i64 0]) ?_ 2 _ rfl; (with_reducible repeat (first | refine blk_drewN ?_ _ | refine blk_drew ?_ | refine blk_alloc ?_ _)); refine blk_put (cs := #[.int .i64 ((rd_T77 l0 x10_1).f0), .int .i64 0, .int .i64 0, .int .i64 0]) ?_ 1 _ rfl; (with_reducible repeat (first | refine blk_drewN ?_ _ | refine blk_drew ?_ | refine blk_alloc ?_ _)); refine blk_put (cs := #[.int .i64 0, .int .i64 0, .int .i64 0, .int .i64 0]) ?_ 0 _ rfl; (with_reducible repeat (first | refine blk_drewN ?_ _ | refine blk_drew ?_ | refine blk_alloc ?_ _)); exact BK111.out⟩
              have n1_ : Aside0 (Below w.heap.size w ((((w17.setCell ⟨gb111, 0, none⟩ (.int .i64 ((rd_T77 l0 x10_1).f0))).setCell ⟨gb111, 1, none⟩ (.int .i64 ((rd_T77 l0 x10_1).f1.f0))).setCell ⟨gb111, 2, none⟩ (.int .i64 ((rd_T77 l0 x10_1).f1.f1))).setCell ⟨gb111, 3, none⟩ (.int .i64 ((rd_T77 l0 x10_1).f2)))) := ⟨Hd.b_⟩
              (try clear BK111)
              (try clear HB)
              generalize ((((w17.setCell ⟨gb111, 0, none⟩ (.int .i64 ((rd_T77 l0 x10_1).f0))).setCell ⟨gb111, 1, none⟩ (.int .i64 ((rd_T77 l0 x10_1).f1.f0))).setCell ⟨gb111, 2, none⟩ (.int .i64 ((rd_T77 l0 x10_1).f1.f1))).setCell ⟨gb111, 3, none⟩ (.int .i64 ((rd_T77 l0 x10_1).f2))) = w19 at n0_ n1_ ⊢
              have BK111 := n0_
              have HB := n1_
              clear n0_ n1_
              replace BK111 := Aside0.mk (blk_drew BK111.out)
              replace HB := Aside0.mk (below_drew1 HB.out)
              have p115 : 0 ≤ ((ji13) : Int) := of_decide_eq_true Hd.a_
              have q115 : (ji13) < (l0.length : Int) := of_decide_eq_true Hd.a_
              obtain ⟨ad115, e115, hx115_0, hx115_1, hx115_2, hx115_3⟩ := at_T77 HR0.out (ji13) p115 q115
              have hw115_3 := hx115_3
              have hw115_2 := hx115_2
              have hw115_1 := hx115_1
              have hw115_0 := hx115_0
              obtain rfl : ad110 = ad115 := (by injection e115)
              replace hx115_0 := (HB.out.cell (World.block_lt_of_cell? w _ hx115_0)).trans hx115_0
              replace hx115_1 := (HB.out.cell (World.block_lt_of_cell? w _ hx115_1)).trans hx115_1
              replace hx115_2 := (HB.out.cell (World.block_lt_of_cell? w _ hx115_2)).trans hx115_2
              replace hx115_3 := (HB.out.cell (World.block_lt_of_cell? w _ hx115_3)).trans hx115_3
              replace p115 := eq_true p115
              replace q115 := eq_true q115
              obtain ⟨s0_, s1_, s2_, s3_⟩ := Hd.HW.k4 (W0 := w19.drew) BK111
              have s4_ := Hd.HW.x (W0 := w19.drew) ((HB.out.cell (World.block_lt_of_cell? w _ hw115_0)).trans hw115_0)
              have s5_ := Hd.HW.x (W0 := w19.drew) ((HB.out.cell (World.block_lt_of_cell? w _ hw115_1)).trans hw115_1)
              have s6_ := Hd.HW.x (W0 := w19.drew) ((HB.out.cell (World.block_lt_of_cell? w _ hw115_2)).trans hw115_2)
              have s7_ := Hd.HW.x (W0 := w19.drew) ((HB.out.cell (World.block_lt_of_cell? w _ hw115_3)).trans hw115_3)
              refine Hd.HW.region (by kernel_rfl) (by kernel_rfl) ?_
              try dsimp only [List.append]
              repeat (go_big_quiet_step ((first | (go_at_call 98; with_reducible exact Hd.HW.d (impl_InRange.calls ((rd_T77 l0 x10_1).f0) 1 99 true _ A6.out)) | (go_at_call 97; with_reducible exact Hd.HW.c (impl_IsPoint.calls ((rd_T77 l0 x10_1).f1.f0) ((rd_T77 l0 x10_1).f1.f1) true _ A8.out)) | (go_at_call 98; with_reducible exact Hd.HW.d (impl_InRange.calls ((rd_T77 l0 x10_1).f2) 0 9 true _ A10.out)))))
              refine wpQuiet_nil ?_
              intro _ hq_
              obtain ⟨q_, rfl⟩ := hq_
              clear s0_ s1_ s2_ s3_ s4_ s5_ s6_ s7_
              replace BK111 := Aside0.mk (blk_below BK111.out q_.b)
              replace HB := Aside0.mk (below_step HB.out q_.b)
              replace hx115_0 := q_.cell hx115_0
              replace hx115_1 := q_.cell hx115_1
              replace hx115_2 := q_.cell hx115_2
              replace hx115_3 := q_.cell hx115_3
              generalize q_.W = w21 at BK111 HB hx115_0 hx115_1 hx115_2 hx115_3 ⊢
              try simp only [i64_w, i32_w]
              try go_wp2
              go_ret
              exact ⟨by first | rfl | (simp [errW_none, errW_some] <;> rfl) | (simp only [← hji13]; first | rfl | (simp [errW_none, errW_some] <;> rfl)) | (simp [*, errW_none, errW_some] <;> rfl), Hd.b_⟩
             ·
              rw [if_neg c16] at H
              have c16b0 : decide (((rd_T77 l0 x10_1).f0) ≤ ((rd_T77 l0 (ji13)).f0)) = false := decide_eq_false c16
              clear c16
              have H' := Aside0.mk H
              clear H
              have p110 : 0 ≤ (x10_1 : Int) := of_decide_eq_true Hd.a_
              have q110 : x10_1 < (l0.length : Int) := of_decide_eq_true Hd.a_
              obtain ⟨ad110, e110, hx110_0, hx110_1, hx110_2, hx110_3⟩ := at_T77 HR0.out x10_1 p110 q110
              cases e110
              replace hx110_0 := (HB.out.cell (World.block_lt_of_cell? w _ hx110_0)).trans hx110_0
              replace hx110_1 := (HB.out.cell (World.block_lt_of_cell? w _ hx110_1)).trans hx110_1
              replace hx110_2 := (HB.out.cell (World.block_lt_of_cell? w _ hx110_2)).trans hx110_2
              replace hx110_3 := (HB.out.cell (World.block_lt_of_cell? w _ hx110_3)).trans hx110_3
              replace p110 := eq_true p110
              replace q110 := eq_true q110
              try go_wp2_with (first | ((with_reducible refine gate_dst (N := 4) rfl ?_); refine Hd.box_ 4 (#[.int .i64 0, .int .i64 0, .int .i64 0, .int .i64 0]) 77 ?_; intro gb111 hg w22 hbox hb; have BK111 := Aside0.mk (hbox); have GW111 := Aside0.mk ((Hd.g_ hg Hd.b_ : w.heap.size ≤ gb111)); have GE111 := Aside0.mk ((Hd.g_ hg Hd.b_ : w.heap.size ≤ gb111)); replace HB := Aside0.mk (below_step Hd.b_ hb); clear hb hbox hg; obtain ⟨hcz23_0, hcz23_1, hcz23_2, hcz23_3⟩ := Hd.c4_ BK111.out; obtain ⟨hfz23_0, hfz23_1, hfz23_2, hfz23_3⟩ := Hd.f4_ BK111.out))
              have n0_ : Aside0 (((((w22.setCell ⟨gb111, 0, none⟩ (.int .i64 ((rd_T77 l0 x10_1).f0))).setCell ⟨gb111, 1, none⟩ (.int .i64 ((rd_T77 l0 x10_1).f1.f0))).setCell ⟨gb111, 2, none⟩ (.int .i64 ((rd_T77 l0 x10_1).f1.f1))).setCell ⟨gb111, 3, none⟩ (.int .i64 ((rd_T77 l0 x10_1).f2))).heap[gb111]? = some (.cells #[.int .i64 ((rd_T77 l0 x10_1).f0), .int .i64 ((rd_T77 l0 x10_1).f1.f0), .int .i64 ((rd_T77 l0 x10_1).f1.f1), .int .i64 ((rd_T77 l0 x10_1).f2)] 77 (0, 0))) := ⟨by (with_reducible repeat (first | refine blk_drewN ?_ _ | refine blk_drew ?_ | refine blk_alloc ?_ _)); refine blk_put (cs := #[.int .i64 ((rd_T77 l0 x10_1).f0), .int .i64 ((rd_T77 l0 x10_1).f1.f0), .int .i64 ((rd_T77 l0 x10_1).f1.f1), .int .i64 0]) ?_ 3 _ rfl; (with_reducible repeat (first | refine blk_drewN ?_ _ | refine blk_drew ?_ | refine blk_alloc ?_ _)); refine blk_put (cs := #[.int .i64 ((rd_T77 l0 x10_1).f0), .int .i64 ((rd_T77 l0 x10_1).f1.f0), .int .i64 0, .int .i64 0]) ?_ 2 _ rfl; (with_reducible repeat (first | refine blk_drewN ?_ _ | refine blk_drew ?_ | refine blk_alloc ?_ _)); refine blk_put (cs := #[.int .i64 ((rd_T77 l0 x10_1).f0), .int .i64 0, .int .i64 0, .int .i64 0]) ?_ 1 _ rfl; (with_reducible repeat (first | refine blk_drewN ?_ _ | refine blk_drew ?_ | refine blk_alloc ?_ _)); refine blk_put (cs := #[.int .i64 0, .int .i64 0, .int .i64 0, .int .i64 0]) ?_ 0 _ rfl; (with_reducible repeat (first | refine blk_drewN ?_ _ | refine blk_drew ?_ | refine blk_alloc ?_ _)); exact BK111.out⟩
              have n1_ : Aside0 (Below w.heap.size w ((((w22.setCell ⟨gb111, 0, none⟩ (.int .i64 ((rd_T77 l0 x10_1).f0))).setCell ⟨gb111, 1, none⟩ (.int .i64 ((rd_T77 l0 x10_1).f1.f0))).setCell ⟨gb111, 2, none⟩ (.int .i64 ((rd_T77 l0 x10_1).f1.f1))).setCell ⟨gb111, 3, none⟩ (.int .i64 ((rd_T77 l0 x10_1).f2)))) := ⟨Hd.b_⟩
              (try clear BK111)
              (try clear HB)
              generalize ((((w22.setCell ⟨gb111, 0, none⟩ (.int .i64 ((rd_T77 l0 x10_1).f0))).setCell ⟨gb111, 1, none⟩ (.int .i64 ((rd_T77 l0 x10_1).f1.f0))).setCell ⟨gb111, 2, none⟩ (.int .i64 ((rd_T77 l0 x10_1).f1.f1))).setCell ⟨gb111, 3, none⟩ (.int .i64 ((rd_T77 l0 x10_1).f2))) = w24 at n0_ n1_ ⊢
              have BK111 := n0_
              have HB := n1_
              clear n0_ n1_
              replace BK111 := Aside0.mk (blk_drew BK111.out)
              replace HB := Aside0.mk (below_drew1 HB.out)
              have p115 : 0 ≤ ((ji13) : Int) := of_decide_eq_true Hd.a_
              have q115 : (ji13) < (l0.length : Int) := of_decide_eq_true Hd.a_
              obtain ⟨ad115, e115, hx115_0, hx115_1, hx115_2, hx115_3⟩ := at_T77 HR0.out (ji13) p115 q115
              have hw115_3 := hx115_3
              have hw115_2 := hx115_2
              have hw115_1 := hx115_1
              have hw115_0 := hx115_0
              obtain rfl : ad110 = ad115 := (by injection e115)
              replace hx115_0 := (HB.out.cell (World.block_lt_of_cell? w _ hx115_0)).trans hx115_0
              replace hx115_1 := (HB.out.cell (World.block_lt_of_cell? w _ hx115_1)).trans hx115_1
              replace hx115_2 := (HB.out.cell (World.block_lt_of_cell? w _ hx115_2)).trans hx115_2
              replace hx115_3 := (HB.out.cell (World.block_lt_of_cell? w _ hx115_3)).trans hx115_3
              replace p115 := eq_true p115
              replace q115 := eq_true q115
              obtain ⟨s0_, s1_, s2_, s3_⟩ := Hd.HW.k4 (W0 := w24.drew) BK111
              have s4_ := Hd.HW.x (W0 := w24.drew) ((HB.out.cell (World.block_lt_of_cell? w _ hw115_0)).trans hw115_0)
              have s5_ := Hd.HW.x (W0 := w24.drew) ((HB.out.cell (World.block_lt_of_cell? w _ hw115_1)).trans hw115_1)
              have s6_ := Hd.HW.x (W0 := w24.drew) ((HB.out.cell (World.block_lt_of_cell? w _ hw115_2)).trans hw115_2)
              have s7_ := Hd.HW.x (W0 := w24.drew) ((HB.out.cell (World.block_lt_of_cell? w _ hw115_3)).trans hw115_3)
              refine Hd.HW.region (by kernel_rfl) (by kernel_rfl) ?_
              try dsimp only [List.append]
              repeat (go_big_quiet_step ((first | (go_at_call 98; with_reducible exact Hd.HW.d (impl_InRange.calls ((rd_T77 l0 x10_1).f0) 1 99 true _ A6.out)) | (go_at_call 97; with_reducible exact Hd.HW.c (impl_IsPoint.calls ((rd_T77 l0 x10_1).f1.f0) ((rd_T77 l0 x10_1).f1.f1) true _ A8.out)) | (go_at_call 98; with_reducible exact Hd.HW.d (impl_InRange.calls ((rd_T77 l0 x10_1).f2) 0 9 true _ A10.out)))))
              refine wpQuiet_nil ?_
              intro _ hq_
              obtain ⟨q_, rfl⟩ := hq_
              clear s0_ s1_ s2_ s3_ s4_ s5_ s6_ s7_
              replace BK111 := Aside0.mk (blk_below BK111.out q_.b)
              replace HB := Aside0.mk (below_step HB.out q_.b)
              replace hx115_0 := q_.cell hx115_0
              replace hx115_1 := q_.cell hx115_1
              replace hx115_2 := q_.cell hx115_2
              replace hx115_3 := q_.cell hx115_3
              generalize q_.W = w26 at BK111 HB hx115_0 hx115_1 hx115_2 hx115_3 ⊢
              try simp only [i64_w, i32_w]
              try go_wp2
              go_roundg k1
              case measure => have := HK1.out; omega
              case rel => exact ⟨(wrap64 (x10_1 + 1)), (by first | rfl | (simp; done) | (simp [*]; done)), H', ⟨by have := HK1.out; omega⟩, ⟨Hd.b_⟩⟩
            ·
             rw [if_neg c15] at H
             exact absurd H (by simp)
           ·
            rw [if_neg c14] at H
            exact absurd H (by simp)
          ·
           rw [if_neg c12] at H
           have c12b0 : decide (0 < x10_1) = false := decide_eq_false c12
           clear c12
           have H' := Aside0.mk H
           clear H
           have p110 : 0 ≤ (x10_1 : Int) := of_decide_eq_true Hd.a_
           have q110 : x10_1 < (l0.length : Int) := of_decide_eq_true Hd.a_
           obtain ⟨ad110, e110, hx110_0, hx110_1, hx110_2, hx110_3⟩ := at_T77 HR0.out x10_1 p110 q110
           cases e110
           replace hx110_0 := (HB.out.cell (World.block_lt_of_cell? w _ hx110_0)).trans hx110_0
           replace hx110_1 := (HB.out.cell (World.block_lt_of_cell? w _ hx110_1)).trans hx110_1
           replace hx110_2 := (HB.out.cell (World.block_lt_of_cell? w _ hx110_2)).trans hx110_2
           replace hx110_3 := (HB.out.cell (World.block_lt_of_cell? w _ hx110_3)).trans hx110_3
           replace p110 := eq_true p110
           replace q110 := eq_true q110
           try go_wp2_with (first | ((with_reducible refine gate_dst (N := 4) rfl ?_); refine Hd.box_ 4 (#[.int .i64 0, .int .i64 0, .int .i64 0, .int .i64 0]) 77 ?_; intro gb111 hg w27 hbox hb; have BK111 := Aside0.mk (hbox); have GW111 := Aside0.mk ((Hd.g_ hg Hd.b_ : w.heap.size ≤ gb111)); have GE111 := Aside0.mk ((Hd.g_ hg Hd.b_ : w.heap.size ≤ gb111)); replace HB := Aside0.mk (below_step Hd.b_ hb); clear hb hbox hg; obtain ⟨hcz28_0, hcz28_1, hcz28_2, hcz28_3⟩ := Hd.c4_ BK111.out; obtain ⟨hfz28_0, hfz28_1, hfz28_2, hfz28_3⟩ := Hd.f4_ BK111.out))
           have n0_ : Aside0 (((((w27.setCell ⟨gb111, 0, none⟩ (.int .i64 ((rd_T77 l0 x10_1).f0))).setCell ⟨gb111, 1, none⟩ (.int .i64 ((rd_T77 l0 x10_1).f1.f0))).setCell ⟨gb111, 2, none⟩ (.int .i64 ((rd_T77 l0 x10_1).f1.f1))).setCell ⟨gb111, 3, none⟩ (.int .i64 ((rd_T77 l0 x10_1).f2))).heap[gb111]? = some (.cells #[.int .i64 ((rd_T77 l0 x10_1).f0), .int .i64 ((rd_T77 l0 x10_1).f1.f0), .int .i64 ((rd_T77 l0 x10_1).f1.f1), .int .i64 ((rd_T77 l0 x10_1).f2)] 77 (0, 0))) := ⟨by (with_reducible repeat (first | refine blk_drewN ?_ _ | refine blk_drew ?_ | refine blk_alloc ?_ _)); refine blk_put (cs := #[.int .i64 ((rd_T77 l0 x10_1).f0), .int .i64 ((rd_T77 l0 x10_1).f1.f0), .int .i64 ((rd_T77 l0 x10_1).f1.f1), .int .i64 0]) ?_ 3 _ rfl; (with_reducible repeat (first | refine blk_drewN ?_ _ | refine blk_drew ?_ | refine blk_alloc ?_ _)); refine blk_put (cs := #[.int .i64 ((rd_T77 l0 x10_1).f0), .int .i64 ((rd_T77 l0 x10_1).f1.f0), .int .i64 0, .int .i64 0]) ?_ 2 _ rfl; (with_reducible repeat (first | refine blk_drewN ?_ _ | refine blk_drew ?_ | refine blk_alloc ?_ _)); refine blk_put (cs := #[.int .i64 ((rd_T77 l0 x10_1).f0), .int .i64 0, .int .i64 0, .int .i64 0]) ?_ 1 _ rfl; (with_reducible repeat (first | refine blk_drewN ?_ _ | refine blk_drew ?_ | refine blk_alloc ?_ _)); refine blk_put (cs := #[.int .i64 0, .int .i64 0, .int .i64 0, .int .i64 0]) ?_ 0 _ rfl; (with_reducible repeat (first | refine blk_drewN ?_ _ | refine blk_drew ?_ | refine blk_alloc ?_ _)); exact BK111.out⟩
           have n1_ : Aside0 (Below w.heap.size w ((((w27.setCell ⟨gb111, 0, none⟩ (.int .i64 ((rd_T77 l0 x10_1).f0))).setCell ⟨gb111, 1, none⟩ (.int .i64 ((rd_T77 l0 x10_1).f1.f0))).setCell ⟨gb111, 2, none⟩ (.int .i64 ((rd_T77 l0 x10_1).f1.f1))).setCell ⟨gb111, 3, none⟩ (.int .i64 ((rd_T77 l0 x10_1).f2)))) := ⟨Hd.b_⟩
           (try clear BK111)
           (try clear HB)
           generalize ((((w27.setCell ⟨gb111, 0, none⟩ (.int .i64 ((rd_T77 l0 x10_1).f0))).setCell ⟨gb111, 1, none⟩ (.int .i64 ((rd_T77 l0 x10_1).f1.f0))).setCell ⟨gb111, 2, none⟩ (.int .i64 ((rd_T77 l0 x10_1).f1.f1))).setCell ⟨gb111, 3, none⟩ (.int .i64 ((rd_T77 l0 x10_1).f2))) = w29 at n0_ n1_ ⊢
           have BK111 := n0_
           have HB := n1_
           clear n0_ n1_
           replace BK111 := Aside0.mk (blk_drew BK111.out)
           replace HB := Aside0.mk (below_drew1 HB.out)
           obtain ⟨s0_, s1_, s2_, s3_⟩ := Hd.HW.k4 (W0 := w29.drew) BK111
           refine Hd.HW.region (by kernel_rfl) (by kernel_rfl) ?_
           try dsimp only [List.append]
           repeat (go_big_quiet_step ((first | (go_at_call 98; with_reducible exact Hd.HW.d (impl_InRange.calls ((rd_T77 l0 x10_1).f0) 1 99 true _ A6.out)) | (go_at_call 97; with_reducible exact Hd.HW.c (impl_IsPoint.calls ((rd_T77 l0 x10_1).f1.f0) ((rd_T77 l0 x10_1).f1.f1) true _ A8.out)) | (go_at_call 98; with_reducible exact Hd.HW.d (impl_InRange.calls ((rd_T77 l0 x10_1).f2) 0 9 true _ A10.out)))))
           refine wpQuiet_nil ?_
           intro _ hq_
           obtain ⟨q_, rfl⟩ := hq_
           clear s0_ s1_ s2_ s3_
           replace BK111 := Aside0.mk (blk_below BK111.out q_.b)
           replace HB := Aside0.mk (below_step HB.out q_.b)
           generalize q_.W = w31 at BK111 HB ⊢
           try simp only [i64_w, i32_w]
           try go_wp2
           go_roundg k1
           case measure => have := HK1.out; omega
           case rel => exact ⟨(wrap64 (x10_1 + 1)), (by first | rfl | (simp; done) | (simp [*]; done)), H', ⟨by have := HK1.out; omega⟩, ⟨Hd.b_⟩⟩
         ·
          replace c11 := Bool.eq_false_iff.mpr c11
          subst c11
          have H1 : (some false) = some r := by rw [if_neg (show ¬ (false = true) by decide)] at H; exact H
          clear H
          have H := H1
          clear H1
          obtain rfl := Option.some.inj H
          have p110 : 0 ≤ (x10_1 : Int) := of_decide_eq_true Hd.a_
          have q110 : x10_1 < (l0.length : Int) := of_decide_eq_true Hd.a_
          obtain ⟨ad110, e110, hx110_0, hx110_1, hx110_2, hx110_3⟩ := at_T77 HR0.out x10_1 p110 q110
          cases e110
          replace hx110_0 := (HB.out.cell (World.block_lt_of_cell? w _ hx110_0)).trans hx110_0
          replace hx110_1 := (HB.out.cell (World.block_lt_of_cell? w _ hx110_1)).trans hx110_1
          replace hx110_2 := (HB.out.cell (World.block_lt_of_cell? w _ hx110_2)).trans hx110_2
          replace hx110_3 := (HB.out.cell (World.block_lt_of_cell? w _ hx110_3)).trans hx110_3
          replace p110 := eq_true p110
          replace q110 := eq_true q110
          try go_wp2_with (first | ((with_reducible refine gate_dst (N := 4) rfl ?_); refine Hd.box_ 4 (#[.int .i64 0, .int .i64 0, .int .i64 0, .int .i64 0]) 77 ?_; intro gb111 hg w32 hbox hb; have BK111 := Aside0.mk (hbox); have GW111 := Aside0.mk ((Hd.g_ hg Hd.b_ : w.heap.size ≤ gb111)); have GE111 := Aside0.mk ((Hd.g_ hg Hd.b_ : w.heap.size ≤ gb111)); replace HB := Aside0.mk (below_step Hd.b_ hb); clear hb hbox hg; obtain ⟨hcz33_0, hcz33_1, hcz33_2, hcz33_3⟩ := Hd.c4_ BK111.out; obtain ⟨hfz33_0, hfz33_1, hfz33_2, hfz33_3⟩ := Hd.f4_ BK111.out))
          have n0_ : Aside0 (((((w32.setCell ⟨gb111, 0, none⟩ (.int .i64 ((rd_T77 l0 x10_1).f0))).setCell ⟨gb111, 1, none⟩ (.int .i64 ((rd_T77 l0 x10_1).f1.f0))).setCell ⟨gb111, 2, none⟩ (.int .i64 ((rd_T77 l0 x10_1).f1.f1))).setCell ⟨gb111, 3, none⟩ (.int .i64 ((rd_T77 l0 x10_1).f2))).heap[gb111]? = some (.cells #[.int .i64 ((rd_T77 l0 x10_1).f0), .int .i64 ((rd_T77 l0 x10_1).f1.f0), .int .i64 ((rd_T77 l0 x10_1).f1.f1), .int .i64 ((rd_T77 l0 x10_1).f2)] 77 (0, 0))) := ⟨by (with_reducible repeat (first | refine blk_drewN ?_ _ | refine blk_drew ?_ | refine blk_alloc ?_ _)); refine blk_put (cs := #[.int .i64 ((rd_T77 l0 x10_1).f0), .int .i64 ((rd_T77 l0 x10_1).f1.f0), .int .i64 ((rd_T77 l0 x10_1).f1.f1), .int .i64 0]) ?_ 3 _ rfl; (with_reducible repeat (first | refine blk_drewN ?_ _ | refine blk_drew ?_ | refine blk_alloc ?_ _)); refine blk_put (cs := #[.int .i64 ((rd_T77 l0 x10_1).f0), .int .i64 ((rd_T77 l0 x10_1).f1.f0), .int .i64 0, .int .i64 0]) ?_ 2 _ rfl; (with_reducible repeat (first | refine blk_drewN ?_ _ | refine blk_drew ?_ | refine blk_alloc ?_ _)); refine blk_put (cs := #[.int .i64 ((rd_T77 l0 x10_1).f0), .int .i64 0, .int .i64 0, .int .i64 0]) ?_ 1 _ rfl; (with_reducible repeat (first | refine blk_drewN ?_ _ | refine blk_drew ?_ | refine blk_alloc ?_ _)); refine blk_put (cs := #[.int .i64 0, .int .i64 0, .int .i64 0, .int .i64 0]) ?_ 0 _ rfl; (with_reducible repeat (first | refine blk_drewN ?_ _ | refine blk_drew ?_ | refine blk_alloc ?_ _)); exact BK111.out⟩
          have n1_ : Aside0 (Below w.heap.size w ((((w32.setCell ⟨gb111, 0, none⟩ (.int .i64 ((rd_T77 l0 x10_1).f0))).setCell ⟨gb111, 1, none⟩ (.int .i64 ((rd_T77 l0 x10_1).f1.f0))).setCell ⟨gb111, 2, none⟩ (.int .i64 ((rd_T77 l0 x10_1).f1.f1))).setCell ⟨gb111, 3, none⟩ (.int .i64 ((rd_T77 l0 x10_1).f2)))) := ⟨Hd.b_⟩
          (try clear BK111)
          (try clear HB)
          generalize ((((w32.setCell ⟨gb111, 0, none⟩ (.int .i64 ((rd_T77 l0 x10_1).f0))).setCell ⟨gb111, 1, none⟩ (.int .i64 ((rd_T77 l0 x10_1).f1.f0))).setCell ⟨gb111, 2, none⟩ (.int .i64 ((rd_T77 l0 x10_1).f1.f1))).setCell ⟨gb111, 3, none⟩ (.int .i64 ((rd_T77 l0 x10_1).f2))) = w34 at n0_ n1_ ⊢
          have BK111 := n0_
          have HB := n1_
          clear n0_ n1_
          replace BK111 := Aside0.mk (blk_drew BK111.out)
          replace HB := Aside0.mk (below_drew1 HB.out)
          obtain ⟨s0_, s1_, s2_, s3_⟩ := Hd.HW.k4 (W0 := w34.drew) BK111
          refine Hd.HW.region (by kernel_rfl) (by kernel_rfl) ?_
          try dsimp only [List.append]
          repeat (go_big_quiet_step ((first | (go_at_call 98; with_reducible exact Hd.HW.d (impl_InRange.calls ((rd_T77 l0 x10_1).f0) 1 99 true _ A6.out)) | (go_at_call 97; with_reducible exact Hd.HW.c (impl_IsPoint.calls ((rd_T77 l0 x10_1).f1.f0) ((rd_T77 l0 x10_1).f1.f1) true _ A8.out)) | (go_at_call 98; with_reducible exact Hd.HW.d (impl_InRange.calls ((rd_T77 l0 x10_1).f2) 0 9 false _ A10.out)))))
          refine wpQuiet_nil ?_
          intro _ hq_
          obtain ⟨q_, rfl⟩ := hq_
          clear s0_ s1_ s2_ s3_
          replace BK111 := Aside0.mk (blk_below BK111.out q_.b)
          replace HB := Aside0.mk (below_step HB.out q_.b)
          generalize q_.W = w36 at BK111 HB ⊢
          try simp only [i64_w, i32_w]
          try go_wp2
          go_ret
          exact ⟨Hd.e_, Hd.b_⟩
        ·
         replace c9 := Bool.eq_false_iff.mpr c9
         subst c9
         have H1 : (some false) = some r := by rw [if_neg (show ¬ (false = true) by decide)] at H; exact H
         clear H
         have H := H1
         clear H1
         obtain rfl := Option.some.inj H
         have p110 : 0 ≤ (x10_1 : Int) := of_decide_eq_true Hd.a_
         have q110 : x10_1 < (l0.length : Int) := of_decide_eq_true Hd.a_
         obtain ⟨ad110, e110, hx110_0, hx110_1, hx110_2, hx110_3⟩ := at_T77 HR0.out x10_1 p110 q110
         cases e110
         replace hx110_0 := (HB.out.cell (World.block_lt_of_cell? w _ hx110_0)).trans hx110_0
         replace hx110_1 := (HB.out.cell (World.block_lt_of_cell? w _ hx110_1)).trans hx110_1
         replace hx110_2 := (HB.out.cell (World.block_lt_of_cell? w _ hx110_2)).trans hx110_2
         replace hx110_3 := (HB.out.cell (World.block_lt_of_cell? w _ hx110_3)).trans hx110_3
         replace p110 := eq_true p110
         replace q110 := eq_true q110
         try go_wp2_with (first | ((with_reducible refine gate_dst (N := 4) rfl ?_); refine Hd.box_ 4 (#[.int .i64 0, .int .i64 0, .int .i64 0, .int .i64 0]) 77 ?_; intro gb111 hg w37 hbox hb; have BK111 := Aside0.mk (hbox); have GW111 := Aside0.mk ((Hd.g_ hg Hd.b_ : w.heap.size ≤ gb111)); have GE111 := Aside0.mk ((Hd.g_ hg Hd.b_ : w.heap.size ≤ gb111)); replace HB := Aside0.mk (below_step Hd.b_ hb); clear hb hbox hg; obtain ⟨hcz38_0, hcz38_1, hcz38_2, hcz38_3⟩ := Hd.c4_ BK111.out; obtain ⟨hfz38_0, hfz38_1, hfz38_2, hfz38_3⟩ := Hd.f4_ BK111.out))
         have n0_ : Aside0 (((((w37.setCell ⟨gb111, 0, none⟩ (.int .i64 ((rd_T77 l0 x10_1).f0))).setCell ⟨gb111, 1, none⟩ (.int .i64 ((rd_T77 l0 x10_1).f1.f0))).setCell ⟨gb111, 2, none⟩ (.int .i64 ((rd_T77 l0 x10_1).f1.f1))).setCell ⟨gb111, 3, none⟩ (.int .i64 ((rd_T77 l0 x10_1).f2))).heap[gb111]? = some (.cells #[.int .i64 ((rd_T77 l0 x10_1).f0), .int .i64 ((rd_T77 l0 x10_1).f1.f0), .int .i64 ((rd_T77 l0 x10_1).f1.f1), .int .i64 ((rd_T77 l0 x10_1).f2)] 77 (0, 0))) := ⟨by (with_reducible repeat (first | refine blk_drewN ?_ _ | refine blk_drew ?_ | refine blk_alloc ?_ _)); refine blk_put (cs := #[.int .i64 ((rd_T77 l0 x10_1).f0), .int .i64 ((rd_T77 l0 x10_1).f1.f0), .int .i64 ((rd_T77 l0 x10_1).f1.f1), .int .i64 0]) ?_ 3 _ rfl; (with_reducible repeat (first | refine blk_drewN ?_ _ | refine blk_drew ?_ | refine blk_alloc ?_ _)); refine blk_put (cs := #[.int .i64 ((rd_T77 l0 x10_1).f0), .int .i64 ((rd_T77 l0 x10_1).f1.f0), .int .i64 0, .int .i64 0]) ?_ 2 _ rfl; (with_reducible repeat (first | refine blk_drewN ?_ _ | refine blk_drew ?_ | refine blk_alloc ?_ _)); refine blk_put (cs := #[.int .i64 ((rd_T77 l0 x10_1).f0), .int .i64 0, .int .i64 0, .int .i64 0]) ?_ 1 _ rfl; (with_reducible repeat (first | refine blk_drewN ?_ _ | refine blk_drew ?_ | refine blk_alloc ?_ _)); refine blk_put (cs := #[.int .i64 0, .int .i64 0, .int .i64 0, .int .i64 0]) ?_ 0 _ rfl; (with_reducible repeat (first | refine blk_drewN ?_ _ | refine blk_drew ?_ | refine blk_alloc ?_ _)); exact BK111.out⟩
         have n1_ : Aside0 (Below w.heap.size w ((((w37.setCell ⟨gb111, 0, none⟩ (.int .i64 ((rd_T77 l0 x10_1).f0))).setCell ⟨gb111, 1, none⟩ (.int .i64 ((rd_T77 l0 x10_1).f1.f0))).setCell ⟨gb111, 2, none⟩ (.int .i64 ((rd_T77 l0 x10_1).f1.f1))).setCell ⟨gb111, 3, none⟩ (.int .i64 ((rd_T77 l0 x10_1).f2)))) := ⟨Hd.b_⟩
         (try clear BK111)
         (try clear HB)
         generalize ((((w37.setCell ⟨gb111, 0, none⟩ (.int .i64 ((rd_T77 l0 x10_1).f0))).setCell ⟨gb111, 1, none⟩ (.int .i64 ((rd_T77 l0 x10_1).f1.f0))).setCell ⟨gb111, 2, none⟩ (.int .i64 ((rd_T77 l0 x10_1).f1.f1))).setCell ⟨gb111, 3, none⟩ (.int .i64 ((rd_T77 l0 x10_1).f2))) = w39 at n0_ n1_ ⊢
         have BK111 := n0_
         have HB := n1_
         clear n0_ n1_
         replace BK111 := Aside0.mk (blk_drew BK111.out)
         replace HB := Aside0.mk (below_drew1 HB.out)
         obtain ⟨s0_, s1_, s2_, s3_⟩ := Hd.HW.k4 (W0 := w39.drew) BK111
         refine Hd.HW.region (by kernel_rfl) (by kernel_rfl) ?_
         try dsimp only [List.append]
         repeat (go_big_quiet_step ((first | (go_at_call 98; with_reducible exact Hd.HW.d (impl_InRange.calls ((rd_T77 l0 x10_1).f0) 1 99 true _ A6.out)) | (go_at_call 97; with_reducible exact Hd.HW.c (impl_IsPoint.calls ((rd_T77 l0 x10_1).f1.f0) ((rd_T77 l0 x10_1).f1.f1) false _ A8.out)))))
         refine wpQuiet_nil ?_
         intro _ hq_
         obtain ⟨q_, rfl⟩ := hq_
         clear s0_ s1_ s2_ s3_
         replace BK111 := Aside0.mk (blk_below BK111.out q_.b)
         replace HB := Aside0.mk (below_step HB.out q_.b)
         generalize q_.W = w41 at BK111 HB ⊢
         try simp only [i64_w, i32_w]
         try go_wp2
         go_ret
         exact ⟨Hd.e_, Hd.b_⟩
       ·
        replace c7 := Bool.eq_false_iff.mpr c7
        subst c7
        have H1 : (some false) = some r := by rw [if_neg (show ¬ (false = true) by decide)] at H; exact H
        clear H
        have H := H1
        clear H1
        obtain rfl := Option.some.inj H
        have p110 : 0 ≤ (x10_1 : Int) := of_decide_eq_true Hd.a_
        have q110 : x10_1 < (l0.length : Int) := of_decide_eq_true Hd.a_
        obtain ⟨ad110, e110, hx110_0, hx110_1, hx110_2, hx110_3⟩ := at_T77 HR0.out x10_1 p110 q110
        cases e110
        replace hx110_0 := (HB.out.cell (World.block_lt_of_cell? w _ hx110_0)).trans hx110_0
        replace hx110_1 := (HB.out.cell (World.block_lt_of_cell? w _ hx110_1)).trans hx110_1
        replace hx110_2 := (HB.out.cell (World.block_lt_of_cell? w _ hx110_2)).trans hx110_2
        replace hx110_3 := (HB.out.cell (World.block_lt_of_cell? w _ hx110_3)).trans hx110_3
        replace p110 := eq_true p110
        replace q110 := eq_true q110
        try go_wp2_with (first | ((with_reducible refine gate_dst (N := 4) rfl ?_); refine Hd.box_ 4 (#[.int .i64 0, .int .i64 0, .int .i64 0, .int .i64 0]) 77 ?_; intro gb111 hg w42 hbox hb; have BK111 := Aside0.mk (hbox); have GW111 := Aside0.mk ((Hd.g_ hg Hd.b_ : w.heap.size ≤ gb111)); have GE111 := Aside0.mk ((Hd.g_ hg Hd.b_ : w.heap.size ≤ gb111)); replace HB := Aside0.mk (below_step Hd.b_ hb); clear hb hbox hg; obtain ⟨hcz43_0, hcz43_1, hcz43_2, hcz43_3⟩ := Hd.c4_ BK111.out; obtain ⟨hfz43_0, hfz43_1, hfz43_2, hfz43_3⟩ := Hd.f4_ BK111.out))
        have n0_ : Aside0 (((((w42.setCell ⟨gb111, 0, none⟩ (.int .i64 ((rd_T77 l0 x10_1).f0))).setCell ⟨gb111, 1, none⟩ (.int .i64 ((rd_T77 l0 x10_1).f1.f0))).setCell ⟨gb111, 2, none⟩ (.int .i64 ((rd_T77 l0 x10_1).f1.f1))).setCell ⟨gb111, 3, none⟩ (.int .i64 ((rd_T77 l0 x10_1).f2))).heap[gb111]? = some (.cells #[.int .i64 ((rd_T77 l0 x10_1).f0), .int .i64 ((rd_T77 l0 x10_1).f1.f0), .int .i64 ((rd_T77 l0 x10_1).f1.f1), .int .i64 ((rd_T77 l0 x10_1).f2)] 77 (0, 0))) := ⟨by (with_reducible repeat (first | refine blk_drewN ?_ _ | refine blk_drew ?_ | refine blk_alloc ?_ _)); refine blk_put (cs := #[.int .i64 ((rd_T77 l0 x10_1).f0), .int .i64 ((rd_T77 l0 x10_1).f1.f0), .int .i64 ((rd_T77 l0 x10_1).f1.f1), .int .i64 0]) ?_ 3 _ rfl; (with_reducible repeat (first | refine blk_drewN ?_ _ | refine blk_drew ?_ | refine blk_alloc ?_ _)); refine blk_put (cs := #[.int .i64 ((rd_T77 l0 x10_1).f0), .int .i64 ((rd_T77 l0 x10_1).f1.f0), .int .i64 0, .int .i64 0]) ?_ 2 _ rfl; (with_reducible repeat (first | refine blk_drewN ?_ _ | refine blk_drew ?_ | refine blk_alloc ?_ _)); refine blk_put (cs := #[.int .i64 ((rd_T77 l0 x10_1).f0), .int .i64 0, .int .i64 0, .int .i64 0]) ?_ 1 _ rfl; (with_reducible repeat (first | refine blk_drewN ?_ _ | refine blk_drew ?_ | refine blk_alloc ?_ _)); refine blk_put (cs := #[.int .i64 0, .int .i64 0, .int .i64 0, .int .i64 0]) ?_ 0 _ rfl; (with_reducible repeat (first | refine blk_drewN ?_ _ | refine blk_drew ?_ | refine blk_alloc ?_ _)); exact BK111.out⟩
        have n1_ : Aside0 (Below w.heap.size w ((((w42.setCell ⟨gb111, 0, none⟩ (.int .i64 ((rd_T77 l0 x10_1).f0))).setCell ⟨gb111, 1, none⟩ (.int .i64 ((rd_T77 l0 x10_1).f1.f0))).setCell ⟨gb111, 2, none⟩ (.int .i64 ((rd_T77 l0 x10_1).f1.f1))).setCell ⟨gb111, 3, none⟩ (.int .i64 ((rd_T77 l0 x10_1).f2)))) := ⟨Hd.b_⟩
        (try clear BK111)
        (try clear HB)
        generalize ((((w42.setCell ⟨gb111, 0, none⟩ (.int .i64 ((rd_T77 l0 x10_1).f0))).setCell ⟨gb111, 1, none⟩ (.int .i64 ((rd_T77 l0 x10_1).f1.f0))).setCell ⟨gb111, 2, none⟩ (.int .i64 ((rd_T77 l0 x10_1).f1.f1))).setCell ⟨gb111, 3, none⟩ (.int .i64 ((rd_T77 l0 x10_1).f2))) = w44 at n0_ n1_ ⊢
        have BK111 := n0_
        have HB := n1_
        clear n0_ n1_
        replace BK111 := Aside0.mk (blk_drew BK111.out)
        replace HB := Aside0.mk (below_drew1 HB.out)
        obtain ⟨s0_, s1_, s2_, s3_⟩ := Hd.HW.k4 (W0 := w44.drew) BK111
        refine Hd.HW.region (by kernel_rfl) (by kernel_rfl) ?_
        try dsimp only [List.append]
        repeat (go_big_quiet_step ((first | (go_at_call 98; with_reducible exact Hd.HW.d (impl_InRange.calls ((rd_T77 l0 x10_1).f0) 1 99 false _ A6.out)))))
        refine wpQuiet_nil ?_
        intro _ hq_
        obtain ⟨q_, rfl⟩ := hq_
        clear s0_ s1_ s2_ s3_
        replace BK111 := Aside0.mk (blk_below BK111.out q_.b)
        replace HB := Aside0.mk (below_step HB.out q_.b)
        generalize q_.W = w45 at BK111 HB ⊢
        try simp only [i64_w, i32_w]
        try go_wp2
        go_ret
        exact ⟨Hd.e_, Hd.b_⟩
      ·
       rw [if_neg c5] at H
       exact absurd H (by simp)
     ·
      rw [if_neg c4] at H
      exact absurd H (by simp)
    ·
     rw [if_neg c3] at H
     have c3b0 : decide (x10_1 < (l0.length : Int)) = false := decide_eq_false c3
     clear c3
     obtain rfl := Option.some.inj H
     go_wp2
     go_ret
     exact ⟨Hd.e_, Hd.b_⟩
def impl_Place_135.f (l0 : List (S77)) : Option ((List (S77))) := (some (([] : List (S77)) : List (S77))).bind fun y116 => (if y116.length + l0.length < 4398046511104 then (some (y116 ++ l0)) else (none))
theorem impl_Place_135.eqnil (W : World) (a : Option Addr) (l c : Nat) : (binOp .eql 61 (.slice a l c) (.slice none 0 0)).run Try.prog W = .ok (.bool a.isNone) W := by
  cases a <;> kernel_rfl
attribute [local go_sem] impl_Place_135.eqnil
set_option maxHeartbeats 8000000 in
set_option maxRecDepth 100000 in
theorem impl_Place_135.calls (A0 : Option Addr) (c0 : Nat) (l0 : List (S77)) (r : List (S77)) (w : World) (hr0 : Kd.C k77 w A0 l0.length l0) (hc0 : l0.length ≤ c0) (h : impl_Place_135.f l0 = some r) :
    Calls Try.prog 135 #[.slice A0 l0.length c0] w fun e w' => ∃ v0_ : Value, e = .returned (v0_) ∧ Kd.R k77 77 w' w.heap.size (fun _ => True) v0_ r ∧ Below w.heap.size w w' := by
  cases A0
  case none =>
    have hl : l0 = [] := by
      obtain ⟨_, _, h3⟩ := hr0
      cases l0 with
      | nil => rfl
      | cons a l => obtain ⟨ad, e, _⟩ := h3 (by simp); cases e
    subst hl
    have hr : r = [] := by simp [impl_Place_135.f] at h; exact h
    subst hr
    go_enter Try.func135, Try.ntmps135
    go_wp2
    go_ret
    exact ⟨_, rfl, Kd.R_nil _ _ _ _ _, by repeat (first | exact Below.refl _ _ | apply below_alloc | apply pw_below_drewN | apply below_drew1)⟩
  have HR0 := Aside0.mk hr0
  have HC0 := Aside0.mk hc0
  clear hr0 hc0
  have HB := Aside0.mk (Below.refl w.heap.size w)
  have H : ((some (([] : List (S77)) : List (S77))).bind fun y116 => (if y116.length + l0.length < 4398046511104 then (some (y116 ++ l0)) else (none))) = some r := h
  clear h
  obtain ⟨y116, hy116⟩ : ∃ y_ : List (S77), y_ = (([] : List (S77))) := ⟨_, rfl⟩
  replace H : (if y116.length + l0.length < 4398046511104 then (some (y116 ++ l0)) else (none)) = some r := by first | (rw [hy116]; with_reducible exact H) | (have H2_ := (Option.bind_some _ _).symm.trans H; rw [hy116]; with_reducible exact H2_) | (have H2_ := (Option.bind_some _ _).symm.trans H; with_reducible exact H2_) | with_reducible exact H | (rw [hy116]; exact H) | exact H
  have Ny116 := Aside0.mk hy116
  clear hy116
  by_cases c2 : y116.length + l0.length < 4398046511104
  · rw [if_pos c2] at H
    have LMc2 := Aside0.mk c2
    clear c2
    obtain ⟨y119, hy119⟩ : ∃ y_ : List (S77), y_ = (y116 ++ l0) := ⟨_, rfl⟩
    replace H : (some y119) = some r := by first | (rw [hy119]; with_reducible exact H) | (have H2_ := (Option.bind_some _ _).symm.trans H; rw [hy119]; with_reducible exact H2_) | (have H2_ := (Option.bind_some _ _).symm.trans H; with_reducible exact H2_) | with_reducible exact H | (rw [hy119]; exact H) | exact H
    have Ny119 := Aside0.mk hy119
    clear hy119
    obtain rfl := Option.some.inj H
    go_enter Try.func135, Try.ntmps135
    go_wp2_with (first | ((with_reducible refine gate_dst (N := 5) rfl ?_); refine Kd.R_lit k77 _ 77 ?hg (N := 5) ?hd (xs := ([] : List (S77))) (inner := []) (ok := fun _ => True) (okp := fun _ => True) ?hr ?hp (fun _ hk => hk) trivial (Below.refl _ _) (Nat.le_refl _) (by simp) ?_; (case hd => rfl); (case hg => rfl); (case hr => first | (go_simp; done) | (go_simp; rfl)); (case hp => exact (Reps.none _ _)); intro v117 w3 ho4 hb hg_ hnew_; clear hg_ hnew_; (first | rw [← Ny116.out] at ho4 | (simp only [Int.reduceToNat] at ho4; rw [← Ny116.out] at ho4)); have n0_ := Aside0.mk (Kd.R_lower ho4 (below_size (by repeat (first | (with_reducible first | exact HB.out | apply below_alloc | apply pw_below_drewN | apply below_drew1) | exact HB.out)))); have n1_ := Aside0.mk (below_step (by repeat (first | (with_reducible first | exact HB.out | apply below_alloc | apply pw_below_drewN | apply below_drew1) | exact HB.out)) hb); clear HB; have HO118 := n0_; have HB := n1_; clear n0_ n1_; clear hb ho4) | ((with_reducible refine gate_builtin (b := .append) (xs := #[.tmp 5, .tmp 6]) rfl ?_); at_builtin; refine Kd.R_append_rows k77 (w0 := w) w.heap.size rfl (.tmp 5) (.tmp 6) 61 77 (.agg #[(.int .i64 0), (.int .i64 0), (.int .i64 0), (.int .i64 0)]) 32 rfl Try.underlying61 info77 rfl (by decide) (by omega) v117 y116 l0 _ _ _ (fun _ => True) (fun _ => False) rfl rfl ?aO ?aR (fun _ _ h => h) (fun _ h => h.elim) ?aF ?aB ?aS ?aL ?_; (case aR => repeat (first | exact (Kd.C_below HR0.out HB.out) | (with_reducible refine Kd.C_alloc ?_ _) | (with_reducible refine Kd.C_drewN ?_ _) | (with_reducible refine Kd.C_drew ?_))); (case aB => exact (by repeat (first | (with_reducible first | exact HB.out | apply below_alloc | apply pw_below_drewN | apply below_drew1) | exact HB.out))); (case aF => exact (fun _ _ => trivial)); (case aO => exact (by (with_reducible repeat (first | apply Kd.R_alloc | apply Kd.R_drewN | apply Kd.R_drew)); exact HO118.out)); (case aS => exact (below_size (by repeat (first | (with_reducible first | exact HB.out | apply below_alloc | apply pw_below_drewN | apply below_drew1) | exact HB.out)))); (case aL => have := LMc2.out; omega); intro v120 w5 ho hb hg hat; rw [← Ny119.out] at ho; have n0_ := Aside0.mk (hb); have n1_ := Aside0.mk (ho); clear HB; clear HO118; have HB := n0_; have HO121 := n1_; clear n0_ n1_; clear ho hb hg hat))
    go_ret
    exact ⟨_, by first | rfl | (simp [errW_none, errW_some] <;> rfl) | (simp [*, errW_none, errW_some] <;> rfl), by (with_reducible repeat (first | apply Kd.R_alloc | apply Kd.R_drewN | apply Kd.R_drew)); exact HO121.out, by repeat (first | (with_reducible first | exact HB.out | apply below_alloc | apply pw_below_drewN | apply below_drew1) | exact HB.out)⟩
  · rw [if_neg c2] at H
    exact absurd H (by simp)
end Go.Proofs.Ytbackoeakepngab.MFnThinned
