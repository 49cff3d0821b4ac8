-- Laid by this session's program pp.py, after the kit's print and texts of the session's own. Not trusted: Lean checks it.
import Derived.Test.YtbackoeakepngaaZFnBoxesMx0
import Derived.Test.YtbackoeakepngaaZFnBoxesMx2
import Derived.Test.YtbackoeakepngaaZFnBoxesMx4
namespace Go.Proofs.Ytbackoeakepngaa.MFnBoxes
open Go.RowKit Go.Proofs.YtbackoeakepngaaW.PrintWords Go.Proofs.YtbackoeakepngaaW.PrintLast Go.Proofs.YtbackoeakepngaaW.PrintMore
attribute [local go_sem] max2_int min2_int max_two min_two max_three min_three max_four min_four   -- for this text's walks alone
set_option linter.unusedVariables false
set_option linter.unusedSimpArgs false
def impl_IsBox.f (a0_0 : Int) (a0_1 : Int) (a0_2 : Int) (a0_3 : Int) : Option (Bool) := (impl_IsPoint.f a0_0 a0_1).bind fun t221 => (if t221 = true then ((impl_IsPoint.f a0_2 a0_3).bind fun t222 => (if t222 = true then (if a0_0 ≤ a0_2 then (some (decide (a0_1 ≤ a0_3))) else (some false)) else (some false))) else (some false))
set_option maxHeartbeats 8000000 in
set_option maxRecDepth 100000 in
theorem impl_IsBox.calls (a0_0 : Int) (a0_1 : Int) (a0_2 : Int) (a0_3 : Int) (r : Bool) (w : World) (h : impl_IsBox.f a0_0 a0_1 a0_2 a0_3 = some r) :
  Calls Try.prog 21 #[.agg #[.int .i64 a0_0, .int .i64 a0_1, .int .i64 a0_2, .int .i64 a0_3]] w fun e w' => e = .returned (.bool r) ∧ Below w.heap.size w w' := by
 have hu29 := Try.underlying29
 have hu27 := Try.underlying27
 have HB := Aside0.mk (Below.refl w.heap.size w)
 have H : ((impl_IsPoint.f a0_0 a0_1).bind fun t221 => (if t221 = true then ((impl_IsPoint.f a0_2 a0_3).bind fun t222 => (if t222 = true then (if a0_0 ≤ a0_2 then (some (decide (a0_1 ≤ a0_3))) else (some false)) else (some false))) else (some false))) = some r := h
 clear h
 replace H := Option.bind_eq_some_iff.mp H
 obtain ⟨t221, A20, H⟩ := H
 replace H : (if t221 = true then ((impl_IsPoint.f a0_2 a0_3).bind fun t222 => (if t222 = true then (if a0_0 ≤ a0_2 then (some (decide (a0_1 ≤ a0_3))) else (some false)) else (some false))) else (some false)) = some r := H
 have A2 := Aside0.mk A20
 clear A20
 by_cases c3 : t221 = true
 ·
  subst c3
  have H1 : ((impl_IsPoint.f a0_2 a0_3).bind fun t222 => (if t222 = true then (if a0_0 ≤ a0_2 then (some (decide (a0_1 ≤ a0_3))) else (some false)) else (some false))) = some r := by rw [if_pos rfl] at H; exact H
  clear H
  have H := H1
  clear H1
  replace H := Option.bind_eq_some_iff.mp H
  obtain ⟨t222, A40, H⟩ := H
  replace H : (if t222 = true then (if a0_0 ≤ a0_2 then (some (decide (a0_1 ≤ a0_3))) else (some false)) else (some false)) = some r := H
  have A4 := Aside0.mk A40
  clear A40
  by_cases c5 : t222 = true
  ·
   subst c5
   have H1 : (if a0_0 ≤ a0_2 then (some (decide (a0_1 ≤ a0_3))) else (some false)) = some r := by rw [if_pos rfl] at H; exact H
   clear H
   have H := H1
   clear H1
   by_cases c6 : a0_0 ≤ a0_2
   ·
    rw [if_pos c6] at H
    have c6b0 : decide (a0_0 ≤ a0_2) = true := decide_eq_true c6
    clear c6
    obtain rfl := Option.some.inj H
    go_enter Try.func21, Try.ntmps21
    go_wp2_with (first | ((with_reducible refine gate_dst (N := 1) rfl ?_); refine Hd.box_ 1 (#[.int .i64 a0_0, .int .i64 a0_1, .int .i64 a0_2, .int .i64 a0_3]) 29 ?_; intro gb220 hg w7 hbox hb; have BK220 := Aside0.mk (hbox); have GW220 := Aside0.mk ((Hd.g_ hg Hd.b_ : w.heap.size ≤ gb220)); have GE220 := Aside0.mk ((Hd.g_ hg Hd.b_ : w.heap.size ≤ gb220)); replace HB := Aside0.mk (below_step Hd.b_ hb); clear hb hbox hg; obtain ⟨hcz8_0, hcz8_1, hcz8_2, hcz8_3⟩ := Hd.c4_ BK220.out; obtain ⟨hfz8_0, hfz8_1, hfz8_2, hfz8_3⟩ := Hd.f4_ BK220.out) | ((with_reducible refine gate_callee (f := 45) rfl ?_); refine goesL_ (some 5) rfl rfl Try.func45 (by kernel_rfl) rfl #[.agg #[.int .i64 a0_0, .int .i64 a0_1]] rfl Hd.m_ ?_; (with_reducible refine (impl_IsPoint.calls a0_0 a0_1 true _ A2.out).mono ?_); rintro e w9 ⟨rfl, hb⟩; refine ⟨_, rfl, ?_⟩; replace BK220 := Aside0.mk (Hd.kb_ BK220 hb); replace HB := Aside0.mk (below_step Hd.b_ hb); (try clear hb); (try clear hb2); (try clear hk); (try clear hi); obtain ⟨hcz10_0, hcz10_1, hcz10_2, hcz10_3⟩ := Hd.c4_ BK220.out; obtain ⟨hfz10_0, hfz10_1, hfz10_2, hfz10_3⟩ := Hd.f4_ BK220.out) | (go_at_call 45; (with_reducible refine (impl_IsPoint.calls a0_2 a0_3 true _ A4.out).mono ?_); rintro e w11 ⟨rfl, hb⟩; replace BK220 := Aside0.mk (Hd.kb_ BK220 hb); replace HB := Aside0.mk (below_step Hd.b_ hb); (try clear hb); (try clear hb2); (try clear hk); (try clear hi); obtain ⟨hcz12_0, hcz12_1, hcz12_2, hcz12_3⟩ := Hd.c4_ BK220.out; obtain ⟨hfz12_0, hfz12_1, hfz12_2, hfz12_3⟩ := Hd.f4_ BK220.out))
    go_ret
    exact ⟨Hd.e_, Hd.b_⟩
   ·
    rw [if_neg c6] at H
    have c6b0 : decide (a0_0 ≤ a0_2) = false := decide_eq_false c6
    clear c6
    obtain rfl := Option.some.inj H
    go_enter Try.func21, Try.ntmps21
    go_wp2_with (first | ((with_reducible refine gate_dst (N := 1) rfl ?_); refine Hd.box_ 1 (#[.int .i64 a0_0, .int .i64 a0_1, .int .i64 a0_2, .int .i64 a0_3]) 29 ?_; intro gb220 hg w13 hbox hb; have BK220 := Aside0.mk (hbox); have GW220 := Aside0.mk ((Hd.g_ hg Hd.b_ : w.heap.size ≤ gb220)); have GE220 := Aside0.mk ((Hd.g_ hg Hd.b_ : w.heap.size ≤ gb220)); replace HB := Aside0.mk (below_step Hd.b_ hb); clear hb hbox hg; obtain ⟨hcz14_0, hcz14_1, hcz14_2, hcz14_3⟩ := Hd.c4_ BK220.out; obtain ⟨hfz14_0, hfz14_1, hfz14_2, hfz14_3⟩ := Hd.f4_ BK220.out) | ((with_reducible refine gate_callee (f := 45) rfl ?_); refine goesL_ (some 5) rfl rfl Try.func45 (by kernel_rfl) rfl #[.agg #[.int .i64 a0_0, .int .i64 a0_1]] rfl Hd.m_ ?_; (with_reducible refine (impl_IsPoint.calls a0_0 a0_1 true _ A2.out).mono ?_); rintro e w15 ⟨rfl, hb⟩; refine ⟨_, rfl, ?_⟩; replace BK220 := Aside0.mk (Hd.kb_ BK220 hb); replace HB := Aside0.mk (below_step Hd.b_ hb); (try clear hb); (try clear hb2); (try clear hk); (try clear hi); obtain ⟨hcz16_0, hcz16_1, hcz16_2, hcz16_3⟩ := Hd.c4_ BK220.out; obtain ⟨hfz16_0, hfz16_1, hfz16_2, hfz16_3⟩ := Hd.f4_ BK220.out) | (go_at_call 45; (with_reducible refine (impl_IsPoint.calls a0_2 a0_3 true _ A4.out).mono ?_); rintro e w17 ⟨rfl, hb⟩; replace BK220 := Aside0.mk (Hd.kb_ BK220 hb); replace HB := Aside0.mk (below_step Hd.b_ hb); (try clear hb); (try clear hb2); (try clear hk); (try clear hi); obtain ⟨hcz18_0, hcz18_1, hcz18_2, hcz18_3⟩ := Hd.c4_ BK220.out; obtain ⟨hfz18_0, hfz18_1, hfz18_2, hfz18_3⟩ := Hd.f4_ BK220.out))
    go_ret
    exact ⟨Hd.e_, Hd.b_⟩
  ·
   replace c5 := Bool.eq_false_iff.mpr c5
   subst c5
   have H1 : (some false) = some r := by rw [if_neg (show ¬ (false = true) by decide)] at H; exact H
   clear H
   have H := H1
   clear H1
   obtain rfl := Option.some.inj H
   go_enter Try.func21, Try.ntmps21
   go_wp2_with (first | ((with_reducible refine gate_dst (N := 1) rfl ?_); refine Hd.box_ 1 (#[.int .i64 a0_0, .int .i64 a0_1, .int .i64 a0_2, .int .i64 a0_3]) 29 ?_; intro gb220 hg w19 hbox hb; have BK220 := Aside0.mk (hbox); have GW220 := Aside0.mk ((Hd.g_ hg Hd.b_ : w.heap.size ≤ gb220)); have GE220 := Aside0.mk ((Hd.g_ hg Hd.b_ : w.heap.size ≤ gb220)); replace HB := Aside0.mk (below_step Hd.b_ hb); clear hb hbox hg; obtain ⟨hcz20_0, hcz20_1, hcz20_2, hcz20_3⟩ := Hd.c4_ BK220.out; obtain ⟨hfz20_0, hfz20_1, hfz20_2, hfz20_3⟩ := Hd.f4_ BK220.out) | ((with_reducible refine gate_callee (f := 45) rfl ?_); refine goesL_ (some 5) rfl rfl Try.func45 (by kernel_rfl) rfl #[.agg #[.int .i64 a0_0, .int .i64 a0_1]] rfl Hd.m_ ?_; (with_reducible refine (impl_IsPoint.calls a0_0 a0_1 true _ A2.out).mono ?_); rintro e w21 ⟨rfl, hb⟩; refine ⟨_, rfl, ?_⟩; replace BK220 := Aside0.mk (Hd.kb_ BK220 hb); replace HB := Aside0.mk (below_step Hd.b_ hb); (try clear hb); (try clear hb2); (try clear hk); (try clear hi); obtain ⟨hcz22_0, hcz22_1, hcz22_2, hcz22_3⟩ := Hd.c4_ BK220.out; obtain ⟨hfz22_0, hfz22_1, hfz22_2, hfz22_3⟩ := Hd.f4_ BK220.out) | (go_at_call 45; (with_reducible refine (impl_IsPoint.calls a0_2 a0_3 false _ A4.out).mono ?_); rintro e w23 ⟨rfl, hb⟩; replace BK220 := Aside0.mk (Hd.kb_ BK220 hb); replace HB := Aside0.mk (below_step Hd.b_ hb); (try clear hb); (try clear hb2); (try clear hk); (try clear hi)))
   go_ret
   exact ⟨Hd.e_, Hd.b_⟩
 ·
  replace c3 := Bool.eq_false_iff.mpr c3
  subst c3
  have H1 : (some false) = some r := by rw [if_neg (show ¬ (false = true) by decide)] at H; exact H
  clear H
  have H := H1
  clear H1
  obtain rfl := Option.some.inj H
  go_enter Try.func21, Try.ntmps21
  go_wp2_with (first | ((with_reducible refine gate_dst (N := 1) rfl ?_); refine Hd.box_ 1 (#[.int .i64 a0_0, .int .i64 a0_1, .int .i64 a0_2, .int .i64 a0_3]) 29 ?_; intro gb220 hg w24 hbox hb; have BK220 := Aside0.mk (hbox); have GW220 := Aside0.mk ((Hd.g_ hg Hd.b_ : w.heap.size ≤ gb220)); have GE220 := Aside0.mk ((Hd.g_ hg Hd.b_ : w.heap.size ≤ gb220)); replace HB := Aside0.mk (below_step Hd.b_ hb); clear hb hbox hg; obtain ⟨hcz25_0, hcz25_1, hcz25_2, hcz25_3⟩ := Hd.c4_ BK220.out; obtain ⟨hfz25_0, hfz25_1, hfz25_2, hfz25_3⟩ := Hd.f4_ BK220.out) | ((with_reducible refine gate_callee (f := 45) rfl ?_); refine goesL_ (some 5) rfl rfl Try.func45 (by kernel_rfl) rfl #[.agg #[.int .i64 a0_0, .int .i64 a0_1]] rfl Hd.m_ ?_; (with_reducible refine (impl_IsPoint.calls a0_0 a0_1 false _ A2.out).mono ?_); rintro e w26 ⟨rfl, hb⟩; refine ⟨_, rfl, ?_⟩; replace BK220 := Aside0.mk (Hd.kb_ BK220 hb); replace HB := Aside0.mk (below_step Hd.b_ hb); (try clear hb); (try clear hb2); (try clear hk); (try clear hi)))
  go_ret
  exact ⟨Hd.e_, Hd.b_⟩
def impl_InBox.f (a0_0 : Int) (a0_1 : Int) (a0_2 : Int) (a0_3 : Int) (a1_0 : Int) (a1_1 : Int) : Option (Bool) := (impl_IsBox.f a0_0 a0_1 a0_2 a0_3).bind fun t225 => (if t225 = true then ((impl_InRange.f a1_0 a0_0 a0_2).bind fun t226 => (if t226 = true then ((impl_InRange.f a1_1 a0_1 a0_3).bind fun t227 => (some t227)) else (some false))) else (some false))
set_option maxHeartbeats 8000000 in
set_option maxRecDepth 100000 in
theorem impl_InBox.calls (a0_0 : Int) (a0_1 : Int) (a0_2 : Int) (a0_3 : Int) (a1_0 : Int) (a1_1 : Int) (r : Bool) (w : World) (h : impl_InBox.f a0_0 a0_1 a0_2 a0_3 a1_0 a1_1 = some r) :
  Calls Try.prog 13 #[.agg #[.int .i64 a0_0, .int .i64 a0_1, .int .i64 a0_2, .int .i64 a0_3], .agg #[.int .i64 a1_0, .int .i64 a1_1]] w fun e w' => e = .returned (.bool r) ∧ Below w.heap.size w w' := by
 have hu29 := Try.underlying29
 have hu27 := Try.underlying27
 have HB := Aside0.mk (Below.refl w.heap.size w)
 have H : ((impl_IsBox.f a0_0 a0_1 a0_2 a0_3).bind fun t225 => (if t225 = true then ((impl_InRange.f a1_0 a0_0 a0_2).bind fun t226 => (if t226 = true then ((impl_InRange.f a1_1 a0_1 a0_3).bind fun t227 => (some t227)) else (some false))) else (some false))) = some r := h
 clear h
 replace H := Option.bind_eq_some_iff.mp H
 obtain ⟨t225, A30, H⟩ := H
 replace H : (if t225 = true then ((impl_InRange.f a1_0 a0_0 a0_2).bind fun t226 => (if t226 = true then ((impl_InRange.f a1_1 a0_1 a0_3).bind fun t227 => (some t227)) else (some false))) else (some false)) = some r := H
 have A3 := Aside0.mk A30
 clear A30
 by_cases c4 : t225 = true
 ·
  subst c4
  have H1 : ((impl_InRange.f a1_0 a0_0 a0_2).bind fun t226 => (if t226 = true then ((impl_InRange.f a1_1 a0_1 a0_3).bind fun t227 => (some t227)) else (some false))) = some r := by rw [if_pos rfl] at H; exact H
  clear H
  have H := H1
  clear H1
  replace H := Option.bind_eq_some_iff.mp H
  obtain ⟨t226, A50, H⟩ := H
  replace H : (if t226 = true then ((impl_InRange.f a1_1 a0_1 a0_3).bind fun t227 => (some t227)) else (some false)) = some r := H
  have A5 := Aside0.mk A50
  clear A50
  by_cases c6 : t226 = true
  ·
   subst c6
   have H1 : ((impl_InRange.f a1_1 a0_1 a0_3).bind fun t227 => (some t227)) = some r := by rw [if_pos rfl] at H; exact H
   clear H
   have H := H1
   clear H1
   replace H := Option.bind_eq_some_iff.mp H
   obtain ⟨t227, A70, H⟩ := H
   replace H : (some t227) = some r := H
   have A7 := Aside0.mk A70
   clear A70
   obtain rfl := Option.some.inj H
   go_enter Try.func13, Try.ntmps13
   go_wp2_with (first | ((with_reducible refine gate_dst (N := 2) rfl ?_); refine Hd.box_ 2 (#[.int .i64 a0_0, .int .i64 a0_1, .int .i64 a0_2, .int .i64 a0_3]) 29 ?_; intro gb223 hg w8 hbox hb; have BK223 := Aside0.mk (hbox); have GW223 := Aside0.mk ((Hd.g_ hg Hd.b_ : w.heap.size ≤ gb223)); have GE223 := Aside0.mk ((Hd.g_ hg Hd.b_ : w.heap.size ≤ gb223)); replace HB := Aside0.mk (below_step Hd.b_ hb); clear hb hbox hg) | ((with_reducible refine gate_dst (N := 3) rfl ?_); refine Hd.box_ 3 (#[.int .i64 a1_0, .int .i64 a1_1]) 27 ?_; intro gb224 hg w9 hbox hb; have BK224 := Aside0.mk (hbox); have GW224 := Aside0.mk ((Hd.g_ hg Hd.b_ : w.heap.size ≤ gb224)); have GE224 := Aside0.mk ((Hd.g_ hg Hd.b_ : w.heap.size ≤ gb224)); replace HB := Aside0.mk (below_step Hd.b_ hb); have NB223_224 := Aside0.mk ((Hd.lt_ BK223 hg)); have NB224_223 := Aside0.mk ((Hd.gt_ BK223 hg)); replace BK223 := Aside0.mk (Hd.kb_ BK223 hb); clear hb hbox hg; have hnb10 := NB223_224.out; have hnc10 := NB224_223.out; obtain ⟨hcz11_0, hcz11_1, hcz11_2, hcz11_3⟩ := Hd.c4_ BK223.out; obtain ⟨hfz11_0, hfz11_1, hfz11_2, hfz11_3⟩ := Hd.f4_ BK223.out) | ((with_reducible refine gate_callee (f := 21) rfl ?_); refine goesL_ (some 6) rfl rfl Try.func21 (by kernel_rfl) rfl #[.agg #[.int .i64 a0_0, .int .i64 a0_1, .int .i64 a0_2, .int .i64 a0_3]] rfl Hd.m_ ?_; (with_reducible refine (impl_IsBox.calls a0_0 a0_1 a0_2 a0_3 true _ A3.out).mono ?_); rintro e w12 ⟨rfl, hb⟩; refine ⟨_, rfl, ?_⟩; replace BK223 := Aside0.mk (Hd.kb_ BK223 hb); replace BK224 := Aside0.mk (Hd.kb_ BK224 hb); replace HB := Aside0.mk (below_step Hd.b_ hb); (try clear hb); (try clear hb2); (try clear hk); (try clear hi); obtain ⟨hcz13_0, hcz13_1⟩ := Hd.c2_ BK224.out; obtain ⟨hfz13_0, hfz13_1⟩ := Hd.f2_ BK224.out; obtain ⟨hcz14_0, hcz14_1, hcz14_2, hcz14_3⟩ := Hd.c4_ BK223.out; obtain ⟨hfz14_0, hfz14_1, hfz14_2, hfz14_3⟩ := Hd.f4_ BK223.out) | (go_at_call 65; (with_reducible refine (impl_InRange.calls a1_0 a0_0 a0_2 true _ A5.out).mono ?_); rintro e w' ⟨rfl, ⟨nd, rfl⟩⟩) | (go_at_call 65; (with_reducible refine (impl_InRange.calls a1_1 a0_1 a0_3 t227 _ A7.out).mono ?_); rintro e w' ⟨rfl, ⟨nd, rfl⟩⟩))
   go_ret
   exact ⟨Hd.e_, Hd.b_⟩
  ·
   replace c6 := Bool.eq_false_iff.mpr c6
   subst c6
   have H1 : (some false) = some r := by rw [if_neg (show ¬ (false = true) by decide)] at H; exact H
   clear H
   have H := H1
   clear H1
   obtain rfl := Option.some.inj H
   go_enter Try.func13, Try.ntmps13
   go_wp2_with (first | ((with_reducible refine gate_dst (N := 2) rfl ?_); refine Hd.box_ 2 (#[.int .i64 a0_0, .int .i64 a0_1, .int .i64 a0_2, .int .i64 a0_3]) 29 ?_; intro gb223 hg w15 hbox hb; have BK223 := Aside0.mk (hbox); have GW223 := Aside0.mk ((Hd.g_ hg Hd.b_ : w.heap.size ≤ gb223)); have GE223 := Aside0.mk ((Hd.g_ hg Hd.b_ : w.heap.size ≤ gb223)); replace HB := Aside0.mk (below_step Hd.b_ hb); clear hb hbox hg) | ((with_reducible refine gate_dst (N := 3) rfl ?_); refine Hd.box_ 3 (#[.int .i64 a1_0, .int .i64 a1_1]) 27 ?_; intro gb224 hg w16 hbox hb; have BK224 := Aside0.mk (hbox); have GW224 := Aside0.mk ((Hd.g_ hg Hd.b_ : w.heap.size ≤ gb224)); have GE224 := Aside0.mk ((Hd.g_ hg Hd.b_ : w.heap.size ≤ gb224)); replace HB := Aside0.mk (below_step Hd.b_ hb); have NB223_224 := Aside0.mk ((Hd.lt_ BK223 hg)); have NB224_223 := Aside0.mk ((Hd.gt_ BK223 hg)); replace BK223 := Aside0.mk (Hd.kb_ BK223 hb); clear hb hbox hg; have hnb17 := NB223_224.out; have hnc17 := NB224_223.out; obtain ⟨hcz18_0, hcz18_1, hcz18_2, hcz18_3⟩ := Hd.c4_ BK223.out; obtain ⟨hfz18_0, hfz18_1, hfz18_2, hfz18_3⟩ := Hd.f4_ BK223.out) | ((with_reducible refine gate_callee (f := 21) rfl ?_); refine goesL_ (some 6) rfl rfl Try.func21 (by kernel_rfl) rfl #[.agg #[.int .i64 a0_0, .int .i64 a0_1, .int .i64 a0_2, .int .i64 a0_3]] rfl Hd.m_ ?_; (with_reducible refine (impl_IsBox.calls a0_0 a0_1 a0_2 a0_3 true _ A3.out).mono ?_); rintro e w19 ⟨rfl, hb⟩; refine ⟨_, rfl, ?_⟩; replace BK223 := Aside0.mk (Hd.kb_ BK223 hb); replace BK224 := Aside0.mk (Hd.kb_ BK224 hb); replace HB := Aside0.mk (below_step Hd.b_ hb); (try clear hb); (try clear hb2); (try clear hk); (try clear hi); obtain ⟨hcz20_0, hcz20_1⟩ := Hd.c2_ BK224.out; obtain ⟨hfz20_0, hfz20_1⟩ := Hd.f2_ BK224.out; obtain ⟨hcz21_0, hcz21_1, hcz21_2, hcz21_3⟩ := Hd.c4_ BK223.out; obtain ⟨hfz21_0, hfz21_1, hfz21_2, hfz21_3⟩ := Hd.f4_ BK223.out) | (go_at_call 65; (with_reducible refine (impl_InRange.calls a1_0 a0_0 a0_2 false _ A5.out).mono ?_); rintro e w' ⟨rfl, ⟨nd, rfl⟩⟩))
   go_ret
   exact ⟨Hd.e_, Hd.b_⟩
 ·
  replace c4 := Bool.eq_false_iff.mpr c4
  subst c4
  have H1 : (some false) = some r := by rw [if_neg (show ¬ (false = true) by decide)] at H; exact H
  clear H
  have H := H1
  clear H1
  obtain rfl := Option.some.inj H
  go_enter Try.func13, Try.ntmps13
  go_wp2_with (first | ((with_reducible refine gate_dst (N := 2) rfl ?_); refine Hd.box_ 2 (#[.int .i64 a0_0, .int .i64 a0_1, .int .i64 a0_2, .int .i64 a0_3]) 29 ?_; intro gb223 hg w22 hbox hb; have BK223 := Aside0.mk (hbox); have GW223 := Aside0.mk ((Hd.g_ hg Hd.b_ : w.heap.size ≤ gb223)); have GE223 := Aside0.mk ((Hd.g_ hg Hd.b_ : w.heap.size ≤ gb223)); replace HB := Aside0.mk (below_step Hd.b_ hb); clear hb hbox hg) | ((with_reducible refine gate_dst (N := 3) rfl ?_); refine Hd.box_ 3 (#[.int .i64 a1_0, .int .i64 a1_1]) 27 ?_; intro gb224 hg w23 hbox hb; have BK224 := Aside0.mk (hbox); have GW224 := Aside0.mk ((Hd.g_ hg Hd.b_ : w.heap.size ≤ gb224)); have GE224 := Aside0.mk ((Hd.g_ hg Hd.b_ : w.heap.size ≤ gb224)); replace HB := Aside0.mk (below_step Hd.b_ hb); have NB223_224 := Aside0.mk ((Hd.lt_ BK223 hg)); have NB224_223 := Aside0.mk ((Hd.gt_ BK223 hg)); replace BK223 := Aside0.mk (Hd.kb_ BK223 hb); clear hb hbox hg; have hnb24 := NB223_224.out; have hnc24 := NB224_223.out; obtain ⟨hcz25_0, hcz25_1, hcz25_2, hcz25_3⟩ := Hd.c4_ BK223.out; obtain ⟨hfz25_0, hfz25_1, hfz25_2, hfz25_3⟩ := Hd.f4_ BK223.out) | ((with_reducible refine gate_callee (f := 21) rfl ?_); refine goesL_ (some 6) rfl rfl Try.func21 (by kernel_rfl) rfl #[.agg #[.int .i64 a0_0, .int .i64 a0_1, .int .i64 a0_2, .int .i64 a0_3]] rfl Hd.m_ ?_; (with_reducible refine (impl_IsBox.calls a0_0 a0_1 a0_2 a0_3 false _ A3.out).mono ?_); rintro e w26 ⟨rfl, hb⟩; refine ⟨_, rfl, ?_⟩; replace BK223 := Aside0.mk (Hd.kb_ BK223 hb); replace BK224 := Aside0.mk (Hd.kb_ BK224 hb); replace HB := Aside0.mk (below_step Hd.b_ hb); (try clear hb); (try clear hb2); (try clear hk); (try clear hi)))
  go_ret
  exact ⟨Hd.e_, Hd.b_⟩
def spec_l8Draw.f (s0_0 : List Int) (s0_1 : Int) (s0_2 : Int) : Option (Int × Int × Int × Int × Int × Int) := (spec_l4Draw.f s0_0 s0_1 s0_2).bind fun bt229 => ((spec_l1Below.f s0_0 bt229.2.2.1 bt229.2.2.2 6).bind fun bt234 => ((spec_l1Below.f s0_0 bt234.2.1 bt234.2.2 6).bind fun bt237 => (some (bt229.1, bt229.2.1, wrap64 (bt229.1 + bt234.1), wrap64 (bt229.2.1 + bt237.1), bt237.2.1, bt237.2.2))))
def spec_l8Draw.T2 : Bool × List (List Nat × List Nat) := (true, [([], []), ([], []), ([1], [1]), ([], []), ([3], [3]), ([2, 4], [2, 4]), ([], []), ([6], [6]), ([], []), ([8, 4], [8]), ([7, 9], [7, 9]), ([5, 10], [5, 10]), ([0, 11], [0, 11]), ([12, 9, 0, 1, 2, 3, 4, 5, 6, 7, 8, 9, 10, 11, 12], [12])])
def spec_l8Draw.B2 : List Nat := [0, 0, 2, 0, 8, 30, 0, 64, 0, 280, 984, 2046, 4095, 8191]
theorem spec_l8Draw.tab2 : rtab .any (opsOf Try.f101 2) = spec_l8Draw.T2 := by kernel_rfl
theorem spec_l8Draw.bits2 : waitsOk spec_l8Draw.T2.2 spec_l8Draw.B2 = true := by kernel_rfl
set_option maxHeartbeats 8000000 in
set_option maxRecDepth 100000 in
theorem spec_l8Draw.calls (g : Nat) (s0_0 : List Int) (s0_1 : Int) (s0_2 : Int) (r1 : Int) (r2 : Int) (r3 : Int) (r4 : Int) (r5 : Int) (r6 : Int) (w0 w : World) (hI : IsS109 w0 w g s0_0 s0_1 s0_2) (hB : Below w0.heap.size w0 w) (h : spec_l8Draw.f s0_0 s0_1 s0_2 = some (r1, r2, r3, r4, r5, r6)) :
  Calls Try.prog 101 #[.pointer (some ⟨g, 0, none⟩)] w fun e w' => e = .returned (.agg #[.int .i64 r1, .int .i64 r2, .int .i64 r3, .int .i64 r4]) ∧ IsS109 w0 w' g s0_0 r5 r6 ∧ Below w0.heap.size w0 w' ∧ KeepBut w w' g none := by
 have hu29 := Try.underlying29
 have hu27 := Try.underlying27
 have HI0 := Aside0.mk hI
 have HK := Aside0.mk (KeepBut.refl w g none)
 have HL := Aside0.mk hB.size
 clear hI
 have HW0 := Aside0.mk hB.size
 have HB := Aside0.mk hB
 clear hB
 have H : ((spec_l4Draw.f s0_0 s0_1 s0_2).bind fun bt229 => ((spec_l1Below.f s0_0 bt229.2.2.1 bt229.2.2.2 6).bind fun bt234 => ((spec_l1Below.f s0_0 bt234.2.1 bt234.2.2 6).bind fun bt237 => (some (bt229.1, bt229.2.1, wrap64 (bt229.1 + bt234.1), wrap64 (bt229.2.1 + bt237.1), bt237.2.1, bt237.2.2))))) = some (r1, r2, r3, r4, r5, r6) := h
 clear h
 replace H := Option.bind_eq_some_iff.mp H
 obtain ⟨⟨t229, t230, t231, t232⟩, A20, H⟩ := H
 replace H : ((spec_l1Below.f s0_0 t231 t232 6).bind fun bt234 => ((spec_l1Below.f s0_0 bt234.2.1 bt234.2.2 6).bind fun bt237 => (some (t229, t230, wrap64 (t229 + bt234.1), wrap64 (t230 + bt237.1), bt237.2.1, bt237.2.2)))) = some (r1, r2, r3, r4, r5, r6) := H
 have A2 := Aside0.mk A20
 clear A20
 replace H := Option.bind_eq_some_iff.mp H
 obtain ⟨⟨t234, t235, t236⟩, A30, H⟩ := H
 replace H : ((spec_l1Below.f s0_0 t235 t236 6).bind fun bt237 => (some (t229, t230, wrap64 (t229 + t234), wrap64 (t230 + bt237.1), bt237.2.1, bt237.2.2))) = some (r1, r2, r3, r4, r5, r6) := H
 have A3 := Aside0.mk A30
 clear A30
 replace H := Option.bind_eq_some_iff.mp H
 obtain ⟨⟨t237, t238, t239⟩, A40, H⟩ := H
 replace H : (some (t229, t230, wrap64 (t229 + t234), wrap64 (t230 + t237), t238, t239)) = some (r1, r2, r3, r4, r5, r6) := H
 have A4 := Aside0.mk A40
 clear A40
 simp only [Option.some.injEq, Prod.mk.injEq] at H
 obtain ⟨rfl, rfl, rfl, rfl, rfl, rfl⟩ := H
 go_enter Try.func101, Try.ntmps101
 try go_wp2_with (first | ((with_reducible refine gate_dst (N := 2) rfl ?_); refine Hd.box_ 2 (#[.int .i64 0, .int .i64 0, .int .i64 0, .int .i64 0]) 29 ?_; intro gb228 hg w5 hbox hb; replace HB := Aside0.mk (below_step (by repeat (first | (with_reducible first | exact HB.out | apply below_alloc | apply pw_below_drewN | apply below_drew1 | refine below_set ?_ (IsS109.ge HI0.out)) | exact HB.out)) hb); have BK228 := Aside0.mk (hbox); have GW228 := Aside0.mk ((by rw [hg]; exact (keep_size (w := w) (g := g) (row := none) (by repeat (first | (with_reducible first | exact HK.out | apply KeepBut.set_ | apply keep_drewN | apply keep_drew | apply keep_alloc) | exact HK.out))) : w.heap.size ≤ gb228)); have GE228 := Aside0.mk ((Nat.le_trans HW0.out (by rw [hg]; exact (keep_size (w := w) (g := g) (row := none) (by repeat (first | (with_reducible first | exact HK.out | apply KeepBut.set_ | apply keep_drewN | apply keep_drew | apply keep_alloc) | exact HK.out))) : w.heap.size ≤ gb228) : w0.heap.size ≤ gb228)); replace HK := Aside0.mk (KeepBut.trans (by repeat (first | (with_reducible first | exact HK.out | apply KeepBut.set_ | apply keep_drewN | apply keep_drew | apply keep_alloc) | exact HK.out)) (KeepBut.of_below hb g none) (.inl rfl)); have NB0_228 := Aside0.mk ((by rw [hg]; exact Nat.ne_of_lt (IsS109.lt (show IsS109 w0 _ g s0_0 s0_1 s0_2 from by repeat (first | (with_reducible first | exact HI0.out | apply IsS109.alloc | apply IsS109.drewN | apply IsS109.drew | apply IsS109.set_1 | apply IsS109.set_2) | exact HI0.out))) : g ≠ gb228)); have NB228_0 := Aside0.mk ((by rw [hg]; exact Nat.ne_of_gt (IsS109.lt (show IsS109 w0 _ g s0_0 s0_1 s0_2 from by repeat (first | (with_reducible first | exact HI0.out | apply IsS109.alloc | apply IsS109.drewN | apply IsS109.drew | apply IsS109.set_1 | apply IsS109.set_2) | exact HI0.out))) : gb228 ≠ g)); replace HI0 := Aside0.mk (IsS109.below (by repeat (first | (with_reducible first | exact HI0.out | apply IsS109.alloc | apply IsS109.drewN | apply IsS109.drew | apply IsS109.set_1 | apply IsS109.set_2) | exact HI0.out)) hb); clear hb hbox hg) | ((with_reducible refine gate_callee (f := 106) rfl ?_); refine goesL_ (some 5) rfl rfl Try.func106 (by kernel_rfl) rfl #[.pointer (some ⟨g, 0, none⟩)] rfl Hd.m_ ?_; (with_reducible refine (spec_l4Draw.calls g s0_0 s0_1 s0_2 t229 t230 t231 t232 w0 _ ?side1 ?side2 A2.out).mono ?_); (case side1 => repeat (first | (with_reducible first | exact HI0.out | apply IsS109.alloc | apply IsS109.drewN | apply IsS109.drew | apply IsS109.set_1 | apply IsS109.set_2 | refine IsS109.far ?_ NB0_228.out _) | exact HI0.out)); (case side2 => repeat (first | (with_reducible first | exact HB.out | apply below_alloc | apply pw_below_drewN | apply below_drew1 | refine below_set ?_ (IsS109.ge HI0.out) | refine below_set ?_ GE228.out) | exact HB.out)); rintro e w6 ⟨rfl, hi, hb, hk⟩; refine ⟨_, rfl, ?_⟩; replace BK228 := Aside0.mk (KeepBut.blk hk (g' := gb228) (o := .cells #[.int .i64 0, .int .i64 0, .int .i64 0, .int .i64 0] 29 (0, 0)) (Hd.k_ BK228) NB228_0.out (by simp)); replace HK := Aside0.mk (KeepBut.trans (by repeat (first | (with_reducible first | exact HK.out | apply KeepBut.set_ | apply keep_drewN | apply keep_drew | apply keep_alloc | refine keep_far ?_ GW228.out _) | exact HK.out)) hk (.inl rfl)); replace HB := Aside0.mk (hb); replace HI0 := Aside0.mk (hi); (try clear hb); (try clear hb2); (try clear hk); (try clear hi)) | ((with_reducible refine gate_dst (N := 3) rfl ?_); refine Hd.box_ 3 (#[.int .i64 0, .int .i64 0]) 27 ?_; intro gb233 hg w7 hbox hb; replace HB := Aside0.mk (below_step (by repeat (first | (with_reducible first | exact HB.out | apply below_alloc | apply pw_below_drewN | apply below_drew1 | refine below_set ?_ (IsS109.ge HI0.out) | refine below_set ?_ GE228.out) | exact HB.out)) hb); have BK233 := Aside0.mk (hbox); have GW233 := Aside0.mk ((by rw [hg]; exact (keep_size (w := w) (g := g) (row := none) (by repeat (first | (with_reducible first | exact HK.out | apply KeepBut.set_ | apply keep_drewN | apply keep_drew | apply keep_alloc | refine keep_far ?_ GW228.out _) | exact HK.out))) : w.heap.size ≤ gb233)); have GE233 := Aside0.mk ((Nat.le_trans HW0.out (by rw [hg]; exact (keep_size (w := w) (g := g) (row := none) (by repeat (first | (with_reducible first | exact HK.out | apply KeepBut.set_ | apply keep_drewN | apply keep_drew | apply keep_alloc | refine keep_far ?_ GW228.out _) | exact HK.out))) : w.heap.size ≤ gb233) : w0.heap.size ≤ gb233)); replace HK := Aside0.mk (KeepBut.trans (by repeat (first | (with_reducible first | exact HK.out | apply KeepBut.set_ | apply keep_drewN | apply keep_drew | apply keep_alloc | refine keep_far ?_ GW228.out _) | exact HK.out)) (KeepBut.of_below hb g none) (.inl rfl)); have NB228_233 := Aside0.mk ((Hd.lt_ BK228 hg)); have NB233_228 := Aside0.mk ((Hd.gt_ BK228 hg)); replace BK228 := Aside0.mk (Hd.kb_ BK228 hb); have NB0_233 := Aside0.mk ((by rw [hg]; exact Nat.ne_of_lt (IsS109.lt (show IsS109 w0 _ g s0_0 t231 t232 from by repeat (first | (with_reducible first | exact HI0.out | apply IsS109.alloc | apply IsS109.drewN | apply IsS109.drew | apply IsS109.set_1 | apply IsS109.set_2 | refine IsS109.far ?_ NB0_228.out _) | exact HI0.out))) : g ≠ gb233)); have NB233_0 := Aside0.mk ((by rw [hg]; exact Nat.ne_of_gt (IsS109.lt (show IsS109 w0 _ g s0_0 t231 t232 from by repeat (first | (with_reducible first | exact HI0.out | apply IsS109.alloc | apply IsS109.drewN | apply IsS109.drew | apply IsS109.set_1 | apply IsS109.set_2 | refine IsS109.far ?_ NB0_228.out _) | exact HI0.out))) : gb233 ≠ g)); replace HI0 := Aside0.mk (IsS109.below (by repeat (first | (with_reducible first | exact HI0.out | apply IsS109.alloc | apply IsS109.drewN | apply IsS109.drew | apply IsS109.set_1 | apply IsS109.set_2 | refine IsS109.far ?_ NB0_228.out _) | exact HI0.out)) hb); clear hb hbox hg; have hnb8 := NB233_228.out; have hnc8 := NB228_233.out; have hnb9 := NB233_0.out; have hnc9 := NB0_233.out; obtain ⟨hcz10_0, hcz10_1⟩ := Hd.c2_ BK233.out; obtain ⟨hfz10_0, hfz10_1⟩ := Hd.f2_ BK233.out))
 have n0_ : Aside0 (((w7.setCell ⟨gb233, 0, none⟩ (.int .i64 t229)).setCell ⟨gb233, 1, none⟩ (.int .i64 t230)).heap[gb228]? = some (.cells #[.int .i64 0, .int .i64 0, .int .i64 0, .int .i64 0] 29 (0, 0))) := ⟨by (with_reducible repeat (first | refine blk_drewN ?_ _ | refine blk_drew ?_ | refine blk_alloc ?_ _)); refine blk_far ?_ NB228_233.out _; (with_reducible repeat (first | refine blk_drewN ?_ _ | refine blk_drew ?_ | refine blk_alloc ?_ _)); refine blk_far ?_ NB228_233.out _; (with_reducible repeat (first | refine blk_drewN ?_ _ | refine blk_drew ?_ | refine blk_alloc ?_ _)); exact BK228.out⟩
 have n1_ : Aside0 (((w7.setCell ⟨gb233, 0, none⟩ (.int .i64 t229)).setCell ⟨gb233, 1, none⟩ (.int .i64 t230)).heap[gb233]? = some (.cells #[.int .i64 t229, .int .i64 t230] 27 (0, 0))) := ⟨by (with_reducible repeat (first | refine blk_drewN ?_ _ | refine blk_drew ?_ | refine blk_alloc ?_ _)); refine blk_put (cs := #[.int .i64 t229, .int .i64 0]) ?_ 1 _ rfl; (with_reducible repeat (first | refine blk_drewN ?_ _ | refine blk_drew ?_ | refine blk_alloc ?_ _)); refine blk_put (cs := #[.int .i64 0, .int .i64 0]) ?_ 0 _ rfl; (with_reducible repeat (first | refine blk_drewN ?_ _ | refine blk_drew ?_ | refine blk_alloc ?_ _)); exact BK233.out⟩
 have n2_ : Aside0 (IsS109 w0 ((w7.setCell ⟨gb233, 0, none⟩ (.int .i64 t229)).setCell ⟨gb233, 1, none⟩ (.int .i64 t230)) g s0_0 t231 t232) := ⟨by repeat (first | (with_reducible first | exact HI0.out | apply IsS109.alloc | apply IsS109.drewN | apply IsS109.drew | apply IsS109.set_1 | apply IsS109.set_2 | refine IsS109.far ?_ NB0_228.out _ | refine IsS109.far ?_ NB0_233.out _) | exact HI0.out)⟩
 have n3_ : Aside0 (KeepBut w ((w7.setCell ⟨gb233, 0, none⟩ (.int .i64 t229)).setCell ⟨gb233, 1, none⟩ (.int .i64 t230)) g none) := ⟨by repeat (first | (with_reducible first | exact HK.out | apply KeepBut.set_ | apply keep_drewN | apply keep_drew | apply keep_alloc | refine keep_far ?_ GW228.out _ | refine keep_far ?_ GW233.out _) | exact HK.out)⟩
 have n4_ : Aside0 (Below w0.heap.size w0 ((w7.setCell ⟨gb233, 0, none⟩ (.int .i64 t229)).setCell ⟨gb233, 1, none⟩ (.int .i64 t230))) := ⟨by repeat (first | (with_reducible first | exact HB.out | apply below_alloc | apply pw_below_drewN | apply below_drew1 | refine below_set ?_ (IsS109.ge HI0.out) | refine below_set ?_ GE228.out | refine below_set ?_ GE233.out) | exact HB.out)⟩
 (try clear BK228)
 (try clear BK233)
 (try clear HI0)
 (try clear HK)
 (try clear HB)
 generalize ((w7.setCell ⟨gb233, 0, none⟩ (.int .i64 t229)).setCell ⟨gb233, 1, none⟩ (.int .i64 t230)) = w11 at n0_ n1_ n2_ n3_ n4_ ⊢
 have BK228 := n0_
 have BK233 := n1_
 have HI0 := n2_
 have HK := n3_
 have HB := n4_
 clear n0_ n1_ n2_ n3_ n4_
 replace BK228 := Aside0.mk (blk_drew BK228.out)
 replace BK233 := Aside0.mk (blk_drew BK233.out)
 replace HI0 := Aside0.mk (IsS109.drew HI0.out)
 replace HK := Aside0.mk (keep_drew HK.out)
 replace HB := Aside0.mk (below_drew1 HB.out)
 refine start_ (n := 14) (S := fun w' => w'.cell? ⟨gb233, 0, none⟩ = some (.int .i64 t229) ∧ w'.cell? ⟨gb233, 1, none⟩ = some (.int .i64 t230)) (ds := []) #[false, false, false, false, false, false, false, false, false, false, false, false, false, false] (by kernel_rfl) rfl rfl ⟨(blk_cell BK233.out 0).trans rfl, (blk_cell BK233.out 1).trans rfl⟩ (fun hHeld => ?_); refine with_tabW spec_l8Draw.tab2 spec_l8Draw.bits2 (fun HT_ HW_ => ?_)
 generalize w11.drew = w12 at BK228 BK233 HI0 HK HB hHeld ⊢
 refine Hd.p_ HT_ 1 (some 7) #[false, true, false, false, false, false, false, false, false, false, false, false, false, false] ?_
 refine Hd.p_ HT_ 3 (some 9) #[false, true, false, true, false, false, false, false, false, false, false, false, false, false] ?_
 refine Hd.p_ HT_ 6 (some 12) #[false, true, false, true, false, false, true, false, false, false, false, false, false, false] ?_
 refine Hd.p_ HT_ 8 (some 14) #[false, true, false, true, false, false, true, false, true, false, false, false, false, false] ?_
 refine Hd.t_ HT_ HW_ hHeld 0 (some 6) #[true, true, false, true, false, false, true, false, true, false, false, false, false, false] ?_
 refine Hd.t_ HT_ HW_ hHeld 2 (some 8) #[true, true, true, true, false, false, true, false, true, false, false, false, false, false] ?_
 refine Hd.t_ HT_ HW_ hHeld 7 (some 13) #[true, true, true, true, false, false, true, true, true, false, false, false, false, false] ?_
 refine Hd.o_ HT_ 4 (some 10) #[true, true, true, true, true, false, true, true, true, false, false, false, false, false] (fun K hK => ?_)
 refine goes_ Try.func89 (by kernel_rfl) rfl #[.pointer (some ⟨g, 0, none⟩), .int .i64 6] (by rfl) rfl rfl Hd.m_ ?_
 with_reducible refine (spec_l1Below.calls g s0_0 t231 t232 6 t234 t235 t236 w0 _ ?side1 ?side2 A3.out).mono ?_
 (case side1 => repeat (first | (with_reducible first | exact HI0.out | apply IsS109.alloc | apply IsS109.drewN | apply IsS109.drew | apply IsS109.set_1 | apply IsS109.set_2 | refine IsS109.far ?_ NB0_228.out _ | refine IsS109.far ?_ NB0_233.out _) | exact HI0.out))
 (case side2 => repeat (first | (with_reducible first | exact HB.out | apply below_alloc | apply pw_below_drewN | apply below_drew1 | refine below_set ?_ (IsS109.ge HI0.out) | refine below_set ?_ GE228.out | refine below_set ?_ GE233.out) | exact HB.out))
 rintro e w13 ⟨rfl, hi, hb, hk⟩
 refine ⟨_, rfl, ?_⟩
 replace BK228 := Aside0.mk (KeepBut.blk hk (g' := gb228) (o := .cells #[.int .i64 0, .int .i64 0, .int .i64 0, .int .i64 0] 29 (0, 0)) (Hd.k_ BK228) NB228_0.out (by simp))
 replace BK233 := Aside0.mk (KeepBut.blk hk (g' := gb233) (o := .cells #[.int .i64 t229, .int .i64 t230] 27 (0, 0)) (Hd.k_ BK233) NB233_0.out (by simp))
 replace HK := Aside0.mk (KeepBut.trans (by repeat (first | (with_reducible first | exact HK.out | apply KeepBut.set_ | apply keep_drewN | apply keep_drew | apply keep_alloc | refine keep_far ?_ GW228.out _ | refine keep_far ?_ GW233.out _) | exact HK.out)) hk (.inl rfl))
 replace HB := Aside0.mk (hb)
 replace HI0 := Aside0.mk (hi)
 (try clear hb)
 (try clear hb2)
 (try clear hk)
 (try clear hi)
 refine hK.out _ _ ⟨(blk_cell BK233.out 0).trans rfl, (blk_cell BK233.out 1).trans rfl⟩ (fun hHeld => ?_)
 clear hK K
 refine Hd.n_ (some 10) ?_
 refine Hd.p_ HT_ 5 (some 11) #[true, true, true, true, true, true, true, true, true, false, false, false, false, false] ?_
 refine Hd.o_ HT_ 9 (some 15) #[true, true, true, true, true, true, true, true, true, true, false, false, false, false] (fun K hK => ?_)
 refine goes_ Try.func89 (by kernel_rfl) rfl #[.pointer (some ⟨g, 0, none⟩), .int .i64 6] (by rfl) rfl rfl Hd.m_ ?_
 with_reducible refine (spec_l1Below.calls g s0_0 t235 t236 6 t237 t238 t239 w0 _ ?side1 ?side2 A4.out).mono ?_
 (case side1 => repeat (first | (with_reducible first | exact HI0.out | apply IsS109.alloc | apply IsS109.drewN | apply IsS109.drew | apply IsS109.set_1 | apply IsS109.set_2 | refine IsS109.far ?_ NB0_228.out _ | refine IsS109.far ?_ NB0_233.out _) | exact HI0.out))
 (case side2 => repeat (first | (with_reducible first | exact HB.out | apply below_alloc | apply pw_below_drewN | apply below_drew1 | refine below_set ?_ (IsS109.ge HI0.out) | refine below_set ?_ GE228.out | refine below_set ?_ GE233.out) | exact HB.out))
 rintro e w14 ⟨rfl, hi, hb, hk⟩
 refine ⟨_, rfl, ?_⟩
 replace BK228 := Aside0.mk (KeepBut.blk hk (g' := gb228) (o := .cells #[.int .i64 0, .int .i64 0, .int .i64 0, .int .i64 0] 29 (0, 0)) (Hd.k_ BK228) NB228_0.out (by simp))
 replace BK233 := Aside0.mk (KeepBut.blk hk (g' := gb233) (o := .cells #[.int .i64 t229, .int .i64 t230] 27 (0, 0)) (Hd.k_ BK233) NB233_0.out (by simp))
 replace HK := Aside0.mk (KeepBut.trans (by repeat (first | (with_reducible first | exact HK.out | apply KeepBut.set_ | apply keep_drewN | apply keep_drew | apply keep_alloc | refine keep_far ?_ GW228.out _ | refine keep_far ?_ GW233.out _) | exact HK.out)) hk (.inl rfl))
 replace HB := Aside0.mk (hb)
 replace HI0 := Aside0.mk (hi)
 (try clear hb)
 (try clear hb2)
 (try clear hk)
 (try clear hi)
 refine hK.out _ _ ⟨(blk_cell BK233.out 0).trans rfl, (blk_cell BK233.out 1).trans rfl⟩ (fun hHeld => ?_)
 clear hK K
 refine Hd.n_ (some 15) ?_
 refine Hd.p_ HT_ 10 (some 16) #[true, true, true, true, true, true, true, true, true, true, true, false, false, false] ?_
 refine Hd.p_ HT_ 11 (some 17) #[true, true, true, true, true, true, true, true, true, true, true, true, false, false] ?_
 refine Hd.p_ HT_ 12 (some 18) #[true, true, true, true, true, true, true, true, true, true, true, true, true, false] ?_
 refine Hd.o_ HT_ 13 (none) #[true, true, true, true, true, true, true, true, true, true, true, true, true, true] (fun K hK => ?_)
 have hs15 : w14.cell? ⟨gb228, 0, none⟩ = some (.int .i64 0) := (blk_cell BK228.out 0).trans rfl
 have hfs15 := blk_frozen BK228.out 0
 have hns15_1 := NB233_228.out
 have hms15_1 := NB228_233.out
 have hs16 : w14.cell? ⟨gb228, 1, none⟩ = some (.int .i64 0) := (blk_cell BK228.out 1).trans rfl
 have hfs16 := blk_frozen BK228.out 1
 have hns16_1 := NB233_228.out
 have hms16_1 := NB228_233.out
 have hs17 : w14.cell? ⟨gb228, 2, none⟩ = some (.int .i64 0) := (blk_cell BK228.out 2).trans rfl
 have hfs17 := blk_frozen BK228.out 2
 have hns17_1 := NB233_228.out
 have hms17_1 := NB228_233.out
 have hs18 : w14.cell? ⟨gb228, 3, none⟩ = some (.int .i64 0) := (blk_cell BK228.out 3).trans rfl
 have hfs18 := blk_frozen BK228.out 3
 have hns18_1 := NB233_228.out
 have hms18_1 := NB228_233.out
 refine skip_ (w1 := ?_) (by rfl) rfl ?_ ?_
 rotate_left
 ·
  go_simp
  rfl
 refine hK.out _ _ ⟨((cell_far (p := ⟨gb228, _, none⟩) NB233_228.out _).trans (((cell_far (p := ⟨gb228, _, none⟩) NB233_228.out _).trans (((cell_far (p := ⟨gb228, _, none⟩) NB233_228.out _).trans (((cell_far (p := ⟨gb228, _, none⟩) NB233_228.out _).trans (hHeld.1)))))))), ((cell_far (p := ⟨gb228, _, none⟩) NB233_228.out _).trans (((cell_far (p := ⟨gb228, _, none⟩) NB233_228.out _).trans (((cell_far (p := ⟨gb228, _, none⟩) NB233_228.out _).trans (((cell_far (p := ⟨gb228, _, none⟩) NB233_228.out _).trans (hHeld.2))))))))⟩ (fun hHeld => ?_)
 clear hK K
 refine done_ (done_of HT_.out (by kernel_rfl)) ?_
 try go_wp2
 refine bodyPost_ret (results_cell_row rfl _ _ gb228 29 #[.int .i64 t229, .int .i64 t230, .int .i64 (wrap64 (t229 + t234)), .int .i64 (wrap64 (t230 + t237))] (0, 0) _ rfl (by (with_reducible repeat (first | refine blk_drewN ?_ _ | refine blk_drew ?_ | refine blk_alloc ?_ _)); refine blk_put (cs := #[.int .i64 t229, .int .i64 t230, .int .i64 (wrap64 (t229 + t234)), .int .i64 0]) ?_ 3 _ rfl; (with_reducible repeat (first | refine blk_drewN ?_ _ | refine blk_drew ?_ | refine blk_alloc ?_ _)); refine blk_put (cs := #[.int .i64 t229, .int .i64 t230, .int .i64 0, .int .i64 0]) ?_ 2 _ rfl; (with_reducible repeat (first | refine blk_drewN ?_ _ | refine blk_drew ?_ | refine blk_alloc ?_ _)); refine blk_put (cs := #[.int .i64 t229, .int .i64 0, .int .i64 0, .int .i64 0]) ?_ 1 _ rfl; (with_reducible repeat (first | refine blk_drewN ?_ _ | refine blk_drew ?_ | refine blk_alloc ?_ _)); refine blk_put (cs := #[.int .i64 0, .int .i64 0, .int .i64 0, .int .i64 0]) ?_ 0 _ rfl; (with_reducible repeat (first | refine blk_drewN ?_ _ | refine blk_drew ?_ | refine blk_alloc ?_ _)); exact BK228.out) Try.underlying29 rfl (by kernel_rfl)) rfl ?_
 exact ⟨Hd.e_, by repeat (first | (with_reducible first | exact HI0.out | apply IsS109.alloc | apply IsS109.drewN | apply IsS109.drew | apply IsS109.set_1 | apply IsS109.set_2 | refine IsS109.far ?_ NB0_228.out _ | refine IsS109.far ?_ NB0_233.out _) | exact HI0.out), by repeat (first | (with_reducible first | exact HB.out | apply below_alloc | apply pw_below_drewN | apply below_drew1 | refine below_set ?_ (IsS109.ge HI0.out) | refine below_set ?_ GE228.out | refine below_set ?_ GE233.out) | exact HB.out), by repeat (first | (with_reducible first | exact HK.out | apply KeepBut.set_ | apply keep_drewN | apply keep_drew | apply keep_alloc | refine keep_far ?_ GW228.out _ | refine keep_far ?_ GW233.out _) | exact HK.out)⟩
def spec_l8Any.f (s0_0 : List Int) (s0_1 : Int) (s0_2 : Int) : Option (Int × Int × Int × Int × Int × Int) := (spec_l8Draw.f s0_0 s0_1 s0_2).bind fun bt241 => ((spec_l1Below.f s0_0 bt241.2.2.2.2.1 bt241.2.2.2.2.2 10).bind fun bt248 => (if bt248.1 = 0 then ((spec_l4Any.f s0_0 bt248.2.1 bt248.2.2).bind fun bt251 => (some (bt251.1, bt251.2.1, bt241.2.2.1, bt241.2.2.2.1, bt251.2.2.1, bt251.2.2.2))) else (if bt248.1 = 1 then ((spec_l4Any.f s0_0 bt248.2.1 bt248.2.2).bind fun bt255 => (some (bt241.1, bt241.2.1, bt255.1, bt255.2.1, bt255.2.2.1, bt255.2.2.2))) else (some (bt241.1, bt241.2.1, bt241.2.2.1, bt241.2.2.2.1, bt248.2.1, bt248.2.2)))))
set_option maxHeartbeats 8000000 in
set_option maxRecDepth 100000 in
theorem spec_l8Any.calls (g : Nat) (s0_0 : List Int) (s0_1 : Int) (s0_2 : Int) (r1 : Int) (r2 : Int) (r3 : Int) (r4 : Int) (r5 : Int) (r6 : Int) (w0 w : World) (hI : IsS109 w0 w g s0_0 s0_1 s0_2) (hB : Below w0.heap.size w0 w) (h : spec_l8Any.f s0_0 s0_1 s0_2 = some (r1, r2, r3, r4, r5, r6)) :
  Calls Try.prog 67 #[.pointer (some ⟨g, 0, none⟩)] w fun e w' => e = .returned (.agg #[.int .i64 r1, .int .i64 r2, .int .i64 r3, .int .i64 r4]) ∧ IsS109 w0 w' g s0_0 r5 r6 ∧ Below w0.heap.size w0 w' ∧ KeepBut w w' g none := by
 have hu29 := Try.underlying29
 have hu27 := Try.underlying27
 have HI0 := Aside0.mk hI
 have HK := Aside0.mk (KeepBut.refl w g none)
 have HL := Aside0.mk hB.size
 clear hI
 have HW0 := Aside0.mk hB.size
 have HB := Aside0.mk hB
 clear hB
 have H : ((spec_l8Draw.f s0_0 s0_1 s0_2).bind fun bt241 => ((spec_l1Below.f s0_0 bt241.2.2.2.2.1 bt241.2.2.2.2.2 10).bind fun bt248 => (if bt248.1 = 0 then ((spec_l4Any.f s0_0 bt248.2.1 bt248.2.2).bind fun bt251 => (some (bt251.1, bt251.2.1, bt241.2.2.1, bt241.2.2.2.1, bt251.2.2.1, bt251.2.2.2))) else (if bt248.1 = 1 then ((spec_l4Any.f s0_0 bt248.2.1 bt248.2.2).bind fun bt255 => (some (bt241.1, bt241.2.1, bt255.1, bt255.2.1, bt255.2.2.1, bt255.2.2.2))) else (some (bt241.1, bt241.2.1, bt241.2.2.1, bt241.2.2.2.1, bt248.2.1, bt248.2.2)))))) = some (r1, r2, r3, r4, r5, r6) := h
 clear h
 replace H := Option.bind_eq_some_iff.mp H
 obtain ⟨⟨t241, t242, t243, t244, t245, t246⟩, A20, H⟩ := H
 replace H : ((spec_l1Below.f s0_0 t245 t246 10).bind fun bt248 => (if bt248.1 = 0 then ((spec_l4Any.f s0_0 bt248.2.1 bt248.2.2).bind fun bt251 => (some (bt251.1, bt251.2.1, t243, t244, bt251.2.2.1, bt251.2.2.2))) else (if bt248.1 = 1 then ((spec_l4Any.f s0_0 bt248.2.1 bt248.2.2).bind fun bt255 => (some (t241, t242, bt255.1, bt255.2.1, bt255.2.2.1, bt255.2.2.2))) else (some (t241, t242, t243, t244, bt248.2.1, bt248.2.2))))) = some (r1, r2, r3, r4, r5, r6) := H
 have A2 := Aside0.mk A20
 clear A20
 replace H := Option.bind_eq_some_iff.mp H
 obtain ⟨⟨t248, t249, t250⟩, A30, H⟩ := H
 replace H : (if t248 = 0 then ((spec_l4Any.f s0_0 t249 t250).bind fun bt251 => (some (bt251.1, bt251.2.1, t243, t244, bt251.2.2.1, bt251.2.2.2))) else (if t248 = 1 then ((spec_l4Any.f s0_0 t249 t250).bind fun bt255 => (some (t241, t242, bt255.1, bt255.2.1, bt255.2.2.1, bt255.2.2.2))) else (some (t241, t242, t243, t244, t249, t250)))) = some (r1, r2, r3, r4, r5, r6) := H
 have A3 := Aside0.mk A30
 clear A30
 by_cases c4 : t248 = 0
 ·
  rw [if_pos c4] at H
  have c4b0 : (t248 == 0) = true := beq_iff_eq.mpr c4
  have c4b1 : (t248 != 0) = false := bne_eq_false_iff_eq.mpr c4
  clear c4
  replace H := Option.bind_eq_some_iff.mp H
  obtain ⟨⟨t251, t252, t253, t254⟩, A50, H⟩ := H
  replace H : (some (t251, t252, t243, t244, t253, t254)) = some (r1, r2, r3, r4, r5, r6) := H
  have A5 := Aside0.mk A50
  clear A50
  simp only [Option.some.injEq, Prod.mk.injEq] at H
  obtain ⟨rfl, rfl, rfl, rfl, rfl, rfl⟩ := H
  go_enter Try.func67, Try.ntmps67
  go_wp2_with (first | ((with_reducible refine gate_dst (N := 2) rfl ?_); refine Hd.box_ 2 (#[.int .i64 0, .int .i64 0, .int .i64 0, .int .i64 0]) 29 ?_; intro gb240 hg w6 hbox hb; replace HB := Aside0.mk (below_step (by repeat (first | (with_reducible first | exact HB.out | apply below_alloc | apply pw_below_drewN | apply below_drew1 | refine below_set ?_ (IsS109.ge HI0.out)) | exact HB.out)) hb); have BK240 := Aside0.mk (hbox); have GW240 := Aside0.mk ((by rw [hg]; exact (keep_size (w := w) (g := g) (row := none) (by repeat (first | (with_reducible first | exact HK.out | apply KeepBut.set_ | apply keep_drewN | apply keep_drew | apply keep_alloc) | exact HK.out))) : w.heap.size ≤ gb240)); have GE240 := Aside0.mk ((Nat.le_trans HW0.out (by rw [hg]; exact (keep_size (w := w) (g := g) (row := none) (by repeat (first | (with_reducible first | exact HK.out | apply KeepBut.set_ | apply keep_drewN | apply keep_drew | apply keep_alloc) | exact HK.out))) : w.heap.size ≤ gb240) : w0.heap.size ≤ gb240)); replace HK := Aside0.mk (KeepBut.trans (by repeat (first | (with_reducible first | exact HK.out | apply KeepBut.set_ | apply keep_drewN | apply keep_drew | apply keep_alloc) | exact HK.out)) (KeepBut.of_below hb g none) (.inl rfl)); have NB0_240 := Aside0.mk ((by rw [hg]; exact Nat.ne_of_lt (IsS109.lt (show IsS109 w0 _ g s0_0 s0_1 s0_2 from by repeat (first | (with_reducible first | exact HI0.out | apply IsS109.alloc | apply IsS109.drewN | apply IsS109.drew | apply IsS109.set_1 | apply IsS109.set_2) | exact HI0.out))) : g ≠ gb240)); have NB240_0 := Aside0.mk ((by rw [hg]; exact Nat.ne_of_gt (IsS109.lt (show IsS109 w0 _ g s0_0 s0_1 s0_2 from by repeat (first | (with_reducible first | exact HI0.out | apply IsS109.alloc | apply IsS109.drewN | apply IsS109.drew | apply IsS109.set_1 | apply IsS109.set_2) | exact HI0.out))) : gb240 ≠ g)); replace HI0 := Aside0.mk (IsS109.below (by repeat (first | (with_reducible first | exact HI0.out | apply IsS109.alloc | apply IsS109.drewN | apply IsS109.drew | apply IsS109.set_1 | apply IsS109.set_2) | exact HI0.out)) hb); clear hb hbox hg) | ((with_reducible refine gate_callee (f := 101) rfl ?_); refine goesL_ (some 5) rfl rfl Try.func101 (by kernel_rfl) rfl #[.pointer (some ⟨g, 0, none⟩)] rfl Hd.m_ ?_; (with_reducible refine (spec_l8Draw.calls g s0_0 s0_1 s0_2 t241 t242 t243 t244 t245 t246 w0 _ ?side1 ?side2 A2.out).mono ?_); (case side1 => repeat (first | (with_reducible first | exact HI0.out | apply IsS109.alloc | apply IsS109.drewN | apply IsS109.drew | apply IsS109.set_1 | apply IsS109.set_2 | refine IsS109.far ?_ NB0_240.out _) | exact HI0.out)); (case side2 => repeat (first | (with_reducible first | exact HB.out | apply below_alloc | apply pw_below_drewN | apply below_drew1 | refine below_set ?_ (IsS109.ge HI0.out) | refine below_set ?_ GE240.out) | exact HB.out)); rintro e w7 ⟨rfl, hi, hb, hk⟩; refine ⟨_, rfl, ?_⟩; replace BK240 := Aside0.mk (KeepBut.blk hk (g' := gb240) (o := .cells #[.int .i64 0, .int .i64 0, .int .i64 0, .int .i64 0] 29 (0, 0)) (Hd.k_ BK240) NB240_0.out (by simp)); replace HK := Aside0.mk (KeepBut.trans (by repeat (first | (with_reducible first | exact HK.out | apply KeepBut.set_ | apply keep_drewN | apply keep_drew | apply keep_alloc | refine keep_far ?_ GW240.out _) | exact HK.out)) hk (.inl rfl)); replace HB := Aside0.mk (hb); replace HI0 := Aside0.mk (hi); (try clear hb); (try clear hb2); (try clear hk); (try clear hi)) | ((with_reducible refine gate_dst (N := 3) rfl ?_); refine Hd.box_ 3 (#[.int .i64 0, .int .i64 0, .int .i64 0, .int .i64 0]) 29 ?_; intro gb247 hg w8 hbox hb; replace HB := Aside0.mk (below_step (by repeat (first | (with_reducible first | exact HB.out | apply below_alloc | apply pw_below_drewN | apply below_drew1 | refine below_set ?_ (IsS109.ge HI0.out) | refine below_set ?_ GE240.out) | exact HB.out)) hb); have BK247 := Aside0.mk (hbox); have GW247 := Aside0.mk ((by rw [hg]; exact (keep_size (w := w) (g := g) (row := none) (by repeat (first | (with_reducible first | exact HK.out | apply KeepBut.set_ | apply keep_drewN | apply keep_drew | apply keep_alloc | refine keep_far ?_ GW240.out _) | exact HK.out))) : w.heap.size ≤ gb247)); have GE247 := Aside0.mk ((Nat.le_trans HW0.out (by rw [hg]; exact (keep_size (w := w) (g := g) (row := none) (by repeat (first | (with_reducible first | exact HK.out | apply KeepBut.set_ | apply keep_drewN | apply keep_drew | apply keep_alloc | refine keep_far ?_ GW240.out _) | exact HK.out))) : w.heap.size ≤ gb247) : w0.heap.size ≤ gb247)); replace HK := Aside0.mk (KeepBut.trans (by repeat (first | (with_reducible first | exact HK.out | apply KeepBut.set_ | apply keep_drewN | apply keep_drew | apply keep_alloc | refine keep_far ?_ GW240.out _) | exact HK.out)) (KeepBut.of_below hb g none) (.inl rfl)); have NB240_247 := Aside0.mk ((Hd.lt_ BK240 hg)); have NB247_240 := Aside0.mk ((Hd.gt_ BK240 hg)); replace BK240 := Aside0.mk (Hd.kb_ BK240 hb); have NB0_247 := Aside0.mk ((by rw [hg]; exact Nat.ne_of_lt (IsS109.lt (show IsS109 w0 _ g s0_0 t245 t246 from by repeat (first | (with_reducible first | exact HI0.out | apply IsS109.alloc | apply IsS109.drewN | apply IsS109.drew | apply IsS109.set_1 | apply IsS109.set_2 | refine IsS109.far ?_ NB0_240.out _) | exact HI0.out))) : g ≠ gb247)); have NB247_0 := Aside0.mk ((by rw [hg]; exact Nat.ne_of_gt (IsS109.lt (show IsS109 w0 _ g s0_0 t245 t246 from by repeat (first | (with_reducible first | exact HI0.out | apply IsS109.alloc | apply IsS109.drewN | apply IsS109.drew | apply IsS109.set_1 | apply IsS109.set_2 | refine IsS109.far ?_ NB0_240.out _) | exact HI0.out))) : gb247 ≠ g)); replace HI0 := Aside0.mk (IsS109.below (by repeat (first | (with_reducible first | exact HI0.out | apply IsS109.alloc | apply IsS109.drewN | apply IsS109.drew | apply IsS109.set_1 | apply IsS109.set_2 | refine IsS109.far ?_ NB0_240.out _) | exact HI0.out)) hb); clear hb hbox hg; have hnb9 := NB247_240.out; have hnc9 := NB240_247.out; have hnb10 := NB247_0.out; have hnc10 := NB0_247.out; obtain ⟨hcz11_0, hcz11_1, hcz11_2, hcz11_3⟩ := Hd.c4_ BK247.out; obtain ⟨hfz11_0, hfz11_1, hfz11_2, hfz11_3⟩ := Hd.f4_ BK247.out) | ((with_reducible refine gate_callee (f := 89) rfl ?_); refine goesL_ (some 7) rfl rfl Try.func89 (by kernel_rfl) rfl #[.pointer (some ⟨g, 0, none⟩), .int .i64 10] rfl Hd.m_ ?_; (with_reducible refine (spec_l1Below.calls g s0_0 t245 t246 10 t248 t249 t250 w0 _ ?side1 ?side2 A3.out).mono ?_); (case side1 => repeat (first | (with_reducible first | exact HI0.out | apply IsS109.alloc | apply IsS109.drewN | apply IsS109.drew | apply IsS109.set_1 | apply IsS109.set_2 | refine IsS109.far ?_ NB0_240.out _ | refine IsS109.far ?_ NB0_247.out _) | exact HI0.out)); (case side2 => repeat (first | (with_reducible first | exact HB.out | apply below_alloc | apply pw_below_drewN | apply below_drew1 | refine below_set ?_ (IsS109.ge HI0.out) | refine below_set ?_ GE240.out | refine below_set ?_ GE247.out) | exact HB.out)); rintro e w12 ⟨rfl, hi, hb, hk⟩; refine ⟨_, rfl, ?_⟩; replace BK240 := Aside0.mk (KeepBut.blk hk (g' := gb240) (o := .cells #[.int .i64 0, .int .i64 0, .int .i64 0, .int .i64 0] 29 (0, 0)) (by (with_reducible repeat (first | refine blk_drewN ?_ _ | refine blk_drew ?_ | refine blk_alloc ?_ _)); refine blk_far ?_ NB240_247.out _; (with_reducible repeat (first | refine blk_drewN ?_ _ | refine blk_drew ?_ | refine blk_alloc ?_ _)); refine blk_far ?_ NB240_247.out _; (with_reducible repeat (first | refine blk_drewN ?_ _ | refine blk_drew ?_ | refine blk_alloc ?_ _)); refine blk_far ?_ NB240_247.out _; (with_reducible repeat (first | refine blk_drewN ?_ _ | refine blk_drew ?_ | refine blk_alloc ?_ _)); refine blk_far ?_ NB240_247.out _; (with_reducible repeat (first | refine blk_drewN ?_ _ | refine blk_drew ?_ | refine blk_alloc ?_ _)); exact BK240.out) NB240_0.out (by simp)); replace BK247 := Aside0.mk (KeepBut.blk hk (g' := gb247) (o := .cells #[.int .i64 t241, .int .i64 t242, .int .i64 t243, .int .i64 t244] 29 (0, 0)) (by (with_reducible repeat (first | refine blk_drewN ?_ _ | refine blk_drew ?_ | refine blk_alloc ?_ _)); refine blk_put (cs := #[.int .i64 t241, .int .i64 t242, .int .i64 t243, .int .i64 0]) ?_ 3 _ rfl; (with_reducible repeat (first | refine blk_drewN ?_ _ | refine blk_drew ?_ | refine blk_alloc ?_ _)); refine blk_put (cs := #[.int .i64 t241, .int .i64 t242, .int .i64 0, .int .i64 0]) ?_ 2 _ rfl; (with_reducible repeat (first | refine blk_drewN ?_ _ | refine blk_drew ?_ | refine blk_alloc ?_ _)); refine blk_put (cs := #[.int .i64 t241, .int .i64 0, .int .i64 0, .int .i64 0]) ?_ 1 _ rfl; (with_reducible repeat (first | refine blk_drewN ?_ _ | refine blk_drew ?_ | refine blk_alloc ?_ _)); refine blk_put (cs := #[.int .i64 0, .int .i64 0, .int .i64 0, .int .i64 0]) ?_ 0 _ rfl; (with_reducible repeat (first | refine blk_drewN ?_ _ | refine blk_drew ?_ | refine blk_alloc ?_ _)); exact BK247.out) NB247_0.out (by simp)); replace HK := Aside0.mk (KeepBut.trans (by repeat (first | (with_reducible first | exact HK.out | apply KeepBut.set_ | apply keep_drewN | apply keep_drew | apply keep_alloc | refine keep_far ?_ GW240.out _ | refine keep_far ?_ GW247.out _) | exact HK.out)) hk (.inl rfl)); replace HB := Aside0.mk (hb); replace HI0 := Aside0.mk (hi); (try clear hb); (try clear hb2); (try clear hk); (try clear hi)) | ((with_reducible refine gate_callee (f := 82) rfl ?_); refine goesL_ (some 11) rfl rfl Try.func82 (by kernel_rfl) rfl #[.pointer (some ⟨g, 0, none⟩)] rfl Hd.m_ ?_; (with_reducible refine (spec_l4Any.calls g s0_0 t249 t250 t251 t252 t253 t254 w0 _ ?side1 ?side2 A5.out).mono ?_); (case side1 => repeat (first | (with_reducible first | exact HI0.out | apply IsS109.alloc | apply IsS109.drewN | apply IsS109.drew | apply IsS109.set_1 | apply IsS109.set_2 | refine IsS109.far ?_ NB0_240.out _ | refine IsS109.far ?_ NB0_247.out _) | exact HI0.out)); (case side2 => repeat (first | (with_reducible first | exact HB.out | apply below_alloc | apply pw_below_drewN | apply below_drew1 | refine below_set ?_ (IsS109.ge HI0.out) | refine below_set ?_ GE240.out | refine below_set ?_ GE247.out) | exact HB.out)); rintro e w13 ⟨rfl, hi, hb, hk⟩; refine ⟨_, rfl, ?_⟩; replace BK240 := Aside0.mk (KeepBut.blk hk (g' := gb240) (o := .cells #[.int .i64 0, .int .i64 0, .int .i64 0, .int .i64 0] 29 (0, 0)) (Hd.k_ BK240) NB240_0.out (by simp)); replace BK247 := Aside0.mk (KeepBut.blk hk (g' := gb247) (o := .cells #[.int .i64 t241, .int .i64 t242, .int .i64 t243, .int .i64 t244] 29 (0, 0)) (Hd.k_ BK247) NB247_0.out (by simp)); replace HK := Aside0.mk (KeepBut.trans (by repeat (first | (with_reducible first | exact HK.out | apply KeepBut.set_ | apply keep_drewN | apply keep_drew | apply keep_alloc | refine keep_far ?_ GW240.out _ | refine keep_far ?_ GW247.out _) | exact HK.out)) hk (.inl rfl)); replace HB := Aside0.mk (hb); replace HI0 := Aside0.mk (hi); (try clear hb); (try clear hb2); (try clear hk); (try clear hi); obtain ⟨hcz14_0, hcz14_1, hcz14_2, hcz14_3⟩ := Hd.c4_ BK247.out; obtain ⟨hfz14_0, hfz14_1, hfz14_2, hfz14_3⟩ := Hd.f4_ BK247.out; have hnb15 := NB240_0.out; have hnc15 := NB0_240.out; obtain ⟨hcz16_0, hcz16_1, hcz16_2, hcz16_3⟩ := Hd.c4_ BK240.out; obtain ⟨hfz16_0, hfz16_1, hfz16_2, hfz16_3⟩ := Hd.f4_ BK240.out))
  refine bodyPost_ret (results_cell_row rfl _ _ gb240 29 #[.int .i64 t251, .int .i64 t252, .int .i64 t243, .int .i64 t244] (0, 0) _ rfl (by (with_reducible repeat (first | refine blk_drewN ?_ _ | refine blk_drew ?_ | refine blk_alloc ?_ _)); refine blk_put (cs := #[.int .i64 t251, .int .i64 t252, .int .i64 t243, .int .i64 0]) ?_ 3 _ rfl; (with_reducible repeat (first | refine blk_drewN ?_ _ | refine blk_drew ?_ | refine blk_alloc ?_ _)); refine blk_put (cs := #[.int .i64 t251, .int .i64 t252, .int .i64 0, .int .i64 0]) ?_ 2 _ rfl; (with_reducible repeat (first | refine blk_drewN ?_ _ | refine blk_drew ?_ | refine blk_alloc ?_ _)); refine blk_put (cs := #[.int .i64 t251, .int .i64 0, .int .i64 0, .int .i64 0]) ?_ 1 _ rfl; (with_reducible repeat (first | refine blk_drewN ?_ _ | refine blk_drew ?_ | refine blk_alloc ?_ _)); refine blk_put (cs := #[.int .i64 0, .int .i64 0, .int .i64 0, .int .i64 0]) ?_ 0 _ rfl; (with_reducible repeat (first | refine blk_drewN ?_ _ | refine blk_drew ?_ | refine blk_alloc ?_ _)); refine blk_far ?_ NB240_247.out _; (with_reducible repeat (first | refine blk_drewN ?_ _ | refine blk_drew ?_ | refine blk_alloc ?_ _)); refine blk_far ?_ NB240_247.out _; (with_reducible repeat (first | refine blk_drewN ?_ _ | refine blk_drew ?_ | refine blk_alloc ?_ _)); exact BK240.out) Try.underlying29 rfl (by kernel_rfl)) rfl ?_
  exact ⟨Hd.e_, by repeat (first | (with_reducible first | exact HI0.out | apply IsS109.alloc | apply IsS109.drewN | apply IsS109.drew | apply IsS109.set_1 | apply IsS109.set_2 | refine IsS109.far ?_ NB0_240.out _ | refine IsS109.far ?_ NB0_247.out _) | exact HI0.out), by repeat (first | (with_reducible first | exact HB.out | apply below_alloc | apply pw_below_drewN | apply below_drew1 | refine below_set ?_ (IsS109.ge HI0.out) | refine below_set ?_ GE240.out | refine below_set ?_ GE247.out) | exact HB.out), by repeat (first | (with_reducible first | exact HK.out | apply KeepBut.set_ | apply keep_drewN | apply keep_drew | apply keep_alloc | refine keep_far ?_ GW240.out _ | refine keep_far ?_ GW247.out _) | exact HK.out)⟩
 ·
  rw [if_neg c4] at H
  have c4b0 : (t248 == 0) = false := beq_eq_false_iff_ne.mpr c4
  have c4b1 : (t248 != 0) = true := bne_iff_ne.mpr c4
  by_cases c17 : t248 = 1
  ·
   rw [if_pos c17] at H
   have c17b0 : (t248 == 1) = true := beq_iff_eq.mpr c17
   have c17b1 : (t248 != 1) = false := bne_eq_false_iff_eq.mpr c17
   clear c17
   replace H := Option.bind_eq_some_iff.mp H
   obtain ⟨⟨t255, t256, t257, t258⟩, A180, H⟩ := H
   replace H : (some (t241, t242, t255, t256, t257, t258)) = some (r1, r2, r3, r4, r5, r6) := H
   have A18 := Aside0.mk A180
   clear A180
   simp only [Option.some.injEq, Prod.mk.injEq] at H
   obtain ⟨rfl, rfl, rfl, rfl, rfl, rfl⟩ := H
   go_enter Try.func67, Try.ntmps67
   go_wp2_with (first | ((with_reducible refine gate_dst (N := 2) rfl ?_); refine Hd.box_ 2 (#[.int .i64 0, .int .i64 0, .int .i64 0, .int .i64 0]) 29 ?_; intro gb240 hg w19 hbox hb; replace HB := Aside0.mk (below_step (by repeat (first | (with_reducible first | exact HB.out | apply below_alloc | apply pw_below_drewN | apply below_drew1 | refine below_set ?_ (IsS109.ge HI0.out)) | exact HB.out)) hb); have BK240 := Aside0.mk (hbox); have GW240 := Aside0.mk ((by rw [hg]; exact (keep_size (w := w) (g := g) (row := none) (by repeat (first | (with_reducible first | exact HK.out | apply KeepBut.set_ | apply keep_drewN | apply keep_drew | apply keep_alloc) | exact HK.out))) : w.heap.size ≤ gb240)); have GE240 := Aside0.mk ((Nat.le_trans HW0.out (by rw [hg]; exact (keep_size (w := w) (g := g) (row := none) (by repeat (first | (with_reducible first | exact HK.out | apply KeepBut.set_ | apply keep_drewN | apply keep_drew | apply keep_alloc) | exact HK.out))) : w.heap.size ≤ gb240) : w0.heap.size ≤ gb240)); replace HK := Aside0.mk (KeepBut.trans (by repeat (first | (with_reducible first | exact HK.out | apply KeepBut.set_ | apply keep_drewN | apply keep_drew | apply keep_alloc) | exact HK.out)) (KeepBut.of_below hb g none) (.inl rfl)); have NB0_240 := Aside0.mk ((by rw [hg]; exact Nat.ne_of_lt (IsS109.lt (show IsS109 w0 _ g s0_0 s0_1 s0_2 from by repeat (first | (with_reducible first | exact HI0.out | apply IsS109.alloc | apply IsS109.drewN | apply IsS109.drew | apply IsS109.set_1 | apply IsS109.set_2) | exact HI0.out))) : g ≠ gb240)); have NB240_0 := Aside0.mk ((by rw [hg]; exact Nat.ne_of_gt (IsS109.lt (show IsS109 w0 _ g s0_0 s0_1 s0_2 from by repeat (first | (with_reducible first | exact HI0.out | apply IsS109.alloc | apply IsS109.drewN | apply IsS109.drew | apply IsS109.set_1 | apply IsS109.set_2) | exact HI0.out))) : gb240 ≠ g)); replace HI0 := Aside0.mk (IsS109.below (by repeat (first | (with_reducible first | exact HI0.out | apply IsS109.alloc | apply IsS109.drewN | apply IsS109.drew | apply IsS109.set_1 | apply IsS109.set_2) | exact HI0.out)) hb); clear hb hbox hg) | ((with_reducible refine gate_callee (f := 101) rfl ?_); refine goesL_ (some 5) rfl rfl Try.func101 (by kernel_rfl) rfl #[.pointer (some ⟨g, 0, none⟩)] rfl Hd.m_ ?_; (with_reducible refine (spec_l8Draw.calls g s0_0 s0_1 s0_2 t241 t242 t243 t244 t245 t246 w0 _ ?side1 ?side2 A2.out).mono ?_); (case side1 => repeat (first | (with_reducible first | exact HI0.out | apply IsS109.alloc | apply IsS109.drewN | apply IsS109.drew | apply IsS109.set_1 | apply IsS109.set_2 | refine IsS109.far ?_ NB0_240.out _) | exact HI0.out)); (case side2 => repeat (first | (with_reducible first | exact HB.out | apply below_alloc | apply pw_below_drewN | apply below_drew1 | refine below_set ?_ (IsS109.ge HI0.out) | refine below_set ?_ GE240.out) | exact HB.out)); rintro e w20 ⟨rfl, hi, hb, hk⟩; refine ⟨_, rfl, ?_⟩; replace BK240 := Aside0.mk (KeepBut.blk hk (g' := gb240) (o := .cells #[.int .i64 0, .int .i64 0, .int .i64 0, .int .i64 0] 29 (0, 0)) (Hd.k_ BK240) NB240_0.out (by simp)); replace HK := Aside0.mk (KeepBut.trans (by repeat (first | (with_reducible first | exact HK.out | apply KeepBut.set_ | apply keep_drewN | apply keep_drew | apply keep_alloc | refine keep_far ?_ GW240.out _) | exact HK.out)) hk (.inl rfl)); replace HB := Aside0.mk (hb); replace HI0 := Aside0.mk (hi); (try clear hb); (try clear hb2); (try clear hk); (try clear hi)) | ((with_reducible refine gate_dst (N := 3) rfl ?_); refine Hd.box_ 3 (#[.int .i64 0, .int .i64 0, .int .i64 0, .int .i64 0]) 29 ?_; intro gb247 hg w21 hbox hb; replace HB := Aside0.mk (below_step (by repeat (first | (with_reducible first | exact HB.out | apply below_alloc | apply pw_below_drewN | apply below_drew1 | refine below_set ?_ (IsS109.ge HI0.out) | refine below_set ?_ GE240.out) | exact HB.out)) hb); have BK247 := Aside0.mk (hbox); have GW247 := Aside0.mk ((by rw [hg]; exact (keep_size (w := w) (g := g) (row := none) (by repeat (first | (with_reducible first | exact HK.out | apply KeepBut.set_ | apply keep_drewN | apply keep_drew | apply keep_alloc | refine keep_far ?_ GW240.out _) | exact HK.out))) : w.heap.size ≤ gb247)); have GE247 := Aside0.mk ((Nat.le_trans HW0.out (by rw [hg]; exact (keep_size (w := w) (g := g) (row := none) (by repeat (first | (with_reducible first | exact HK.out | apply KeepBut.set_ | apply keep_drewN | apply keep_drew | apply keep_alloc | refine keep_far ?_ GW240.out _) | exact HK.out))) : w.heap.size ≤ gb247) : w0.heap.size ≤ gb247)); replace HK := Aside0.mk (KeepBut.trans (by repeat (first | (with_reducible first | exact HK.out | apply KeepBut.set_ | apply keep_drewN | apply keep_drew | apply keep_alloc | refine keep_far ?_ GW240.out _) | exact HK.out)) (KeepBut.of_below hb g none) (.inl rfl)); have NB240_247 := Aside0.mk ((Hd.lt_ BK240 hg)); have NB247_240 := Aside0.mk ((Hd.gt_ BK240 hg)); replace BK240 := Aside0.mk (Hd.kb_ BK240 hb); have NB0_247 := Aside0.mk ((by rw [hg]; exact Nat.ne_of_lt (IsS109.lt (show IsS109 w0 _ g s0_0 t245 t246 from by repeat (first | (with_reducible first | exact HI0.out | apply IsS109.alloc | apply IsS109.drewN | apply IsS109.drew | apply IsS109.set_1 | apply IsS109.set_2 | refine IsS109.far ?_ NB0_240.out _) | exact HI0.out))) : g ≠ gb247)); have NB247_0 := Aside0.mk ((by rw [hg]; exact Nat.ne_of_gt (IsS109.lt (show IsS109 w0 _ g s0_0 t245 t246 from by repeat (first | (with_reducible first | exact HI0.out | apply IsS109.alloc | apply IsS109.drewN | apply IsS109.drew | apply IsS109.set_1 | apply IsS109.set_2 | refine IsS109.far ?_ NB0_240.out _) | exact HI0.out))) : gb247 ≠ g)); replace HI0 := Aside0.mk (IsS109.below (by repeat (first | (with_reducible first | exact HI0.out | apply IsS109.alloc | apply IsS109.drewN | apply IsS109.drew | apply IsS109.set_1 | apply IsS109.set_2 | refine IsS109.far ?_ NB0_240.out _) | exact HI0.out)) hb); clear hb hbox hg; have hnb22 := NB247_240.out; have hnc22 := NB240_247.out; have hnb23 := NB247_0.out; have hnc23 := NB0_247.out; obtain ⟨hcz24_0, hcz24_1, hcz24_2, hcz24_3⟩ := Hd.c4_ BK247.out; obtain ⟨hfz24_0, hfz24_1, hfz24_2, hfz24_3⟩ := Hd.f4_ BK247.out) | ((with_reducible refine gate_callee (f := 89) rfl ?_); refine goesL_ (some 7) rfl rfl Try.func89 (by kernel_rfl) rfl #[.pointer (some ⟨g, 0, none⟩), .int .i64 10] rfl Hd.m_ ?_; (with_reducible refine (spec_l1Below.calls g s0_0 t245 t246 10 t248 t249 t250 w0 _ ?side1 ?side2 A3.out).mono ?_); (case side1 => repeat (first | (with_reducible first | exact HI0.out | apply IsS109.alloc | apply IsS109.drewN | apply IsS109.drew | apply IsS109.set_1 | apply IsS109.set_2 | refine IsS109.far ?_ NB0_240.out _ | refine IsS109.far ?_ NB0_247.out _) | exact HI0.out)); (case side2 => repeat (first | (with_reducible first | exact HB.out | apply below_alloc | apply pw_below_drewN | apply below_drew1 | refine below_set ?_ (IsS109.ge HI0.out) | refine below_set ?_ GE240.out | refine below_set ?_ GE247.out) | exact HB.out)); rintro e w25 ⟨rfl, hi, hb, hk⟩; refine ⟨_, rfl, ?_⟩; replace BK240 := Aside0.mk (KeepBut.blk hk (g' := gb240) (o := .cells #[.int .i64 0, .int .i64 0, .int .i64 0, .int .i64 0] 29 (0, 0)) (by (with_reducible repeat (first | refine blk_drewN ?_ _ | refine blk_drew ?_ | refine blk_alloc ?_ _)); refine blk_far ?_ NB240_247.out _; (with_reducible repeat (first | refine blk_drewN ?_ _ | refine blk_drew ?_ | refine blk_alloc ?_ _)); refine blk_far ?_ NB240_247.out _; (with_reducible repeat (first | refine blk_drewN ?_ _ | refine blk_drew ?_ | refine blk_alloc ?_ _)); refine blk_far ?_ NB240_247.out _; (with_reducible repeat (first | refine blk_drewN ?_ _ | refine blk_drew ?_ | refine blk_alloc ?_ _)); refine blk_far ?_ NB240_247.out _; (with_reducible repeat (first | refine blk_drewN ?_ _ | refine blk_drew ?_ | refine blk_alloc ?_ _)); exact BK240.out) NB240_0.out (by simp)); replace BK247 := Aside0.mk (KeepBut.blk hk (g' := gb247) (o := .cells #[.int .i64 t241, .int .i64 t242, .int .i64 t243, .int .i64 t244] 29 (0, 0)) (by (with_reducible repeat (first | refine blk_drewN ?_ _ | refine blk_drew ?_ | refine blk_alloc ?_ _)); refine blk_put (cs := #[.int .i64 t241, .int .i64 t242, .int .i64 t243, .int .i64 0]) ?_ 3 _ rfl; (with_reducible repeat (first | refine blk_drewN ?_ _ | refine blk_drew ?_ | refine blk_alloc ?_ _)); refine blk_put (cs := #[.int .i64 t241, .int .i64 t242, .int .i64 0, .int .i64 0]) ?_ 2 _ rfl; (with_reducible repeat (first | refine blk_drewN ?_ _ | refine blk_drew ?_ | refine blk_alloc ?_ _)); refine blk_put (cs := #[.int .i64 t241, .int .i64 0, .int .i64 0, .int .i64 0]) ?_ 1 _ rfl; (with_reducible repeat (first | refine blk_drewN ?_ _ | refine blk_drew ?_ | refine blk_alloc ?_ _)); refine blk_put (cs := #[.int .i64 0, .int .i64 0, .int .i64 0, .int .i64 0]) ?_ 0 _ rfl; (with_reducible repeat (first | refine blk_drewN ?_ _ | refine blk_drew ?_ | refine blk_alloc ?_ _)); exact BK247.out) NB247_0.out (by simp)); replace HK := Aside0.mk (KeepBut.trans (by repeat (first | (with_reducible first | exact HK.out | apply KeepBut.set_ | apply keep_drewN | apply keep_drew | apply keep_alloc | refine keep_far ?_ GW240.out _ | refine keep_far ?_ GW247.out _) | exact HK.out)) hk (.inl rfl)); replace HB := Aside0.mk (hb); replace HI0 := Aside0.mk (hi); (try clear hb); (try clear hb2); (try clear hk); (try clear hi)) | ((with_reducible refine gate_callee (f := 82) rfl ?_); refine goesL_ (some 16) rfl rfl Try.func82 (by kernel_rfl) rfl #[.pointer (some ⟨g, 0, none⟩)] rfl Hd.m_ ?_; (with_reducible refine (spec_l4Any.calls g s0_0 t249 t250 t255 t256 t257 t258 w0 _ ?side1 ?side2 A18.out).mono ?_); (case side1 => repeat (first | (with_reducible first | exact HI0.out | apply IsS109.alloc | apply IsS109.drewN | apply IsS109.drew | apply IsS109.set_1 | apply IsS109.set_2 | refine IsS109.far ?_ NB0_240.out _ | refine IsS109.far ?_ NB0_247.out _) | exact HI0.out)); (case side2 => repeat (first | (with_reducible first | exact HB.out | apply below_alloc | apply pw_below_drewN | apply below_drew1 | refine below_set ?_ (IsS109.ge HI0.out) | refine below_set ?_ GE240.out | refine below_set ?_ GE247.out) | exact HB.out)); rintro e w26 ⟨rfl, hi, hb, hk⟩; refine ⟨_, rfl, ?_⟩; replace BK240 := Aside0.mk (KeepBut.blk hk (g' := gb240) (o := .cells #[.int .i64 0, .int .i64 0, .int .i64 0, .int .i64 0] 29 (0, 0)) (Hd.k_ BK240) NB240_0.out (by simp)); replace BK247 := Aside0.mk (KeepBut.blk hk (g' := gb247) (o := .cells #[.int .i64 t241, .int .i64 t242, .int .i64 t243, .int .i64 t244] 29 (0, 0)) (Hd.k_ BK247) NB247_0.out (by simp)); replace HK := Aside0.mk (KeepBut.trans (by repeat (first | (with_reducible first | exact HK.out | apply KeepBut.set_ | apply keep_drewN | apply keep_drew | apply keep_alloc | refine keep_far ?_ GW240.out _ | refine keep_far ?_ GW247.out _) | exact HK.out)) hk (.inl rfl)); replace HB := Aside0.mk (hb); replace HI0 := Aside0.mk (hi); (try clear hb); (try clear hb2); (try clear hk); (try clear hi); obtain ⟨hcz27_0, hcz27_1, hcz27_2, hcz27_3⟩ := Hd.c4_ BK247.out; obtain ⟨hfz27_0, hfz27_1, hfz27_2, hfz27_3⟩ := Hd.f4_ BK247.out; have hnb28 := NB240_0.out; have hnc28 := NB0_240.out; obtain ⟨hcz29_0, hcz29_1, hcz29_2, hcz29_3⟩ := Hd.c4_ BK240.out; obtain ⟨hfz29_0, hfz29_1, hfz29_2, hfz29_3⟩ := Hd.f4_ BK240.out))
   refine bodyPost_ret (results_cell_row rfl _ _ gb240 29 #[.int .i64 t241, .int .i64 t242, .int .i64 t255, .int .i64 t256] (0, 0) _ rfl (by (with_reducible repeat (first | refine blk_drewN ?_ _ | refine blk_drew ?_ | refine blk_alloc ?_ _)); refine blk_put (cs := #[.int .i64 t241, .int .i64 t242, .int .i64 t255, .int .i64 0]) ?_ 3 _ rfl; (with_reducible repeat (first | refine blk_drewN ?_ _ | refine blk_drew ?_ | refine blk_alloc ?_ _)); refine blk_put (cs := #[.int .i64 t241, .int .i64 t242, .int .i64 0, .int .i64 0]) ?_ 2 _ rfl; (with_reducible repeat (first | refine blk_drewN ?_ _ | refine blk_drew ?_ | refine blk_alloc ?_ _)); refine blk_put (cs := #[.int .i64 t241, .int .i64 0, .int .i64 0, .int .i64 0]) ?_ 1 _ rfl; (with_reducible repeat (first | refine blk_drewN ?_ _ | refine blk_drew ?_ | refine blk_alloc ?_ _)); refine blk_put (cs := #[.int .i64 0, .int .i64 0, .int .i64 0, .int .i64 0]) ?_ 0 _ rfl; (with_reducible repeat (first | refine blk_drewN ?_ _ | refine blk_drew ?_ | refine blk_alloc ?_ _)); refine blk_far ?_ NB240_247.out _; (with_reducible repeat (first | refine blk_drewN ?_ _ | refine blk_drew ?_ | refine blk_alloc ?_ _)); refine blk_far ?_ NB240_247.out _; (with_reducible repeat (first | refine blk_drewN ?_ _ | refine blk_drew ?_ | refine blk_alloc ?_ _)); exact BK240.out) Try.underlying29 rfl (by kernel_rfl)) rfl ?_
   exact ⟨Hd.e_, by repeat (first | (with_reducible first | exact HI0.out | apply IsS109.alloc | apply IsS109.drewN | apply IsS109.drew | apply IsS109.set_1 | apply IsS109.set_2 | refine IsS109.far ?_ NB0_240.out _ | refine IsS109.far ?_ NB0_247.out _) | exact HI0.out), by repeat (first | (with_reducible first | exact HB.out | apply below_alloc | apply pw_below_drewN | apply below_drew1 | refine below_set ?_ (IsS109.ge HI0.out) | refine below_set ?_ GE240.out | refine below_set ?_ GE247.out) | exact HB.out), by repeat (first | (with_reducible first | exact HK.out | apply KeepBut.set_ | apply keep_drewN | apply keep_drew | apply keep_alloc | refine keep_far ?_ GW240.out _ | refine keep_far ?_ GW247.out _) | exact HK.out)⟩
  ·
   rw [if_neg c17] at H
   have c17b0 : (t248 == 1) = false := beq_eq_false_iff_ne.mpr c17
   have c17b1 : (t248 != 1) = true := bne_iff_ne.mpr c17
   simp only [Option.some.injEq, Prod.mk.injEq] at H
   obtain ⟨rfl, rfl, rfl, rfl, rfl, rfl⟩ := H
   go_enter Try.func67, Try.ntmps67
   go_wp2_with (first | ((with_reducible refine gate_dst (N := 2) rfl ?_); refine Hd.box_ 2 (#[.int .i64 0, .int .i64 0, .int .i64 0, .int .i64 0]) 29 ?_; intro gb240 hg w30 hbox hb; replace HB := Aside0.mk (below_step (by repeat (first | (with_reducible first | exact HB.out | apply below_alloc | apply pw_below_drewN | apply below_drew1 | refine below_set ?_ (IsS109.ge HI0.out)) | exact HB.out)) hb); have BK240 := Aside0.mk (hbox); have GW240 := Aside0.mk ((by rw [hg]; exact (keep_size (w := w) (g := g) (row := none) (by repeat (first | (with_reducible first | exact HK.out | apply KeepBut.set_ | apply keep_drewN | apply keep_drew | apply keep_alloc) | exact HK.out))) : w.heap.size ≤ gb240)); have GE240 := Aside0.mk ((Nat.le_trans HW0.out (by rw [hg]; exact (keep_size (w := w) (g := g) (row := none) (by repeat (first | (with_reducible first | exact HK.out | apply KeepBut.set_ | apply keep_drewN | apply keep_drew | apply keep_alloc) | exact HK.out))) : w.heap.size ≤ gb240) : w0.heap.size ≤ gb240)); replace HK := Aside0.mk (KeepBut.trans (by repeat (first | (with_reducible first | exact HK.out | apply KeepBut.set_ | apply keep_drewN | apply keep_drew | apply keep_alloc) | exact HK.out)) (KeepBut.of_below hb g none) (.inl rfl)); have NB0_240 := Aside0.mk ((by rw [hg]; exact Nat.ne_of_lt (IsS109.lt (show IsS109 w0 _ g s0_0 s0_1 s0_2 from by repeat (first | (with_reducible first | exact HI0.out | apply IsS109.alloc | apply IsS109.drewN | apply IsS109.drew | apply IsS109.set_1 | apply IsS109.set_2) | exact HI0.out))) : g ≠ gb240)); have NB240_0 := Aside0.mk ((by rw [hg]; exact Nat.ne_of_gt (IsS109.lt (show IsS109 w0 _ g s0_0 s0_1 s0_2 from by repeat (first | (with_reducible first | exact HI0.out | apply IsS109.alloc | apply IsS109.drewN | apply IsS109.drew | apply IsS109.set_1 | apply IsS109.set_2) | exact HI0.out))) : gb240 ≠ g)); replace HI0 := Aside0.mk (IsS109.below (by repeat (first | (with_reducible first | exact HI0.out | apply IsS109.alloc | apply IsS109.drewN | apply IsS109.drew | apply IsS109.set_1 | apply IsS109.set_2) | exact HI0.out)) hb); clear hb hbox hg) | ((with_reducible refine gate_callee (f := 101) rfl ?_); refine goesL_ (some 5) rfl rfl Try.func101 (by kernel_rfl) rfl #[.pointer (some ⟨g, 0, none⟩)] rfl Hd.m_ ?_; (with_reducible refine (spec_l8Draw.calls g s0_0 s0_1 s0_2 t241 t242 t243 t244 t245 t246 w0 _ ?side1 ?side2 A2.out).mono ?_); (case side1 => repeat (first | (with_reducible first | exact HI0.out | apply IsS109.alloc | apply IsS109.drewN | apply IsS109.drew | apply IsS109.set_1 | apply IsS109.set_2 | refine IsS109.far ?_ NB0_240.out _) | exact HI0.out)); (case side2 => repeat (first | (with_reducible first | exact HB.out | apply below_alloc | apply pw_below_drewN | apply below_drew1 | refine below_set ?_ (IsS109.ge HI0.out) | refine below_set ?_ GE240.out) | exact HB.out)); rintro e w31 ⟨rfl, hi, hb, hk⟩; refine ⟨_, rfl, ?_⟩; replace BK240 := Aside0.mk (KeepBut.blk hk (g' := gb240) (o := .cells #[.int .i64 0, .int .i64 0, .int .i64 0, .int .i64 0] 29 (0, 0)) (Hd.k_ BK240) NB240_0.out (by simp)); replace HK := Aside0.mk (KeepBut.trans (by repeat (first | (with_reducible first | exact HK.out | apply KeepBut.set_ | apply keep_drewN | apply keep_drew | apply keep_alloc | refine keep_far ?_ GW240.out _) | exact HK.out)) hk (.inl rfl)); replace HB := Aside0.mk (hb); replace HI0 := Aside0.mk (hi); (try clear hb); (try clear hb2); (try clear hk); (try clear hi)) | ((with_reducible refine gate_dst (N := 3) rfl ?_); refine Hd.box_ 3 (#[.int .i64 0, .int .i64 0, .int .i64 0, .int .i64 0]) 29 ?_; intro gb247 hg w32 hbox hb; replace HB := Aside0.mk (below_step (by repeat (first | (with_reducible first | exact HB.out | apply below_alloc | apply pw_below_drewN | apply below_drew1 | refine below_set ?_ (IsS109.ge HI0.out) | refine below_set ?_ GE240.out) | exact HB.out)) hb); have BK247 := Aside0.mk (hbox); have GW247 := Aside0.mk ((by rw [hg]; exact (keep_size (w := w) (g := g) (row := none) (by repeat (first | (with_reducible first | exact HK.out | apply KeepBut.set_ | apply keep_drewN | apply keep_drew | apply keep_alloc | refine keep_far ?_ GW240.out _) | exact HK.out))) : w.heap.size ≤ gb247)); have GE247 := Aside0.mk ((Nat.le_trans HW0.out (by rw [hg]; exact (keep_size (w := w) (g := g) (row := none) (by repeat (first | (with_reducible first | exact HK.out | apply KeepBut.set_ | apply keep_drewN | apply keep_drew | apply keep_alloc | refine keep_far ?_ GW240.out _) | exact HK.out))) : w.heap.size ≤ gb247) : w0.heap.size ≤ gb247)); replace HK := Aside0.mk (KeepBut.trans (by repeat (first | (with_reducible first | exact HK.out | apply KeepBut.set_ | apply keep_drewN | apply keep_drew | apply keep_alloc | refine keep_far ?_ GW240.out _) | exact HK.out)) (KeepBut.of_below hb g none) (.inl rfl)); have NB240_247 := Aside0.mk ((Hd.lt_ BK240 hg)); have NB247_240 := Aside0.mk ((Hd.gt_ BK240 hg)); replace BK240 := Aside0.mk (Hd.kb_ BK240 hb); have NB0_247 := Aside0.mk ((by rw [hg]; exact Nat.ne_of_lt (IsS109.lt (show IsS109 w0 _ g s0_0 t245 t246 from by repeat (first | (with_reducible first | exact HI0.out | apply IsS109.alloc | apply IsS109.drewN | apply IsS109.drew | apply IsS109.set_1 | apply IsS109.set_2 | refine IsS109.far ?_ NB0_240.out _) | exact HI0.out))) : g ≠ gb247)); have NB247_0 := Aside0.mk ((by rw [hg]; exact Nat.ne_of_gt (IsS109.lt (show IsS109 w0 _ g s0_0 t245 t246 from by repeat (first | (with_reducible first | exact HI0.out | apply IsS109.alloc | apply IsS109.drewN | apply IsS109.drew | apply IsS109.set_1 | apply IsS109.set_2 | refine IsS109.far ?_ NB0_240.out _) | exact HI0.out))) : gb247 ≠ g)); replace HI0 := Aside0.mk (IsS109.below (by repeat (first | (with_reducible first | exact HI0.out | apply IsS109.alloc | apply IsS109.drewN | apply IsS109.drew | apply IsS109.set_1 | apply IsS109.set_2 | refine IsS109.far ?_ NB0_240.out _) | exact HI0.out)) hb); clear hb hbox hg; have hnb33 := NB247_240.out; have hnc33 := NB240_247.out; have hnb34 := NB247_0.out; have hnc34 := NB0_247.out; obtain ⟨hcz35_0, hcz35_1, hcz35_2, hcz35_3⟩ := Hd.c4_ BK247.out; obtain ⟨hfz35_0, hfz35_1, hfz35_2, hfz35_3⟩ := Hd.f4_ BK247.out) | ((with_reducible refine gate_callee (f := 89) rfl ?_); refine goesL_ (some 7) rfl rfl Try.func89 (by kernel_rfl) rfl #[.pointer (some ⟨g, 0, none⟩), .int .i64 10] rfl Hd.m_ ?_; (with_reducible refine (spec_l1Below.calls g s0_0 t245 t246 10 t248 t249 t250 w0 _ ?side1 ?side2 A3.out).mono ?_); (case side1 => repeat (first | (with_reducible first | exact HI0.out | apply IsS109.alloc | apply IsS109.drewN | apply IsS109.drew | apply IsS109.set_1 | apply IsS109.set_2 | refine IsS109.far ?_ NB0_240.out _ | refine IsS109.far ?_ NB0_247.out _) | exact HI0.out)); (case side2 => repeat (first | (with_reducible first | exact HB.out | apply below_alloc | apply pw_below_drewN | apply below_drew1 | refine below_set ?_ (IsS109.ge HI0.out) | refine below_set ?_ GE240.out | refine below_set ?_ GE247.out) | exact HB.out)); rintro e w36 ⟨rfl, hi, hb, hk⟩; refine ⟨_, rfl, ?_⟩; replace BK240 := Aside0.mk (KeepBut.blk hk (g' := gb240) (o := .cells #[.int .i64 0, .int .i64 0, .int .i64 0, .int .i64 0] 29 (0, 0)) (by (with_reducible repeat (first | refine blk_drewN ?_ _ | refine blk_drew ?_ | refine blk_alloc ?_ _)); refine blk_far ?_ NB240_247.out _; (with_reducible repeat (first | refine blk_drewN ?_ _ | refine blk_drew ?_ | refine blk_alloc ?_ _)); refine blk_far ?_ NB240_247.out _; (with_reducible repeat (first | refine blk_drewN ?_ _ | refine blk_drew ?_ | refine blk_alloc ?_ _)); refine blk_far ?_ NB240_247.out _; (with_reducible repeat (first | refine blk_drewN ?_ _ | refine blk_drew ?_ | refine blk_alloc ?_ _)); refine blk_far ?_ NB240_247.out _; (with_reducible repeat (first | refine blk_drewN ?_ _ | refine blk_drew ?_ | refine blk_alloc ?_ _)); exact BK240.out) NB240_0.out (by simp)); replace BK247 := Aside0.mk (KeepBut.blk hk (g' := gb247) (o := .cells #[.int .i64 t241, .int .i64 t242, .int .i64 t243, .int .i64 t244] 29 (0, 0)) (by (with_reducible repeat (first | refine blk_drewN ?_ _ | refine blk_drew ?_ | refine blk_alloc ?_ _)); refine blk_put (cs := #[.int .i64 t241, .int .i64 t242, .int .i64 t243, .int .i64 0]) ?_ 3 _ rfl; (with_reducible repeat (first | refine blk_drewN ?_ _ | refine blk_drew ?_ | refine blk_alloc ?_ _)); refine blk_put (cs := #[.int .i64 t241, .int .i64 t242, .int .i64 0, .int .i64 0]) ?_ 2 _ rfl; (with_reducible repeat (first | refine blk_drewN ?_ _ | refine blk_drew ?_ | refine blk_alloc ?_ _)); refine blk_put (cs := #[.int .i64 t241, .int .i64 0, .int .i64 0, .int .i64 0]) ?_ 1 _ rfl; (with_reducible repeat (first | refine blk_drewN ?_ _ | refine blk_drew ?_ | refine blk_alloc ?_ _)); refine blk_put (cs := #[.int .i64 0, .int .i64 0, .int .i64 0, .int .i64 0]) ?_ 0 _ rfl; (with_reducible repeat (first | refine blk_drewN ?_ _ | refine blk_drew ?_ | refine blk_alloc ?_ _)); exact BK247.out) NB247_0.out (by simp)); replace HK := Aside0.mk (KeepBut.trans (by repeat (first | (with_reducible first | exact HK.out | apply KeepBut.set_ | apply keep_drewN | apply keep_drew | apply keep_alloc | refine keep_far ?_ GW240.out _ | refine keep_far ?_ GW247.out _) | exact HK.out)) hk (.inl rfl)); replace HB := Aside0.mk (hb); replace HI0 := Aside0.mk (hi); (try clear hb); (try clear hb2); (try clear hk); (try clear hi); obtain ⟨hcz37_0, hcz37_1, hcz37_2, hcz37_3⟩ := Hd.c4_ BK247.out; obtain ⟨hfz37_0, hfz37_1, hfz37_2, hfz37_3⟩ := Hd.f4_ BK247.out; have hnb38 := NB240_0.out; have hnc38 := NB0_240.out; obtain ⟨hcz39_0, hcz39_1, hcz39_2, hcz39_3⟩ := Hd.c4_ BK240.out; obtain ⟨hfz39_0, hfz39_1, hfz39_2, hfz39_3⟩ := Hd.f4_ BK240.out))
   refine bodyPost_ret (results_cell_row rfl _ _ gb240 29 #[.int .i64 t241, .int .i64 t242, .int .i64 t243, .int .i64 t244] (0, 0) _ rfl (by (with_reducible repeat (first | refine blk_drewN ?_ _ | refine blk_drew ?_ | refine blk_alloc ?_ _)); refine blk_put (cs := #[.int .i64 t241, .int .i64 t242, .int .i64 t243, .int .i64 0]) ?_ 3 _ rfl; (with_reducible repeat (first | refine blk_drewN ?_ _ | refine blk_drew ?_ | refine blk_alloc ?_ _)); refine blk_put (cs := #[.int .i64 t241, .int .i64 t242, .int .i64 0, .int .i64 0]) ?_ 2 _ rfl; (with_reducible repeat (first | refine blk_drewN ?_ _ | refine blk_drew ?_ | refine blk_alloc ?_ _)); refine blk_put (cs := #[.int .i64 t241, .int .i64 0, .int .i64 0, .int .i64 0]) ?_ 1 _ rfl; (with_reducible repeat (first | refine blk_drewN ?_ _ | refine blk_drew ?_ | refine blk_alloc ?_ _)); refine blk_put (cs := #[.int .i64 0, .int .i64 0, .int .i64 0, .int .i64 0]) ?_ 0 _ rfl; (with_reducible repeat (first | refine blk_drewN ?_ _ | refine blk_drew ?_ | refine blk_alloc ?_ _)); exact BK240.out) Try.underlying29 rfl (by kernel_rfl)) rfl ?_
   exact ⟨Hd.e_, by repeat (first | (with_reducible first | exact HI0.out | apply IsS109.alloc | apply IsS109.drewN | apply IsS109.drew | apply IsS109.set_1 | apply IsS109.set_2 | refine IsS109.far ?_ NB0_240.out _ | refine IsS109.far ?_ NB0_247.out _) | exact HI0.out), by repeat (first | (with_reducible first | exact HB.out | apply below_alloc | apply pw_below_drewN | apply below_drew1 | refine below_set ?_ (IsS109.ge HI0.out) | refine below_set ?_ GE240.out | refine below_set ?_ GE247.out) | exact HB.out), by repeat (first | (with_reducible first | exact HK.out | apply KeepBut.set_ | apply keep_drewN | apply keep_drew | apply keep_alloc | refine keep_far ?_ GW240.out _ | refine keep_far ?_ GW247.out _) | exact HK.out)⟩
def spec_DrawBoxesMeet.f (k : Nat) (l0 : List Int) : Option (Int × Int × Int × Int × Int × Int × Int × Int) := (spec_l1New.f k l0).bind fun bt261 => ((spec_l8Any.f bt261.1 bt261.2.1 bt261.2.2).bind fun bt265 => ((spec_l8Any.f bt261.1 bt265.2.2.2.2.1 bt265.2.2.2.2.2).bind fun bt272 => (some (bt265.1, bt265.2.1, bt265.2.2.1, bt265.2.2.2.1, bt272.1, bt272.2.1, bt272.2.2.1, bt272.2.2.2.1))))
set_option maxHeartbeats 8000000 in
set_option maxRecDepth 100000 in
theorem spec_DrawBoxesMeet.calls (k : Nat) (A0 : Option Addr) (c0 : Nat) (l0 : List Int) (r1 : Int) (r2 : Int) (r3 : Int) (r4 : Int) (r5 : Int) (r6 : Int) (r7 : Int) (r8 : Int) (w : World) (hr0 : Kd.C (Kd.int .u8) w A0 l0.length l0) (hc0 : l0.length ≤ c0) (h : spec_DrawBoxesMeet.f k l0 = some (r1, r2, r3, r4, r5, r6, r7, r8)) :
  Calls Try.prog 14 #[.slice A0 l0.length c0] w fun e w' => e = .returned (.tuple #[.agg #[.int .i64 r1, .int .i64 r2, .int .i64 r3, .int .i64 r4], .agg #[.int .i64 r5, .int .i64 r6, .int .i64 r7, .int .i64 r8]]) ∧ Below w.heap.size w w' := by
 have hu29 := Try.underlying29
 have HR0 := Aside0.mk hr0
 have HC0 := Aside0.mk hc0
 clear hr0 hc0
 have HB := Aside0.mk (Below.refl w.heap.size w)
 have H : ((spec_l1New.f k l0).bind fun bt261 => ((spec_l8Any.f bt261.1 bt261.2.1 bt261.2.2).bind fun bt265 => ((spec_l8Any.f bt261.1 bt265.2.2.2.2.1 bt265.2.2.2.2.2).bind fun bt272 => (some (bt265.1, bt265.2.1, bt265.2.2.1, bt265.2.2.2.1, bt272.1, bt272.2.1, bt272.2.2.1, bt272.2.2.2.1))))) = some (r1, r2, r3, r4, r5, r6, r7, r8) := h
 clear h
 replace H := Option.bind_eq_some_iff.mp H
 obtain ⟨⟨t261, t262, t263⟩, A20, H⟩ := H
 replace H : ((spec_l8Any.f t261 t262 t263).bind fun bt265 => ((spec_l8Any.f t261 bt265.2.2.2.2.1 bt265.2.2.2.2.2).bind fun bt272 => (some (bt265.1, bt265.2.1, bt265.2.2.1, bt265.2.2.2.1, bt272.1, bt272.2.1, bt272.2.2.1, bt272.2.2.2.1)))) = some (r1, r2, r3, r4, r5, r6, r7, r8) := H
 have A2 := Aside0.mk A20
 clear A20
 replace H := Option.bind_eq_some_iff.mp H
 obtain ⟨⟨t265, t266, t267, t268, t269, t270⟩, A30, H⟩ := H
 replace H : ((spec_l8Any.f t261 t269 t270).bind fun bt272 => (some (t265, t266, t267, t268, bt272.1, bt272.2.1, bt272.2.2.1, bt272.2.2.2.1))) = some (r1, r2, r3, r4, r5, r6, r7, r8) := H
 have A3 := Aside0.mk A30
 clear A30
 replace H := Option.bind_eq_some_iff.mp H
 obtain ⟨⟨t272, t273, t274, t275, t276, t277⟩, A40, H⟩ := H
 replace H : (some (t265, t266, t267, t268, t272, t273, t274, t275)) = some (r1, r2, r3, r4, r5, r6, r7, r8) := H
 have A4 := Aside0.mk A40
 clear A40
 simp only [Option.some.injEq, Prod.mk.injEq] at H
 obtain ⟨rfl, rfl, rfl, rfl, rfl, rfl, rfl, rfl⟩ := H
 go_enter Try.func14, Try.ntmps14
 try go_wp2_with (first | ((with_reducible refine gate_dst (N := 2) rfl ?_); refine Hd.box_ 2 (#[.int .i64 0, .int .i64 0, .int .i64 0, .int .i64 0]) 29 ?_; intro gb259 hg w5 hbox hb; have BK259 := Aside0.mk (hbox); have GW259 := Aside0.mk ((Hd.g_ hg Hd.b_ : w.heap.size ≤ gb259)); have GE259 := Aside0.mk ((Hd.g_ hg Hd.b_ : w.heap.size ≤ gb259)); replace HB := Aside0.mk (below_step Hd.b_ hb); clear hb hbox hg) | ((with_reducible refine gate_dst (N := 3) rfl ?_); refine Hd.box_ 3 (#[.int .i64 0, .int .i64 0, .int .i64 0, .int .i64 0]) 29 ?_; intro gb260 hg w6 hbox hb; have BK260 := Aside0.mk (hbox); have GW260 := Aside0.mk ((Hd.g_ hg Hd.b_ : w.heap.size ≤ gb260)); have GE260 := Aside0.mk ((Hd.g_ hg Hd.b_ : w.heap.size ≤ gb260)); replace HB := Aside0.mk (below_step Hd.b_ hb); have NB259_260 := Aside0.mk ((Hd.lt_ BK259 hg)); have NB260_259 := Aside0.mk ((Hd.gt_ BK259 hg)); replace BK259 := Aside0.mk (Hd.kb_ BK259 hb); clear hb hbox hg) | ((with_reducible refine gate_callee (f := 66) rfl ?_); refine goesL_ (some 7) rfl rfl Try.func66 (by kernel_rfl) rfl #[.slice A0 l0.length c0] rfl Hd.m_ ?_; (with_reducible refine (spec_l1New.calls k _ _ l0 t261 t262 t263 w _ ?side1 ?side2 ?side3 A2.out).mono ?_); (case side1 => repeat (first | (with_reducible first | exact HB.out | apply below_alloc | apply pw_below_drewN | apply below_drew1 | refine below_set ?_ GE259.out | refine below_set ?_ GE260.out) | exact HB.out)); (case side2 => exact HR0.out); (case side3 => exact HC0.out); rintro e w7 ⟨g264, rfl, hi, hb, hb2⟩; refine ⟨_, rfl, ?_⟩; replace HB := Aside0.mk (hb); have HI264 := Aside0.mk (hi); have NB264_259 := Aside0.mk (IsS109.ne_blk hi (blk_below (g := gb259) (o := .cells #[.int .i64 0, .int .i64 0, .int .i64 0, .int .i64 0] 29 (0, 0)) (Hd.k_ BK259) hb2) (by decide)); have NB259_264 := Aside0.mk (Ne.symm (IsS109.ne_blk hi (blk_below (g := gb259) (o := .cells #[.int .i64 0, .int .i64 0, .int .i64 0, .int .i64 0] 29 (0, 0)) (Hd.k_ BK259) hb2) (by decide))); replace BK259 := Aside0.mk (blk_below (g := gb259) (o := .cells #[.int .i64 0, .int .i64 0, .int .i64 0, .int .i64 0] 29 (0, 0)) (Hd.k_ BK259) hb2); have NB264_260 := Aside0.mk (IsS109.ne_blk hi (blk_below (g := gb260) (o := .cells #[.int .i64 0, .int .i64 0, .int .i64 0, .int .i64 0] 29 (0, 0)) (Hd.k_ BK260) hb2) (by decide)); have NB260_264 := Aside0.mk (Ne.symm (IsS109.ne_blk hi (blk_below (g := gb260) (o := .cells #[.int .i64 0, .int .i64 0, .int .i64 0, .int .i64 0] 29 (0, 0)) (Hd.k_ BK260) hb2) (by decide))); replace BK260 := Aside0.mk (blk_below (g := gb260) (o := .cells #[.int .i64 0, .int .i64 0, .int .i64 0, .int .i64 0] 29 (0, 0)) (Hd.k_ BK260) hb2); (try clear hb); (try clear hb2); (try clear hk); (try clear hi)) | ((with_reducible refine gate_callee (f := 67) rfl ?_); refine goesL_ (some 9) rfl rfl Try.func67 (by kernel_rfl) rfl #[.pointer (some ⟨g264, 0, none⟩)] rfl Hd.m_ ?_; (with_reducible refine (spec_l8Any.calls g264 t261 t262 t263 t265 t266 t267 t268 t269 t270 w _ ?side1 ?side2 A3.out).mono ?_); (case side1 => repeat (first | (with_reducible first | exact HI264.out | apply IsS109.alloc | apply IsS109.drewN | apply IsS109.drew | apply IsS109.set_1 | apply IsS109.set_2 | refine IsS109.far ?_ NB264_259.out _ | refine IsS109.far ?_ NB264_260.out _) | exact HI264.out)); (case side2 => repeat (first | (with_reducible first | exact HB.out | apply below_alloc | apply pw_below_drewN | apply below_drew1 | refine below_set ?_ (IsS109.ge HI264.out) | refine below_set ?_ GE259.out | refine below_set ?_ GE260.out) | exact HB.out)); rintro e w8 ⟨rfl, hi, hb, hk⟩; refine ⟨_, rfl, ?_⟩; replace BK259 := Aside0.mk (KeepBut.blk hk (g' := gb259) (o := .cells #[.int .i64 0, .int .i64 0, .int .i64 0, .int .i64 0] 29 (0, 0)) (Hd.k_ BK259) NB259_264.out (by simp)); replace BK260 := Aside0.mk (KeepBut.blk hk (g' := gb260) (o := .cells #[.int .i64 0, .int .i64 0, .int .i64 0, .int .i64 0] 29 (0, 0)) (Hd.k_ BK260) NB260_264.out (by simp)); replace HB := Aside0.mk (hb); replace HI264 := Aside0.mk (hi); (try clear hb); (try clear hb2); (try clear hk); (try clear hi)) | ((with_reducible refine gate_dst (N := 5) rfl ?_); refine Hd.box_ 5 (#[.int .i64 0, .int .i64 0, .int .i64 0, .int .i64 0]) 29 ?_; intro gb271 hg w9 hbox hb; have BK271 := Aside0.mk (hbox); have GW271 := Aside0.mk ((by rw [hg]; exact (below_size (by repeat (first | (with_reducible first | exact HB.out | apply below_alloc | apply pw_below_drewN | apply below_drew1 | refine below_set ?_ (IsS109.ge HI264.out) | refine below_set ?_ GE259.out | refine below_set ?_ GE260.out) | exact HB.out))) : w.heap.size ≤ gb271)); have GE271 := Aside0.mk ((by rw [hg]; exact (below_size (by repeat (first | (with_reducible first | exact HB.out | apply below_alloc | apply pw_below_drewN | apply below_drew1 | refine below_set ?_ (IsS109.ge HI264.out) | refine below_set ?_ GE259.out | refine below_set ?_ GE260.out) | exact HB.out))) : w.heap.size ≤ gb271)); replace HB := Aside0.mk (below_step (by repeat (first | (with_reducible first | exact HB.out | apply below_alloc | apply pw_below_drewN | apply below_drew1 | refine below_set ?_ (IsS109.ge HI264.out) | refine below_set ?_ GE259.out | refine below_set ?_ GE260.out) | exact HB.out)) hb); have NB259_271 := Aside0.mk ((Hd.lt_ BK259 hg)); have NB271_259 := Aside0.mk ((Hd.gt_ BK259 hg)); replace BK259 := Aside0.mk (Hd.kb_ BK259 hb); have NB260_271 := Aside0.mk ((Hd.lt_ BK260 hg)); have NB271_260 := Aside0.mk ((Hd.gt_ BK260 hg)); replace BK260 := Aside0.mk (Hd.kb_ BK260 hb); have NB264_271 := Aside0.mk ((by rw [hg]; exact Nat.ne_of_lt (IsS109.lt (show IsS109 w _ g264 t261 t269 t270 from by repeat (first | (with_reducible first | exact HI264.out | apply IsS109.alloc | apply IsS109.drewN | apply IsS109.drew | apply IsS109.set_1 | apply IsS109.set_2 | refine IsS109.far ?_ NB264_259.out _ | refine IsS109.far ?_ NB264_260.out _) | exact HI264.out))) : g264 ≠ gb271)); have NB271_264 := Aside0.mk ((by rw [hg]; exact Nat.ne_of_gt (IsS109.lt (show IsS109 w _ g264 t261 t269 t270 from by repeat (first | (with_reducible first | exact HI264.out | apply IsS109.alloc | apply IsS109.drewN | apply IsS109.drew | apply IsS109.set_1 | apply IsS109.set_2 | refine IsS109.far ?_ NB264_259.out _ | refine IsS109.far ?_ NB264_260.out _) | exact HI264.out))) : gb271 ≠ g264)); replace HI264 := Aside0.mk (IsS109.below (by repeat (first | (with_reducible first | exact HI264.out | apply IsS109.alloc | apply IsS109.drewN | apply IsS109.drew | apply IsS109.set_1 | apply IsS109.set_2 | refine IsS109.far ?_ NB264_259.out _ | refine IsS109.far ?_ NB264_260.out _) | exact HI264.out)) hb); clear hb hbox hg; have hnb10 := NB271_259.out; have hnc10 := NB259_271.out; have hnb11 := NB271_260.out; have hnc11 := NB260_271.out; have hnb12 := NB271_264.out; have hnc12 := NB264_271.out; obtain ⟨hcz13_0, hcz13_1, hcz13_2, hcz13_3⟩ := Hd.c4_ BK271.out; obtain ⟨hfz13_0, hfz13_1, hfz13_2, hfz13_3⟩ := Hd.f4_ BK271.out))
 have n0_ : Aside0 (((((w9.setCell ⟨gb271, 0, none⟩ (.int .i64 t265)).setCell ⟨gb271, 1, none⟩ (.int .i64 t266)).setCell ⟨gb271, 2, none⟩ (.int .i64 t267)).setCell ⟨gb271, 3, none⟩ (.int .i64 t268)).heap[gb259]? = some (.cells #[.int .i64 0, .int .i64 0, .int .i64 0, .int .i64 0] 29 (0, 0))) := ⟨by (with_reducible repeat (first | refine blk_drewN ?_ _ | refine blk_drew ?_ | refine blk_alloc ?_ _)); refine blk_far ?_ NB259_271.out _; (with_reducible repeat (first | refine blk_drewN ?_ _ | refine blk_drew ?_ | refine blk_alloc ?_ _)); refine blk_far ?_ NB259_271.out _; (with_reducible repeat (first | refine blk_drewN ?_ _ | refine blk_drew ?_ | refine blk_alloc ?_ _)); refine blk_far ?_ NB259_271.out _; (with_reducible repeat (first | refine blk_drewN ?_ _ | refine blk_drew ?_ | refine blk_alloc ?_ _)); refine blk_far ?_ NB259_271.out _; (with_reducible repeat (first | refine blk_drewN ?_ _ | refine blk_drew ?_ | refine blk_alloc ?_ _)); exact BK259.out⟩
 have n1_ : Aside0 (((((w9.setCell ⟨gb271, 0, none⟩ (.int .i64 t265)).setCell ⟨gb271, 1, none⟩ (.int .i64 t266)).setCell ⟨gb271, 2, none⟩ (.int .i64 t267)).setCell ⟨gb271, 3, none⟩ (.int .i64 t268)).heap[gb260]? = some (.cells #[.int .i64 0, .int .i64 0, .int .i64 0, .int .i64 0] 29 (0, 0))) := ⟨by (with_reducible repeat (first | refine blk_drewN ?_ _ | refine blk_drew ?_ | refine blk_alloc ?_ _)); refine blk_far ?_ NB260_271.out _; (with_reducible repeat (first | refine blk_drewN ?_ _ | refine blk_drew ?_ | refine blk_alloc ?_ _)); refine blk_far ?_ NB260_271.out _; (with_reducible repeat (first | refine blk_drewN ?_ _ | refine blk_drew ?_ | refine blk_alloc ?_ _)); refine blk_far ?_ NB260_271.out _; (with_reducible repeat (first | refine blk_drewN ?_ _ | refine blk_drew ?_ | refine blk_alloc ?_ _)); refine blk_far ?_ NB260_271.out _; (with_reducible repeat (first | refine blk_drewN ?_ _ | refine blk_drew ?_ | refine blk_alloc ?_ _)); exact BK260.out⟩
 have n2_ : Aside0 (((((w9.setCell ⟨gb271, 0, none⟩ (.int .i64 t265)).setCell ⟨gb271, 1, none⟩ (.int .i64 t266)).setCell ⟨gb271, 2, none⟩ (.int .i64 t267)).setCell ⟨gb271, 3, none⟩ (.int .i64 t268)).heap[gb271]? = some (.cells #[.int .i64 t265, .int .i64 t266, .int .i64 t267, .int .i64 t268] 29 (0, 0))) := ⟨by (with_reducible repeat (first | refine blk_drewN ?_ _ | refine blk_drew ?_ | refine blk_alloc ?_ _)); refine blk_put (cs := #[.int .i64 t265, .int .i64 t266, .int .i64 t267, .int .i64 0]) ?_ 3 _ rfl; (with_reducible repeat (first | refine blk_drewN ?_ _ | refine blk_drew ?_ | refine blk_alloc ?_ _)); refine blk_put (cs := #[.int .i64 t265, .int .i64 t266, .int .i64 0, .int .i64 0]) ?_ 2 _ rfl; (with_reducible repeat (first | refine blk_drewN ?_ _ | refine blk_drew ?_ | refine blk_alloc ?_ _)); refine blk_put (cs := #[.int .i64 t265, .int .i64 0, .int .i64 0, .int .i64 0]) ?_ 1 _ rfl; (with_reducible repeat (first | refine blk_drewN ?_ _ | refine blk_drew ?_ | refine blk_alloc ?_ _)); refine blk_put (cs := #[.int .i64 0, .int .i64 0, .int .i64 0, .int .i64 0]) ?_ 0 _ rfl; (with_reducible repeat (first | refine blk_drewN ?_ _ | refine blk_drew ?_ | refine blk_alloc ?_ _)); exact BK271.out⟩
 have n3_ : Aside0 (IsS109 w ((((w9.setCell ⟨gb271, 0, none⟩ (.int .i64 t265)).setCell ⟨gb271, 1, none⟩ (.int .i64 t266)).setCell ⟨gb271, 2, none⟩ (.int .i64 t267)).setCell ⟨gb271, 3, none⟩ (.int .i64 t268)) g264 t261 t269 t270) := ⟨by repeat (first | (with_reducible first | exact HI264.out | apply IsS109.alloc | apply IsS109.drewN | apply IsS109.drew | apply IsS109.set_1 | apply IsS109.set_2 | refine IsS109.far ?_ NB264_259.out _ | refine IsS109.far ?_ NB264_260.out _ | refine IsS109.far ?_ NB264_271.out _) | exact HI264.out)⟩
 have n4_ : Aside0 (Below w.heap.size w ((((w9.setCell ⟨gb271, 0, none⟩ (.int .i64 t265)).setCell ⟨gb271, 1, none⟩ (.int .i64 t266)).setCell ⟨gb271, 2, none⟩ (.int .i64 t267)).setCell ⟨gb271, 3, none⟩ (.int .i64 t268))) := ⟨by repeat (first | (with_reducible first | exact HB.out | apply below_alloc | apply pw_below_drewN | apply below_drew1 | refine below_set ?_ (IsS109.ge HI264.out) | refine below_set ?_ GE259.out | refine below_set ?_ GE260.out | refine below_set ?_ GE271.out) | exact HB.out)⟩
 (try clear BK259)
 (try clear BK260)
 (try clear BK271)
 (try clear HI264)
 (try clear HB)
 generalize ((((w9.setCell ⟨gb271, 0, none⟩ (.int .i64 t265)).setCell ⟨gb271, 1, none⟩ (.int .i64 t266)).setCell ⟨gb271, 2, none⟩ (.int .i64 t267)).setCell ⟨gb271, 3, none⟩ (.int .i64 t268)) = w14 at n0_ n1_ n2_ n3_ n4_ ⊢
 have BK259 := n0_
 have BK260 := n1_
 have BK271 := n2_
 have HI264 := n3_
 have HB := n4_
 clear n0_ n1_ n2_ n3_ n4_
 replace BK259 := Aside0.mk (blk_drew BK259.out)
 replace BK260 := Aside0.mk (blk_drew BK260.out)
 replace BK271 := Aside0.mk (blk_drew BK271.out)
 replace HI264 := Aside0.mk (IsS109.drew HI264.out)
 replace HB := Aside0.mk (below_drew1 HB.out)
 refine start_ (n := 5) (S := fun w' => w'.cell? ⟨gb271, 0, none⟩ = some (.int .i64 t265) ∧ w'.cell? ⟨gb271, 1, none⟩ = some (.int .i64 t266) ∧ w'.cell? ⟨gb271, 2, none⟩ = some (.int .i64 t267) ∧ w'.cell? ⟨gb271, 3, none⟩ = some (.int .i64 t268)) (ds := []) #[false, false, false, false, false] (by kernel_rfl) rfl rfl ⟨(blk_cell BK271.out 0).trans rfl, (blk_cell BK271.out 1).trans rfl, (blk_cell BK271.out 2).trans rfl, (blk_cell BK271.out 3).trans rfl⟩ (fun hHeld => ?_)
 generalize w14.drew = w15 at BK259 BK260 BK271 HI264 HB hHeld ⊢
 refine pure_ (i := 1) (N := some 11) (v := ?_) (a' := ?_) #[false, true, false, false, false] rfl rfl (by kernel_rfl) (fun _ _ _ h => h) (Or.inl ⟨by rfl, ?_⟩) ?_ ?_
 rotate_left
 ·
  intro w'
  go_simp
  with_reducible rfl
 rotate_left
 ·
  simp only [Act.put, List.setIfInBounds_toArray, List.set_cons_zero, List.set_cons_succ, i64_w, i32_w]
  rfl
 refine take_ (i := 0) (N := some 10) (v := ?_) (a' := ?_) #[true, true, false, false, false] rfl rfl (by kernel_rfl) (fun _ _ _ h => h) (Or.inl ⟨by rfl, ?_⟩) hHeld ?_ ?_
 rotate_left
 ·
  rintro w' ⟨s0, s1, s2, s3⟩
  go_simp
  with_reducible rfl
 rotate_left
 ·
  simp only [Act.put, List.setIfInBounds_toArray, List.set_cons_zero, List.set_cons_succ, i64_w, i32_w]
  rfl
 refine one_ (i := 2) (N := some 12) #[true, true, true, false, false] rfl rfl (by kernel_rfl) (by decide) (fun K hK => ?_)
 refine goes_ Try.func67 (by kernel_rfl) rfl #[.pointer (some ⟨g264, 0, none⟩)] (by rfl) rfl rfl Hd.m_ ?_
 with_reducible refine (spec_l8Any.calls g264 t261 t269 t270 t272 t273 t274 t275 t276 t277 w _ ?side1 ?side2 A4.out).mono ?_
 (case side1 => repeat (first | (with_reducible first | exact HI264.out | apply IsS109.alloc | apply IsS109.drewN | apply IsS109.drew | apply IsS109.set_1 | apply IsS109.set_2 | refine IsS109.far ?_ NB264_259.out _ | refine IsS109.far ?_ NB264_260.out _ | refine IsS109.far ?_ NB264_271.out _) | exact HI264.out))
 (case side2 => repeat (first | (with_reducible first | exact HB.out | apply below_alloc | apply pw_below_drewN | apply below_drew1 | refine below_set ?_ (IsS109.ge HI264.out) | refine below_set ?_ GE259.out | refine below_set ?_ GE260.out | refine below_set ?_ GE271.out) | exact HB.out))
 rintro e w16 ⟨rfl, hi, hb, hk⟩
 refine ⟨_, rfl, ?_⟩
 replace BK259 := Aside0.mk (KeepBut.blk hk (g' := gb259) (o := .cells #[.int .i64 0, .int .i64 0, .int .i64 0, .int .i64 0] 29 (0, 0)) (Hd.k_ BK259) NB259_264.out (by simp))
 replace BK260 := Aside0.mk (KeepBut.blk hk (g' := gb260) (o := .cells #[.int .i64 0, .int .i64 0, .int .i64 0, .int .i64 0] 29 (0, 0)) (Hd.k_ BK260) NB260_264.out (by simp))
 replace BK271 := Aside0.mk (KeepBut.blk hk (g' := gb271) (o := .cells #[.int .i64 t265, .int .i64 t266, .int .i64 t267, .int .i64 t268] 29 (0, 0)) (Hd.k_ BK271) NB271_264.out (by simp))
 replace HB := Aside0.mk (hb)
 replace HI264 := Aside0.mk (hi)
 (try clear hb)
 (try clear hb2)
 (try clear hk)
 (try clear hi)
 refine hK.out _ _ ⟨(blk_cell BK271.out 0).trans rfl, (blk_cell BK271.out 1).trans rfl, (blk_cell BK271.out 2).trans rfl, (blk_cell BK271.out 3).trans rfl⟩ (fun hHeld => ?_)
 clear hK K
 refine Hd.n_ (some 12) ?_
 refine one_ (i := 3) (N := none) #[true, true, true, true, false] rfl rfl (by kernel_rfl) (by decide) (fun K hK => ?_)
 have hs17 : w16.cell? ⟨gb259, 0, none⟩ = some (.int .i64 0) := (blk_cell BK259.out 0).trans rfl
 have hfs17 := blk_frozen BK259.out 0
 have hns17_1 := NB260_259.out
 have hns17_2 := NB271_259.out
 have hms17_1 := NB259_260.out
 have hms17_2 := NB259_271.out
 have hs18 : w16.cell? ⟨gb259, 1, none⟩ = some (.int .i64 0) := (blk_cell BK259.out 1).trans rfl
 have hfs18 := blk_frozen BK259.out 1
 have hns18_1 := NB260_259.out
 have hns18_2 := NB271_259.out
 have hms18_1 := NB259_260.out
 have hms18_2 := NB259_271.out
 have hs19 : w16.cell? ⟨gb259, 2, none⟩ = some (.int .i64 0) := (blk_cell BK259.out 2).trans rfl
 have hfs19 := blk_frozen BK259.out 2
 have hns19_1 := NB260_259.out
 have hns19_2 := NB271_259.out
 have hms19_1 := NB259_260.out
 have hms19_2 := NB259_271.out
 have hs20 : w16.cell? ⟨gb259, 3, none⟩ = some (.int .i64 0) := (blk_cell BK259.out 3).trans rfl
 have hfs20 := blk_frozen BK259.out 3
 have hns20_1 := NB260_259.out
 have hns20_2 := NB271_259.out
 have hms20_1 := NB259_260.out
 have hms20_2 := NB259_271.out
 refine skip_ (w1 := ?_) (by rfl) rfl ?_ ?_
 rotate_left
 ·
  go_simp
  rfl
 refine hK.out _ _ ⟨((cell_far (p := ⟨gb259, _, none⟩) NB271_259.out _).trans (((cell_far (p := ⟨gb259, _, none⟩) NB271_259.out _).trans (((cell_far (p := ⟨gb259, _, none⟩) NB271_259.out _).trans (((cell_far (p := ⟨gb259, _, none⟩) NB271_259.out _).trans (hHeld.1)))))))), ((cell_far (p := ⟨gb259, _, none⟩) NB271_259.out _).trans (((cell_far (p := ⟨gb259, _, none⟩) NB271_259.out _).trans (((cell_far (p := ⟨gb259, _, none⟩) NB271_259.out _).trans (((cell_far (p := ⟨gb259, _, none⟩) NB271_259.out _).trans (hHeld.2.1)))))))), ((cell_far (p := ⟨gb259, _, none⟩) NB271_259.out _).trans (((cell_far (p := ⟨gb259, _, none⟩) NB271_259.out _).trans (((cell_far (p := ⟨gb259, _, none⟩) NB271_259.out _).trans (((cell_far (p := ⟨gb259, _, none⟩) NB271_259.out _).trans (hHeld.2.2.1)))))))), ((cell_far (p := ⟨gb259, _, none⟩) NB271_259.out _).trans (((cell_far (p := ⟨gb259, _, none⟩) NB271_259.out _).trans (((cell_far (p := ⟨gb259, _, none⟩) NB271_259.out _).trans (((cell_far (p := ⟨gb259, _, none⟩) NB271_259.out _).trans (hHeld.2.2.2))))))))⟩ (fun hHeld => ?_)
 clear hK K
 refine one_ (i := 4) (N := none) #[true, true, true, true, true] rfl rfl (by kernel_rfl) (by decide) (fun K hK => ?_)
 have hs21 : w16.cell? ⟨gb260, 0, none⟩ = some (.int .i64 0) := (blk_cell BK260.out 0).trans rfl
 have hfs21 := blk_frozen BK260.out 0
 have hns21_0 := NB259_260.out
 have hns21_2 := NB271_260.out
 have hms21_0 := NB260_259.out
 have hms21_2 := NB260_271.out
 have hs22 : w16.cell? ⟨gb260, 1, none⟩ = some (.int .i64 0) := (blk_cell BK260.out 1).trans rfl
 have hfs22 := blk_frozen BK260.out 1
 have hns22_0 := NB259_260.out
 have hns22_2 := NB271_260.out
 have hms22_0 := NB260_259.out
 have hms22_2 := NB260_271.out
 have hs23 : w16.cell? ⟨gb260, 2, none⟩ = some (.int .i64 0) := (blk_cell BK260.out 2).trans rfl
 have hfs23 := blk_frozen BK260.out 2
 have hns23_0 := NB259_260.out
 have hns23_2 := NB271_260.out
 have hms23_0 := NB260_259.out
 have hms23_2 := NB260_271.out
 have hs24 : w16.cell? ⟨gb260, 3, none⟩ = some (.int .i64 0) := (blk_cell BK260.out 3).trans rfl
 have hfs24 := blk_frozen BK260.out 3
 have hns24_0 := NB259_260.out
 have hns24_2 := NB271_260.out
 have hms24_0 := NB260_259.out
 have hms24_2 := NB260_271.out
 refine skip_ (w1 := ?_) (by rfl) rfl ?_ ?_
 rotate_left
 ·
  go_simp
  rfl
 refine hK.out _ _ ⟨((cell_far (p := ⟨gb260, _, none⟩) NB271_260.out _).trans (((cell_far (p := ⟨gb260, _, none⟩) NB271_260.out _).trans (((cell_far (p := ⟨gb260, _, none⟩) NB271_260.out _).trans (((cell_far (p := ⟨gb260, _, none⟩) NB271_260.out _).trans (hHeld.1)))))))), ((cell_far (p := ⟨gb260, _, none⟩) NB271_260.out _).trans (((cell_far (p := ⟨gb260, _, none⟩) NB271_260.out _).trans (((cell_far (p := ⟨gb260, _, none⟩) NB271_260.out _).trans (((cell_far (p := ⟨gb260, _, none⟩) NB271_260.out _).trans (hHeld.2.1)))))))), ((cell_far (p := ⟨gb260, _, none⟩) NB271_260.out _).trans (((cell_far (p := ⟨gb260, _, none⟩) NB271_260.out _).trans (((cell_far (p := ⟨gb260, _, none⟩) NB271_260.out _).trans (((cell_far (p := ⟨gb260, _, none⟩) NB271_260.out _).trans (hHeld.2.2.1)))))))), ((cell_far (p := ⟨gb260, _, none⟩) NB271_260.out _).trans (((cell_far (p := ⟨gb260, _, none⟩) NB271_260.out _).trans (((cell_far (p := ⟨gb260, _, none⟩) NB271_260.out _).trans (((cell_far (p := ⟨gb260, _, none⟩) NB271_260.out _).trans (hHeld.2.2.2))))))))⟩ (fun hHeld => ?_)
 clear hK K
 refine done_ (by kernel_rfl) ?_
 try go_wp2
 refine bodyPost_ret (results_cc rfl _ _ gb259 gb260 29 29 #[.int .i64 t265, .int .i64 t266, .int .i64 t267, .int .i64 t268] #[.int .i64 t272, .int .i64 t273, .int .i64 t274, .int .i64 t275] (0, 0) (0, 0) _ _ rfl (by (with_reducible repeat (first | refine blk_drewN ?_ _ | refine blk_drew ?_ | refine blk_alloc ?_ _)); refine blk_far ?_ NB259_260.out _; (with_reducible repeat (first | refine blk_drewN ?_ _ | refine blk_drew ?_ | refine blk_alloc ?_ _)); refine blk_far ?_ NB259_260.out _; (with_reducible repeat (first | refine blk_drewN ?_ _ | refine blk_drew ?_ | refine blk_alloc ?_ _)); refine blk_far ?_ NB259_260.out _; (with_reducible repeat (first | refine blk_drewN ?_ _ | refine blk_drew ?_ | refine blk_alloc ?_ _)); refine blk_far ?_ NB259_260.out _; (with_reducible repeat (first | refine blk_drewN ?_ _ | refine blk_drew ?_ | refine blk_alloc ?_ _)); refine blk_put (cs := #[.int .i64 t265, .int .i64 t266, .int .i64 t267, .int .i64 0]) ?_ 3 _ rfl; (with_reducible repeat (first | refine blk_drewN ?_ _ | refine blk_drew ?_ | refine blk_alloc ?_ _)); refine blk_put (cs := #[.int .i64 t265, .int .i64 t266, .int .i64 0, .int .i64 0]) ?_ 2 _ rfl; (with_reducible repeat (first | refine blk_drewN ?_ _ | refine blk_drew ?_ | refine blk_alloc ?_ _)); refine blk_put (cs := #[.int .i64 t265, .int .i64 0, .int .i64 0, .int .i64 0]) ?_ 1 _ rfl; (with_reducible repeat (first | refine blk_drewN ?_ _ | refine blk_drew ?_ | refine blk_alloc ?_ _)); refine blk_put (cs := #[.int .i64 0, .int .i64 0, .int .i64 0, .int .i64 0]) ?_ 0 _ rfl; (with_reducible repeat (first | refine blk_drewN ?_ _ | refine blk_drew ?_ | refine blk_alloc ?_ _)); exact BK259.out) Try.underlying29 rfl (by kernel_rfl) rfl (by (with_reducible repeat (first | refine blk_drewN ?_ _ | refine blk_drew ?_ | refine blk_alloc ?_ _)); refine blk_put (cs := #[.int .i64 t272, .int .i64 t273, .int .i64 t274, .int .i64 0]) ?_ 3 _ rfl; (with_reducible repeat (first | refine blk_drewN ?_ _ | refine blk_drew ?_ | refine blk_alloc ?_ _)); refine blk_put (cs := #[.int .i64 t272, .int .i64 t273, .int .i64 0, .int .i64 0]) ?_ 2 _ rfl; (with_reducible repeat (first | refine blk_drewN ?_ _ | refine blk_drew ?_ | refine blk_alloc ?_ _)); refine blk_put (cs := #[.int .i64 t272, .int .i64 0, .int .i64 0, .int .i64 0]) ?_ 1 _ rfl; (with_reducible repeat (first | refine blk_drewN ?_ _ | refine blk_drew ?_ | refine blk_alloc ?_ _)); refine blk_put (cs := #[.int .i64 0, .int .i64 0, .int .i64 0, .int .i64 0]) ?_ 0 _ rfl; (with_reducible repeat (first | refine blk_drewN ?_ _ | refine blk_drew ?_ | refine blk_alloc ?_ _)); refine blk_far ?_ NB260_259.out _; (with_reducible repeat (first | refine blk_drewN ?_ _ | refine blk_drew ?_ | refine blk_alloc ?_ _)); refine blk_far ?_ NB260_259.out _; (with_reducible repeat (first | refine blk_drewN ?_ _ | refine blk_drew ?_ | refine blk_alloc ?_ _)); refine blk_far ?_ NB260_259.out _; (with_reducible repeat (first | refine blk_drewN ?_ _ | refine blk_drew ?_ | refine blk_alloc ?_ _)); refine blk_far ?_ NB260_259.out _; (with_reducible repeat (first | refine blk_drewN ?_ _ | refine blk_drew ?_ | refine blk_alloc ?_ _)); exact BK260.out) Try.underlying29 rfl (by kernel_rfl)) rfl ?_
 exact ⟨Hd.e_, by repeat (first | (with_reducible first | exact HB.out | apply below_alloc | apply pw_below_drewN | apply below_drew1 | refine below_set ?_ (IsS109.ge HI264.out) | refine below_set ?_ GE259.out | refine below_set ?_ GE260.out | refine below_set ?_ GE271.out) | exact HB.out)⟩
def impl_common.f (a0_0 : Int) (a0_1 : Int) (a0_2 : Int) (a0_3 : Int) (a1_0 : Int) (a1_1 : Int) (a1_2 : Int) (a1_3 : Int) : Option (Int × Int) := some (wrap64 ((mn a0_2 a1_2) - (mx a0_0 a1_0)), wrap64 ((mn a0_3 a1_3) - (mx a0_1 a1_1)))
set_option maxHeartbeats 8000000 in
set_option maxRecDepth 100000 in
theorem impl_common.calls (a0_0 : Int) (a0_1 : Int) (a0_2 : Int) (a0_3 : Int) (a1_0 : Int) (a1_1 : Int) (a1_2 : Int) (a1_3 : Int) (r1 : Int) (r2 : Int) (w : World) (h : impl_common.f a0_0 a0_1 a0_2 a0_3 a1_0 a1_1 a1_2 a1_3 = some (r1, r2)) :
  Calls Try.prog 68 #[.agg #[.int .i64 a0_0, .int .i64 a0_1, .int .i64 a0_2, .int .i64 a0_3], .agg #[.int .i64 a1_0, .int .i64 a1_1, .int .i64 a1_2, .int .i64 a1_3]] w fun e w' => e = .returned (.tuple #[.int .i64 r1, .int .i64 r2]) ∧ Below w.heap.size w w' := by
 have hu29 := Try.underlying29
 have HB := Aside0.mk (Below.refl w.heap.size w)
 have H : (some (wrap64 ((mn a0_2 a1_2) - (mx a0_0 a1_0)), wrap64 ((mn a0_3 a1_3) - (mx a0_1 a1_1)))) = some (r1, r2) := h
 clear h
 obtain ⟨ji3, hji3⟩ : ∃ j_ : Int, (mn a0_2 a1_2) = j_ := ⟨_, rfl⟩
 replace H : (some (wrap64 ((ji3) - (mx a0_0 a1_0)), wrap64 ((mn a0_3 a1_3) - (mx a0_1 a1_1)))) = some (r1, r2) := by first | (rw [hji3] at H; exact H) | (simp only [hji3] at H ⊢; exact H)
 have hji3_ : (if a1_2 < a0_2 then a1_2 else a0_2) = ji3 := hji3
 obtain ⟨ji4, hji4⟩ : ∃ j_ : Int, (mx a0_0 a1_0) = j_ := ⟨_, rfl⟩
 replace H : (some (wrap64 ((ji3) - (ji4)), wrap64 ((mn a0_3 a1_3) - (mx a0_1 a1_1)))) = some (r1, r2) := by first | (rw [hji4] at H; exact H) | (simp only [hji4] at H ⊢; exact H)
 have hji4_ : (if a0_0 < a1_0 then a1_0 else a0_0) = ji4 := hji4
 obtain ⟨ji5, hji5⟩ : ∃ j_ : Int, (mn a0_3 a1_3) = j_ := ⟨_, rfl⟩
 replace H : (some (wrap64 ((ji3) - (ji4)), wrap64 ((ji5) - (mx a0_1 a1_1)))) = some (r1, r2) := by first | (rw [hji5] at H; exact H) | (simp only [hji5] at H ⊢; exact H)
 have hji5_ : (if a1_3 < a0_3 then a1_3 else a0_3) = ji5 := hji5
 obtain ⟨ji6, hji6⟩ : ∃ j_ : Int, (mx a0_1 a1_1) = j_ := ⟨_, rfl⟩
 replace H : (some (wrap64 ((ji3) - (ji4)), wrap64 ((ji5) - (ji6)))) = some (r1, r2) := by first | (rw [hji6] at H; exact H) | (simp only [hji6] at H ⊢; exact H)
 have hji6_ : (if a0_1 < a1_1 then a1_1 else a0_1) = ji6 := hji6
 simp only [Option.some.injEq, Prod.mk.injEq] at H
 obtain ⟨rfl, rfl⟩ := H
 go_enter Try.func68, Try.ntmps68
 go_wp2_with (first | ((with_reducible refine gate_dst (N := 2) rfl ?_); refine Hd.box_ 2 (#[.int .i64 a0_0, .int .i64 a0_1, .int .i64 a0_2, .int .i64 a0_3]) 29 ?_; intro gb278 hg w7 hbox hb; have BK278 := Aside0.mk (hbox); have GW278 := Aside0.mk ((Hd.g_ hg Hd.b_ : w.heap.size ≤ gb278)); have GE278 := Aside0.mk ((Hd.g_ hg Hd.b_ : w.heap.size ≤ gb278)); replace HB := Aside0.mk (below_step Hd.b_ hb); clear hb hbox hg) | ((with_reducible refine gate_dst (N := 3) rfl ?_); refine Hd.box_ 3 (#[.int .i64 a1_0, .int .i64 a1_1, .int .i64 a1_2, .int .i64 a1_3]) 29 ?_; intro gb279 hg w8 hbox hb; have BK279 := Aside0.mk (hbox); have GW279 := Aside0.mk ((Hd.g_ hg Hd.b_ : w.heap.size ≤ gb279)); have GE279 := Aside0.mk ((Hd.g_ hg Hd.b_ : w.heap.size ≤ gb279)); replace HB := Aside0.mk (below_step Hd.b_ hb); have NB278_279 := Aside0.mk ((Hd.lt_ BK278 hg)); have NB279_278 := Aside0.mk ((Hd.gt_ BK278 hg)); replace BK278 := Aside0.mk (Hd.kb_ BK278 hb); clear hb hbox hg; have hnb9 := NB278_279.out; have hnc9 := NB279_278.out; obtain ⟨hcz10_0, hcz10_1, hcz10_2, hcz10_3⟩ := Hd.c4_ BK278.out; obtain ⟨hfz10_0, hfz10_1, hfz10_2, hfz10_3⟩ := Hd.f4_ BK278.out; obtain ⟨hcz11_0, hcz11_1, hcz11_2, hcz11_3⟩ := Hd.c4_ BK279.out; obtain ⟨hfz11_0, hfz11_1, hfz11_2, hfz11_3⟩ := Hd.f4_ BK279.out))
 repeat (go_quiet (first | ((with_reducible refine gate_dst (N := 2) rfl ?_); refine Hd.box_ 2 (#[.int .i64 a0_0, .int .i64 a0_1, .int .i64 a0_2, .int .i64 a0_3]) 29 ?_; intro gb278 hg w7 hbox hb; have BK278 := Aside0.mk (hbox); have GW278 := Aside0.mk ((Hd.g_ hg Hd.b_ : w.heap.size ≤ gb278)); have GE278 := Aside0.mk ((Hd.g_ hg Hd.b_ : w.heap.size ≤ gb278)); replace HB := Aside0.mk (below_step Hd.b_ hb); clear hb hbox hg) | ((with_reducible refine gate_dst (N := 3) rfl ?_); refine Hd.box_ 3 (#[.int .i64 a1_0, .int .i64 a1_1, .int .i64 a1_2, .int .i64 a1_3]) 29 ?_; intro gb279 hg w8 hbox hb; have BK279 := Aside0.mk (hbox); have GW279 := Aside0.mk ((Hd.g_ hg Hd.b_ : w.heap.size ≤ gb279)); have GE279 := Aside0.mk ((Hd.g_ hg Hd.b_ : w.heap.size ≤ gb279)); replace HB := Aside0.mk (below_step Hd.b_ hb); have NB278_279 := Aside0.mk ((Hd.lt_ BK278 hg)); have NB279_278 := Aside0.mk ((Hd.gt_ BK278 hg)); replace BK278 := Aside0.mk (Hd.kb_ BK278 hb); clear hb hbox hg; have hnb9 := NB278_279.out; have hnc9 := NB279_278.out; obtain ⟨hcz10_0, hcz10_1, hcz10_2, hcz10_3⟩ := Hd.c4_ BK278.out; obtain ⟨hfz10_0, hfz10_1, hfz10_2, hfz10_3⟩ := Hd.f4_ BK278.out; obtain ⟨hcz11_0, hcz11_1, hcz11_2, hcz11_3⟩ := Hd.c4_ BK279.out; obtain ⟨hfz11_0, hfz11_1, hfz11_2, hfz11_3⟩ := Hd.f4_ BK279.out)); try go_wp2_with (first | ((with_reducible refine gate_dst (N := 2) rfl ?_); refine Hd.box_ 2 (#[.int .i64 a0_0, .int .i64 a0_1, .int .i64 a0_2, .int .i64 a0_3]) 29 ?_; intro gb278 hg w7 hbox hb; have BK278 := Aside0.mk (hbox); have GW278 := Aside0.mk ((Hd.g_ hg Hd.b_ : w.heap.size ≤ gb278)); have GE278 := Aside0.mk ((Hd.g_ hg Hd.b_ : w.heap.size ≤ gb278)); replace HB := Aside0.mk (below_step Hd.b_ hb); clear hb hbox hg) | ((with_reducible refine gate_dst (N := 3) rfl ?_); refine Hd.box_ 3 (#[.int .i64 a1_0, .int .i64 a1_1, .int .i64 a1_2, .int .i64 a1_3]) 29 ?_; intro gb279 hg w8 hbox hb; have BK279 := Aside0.mk (hbox); have GW279 := Aside0.mk ((Hd.g_ hg Hd.b_ : w.heap.size ≤ gb279)); have GE279 := Aside0.mk ((Hd.g_ hg Hd.b_ : w.heap.size ≤ gb279)); replace HB := Aside0.mk (below_step Hd.b_ hb); have NB278_279 := Aside0.mk ((Hd.lt_ BK278 hg)); have NB279_278 := Aside0.mk ((Hd.gt_ BK278 hg)); replace BK278 := Aside0.mk (Hd.kb_ BK278 hb); clear hb hbox hg; have hnb9 := NB278_279.out; have hnc9 := NB279_278.out; obtain ⟨hcz10_0, hcz10_1, hcz10_2, hcz10_3⟩ := Hd.c4_ BK278.out; obtain ⟨hfz10_0, hfz10_1, hfz10_2, hfz10_3⟩ := Hd.f4_ BK278.out; obtain ⟨hcz11_0, hcz11_1, hcz11_2, hcz11_3⟩ := Hd.c4_ BK279.out; obtain ⟨hfz11_0, hfz11_1, hfz11_2, hfz11_3⟩ := Hd.f4_ BK279.out)))
 go_ret2
 exact ⟨by first | rfl | (simp [errW_none, errW_some] <;> rfl) | (simp only [← hji3, ← hji4, ← hji5, ← hji6]; first | rfl | (simp [errW_none, errW_some] <;> rfl)) | (simp [*, errW_none, errW_some] <;> rfl), Hd.b_⟩
def impl_BoxesMeet.f (a0_0 : Int) (a0_1 : Int) (a0_2 : Int) (a0_3 : Int) (a1_0 : Int) (a1_1 : Int) (a1_2 : Int) (a1_3 : Int) : Option (Bool) := (impl_common.f a0_0 a0_1 a0_2 a0_3 a1_0 a1_1 a1_2 a1_3).bind fun bt282 => ((impl_IsBox.f a0_0 a0_1 a0_2 a0_3).bind fun t284 => (if t284 = true then ((impl_IsBox.f a1_0 a1_1 a1_2 a1_3).bind fun t285 => (if t285 = true then (if bt282.1 ≥ 0 then (some (decide (bt282.2 ≥ 0))) else (some false)) else (some false))) else (some false)))
set_option maxHeartbeats 8000000 in
set_option maxRecDepth 100000 in
theorem impl_BoxesMeet.calls (a0_0 : Int) (a0_1 : Int) (a0_2 : Int) (a0_3 : Int) (a1_0 : Int) (a1_1 : Int) (a1_2 : Int) (a1_3 : Int) (r : Bool) (w : World) (h : impl_BoxesMeet.f a0_0 a0_1 a0_2 a0_3 a1_0 a1_1 a1_2 a1_3 = some r) :
  Calls Try.prog 15 #[.agg #[.int .i64 a0_0, .int .i64 a0_1, .int .i64 a0_2, .int .i64 a0_3], .agg #[.int .i64 a1_0, .int .i64 a1_1, .int .i64 a1_2, .int .i64 a1_3]] w fun e w' => e = .returned (.bool r) ∧ Below w.heap.size w w' := by
 have hu29 := Try.underlying29
 have HB := Aside0.mk (Below.refl w.heap.size w)
 have H : ((impl_common.f a0_0 a0_1 a0_2 a0_3 a1_0 a1_1 a1_2 a1_3).bind fun bt282 => ((impl_IsBox.f a0_0 a0_1 a0_2 a0_3).bind fun t284 => (if t284 = true then ((impl_IsBox.f a1_0 a1_1 a1_2 a1_3).bind fun t285 => (if t285 = true then (if bt282.1 ≥ 0 then (some (decide (bt282.2 ≥ 0))) else (some false)) else (some false))) else (some false)))) = some r := h
 clear h
 replace H := Option.bind_eq_some_iff.mp H
 obtain ⟨⟨t282, t283⟩, A30, H⟩ := H
 replace H : ((impl_IsBox.f a0_0 a0_1 a0_2 a0_3).bind fun t284 => (if t284 = true then ((impl_IsBox.f a1_0 a1_1 a1_2 a1_3).bind fun t285 => (if t285 = true then (if t282 ≥ 0 then (some (decide (t283 ≥ 0))) else (some false)) else (some false))) else (some false))) = some r := H
 have A3 := Aside0.mk A30
 clear A30
 replace H := Option.bind_eq_some_iff.mp H
 obtain ⟨t284, A40, H⟩ := H
 replace H : (if t284 = true then ((impl_IsBox.f a1_0 a1_1 a1_2 a1_3).bind fun t285 => (if t285 = true then (if t282 ≥ 0 then (some (decide (t283 ≥ 0))) else (some false)) else (some false))) else (some false)) = some r := H
 have A4 := Aside0.mk A40
 clear A40
 by_cases c5 : t284 = true
 ·
  subst c5
  have H1 : ((impl_IsBox.f a1_0 a1_1 a1_2 a1_3).bind fun t285 => (if t285 = true then (if t282 ≥ 0 then (some (decide (t283 ≥ 0))) else (some false)) else (some false))) = some r := by rw [if_pos rfl] at H; exact H
  clear H
  have H := H1
  clear H1
  replace H := Option.bind_eq_some_iff.mp H
  obtain ⟨t285, A60, H⟩ := H
  replace H : (if t285 = true then (if t282 ≥ 0 then (some (decide (t283 ≥ 0))) else (some false)) else (some false)) = some r := H
  have A6 := Aside0.mk A60
  clear A60
  by_cases c7 : t285 = true
  ·
   subst c7
   have H1 : (if t282 ≥ 0 then (some (decide (t283 ≥ 0))) else (some false)) = some r := by rw [if_pos rfl] at H; exact H
   clear H
   have H := H1
   clear H1
   by_cases c8 : t282 ≥ 0
   ·
    rw [if_pos c8] at H
    have c8b0 : decide (0 ≤ t282) = true := decide_eq_true c8
    clear c8
    obtain rfl := Option.some.inj H
    go_enter Try.func15, Try.ntmps15
    go_wp2_with (first | ((with_reducible refine gate_dst (N := 2) rfl ?_); refine Hd.box_ 2 (#[.int .i64 a0_0, .int .i64 a0_1, .int .i64 a0_2, .int .i64 a0_3]) 29 ?_; intro gb280 hg w9 hbox hb; have BK280 := Aside0.mk (hbox); have GW280 := Aside0.mk ((Hd.g_ hg Hd.b_ : w.heap.size ≤ gb280)); have GE280 := Aside0.mk ((Hd.g_ hg Hd.b_ : w.heap.size ≤ gb280)); replace HB := Aside0.mk (below_step Hd.b_ hb); clear hb hbox hg) | ((with_reducible refine gate_dst (N := 3) rfl ?_); refine Hd.box_ 3 (#[.int .i64 a1_0, .int .i64 a1_1, .int .i64 a1_2, .int .i64 a1_3]) 29 ?_; intro gb281 hg w10 hbox hb; have BK281 := Aside0.mk (hbox); have GW281 := Aside0.mk ((Hd.g_ hg Hd.b_ : w.heap.size ≤ gb281)); have GE281 := Aside0.mk ((Hd.g_ hg Hd.b_ : w.heap.size ≤ gb281)); replace HB := Aside0.mk (below_step Hd.b_ hb); have NB280_281 := Aside0.mk ((Hd.lt_ BK280 hg)); have NB281_280 := Aside0.mk ((Hd.gt_ BK280 hg)); replace BK280 := Aside0.mk (Hd.kb_ BK280 hb); clear hb hbox hg; have hnb11 := NB280_281.out; have hnc11 := NB281_280.out; obtain ⟨hcz12_0, hcz12_1, hcz12_2, hcz12_3⟩ := Hd.c4_ BK280.out; obtain ⟨hfz12_0, hfz12_1, hfz12_2, hfz12_3⟩ := Hd.f4_ BK280.out; obtain ⟨hcz13_0, hcz13_1, hcz13_2, hcz13_3⟩ := Hd.c4_ BK281.out; obtain ⟨hfz13_0, hfz13_1, hfz13_2, hfz13_3⟩ := Hd.f4_ BK281.out) | ((with_reducible refine gate_callee (f := 68) rfl ?_); refine goesL_ (some 10) rfl rfl Try.func68 (by kernel_rfl) rfl #[.agg #[.int .i64 a0_0, .int .i64 a0_1, .int .i64 a0_2, .int .i64 a0_3], .agg #[.int .i64 a1_0, .int .i64 a1_1, .int .i64 a1_2, .int .i64 a1_3]] rfl Hd.m_ ?_; (with_reducible refine (impl_common.calls a0_0 a0_1 a0_2 a0_3 a1_0 a1_1 a1_2 a1_3 t282 t283 _ A3.out).mono ?_); rintro e w14 ⟨rfl, hb⟩; refine ⟨_, rfl, ?_⟩; replace BK280 := Aside0.mk (Hd.kb_ BK280 hb); replace BK281 := Aside0.mk (Hd.kb_ BK281 hb); replace HB := Aside0.mk (below_step Hd.b_ hb); (try clear hb); (try clear hb2); (try clear hk); (try clear hi); obtain ⟨hcz15_0, hcz15_1, hcz15_2, hcz15_3⟩ := Hd.c4_ BK280.out; obtain ⟨hfz15_0, hfz15_1, hfz15_2, hfz15_3⟩ := Hd.f4_ BK280.out) | ((with_reducible refine gate_callee (f := 21) rfl ?_); refine goesL_ (some 14) rfl rfl Try.func21 (by kernel_rfl) rfl #[.agg #[.int .i64 a0_0, .int .i64 a0_1, .int .i64 a0_2, .int .i64 a0_3]] rfl Hd.m_ ?_; (with_reducible refine (impl_IsBox.calls a0_0 a0_1 a0_2 a0_3 true _ A4.out).mono ?_); rintro e w16 ⟨rfl, hb⟩; refine ⟨_, rfl, ?_⟩; replace BK280 := Aside0.mk (Hd.kb_ BK280 hb); replace BK281 := Aside0.mk (Hd.kb_ BK281 hb); replace HB := Aside0.mk (below_step Hd.b_ hb); (try clear hb); (try clear hb2); (try clear hk); (try clear hi); obtain ⟨hcz17_0, hcz17_1, hcz17_2, hcz17_3⟩ := Hd.c4_ BK281.out; obtain ⟨hfz17_0, hfz17_1, hfz17_2, hfz17_3⟩ := Hd.f4_ BK281.out) | (go_at_call 21; (with_reducible refine (impl_IsBox.calls a1_0 a1_1 a1_2 a1_3 true _ A6.out).mono ?_); rintro e w18 ⟨rfl, hb⟩; replace BK280 := Aside0.mk (Hd.kb_ BK280 hb); replace BK281 := Aside0.mk (Hd.kb_ BK281 hb); replace HB := Aside0.mk (below_step Hd.b_ hb); (try clear hb); (try clear hb2); (try clear hk); (try clear hi)))
    go_ret
    exact ⟨Hd.e_, Hd.b_⟩
   ·
    rw [if_neg c8] at H
    have c8b0 : decide (0 ≤ t282) = false := decide_eq_false c8
    clear c8
    obtain rfl := Option.some.inj H
    go_enter Try.func15, Try.ntmps15
    go_wp2_with (first | ((with_reducible refine gate_dst (N := 2) rfl ?_); refine Hd.box_ 2 (#[.int .i64 a0_0, .int .i64 a0_1, .int .i64 a0_2, .int .i64 a0_3]) 29 ?_; intro gb280 hg w19 hbox hb; have BK280 := Aside0.mk (hbox); have GW280 := Aside0.mk ((Hd.g_ hg Hd.b_ : w.heap.size ≤ gb280)); have GE280 := Aside0.mk ((Hd.g_ hg Hd.b_ : w.heap.size ≤ gb280)); replace HB := Aside0.mk (below_step Hd.b_ hb); clear hb hbox hg) | ((with_reducible refine gate_dst (N := 3) rfl ?_); refine Hd.box_ 3 (#[.int .i64 a1_0, .int .i64 a1_1, .int .i64 a1_2, .int .i64 a1_3]) 29 ?_; intro gb281 hg w20 hbox hb; have BK281 := Aside0.mk (hbox); have GW281 := Aside0.mk ((Hd.g_ hg Hd.b_ : w.heap.size ≤ gb281)); have GE281 := Aside0.mk ((Hd.g_ hg Hd.b_ : w.heap.size ≤ gb281)); replace HB := Aside0.mk (below_step Hd.b_ hb); have NB280_281 := Aside0.mk ((Hd.lt_ BK280 hg)); have NB281_280 := Aside0.mk ((Hd.gt_ BK280 hg)); replace BK280 := Aside0.mk (Hd.kb_ BK280 hb); clear hb hbox hg; have hnb21 := NB280_281.out; have hnc21 := NB281_280.out; obtain ⟨hcz22_0, hcz22_1, hcz22_2, hcz22_3⟩ := Hd.c4_ BK280.out; obtain ⟨hfz22_0, hfz22_1, hfz22_2, hfz22_3⟩ := Hd.f4_ BK280.out; obtain ⟨hcz23_0, hcz23_1, hcz23_2, hcz23_3⟩ := Hd.c4_ BK281.out; obtain ⟨hfz23_0, hfz23_1, hfz23_2, hfz23_3⟩ := Hd.f4_ BK281.out) | ((with_reducible refine gate_callee (f := 68) rfl ?_); refine goesL_ (some 10) rfl rfl Try.func68 (by kernel_rfl) rfl #[.agg #[.int .i64 a0_0, .int .i64 a0_1, .int .i64 a0_2, .int .i64 a0_3], .agg #[.int .i64 a1_0, .int .i64 a1_1, .int .i64 a1_2, .int .i64 a1_3]] rfl Hd.m_ ?_; (with_reducible refine (impl_common.calls a0_0 a0_1 a0_2 a0_3 a1_0 a1_1 a1_2 a1_3 t282 t283 _ A3.out).mono ?_); rintro e w24 ⟨rfl, hb⟩; refine ⟨_, rfl, ?_⟩; replace BK280 := Aside0.mk (Hd.kb_ BK280 hb); replace BK281 := Aside0.mk (Hd.kb_ BK281 hb); replace HB := Aside0.mk (below_step Hd.b_ hb); (try clear hb); (try clear hb2); (try clear hk); (try clear hi); obtain ⟨hcz25_0, hcz25_1, hcz25_2, hcz25_3⟩ := Hd.c4_ BK280.out; obtain ⟨hfz25_0, hfz25_1, hfz25_2, hfz25_3⟩ := Hd.f4_ BK280.out) | ((with_reducible refine gate_callee (f := 21) rfl ?_); refine goesL_ (some 14) rfl rfl Try.func21 (by kernel_rfl) rfl #[.agg #[.int .i64 a0_0, .int .i64 a0_1, .int .i64 a0_2, .int .i64 a0_3]] rfl Hd.m_ ?_; (with_reducible refine (impl_IsBox.calls a0_0 a0_1 a0_2 a0_3 true _ A4.out).mono ?_); rintro e w26 ⟨rfl, hb⟩; refine ⟨_, rfl, ?_⟩; replace BK280 := Aside0.mk (Hd.kb_ BK280 hb); replace BK281 := Aside0.mk (Hd.kb_ BK281 hb); replace HB := Aside0.mk (below_step Hd.b_ hb); (try clear hb); (try clear hb2); (try clear hk); (try clear hi); obtain ⟨hcz27_0, hcz27_1, hcz27_2, hcz27_3⟩ := Hd.c4_ BK281.out; obtain ⟨hfz27_0, hfz27_1, hfz27_2, hfz27_3⟩ := Hd.f4_ BK281.out) | (go_at_call 21; (with_reducible refine (impl_IsBox.calls a1_0 a1_1 a1_2 a1_3 true _ A6.out).mono ?_); rintro e w28 ⟨rfl, hb⟩; replace BK280 := Aside0.mk (Hd.kb_ BK280 hb); replace BK281 := Aside0.mk (Hd.kb_ BK281 hb); replace HB := Aside0.mk (below_step Hd.b_ hb); (try clear hb); (try clear hb2); (try clear hk); (try clear hi)))
    go_ret
    exact ⟨Hd.e_, Hd.b_⟩
  ·
   replace c7 := Bool.eq_false_iff.mpr c7
   subst c7
   have H1 : (some false) = some r := by rw [if_neg (show ¬ (false = true) by decide)] at H; exact H
   clear H
   have H := H1
   clear H1
   obtain rfl := Option.some.inj H
   go_enter Try.func15, Try.ntmps15
   go_wp2_with (first | ((with_reducible refine gate_dst (N := 2) rfl ?_); refine Hd.box_ 2 (#[.int .i64 a0_0, .int .i64 a0_1, .int .i64 a0_2, .int .i64 a0_3]) 29 ?_; intro gb280 hg w29 hbox hb; have BK280 := Aside0.mk (hbox); have GW280 := Aside0.mk ((Hd.g_ hg Hd.b_ : w.heap.size ≤ gb280)); have GE280 := Aside0.mk ((Hd.g_ hg Hd.b_ : w.heap.size ≤ gb280)); replace HB := Aside0.mk (below_step Hd.b_ hb); clear hb hbox hg) | ((with_reducible refine gate_dst (N := 3) rfl ?_); refine Hd.box_ 3 (#[.int .i64 a1_0, .int .i64 a1_1, .int .i64 a1_2, .int .i64 a1_3]) 29 ?_; intro gb281 hg w30 hbox hb; have BK281 := Aside0.mk (hbox); have GW281 := Aside0.mk ((Hd.g_ hg Hd.b_ : w.heap.size ≤ gb281)); have GE281 := Aside0.mk ((Hd.g_ hg Hd.b_ : w.heap.size ≤ gb281)); replace HB := Aside0.mk (below_step Hd.b_ hb); have NB280_281 := Aside0.mk ((Hd.lt_ BK280 hg)); have NB281_280 := Aside0.mk ((Hd.gt_ BK280 hg)); replace BK280 := Aside0.mk (Hd.kb_ BK280 hb); clear hb hbox hg; have hnb31 := NB280_281.out; have hnc31 := NB281_280.out; obtain ⟨hcz32_0, hcz32_1, hcz32_2, hcz32_3⟩ := Hd.c4_ BK280.out; obtain ⟨hfz32_0, hfz32_1, hfz32_2, hfz32_3⟩ := Hd.f4_ BK280.out; obtain ⟨hcz33_0, hcz33_1, hcz33_2, hcz33_3⟩ := Hd.c4_ BK281.out; obtain ⟨hfz33_0, hfz33_1, hfz33_2, hfz33_3⟩ := Hd.f4_ BK281.out) | ((with_reducible refine gate_callee (f := 68) rfl ?_); refine goesL_ (some 10) rfl rfl Try.func68 (by kernel_rfl) rfl #[.agg #[.int .i64 a0_0, .int .i64 a0_1, .int .i64 a0_2, .int .i64 a0_3], .agg #[.int .i64 a1_0, .int .i64 a1_1, .int .i64 a1_2, .int .i64 a1_3]] rfl Hd.m_ ?_; (with_reducible refine (impl_common.calls a0_0 a0_1 a0_2 a0_3 a1_0 a1_1 a1_2 a1_3 t282 t283 _ A3.out).mono ?_); rintro e w34 ⟨rfl, hb⟩; refine ⟨_, rfl, ?_⟩; replace BK280 := Aside0.mk (Hd.kb_ BK280 hb); replace BK281 := Aside0.mk (Hd.kb_ BK281 hb); replace HB := Aside0.mk (below_step Hd.b_ hb); (try clear hb); (try clear hb2); (try clear hk); (try clear hi); obtain ⟨hcz35_0, hcz35_1, hcz35_2, hcz35_3⟩ := Hd.c4_ BK280.out; obtain ⟨hfz35_0, hfz35_1, hfz35_2, hfz35_3⟩ := Hd.f4_ BK280.out) | ((with_reducible refine gate_callee (f := 21) rfl ?_); refine goesL_ (some 14) rfl rfl Try.func21 (by kernel_rfl) rfl #[.agg #[.int .i64 a0_0, .int .i64 a0_1, .int .i64 a0_2, .int .i64 a0_3]] rfl Hd.m_ ?_; (with_reducible refine (impl_IsBox.calls a0_0 a0_1 a0_2 a0_3 true _ A4.out).mono ?_); rintro e w36 ⟨rfl, hb⟩; refine ⟨_, rfl, ?_⟩; replace BK280 := Aside0.mk (Hd.kb_ BK280 hb); replace BK281 := Aside0.mk (Hd.kb_ BK281 hb); replace HB := Aside0.mk (below_step Hd.b_ hb); (try clear hb); (try clear hb2); (try clear hk); (try clear hi); obtain ⟨hcz37_0, hcz37_1, hcz37_2, hcz37_3⟩ := Hd.c4_ BK281.out; obtain ⟨hfz37_0, hfz37_1, hfz37_2, hfz37_3⟩ := Hd.f4_ BK281.out) | (go_at_call 21; (with_reducible refine (impl_IsBox.calls a1_0 a1_1 a1_2 a1_3 false _ A6.out).mono ?_); rintro e w38 ⟨rfl, hb⟩; replace BK280 := Aside0.mk (Hd.kb_ BK280 hb); replace BK281 := Aside0.mk (Hd.kb_ BK281 hb); replace HB := Aside0.mk (below_step Hd.b_ hb); (try clear hb); (try clear hb2); (try clear hk); (try clear hi)))
   go_ret
   exact ⟨Hd.e_, Hd.b_⟩
 ·
  replace c5 := Bool.eq_false_iff.mpr c5
  subst c5
  have H1 : (some false) = some r := by rw [if_neg (show ¬ (false = true) by decide)] at H; exact H
  clear H
  have H := H1
  clear H1
  obtain rfl := Option.some.inj H
  go_enter Try.func15, Try.ntmps15
  go_wp2_with (first | ((with_reducible refine gate_dst (N := 2) rfl ?_); refine Hd.box_ 2 (#[.int .i64 a0_0, .int .i64 a0_1, .int .i64 a0_2, .int .i64 a0_3]) 29 ?_; intro gb280 hg w39 hbox hb; have BK280 := Aside0.mk (hbox); have GW280 := Aside0.mk ((Hd.g_ hg Hd.b_ : w.heap.size ≤ gb280)); have GE280 := Aside0.mk ((Hd.g_ hg Hd.b_ : w.heap.size ≤ gb280)); replace HB := Aside0.mk (below_step Hd.b_ hb); clear hb hbox hg) | ((with_reducible refine gate_dst (N := 3) rfl ?_); refine Hd.box_ 3 (#[.int .i64 a1_0, .int .i64 a1_1, .int .i64 a1_2, .int .i64 a1_3]) 29 ?_; intro gb281 hg w40 hbox hb; have BK281 := Aside0.mk (hbox); have GW281 := Aside0.mk ((Hd.g_ hg Hd.b_ : w.heap.size ≤ gb281)); have GE281 := Aside0.mk ((Hd.g_ hg Hd.b_ : w.heap.size ≤ gb281)); replace HB := Aside0.mk (below_step Hd.b_ hb); have NB280_281 := Aside0.mk ((Hd.lt_ BK280 hg)); have NB281_280 := Aside0.mk ((Hd.gt_ BK280 hg)); replace BK280 := Aside0.mk (Hd.kb_ BK280 hb); clear hb hbox hg; have hnb41 := NB280_281.out; have hnc41 := NB281_280.out; obtain ⟨hcz42_0, hcz42_1, hcz42_2, hcz42_3⟩ := Hd.c4_ BK280.out; obtain ⟨hfz42_0, hfz42_1, hfz42_2, hfz42_3⟩ := Hd.f4_ BK280.out; obtain ⟨hcz43_0, hcz43_1, hcz43_2, hcz43_3⟩ := Hd.c4_ BK281.out; obtain ⟨hfz43_0, hfz43_1, hfz43_2, hfz43_3⟩ := Hd.f4_ BK281.out) | ((with_reducible refine gate_callee (f := 68) rfl ?_); refine goesL_ (some 10) rfl rfl Try.func68 (by kernel_rfl) rfl #[.agg #[.int .i64 a0_0, .int .i64 a0_1, .int .i64 a0_2, .int .i64 a0_3], .agg #[.int .i64 a1_0, .int .i64 a1_1, .int .i64 a1_2, .int .i64 a1_3]] rfl Hd.m_ ?_; (with_reducible refine (impl_common.calls a0_0 a0_1 a0_2 a0_3 a1_0 a1_1 a1_2 a1_3 t282 t283 _ A3.out).mono ?_); rintro e w44 ⟨rfl, hb⟩; refine ⟨_, rfl, ?_⟩; replace BK280 := Aside0.mk (Hd.kb_ BK280 hb); replace BK281 := Aside0.mk (Hd.kb_ BK281 hb); replace HB := Aside0.mk (below_step Hd.b_ hb); (try clear hb); (try clear hb2); (try clear hk); (try clear hi); obtain ⟨hcz45_0, hcz45_1, hcz45_2, hcz45_3⟩ := Hd.c4_ BK280.out; obtain ⟨hfz45_0, hfz45_1, hfz45_2, hfz45_3⟩ := Hd.f4_ BK280.out) | ((with_reducible refine gate_callee (f := 21) rfl ?_); refine goesL_ (some 14) rfl rfl Try.func21 (by kernel_rfl) rfl #[.agg #[.int .i64 a0_0, .int .i64 a0_1, .int .i64 a0_2, .int .i64 a0_3]] rfl Hd.m_ ?_; (with_reducible refine (impl_IsBox.calls a0_0 a0_1 a0_2 a0_3 false _ A4.out).mono ?_); rintro e w46 ⟨rfl, hb⟩; refine ⟨_, rfl, ?_⟩; replace BK280 := Aside0.mk (Hd.kb_ BK280 hb); replace BK281 := Aside0.mk (Hd.kb_ BK281 hb); replace HB := Aside0.mk (below_step Hd.b_ hb); (try clear hb); (try clear hb2); (try clear hk); (try clear hi)))
  go_ret
  exact ⟨Hd.e_, Hd.b_⟩
def spec_l1In.f (a0 : Int) (a1 : Int) (a2 : Int) : Option (Bool) := if a0 ≥ a1 then (some (decide (a0 ≤ a2))) else (some false)
set_option maxHeartbeats 8000000 in
set_option maxRecDepth 100000 in
theorem spec_l1In.calls (a0 : Int) (a1 : Int) (a2 : Int) (r : Bool) (w : World) (h : spec_l1In.f a0 a1 a2 = some r) :
  Calls Try.prog 74 #[.int .i64 a0, .int .i64 a1, .int .i64 a2] w fun e w' => e = .returned (.bool r) ∧ Drawn0 w w' := by
 have H : (if a0 ≥ a1 then (some (decide (a0 ≤ a2))) else (some false)) = some r := h
 clear h
 by_cases c4 : a0 ≥ a1
 ·
  rw [if_pos c4] at H
  have c4b0 : decide (a1 ≤ a0) = true := decide_eq_true c4
  clear c4
  obtain rfl := Option.some.inj H
  go_enter Try.func74, Try.ntmps74
  go_wp2
  go_ret
  exact ⟨by first | rfl | (simp; done) | (simp [*]; done), by repeat (first | exact Drawn0.refl _ | apply Drawn0.step)⟩
 ·
  rw [if_neg c4] at H
  have c4b0 : decide (a1 ≤ a0) = false := decide_eq_false c4
  clear c4
  obtain rfl := Option.some.inj H
  go_enter Try.func74, Try.ntmps74
  go_wp2
  go_ret
  exact ⟨by first | rfl | (simp; done) | (simp [*]; done), by repeat (first | exact Drawn0.refl _ | apply Drawn0.step)⟩
def spec_IsPoint.f (a0_0 : Int) (a0_1 : Int) : Option (Bool) := (spec_l1In.f a0_0 0 200).bind fun t287 => (if t287 = true then ((spec_l1In.f a0_1 0 200).bind fun t288 => (some t288)) else (some false))
set_option maxHeartbeats 8000000 in
set_option maxRecDepth 100000 in
theorem spec_IsPoint.calls (a0_0 : Int) (a0_1 : Int) (r : Bool) (w : World) (h : spec_IsPoint.f a0_0 a0_1 = some r) :
  Calls Try.prog 102 #[.agg #[.int .i64 a0_0, .int .i64 a0_1]] w fun e w' => e = .returned (.bool r) ∧ Below w.heap.size w w' := by
 have hu27 := Try.underlying27
 have HB := Aside0.mk (Below.refl w.heap.size w)
 have H : ((spec_l1In.f a0_0 0 200).bind fun t287 => (if t287 = true then ((spec_l1In.f a0_1 0 200).bind fun t288 => (some t288)) else (some false))) = some r := h
 clear h
 replace H := Option.bind_eq_some_iff.mp H
 obtain ⟨t287, A20, H⟩ := H
 replace H : (if t287 = true then ((spec_l1In.f a0_1 0 200).bind fun t288 => (some t288)) else (some false)) = some r := H
 have A2 := Aside0.mk A20
 clear A20
 by_cases c3 : t287 = true
 ·
  subst c3
  have H1 : ((spec_l1In.f a0_1 0 200).bind fun t288 => (some t288)) = some r := by rw [if_pos rfl] at H; exact H
  clear H
  have H := H1
  clear H1
  replace H := Option.bind_eq_some_iff.mp H
  obtain ⟨t288, A40, H⟩ := H
  replace H : (some t288) = some r := H
  have A4 := Aside0.mk A40
  clear A40
  obtain rfl := Option.some.inj H
  go_enter Try.func102, Try.ntmps102
  go_wp2_with (first | ((with_reducible refine gate_dst (N := 1) rfl ?_); refine Hd.box_ 1 (#[.int .i64 a0_0, .int .i64 a0_1]) 27 ?_; intro gb286 hg w5 hbox hb; have BK286 := Aside0.mk (hbox); have GW286 := Aside0.mk ((Hd.g_ hg Hd.b_ : w.heap.size ≤ gb286)); have GE286 := Aside0.mk ((Hd.g_ hg Hd.b_ : w.heap.size ≤ gb286)); replace HB := Aside0.mk (below_step Hd.b_ hb); clear hb hbox hg; obtain ⟨hcz6_0, hcz6_1⟩ := Hd.c2_ BK286.out; obtain ⟨hfz6_0, hfz6_1⟩ := Hd.f2_ BK286.out) | ((with_reducible refine gate_callee (f := 74) rfl ?_); refine goesL_ (some 5) rfl rfl Try.func74 (by kernel_rfl) rfl #[.int .i64 a0_0, .int .i64 0, .int .i64 200] rfl Hd.m_ ?_; (with_reducible refine (spec_l1In.calls a0_0 0 200 true _ A2.out).mono ?_); rintro e w' ⟨rfl, ⟨nd, rfl⟩⟩; refine ⟨_, rfl, ?_⟩) | (go_at_call 74; (with_reducible refine (spec_l1In.calls a0_1 0 200 t288 _ A4.out).mono ?_); rintro e w' ⟨rfl, ⟨nd, rfl⟩⟩))
  go_ret
  exact ⟨Hd.e_, Hd.b_⟩
 ·
  replace c3 := Bool.eq_false_iff.mpr c3
  subst c3
  have H1 : (some false) = some r := by rw [if_neg (show ¬ (false = true) by decide)] at H; exact H
  clear H
  have H := H1
  clear H1
  obtain rfl := Option.some.inj H
  go_enter Try.func102, Try.ntmps102
  go_wp2_with (first | ((with_reducible refine gate_dst (N := 1) rfl ?_); refine Hd.box_ 1 (#[.int .i64 a0_0, .int .i64 a0_1]) 27 ?_; intro gb286 hg w7 hbox hb; have BK286 := Aside0.mk (hbox); have GW286 := Aside0.mk ((Hd.g_ hg Hd.b_ : w.heap.size ≤ gb286)); have GE286 := Aside0.mk ((Hd.g_ hg Hd.b_ : w.heap.size ≤ gb286)); replace HB := Aside0.mk (below_step Hd.b_ hb); clear hb hbox hg; obtain ⟨hcz8_0, hcz8_1⟩ := Hd.c2_ BK286.out; obtain ⟨hfz8_0, hfz8_1⟩ := Hd.f2_ BK286.out) | ((with_reducible refine gate_callee (f := 74) rfl ?_); refine goesL_ (some 5) rfl rfl Try.func74 (by kernel_rfl) rfl #[.int .i64 a0_0, .int .i64 0, .int .i64 200] rfl Hd.m_ ?_; (with_reducible refine (spec_l1In.calls a0_0 0 200 false _ A2.out).mono ?_); rintro e w' ⟨rfl, ⟨nd, rfl⟩⟩; refine ⟨_, rfl, ?_⟩))
  go_ret
  exact ⟨Hd.e_, Hd.b_⟩
def spec_IsBox.f (a0_0 : Int) (a0_1 : Int) (a0_2 : Int) (a0_3 : Int) : Option (Bool) := (spec_IsPoint.f a0_0 a0_1).bind fun t290 => (if t290 = true then ((spec_IsPoint.f a0_2 a0_3).bind fun t291 => (if t291 = true then (if a0_0 ≤ a0_2 then (some (decide (a0_1 ≤ a0_3))) else (some false)) else (some false))) else (some false))
set_option maxHeartbeats 8000000 in
set_option maxRecDepth 100000 in
theorem spec_IsBox.calls (a0_0 : Int) (a0_1 : Int) (a0_2 : Int) (a0_3 : Int) (r : Bool) (w : World) (h : spec_IsBox.f a0_0 a0_1 a0_2 a0_3 = some r) :
  Calls Try.prog 69 #[.agg #[.int .i64 a0_0, .int .i64 a0_1, .int .i64 a0_2, .int .i64 a0_3]] w fun e w' => e = .returned (.bool r) ∧ Below w.heap.size w w' := by
 have hu29 := Try.underlying29
 have hu27 := Try.underlying27
 have HB := Aside0.mk (Below.refl w.heap.size w)
 have H : ((spec_IsPoint.f a0_0 a0_1).bind fun t290 => (if t290 = true then ((spec_IsPoint.f a0_2 a0_3).bind fun t291 => (if t291 = true then (if a0_0 ≤ a0_2 then (some (decide (a0_1 ≤ a0_3))) else (some false)) else (some false))) else (some false))) = some r := h
 clear h
 replace H := Option.bind_eq_some_iff.mp H
 obtain ⟨t290, A20, H⟩ := H
 replace H : (if t290 = true then ((spec_IsPoint.f a0_2 a0_3).bind fun t291 => (if t291 = true then (if a0_0 ≤ a0_2 then (some (decide (a0_1 ≤ a0_3))) else (some false)) else (some false))) else (some false)) = some r := H
 have A2 := Aside0.mk A20
 clear A20
 by_cases c3 : t290 = true
 ·
  subst c3
  have H1 : ((spec_IsPoint.f a0_2 a0_3).bind fun t291 => (if t291 = true then (if a0_0 ≤ a0_2 then (some (decide (a0_1 ≤ a0_3))) else (some false)) else (some false))) = some r := by rw [if_pos rfl] at H; exact H
  clear H
  have H := H1
  clear H1
  replace H := Option.bind_eq_some_iff.mp H
  obtain ⟨t291, A40, H⟩ := H
  replace H : (if t291 = true then (if a0_0 ≤ a0_2 then (some (decide (a0_1 ≤ a0_3))) else (some false)) else (some false)) = some r := H
  have A4 := Aside0.mk A40
  clear A40
  by_cases c5 : t291 = true
  ·
   subst c5
   have H1 : (if a0_0 ≤ a0_2 then (some (decide (a0_1 ≤ a0_3))) else (some false)) = some r := by rw [if_pos rfl] at H; exact H
   clear H
   have H := H1
   clear H1
   by_cases c6 : a0_0 ≤ a0_2
   ·
    rw [if_pos c6] at H
    have c6b0 : decide (a0_0 ≤ a0_2) = true := decide_eq_true c6
    clear c6
    obtain rfl := Option.some.inj H
    go_enter Try.func69, Try.ntmps69
    go_wp2_with (first | ((with_reducible refine gate_dst (N := 1) rfl ?_); refine Hd.box_ 1 (#[.int .i64 a0_0, .int .i64 a0_1, .int .i64 a0_2, .int .i64 a0_3]) 29 ?_; intro gb289 hg w7 hbox hb; have BK289 := Aside0.mk (hbox); have GW289 := Aside0.mk ((Hd.g_ hg Hd.b_ : w.heap.size ≤ gb289)); have GE289 := Aside0.mk ((Hd.g_ hg Hd.b_ : w.heap.size ≤ gb289)); replace HB := Aside0.mk (below_step Hd.b_ hb); clear hb hbox hg; obtain ⟨hcz8_0, hcz8_1, hcz8_2, hcz8_3⟩ := Hd.c4_ BK289.out; obtain ⟨hfz8_0, hfz8_1, hfz8_2, hfz8_3⟩ := Hd.f4_ BK289.out) | ((with_reducible refine gate_callee (f := 102) rfl ?_); refine goesL_ (some 5) rfl rfl Try.func102 (by kernel_rfl) rfl #[.agg #[.int .i64 a0_0, .int .i64 a0_1]] rfl Hd.m_ ?_; (with_reducible refine (spec_IsPoint.calls a0_0 a0_1 true _ A2.out).mono ?_); rintro e w9 ⟨rfl, hb⟩; refine ⟨_, rfl, ?_⟩; replace BK289 := Aside0.mk (Hd.kb_ BK289 hb); replace HB := Aside0.mk (below_step Hd.b_ hb); (try clear hb); (try clear hb2); (try clear hk); (try clear hi); obtain ⟨hcz10_0, hcz10_1, hcz10_2, hcz10_3⟩ := Hd.c4_ BK289.out; obtain ⟨hfz10_0, hfz10_1, hfz10_2, hfz10_3⟩ := Hd.f4_ BK289.out) | (go_at_call 102; (with_reducible refine (spec_IsPoint.calls a0_2 a0_3 true _ A4.out).mono ?_); rintro e w11 ⟨rfl, hb⟩; replace BK289 := Aside0.mk (Hd.kb_ BK289 hb); replace HB := Aside0.mk (below_step Hd.b_ hb); (try clear hb); (try clear hb2); (try clear hk); (try clear hi); obtain ⟨hcz12_0, hcz12_1, hcz12_2, hcz12_3⟩ := Hd.c4_ BK289.out; obtain ⟨hfz12_0, hfz12_1, hfz12_2, hfz12_3⟩ := Hd.f4_ BK289.out))
    go_ret
    exact ⟨Hd.e_, Hd.b_⟩
   ·
    rw [if_neg c6] at H
    have c6b0 : decide (a0_0 ≤ a0_2) = false := decide_eq_false c6
    clear c6
    obtain rfl := Option.some.inj H
    go_enter Try.func69, Try.ntmps69
    go_wp2_with (first | ((with_reducible refine gate_dst (N := 1) rfl ?_); refine Hd.box_ 1 (#[.int .i64 a0_0, .int .i64 a0_1, .int .i64 a0_2, .int .i64 a0_3]) 29 ?_; intro gb289 hg w13 hbox hb; have BK289 := Aside0.mk (hbox); have GW289 := Aside0.mk ((Hd.g_ hg Hd.b_ : w.heap.size ≤ gb289)); have GE289 := Aside0.mk ((Hd.g_ hg Hd.b_ : w.heap.size ≤ gb289)); replace HB := Aside0.mk (below_step Hd.b_ hb); clear hb hbox hg; obtain ⟨hcz14_0, hcz14_1, hcz14_2, hcz14_3⟩ := Hd.c4_ BK289.out; obtain ⟨hfz14_0, hfz14_1, hfz14_2, hfz14_3⟩ := Hd.f4_ BK289.out) | ((with_reducible refine gate_callee (f := 102) rfl ?_); refine goesL_ (some 5) rfl rfl Try.func102 (by kernel_rfl) rfl #[.agg #[.int .i64 a0_0, .int .i64 a0_1]] rfl Hd.m_ ?_; (with_reducible refine (spec_IsPoint.calls a0_0 a0_1 true _ A2.out).mono ?_); rintro e w15 ⟨rfl, hb⟩; refine ⟨_, rfl, ?_⟩; replace BK289 := Aside0.mk (Hd.kb_ BK289 hb); replace HB := Aside0.mk (below_step Hd.b_ hb); (try clear hb); (try clear hb2); (try clear hk); (try clear hi); obtain ⟨hcz16_0, hcz16_1, hcz16_2, hcz16_3⟩ := Hd.c4_ BK289.out; obtain ⟨hfz16_0, hfz16_1, hfz16_2, hfz16_3⟩ := Hd.f4_ BK289.out) | (go_at_call 102; (with_reducible refine (spec_IsPoint.calls a0_2 a0_3 true _ A4.out).mono ?_); rintro e w17 ⟨rfl, hb⟩; replace BK289 := Aside0.mk (Hd.kb_ BK289 hb); replace HB := Aside0.mk (below_step Hd.b_ hb); (try clear hb); (try clear hb2); (try clear hk); (try clear hi); obtain ⟨hcz18_0, hcz18_1, hcz18_2, hcz18_3⟩ := Hd.c4_ BK289.out; obtain ⟨hfz18_0, hfz18_1, hfz18_2, hfz18_3⟩ := Hd.f4_ BK289.out))
    go_ret
    exact ⟨Hd.e_, Hd.b_⟩
  ·
   replace c5 := Bool.eq_false_iff.mpr c5
   subst c5
   have H1 : (some false) = some r := by rw [if_neg (show ¬ (false = true) by decide)] at H; exact H
   clear H
   have H := H1
   clear H1
   obtain rfl := Option.some.inj H
   go_enter Try.func69, Try.ntmps69
   go_wp2_with (first | ((with_reducible refine gate_dst (N := 1) rfl ?_); refine Hd.box_ 1 (#[.int .i64 a0_0, .int .i64 a0_1, .int .i64 a0_2, .int .i64 a0_3]) 29 ?_; intro gb289 hg w19 hbox hb; have BK289 := Aside0.mk (hbox); have GW289 := Aside0.mk ((Hd.g_ hg Hd.b_ : w.heap.size ≤ gb289)); have GE289 := Aside0.mk ((Hd.g_ hg Hd.b_ : w.heap.size ≤ gb289)); replace HB := Aside0.mk (below_step Hd.b_ hb); clear hb hbox hg; obtain ⟨hcz20_0, hcz20_1, hcz20_2, hcz20_3⟩ := Hd.c4_ BK289.out; obtain ⟨hfz20_0, hfz20_1, hfz20_2, hfz20_3⟩ := Hd.f4_ BK289.out) | ((with_reducible refine gate_callee (f := 102) rfl ?_); refine goesL_ (some 5) rfl rfl Try.func102 (by kernel_rfl) rfl #[.agg #[.int .i64 a0_0, .int .i64 a0_1]] rfl Hd.m_ ?_; (with_reducible refine (spec_IsPoint.calls a0_0 a0_1 true _ A2.out).mono ?_); rintro e w21 ⟨rfl, hb⟩; refine ⟨_, rfl, ?_⟩; replace BK289 := Aside0.mk (Hd.kb_ BK289 hb); replace HB := Aside0.mk (below_step Hd.b_ hb); (try clear hb); (try clear hb2); (try clear hk); (try clear hi); obtain ⟨hcz22_0, hcz22_1, hcz22_2, hcz22_3⟩ := Hd.c4_ BK289.out; obtain ⟨hfz22_0, hfz22_1, hfz22_2, hfz22_3⟩ := Hd.f4_ BK289.out) | (go_at_call 102; (with_reducible refine (spec_IsPoint.calls a0_2 a0_3 false _ A4.out).mono ?_); rintro e w23 ⟨rfl, hb⟩; replace BK289 := Aside0.mk (Hd.kb_ BK289 hb); replace HB := Aside0.mk (below_step Hd.b_ hb); (try clear hb); (try clear hb2); (try clear hk); (try clear hi)))
   go_ret
   exact ⟨Hd.e_, Hd.b_⟩
 ·
  replace c3 := Bool.eq_false_iff.mpr c3
  subst c3
  have H1 : (some false) = some r := by rw [if_neg (show ¬ (false = true) by decide)] at H; exact H
  clear H
  have H := H1
  clear H1
  obtain rfl := Option.some.inj H
  go_enter Try.func69, Try.ntmps69
  go_wp2_with (first | ((with_reducible refine gate_dst (N := 1) rfl ?_); refine Hd.box_ 1 (#[.int .i64 a0_0, .int .i64 a0_1, .int .i64 a0_2, .int .i64 a0_3]) 29 ?_; intro gb289 hg w24 hbox hb; have BK289 := Aside0.mk (hbox); have GW289 := Aside0.mk ((Hd.g_ hg Hd.b_ : w.heap.size ≤ gb289)); have GE289 := Aside0.mk ((Hd.g_ hg Hd.b_ : w.heap.size ≤ gb289)); replace HB := Aside0.mk (below_step Hd.b_ hb); clear hb hbox hg; obtain ⟨hcz25_0, hcz25_1, hcz25_2, hcz25_3⟩ := Hd.c4_ BK289.out; obtain ⟨hfz25_0, hfz25_1, hfz25_2, hfz25_3⟩ := Hd.f4_ BK289.out) | ((with_reducible refine gate_callee (f := 102) rfl ?_); refine goesL_ (some 5) rfl rfl Try.func102 (by kernel_rfl) rfl #[.agg #[.int .i64 a0_0, .int .i64 a0_1]] rfl Hd.m_ ?_; (with_reducible refine (spec_IsPoint.calls a0_0 a0_1 false _ A2.out).mono ?_); rintro e w26 ⟨rfl, hb⟩; refine ⟨_, rfl, ?_⟩; replace BK289 := Aside0.mk (Hd.kb_ BK289 hb); replace HB := Aside0.mk (below_step Hd.b_ hb); (try clear hb); (try clear hb2); (try clear hk); (try clear hi)))
  go_ret
  exact ⟨Hd.e_, Hd.b_⟩
def spec_BoxesMeet.f (a0_0 : Int) (a0_1 : Int) (a0_2 : Int) (a0_3 : Int) (a1_0 : Int) (a1_1 : Int) (a1_2 : Int) (a1_3 : Int) : Option (Bool) := (spec_IsBox.f a0_0 a0_1 a0_2 a0_3).bind fun t294 => (if t294 = true then ((spec_IsBox.f a1_0 a1_1 a1_2 a1_3).bind fun t295 => (if t295 = true then (if a0_0 ≤ a1_2 then (if a1_0 ≤ a0_2 then (if a0_1 ≤ a1_3 then (some (decide (a1_1 ≤ a0_3))) else (some false)) else (some false)) else (some false)) else (some false))) else (some false))
set_option maxHeartbeats 8000000 in
set_option maxRecDepth 100000 in
theorem spec_BoxesMeet.calls (a0_0 : Int) (a0_1 : Int) (a0_2 : Int) (a0_3 : Int) (a1_0 : Int) (a1_1 : Int) (a1_2 : Int) (a1_3 : Int) (r : Bool) (w : World) (h : spec_BoxesMeet.f a0_0 a0_1 a0_2 a0_3 a1_0 a1_1 a1_2 a1_3 = some r) :
  Calls Try.prog 16 #[.agg #[.int .i64 a0_0, .int .i64 a0_1, .int .i64 a0_2, .int .i64 a0_3], .agg #[.int .i64 a1_0, .int .i64 a1_1, .int .i64 a1_2, .int .i64 a1_3]] w fun e w' => e = .returned (.bool r) ∧ Below w.heap.size w w' := by
 have hu29 := Try.underlying29
 have HB := Aside0.mk (Below.refl w.heap.size w)
 have H : ((spec_IsBox.f a0_0 a0_1 a0_2 a0_3).bind fun t294 => (if t294 = true then ((spec_IsBox.f a1_0 a1_1 a1_2 a1_3).bind fun t295 => (if t295 = true then (if a0_0 ≤ a1_2 then (if a1_0 ≤ a0_2 then (if a0_1 ≤ a1_3 then (some (decide (a1_1 ≤ a0_3))) else (some false)) else (some false)) else (some false)) else (some false))) else (some false))) = some r := h
 clear h
 replace H := Option.bind_eq_some_iff.mp H
 obtain ⟨t294, A30, H⟩ := H
 replace H : (if t294 = true then ((spec_IsBox.f a1_0 a1_1 a1_2 a1_3).bind fun t295 => (if t295 = true then (if a0_0 ≤ a1_2 then (if a1_0 ≤ a0_2 then (if a0_1 ≤ a1_3 then (some (decide (a1_1 ≤ a0_3))) else (some false)) else (some false)) else (some false)) else (some false))) else (some false)) = some r := H
 have A3 := Aside0.mk A30
 clear A30
 by_cases c4 : t294 = true
 ·
  subst c4
  have H1 : ((spec_IsBox.f a1_0 a1_1 a1_2 a1_3).bind fun t295 => (if t295 = true then (if a0_0 ≤ a1_2 then (if a1_0 ≤ a0_2 then (if a0_1 ≤ a1_3 then (some (decide (a1_1 ≤ a0_3))) else (some false)) else (some false)) else (some false)) else (some false))) = some r := by rw [if_pos rfl] at H; exact H
  clear H
  have H := H1
  clear H1
  replace H := Option.bind_eq_some_iff.mp H
  obtain ⟨t295, A50, H⟩ := H
  replace H : (if t295 = true then (if a0_0 ≤ a1_2 then (if a1_0 ≤ a0_2 then (if a0_1 ≤ a1_3 then (some (decide (a1_1 ≤ a0_3))) else (some false)) else (some false)) else (some false)) else (some false)) = some r := H
  have A5 := Aside0.mk A50
  clear A50
  by_cases c6 : t295 = true
  ·
   subst c6
   have H1 : (if a0_0 ≤ a1_2 then (if a1_0 ≤ a0_2 then (if a0_1 ≤ a1_3 then (some (decide (a1_1 ≤ a0_3))) else (some false)) else (some false)) else (some false)) = some r := by rw [if_pos rfl] at H; exact H
   clear H
   have H := H1
   clear H1
   by_cases c7 : a0_0 ≤ a1_2
   ·
    rw [if_pos c7] at H
    have c7b0 : decide (a0_0 ≤ a1_2) = true := decide_eq_true c7
    clear c7
    by_cases c8 : a1_0 ≤ a0_2
    ·
     rw [if_pos c8] at H
     have c8b0 : decide (a1_0 ≤ a0_2) = true := decide_eq_true c8
     clear c8
     by_cases c9 : a0_1 ≤ a1_3
     ·
      rw [if_pos c9] at H
      have c9b0 : decide (a0_1 ≤ a1_3) = true := decide_eq_true c9
      clear c9
      obtain rfl := Option.some.inj H
      go_enter Try.func16, Try.ntmps16
      go_wp2_with (first | ((with_reducible refine gate_dst (N := 2) rfl ?_); refine Hd.box_ 2 (#[.int .i64 a0_0, .int .i64 a0_1, .int .i64 a0_2, .int .i64 a0_3]) 29 ?_; intro gb292 hg w10 hbox hb; have BK292 := Aside0.mk (hbox); have GW292 := Aside0.mk ((Hd.g_ hg Hd.b_ : w.heap.size ≤ gb292)); have GE292 := Aside0.mk ((Hd.g_ hg Hd.b_ : w.heap.size ≤ gb292)); replace HB := Aside0.mk (below_step Hd.b_ hb); clear hb hbox hg) | ((with_reducible refine gate_dst (N := 3) rfl ?_); refine Hd.box_ 3 (#[.int .i64 a1_0, .int .i64 a1_1, .int .i64 a1_2, .int .i64 a1_3]) 29 ?_; intro gb293 hg w11 hbox hb; have BK293 := Aside0.mk (hbox); have GW293 := Aside0.mk ((Hd.g_ hg Hd.b_ : w.heap.size ≤ gb293)); have GE293 := Aside0.mk ((Hd.g_ hg Hd.b_ : w.heap.size ≤ gb293)); replace HB := Aside0.mk (below_step Hd.b_ hb); have NB292_293 := Aside0.mk ((Hd.lt_ BK292 hg)); have NB293_292 := Aside0.mk ((Hd.gt_ BK292 hg)); replace BK292 := Aside0.mk (Hd.kb_ BK292 hb); clear hb hbox hg; have hnb12 := NB292_293.out; have hnc12 := NB293_292.out; obtain ⟨hcz13_0, hcz13_1, hcz13_2, hcz13_3⟩ := Hd.c4_ BK292.out; obtain ⟨hfz13_0, hfz13_1, hfz13_2, hfz13_3⟩ := Hd.f4_ BK292.out) | ((with_reducible refine gate_callee (f := 69) rfl ?_); refine goesL_ (some 6) rfl rfl Try.func69 (by kernel_rfl) rfl #[.agg #[.int .i64 a0_0, .int .i64 a0_1, .int .i64 a0_2, .int .i64 a0_3]] rfl Hd.m_ ?_; (with_reducible refine (spec_IsBox.calls a0_0 a0_1 a0_2 a0_3 true _ A3.out).mono ?_); rintro e w14 ⟨rfl, hb⟩; refine ⟨_, rfl, ?_⟩; replace BK292 := Aside0.mk (Hd.kb_ BK292 hb); replace BK293 := Aside0.mk (Hd.kb_ BK293 hb); replace HB := Aside0.mk (below_step Hd.b_ hb); (try clear hb); (try clear hb2); (try clear hk); (try clear hi); obtain ⟨hcz15_0, hcz15_1, hcz15_2, hcz15_3⟩ := Hd.c4_ BK293.out; obtain ⟨hfz15_0, hfz15_1, hfz15_2, hfz15_3⟩ := Hd.f4_ BK293.out) | (go_at_call 69; (with_reducible refine (spec_IsBox.calls a1_0 a1_1 a1_2 a1_3 true _ A5.out).mono ?_); rintro e w16 ⟨rfl, hb⟩; replace BK292 := Aside0.mk (Hd.kb_ BK292 hb); replace BK293 := Aside0.mk (Hd.kb_ BK293 hb); replace HB := Aside0.mk (below_step Hd.b_ hb); (try clear hb); (try clear hb2); (try clear hk); (try clear hi); obtain ⟨hcz17_0, hcz17_1, hcz17_2, hcz17_3⟩ := Hd.c4_ BK292.out; obtain ⟨hfz17_0, hfz17_1, hfz17_2, hfz17_3⟩ := Hd.f4_ BK292.out; obtain ⟨hcz18_0, hcz18_1, hcz18_2, hcz18_3⟩ := Hd.c4_ BK293.out; obtain ⟨hfz18_0, hfz18_1, hfz18_2, hfz18_3⟩ := Hd.f4_ BK293.out))
      go_ret
      exact ⟨Hd.e_, Hd.b_⟩
     ·
      rw [if_neg c9] at H
      have c9b0 : decide (a0_1 ≤ a1_3) = false := decide_eq_false c9
      clear c9
      obtain rfl := Option.some.inj H
      go_enter Try.func16, Try.ntmps16
      go_wp2_with (first | ((with_reducible refine gate_dst (N := 2) rfl ?_); refine Hd.box_ 2 (#[.int .i64 a0_0, .int .i64 a0_1, .int .i64 a0_2, .int .i64 a0_3]) 29 ?_; intro gb292 hg w19 hbox hb; have BK292 := Aside0.mk (hbox); have GW292 := Aside0.mk ((Hd.g_ hg Hd.b_ : w.heap.size ≤ gb292)); have GE292 := Aside0.mk ((Hd.g_ hg Hd.b_ : w.heap.size ≤ gb292)); replace HB := Aside0.mk (below_step Hd.b_ hb); clear hb hbox hg) | ((with_reducible refine gate_dst (N := 3) rfl ?_); refine Hd.box_ 3 (#[.int .i64 a1_0, .int .i64 a1_1, .int .i64 a1_2, .int .i64 a1_3]) 29 ?_; intro gb293 hg w20 hbox hb; have BK293 := Aside0.mk (hbox); have GW293 := Aside0.mk ((Hd.g_ hg Hd.b_ : w.heap.size ≤ gb293)); have GE293 := Aside0.mk ((Hd.g_ hg Hd.b_ : w.heap.size ≤ gb293)); replace HB := Aside0.mk (below_step Hd.b_ hb); have NB292_293 := Aside0.mk ((Hd.lt_ BK292 hg)); have NB293_292 := Aside0.mk ((Hd.gt_ BK292 hg)); replace BK292 := Aside0.mk (Hd.kb_ BK292 hb); clear hb hbox hg; have hnb21 := NB292_293.out; have hnc21 := NB293_292.out; obtain ⟨hcz22_0, hcz22_1, hcz22_2, hcz22_3⟩ := Hd.c4_ BK292.out; obtain ⟨hfz22_0, hfz22_1, hfz22_2, hfz22_3⟩ := Hd.f4_ BK292.out) | ((with_reducible refine gate_callee (f := 69) rfl ?_); refine goesL_ (some 6) rfl rfl Try.func69 (by kernel_rfl) rfl #[.agg #[.int .i64 a0_0, .int .i64 a0_1, .int .i64 a0_2, .int .i64 a0_3]] rfl Hd.m_ ?_; (with_reducible refine (spec_IsBox.calls a0_0 a0_1 a0_2 a0_3 true _ A3.out).mono ?_); rintro e w23 ⟨rfl, hb⟩; refine ⟨_, rfl, ?_⟩; replace BK292 := Aside0.mk (Hd.kb_ BK292 hb); replace BK293 := Aside0.mk (Hd.kb_ BK293 hb); replace HB := Aside0.mk (below_step Hd.b_ hb); (try clear hb); (try clear hb2); (try clear hk); (try clear hi); obtain ⟨hcz24_0, hcz24_1, hcz24_2, hcz24_3⟩ := Hd.c4_ BK293.out; obtain ⟨hfz24_0, hfz24_1, hfz24_2, hfz24_3⟩ := Hd.f4_ BK293.out) | (go_at_call 69; (with_reducible refine (spec_IsBox.calls a1_0 a1_1 a1_2 a1_3 true _ A5.out).mono ?_); rintro e w25 ⟨rfl, hb⟩; replace BK292 := Aside0.mk (Hd.kb_ BK292 hb); replace BK293 := Aside0.mk (Hd.kb_ BK293 hb); replace HB := Aside0.mk (below_step Hd.b_ hb); (try clear hb); (try clear hb2); (try clear hk); (try clear hi); obtain ⟨hcz26_0, hcz26_1, hcz26_2, hcz26_3⟩ := Hd.c4_ BK292.out; obtain ⟨hfz26_0, hfz26_1, hfz26_2, hfz26_3⟩ := Hd.f4_ BK292.out; obtain ⟨hcz27_0, hcz27_1, hcz27_2, hcz27_3⟩ := Hd.c4_ BK293.out; obtain ⟨hfz27_0, hfz27_1, hfz27_2, hfz27_3⟩ := Hd.f4_ BK293.out))
      go_ret
      exact ⟨Hd.e_, Hd.b_⟩
    ·
     rw [if_neg c8] at H
     have c8b0 : decide (a1_0 ≤ a0_2) = false := decide_eq_false c8
     clear c8
     obtain rfl := Option.some.inj H
     go_enter Try.func16, Try.ntmps16
     go_wp2_with (first | ((with_reducible refine gate_dst (N := 2) rfl ?_); refine Hd.box_ 2 (#[.int .i64 a0_0, .int .i64 a0_1, .int .i64 a0_2, .int .i64 a0_3]) 29 ?_; intro gb292 hg w28 hbox hb; have BK292 := Aside0.mk (hbox); have GW292 := Aside0.mk ((Hd.g_ hg Hd.b_ : w.heap.size ≤ gb292)); have GE292 := Aside0.mk ((Hd.g_ hg Hd.b_ : w.heap.size ≤ gb292)); replace HB := Aside0.mk (below_step Hd.b_ hb); clear hb hbox hg) | ((with_reducible refine gate_dst (N := 3) rfl ?_); refine Hd.box_ 3 (#[.int .i64 a1_0, .int .i64 a1_1, .int .i64 a1_2, .int .i64 a1_3]) 29 ?_; intro gb293 hg w29 hbox hb; have BK293 := Aside0.mk (hbox); have GW293 := Aside0.mk ((Hd.g_ hg Hd.b_ : w.heap.size ≤ gb293)); have GE293 := Aside0.mk ((Hd.g_ hg Hd.b_ : w.heap.size ≤ gb293)); replace HB := Aside0.mk (below_step Hd.b_ hb); have NB292_293 := Aside0.mk ((Hd.lt_ BK292 hg)); have NB293_292 := Aside0.mk ((Hd.gt_ BK292 hg)); replace BK292 := Aside0.mk (Hd.kb_ BK292 hb); clear hb hbox hg; have hnb30 := NB292_293.out; have hnc30 := NB293_292.out; obtain ⟨hcz31_0, hcz31_1, hcz31_2, hcz31_3⟩ := Hd.c4_ BK292.out; obtain ⟨hfz31_0, hfz31_1, hfz31_2, hfz31_3⟩ := Hd.f4_ BK292.out) | ((with_reducible refine gate_callee (f := 69) rfl ?_); refine goesL_ (some 6) rfl rfl Try.func69 (by kernel_rfl) rfl #[.agg #[.int .i64 a0_0, .int .i64 a0_1, .int .i64 a0_2, .int .i64 a0_3]] rfl Hd.m_ ?_; (with_reducible refine (spec_IsBox.calls a0_0 a0_1 a0_2 a0_3 true _ A3.out).mono ?_); rintro e w32 ⟨rfl, hb⟩; refine ⟨_, rfl, ?_⟩; replace BK292 := Aside0.mk (Hd.kb_ BK292 hb); replace BK293 := Aside0.mk (Hd.kb_ BK293 hb); replace HB := Aside0.mk (below_step Hd.b_ hb); (try clear hb); (try clear hb2); (try clear hk); (try clear hi); obtain ⟨hcz33_0, hcz33_1, hcz33_2, hcz33_3⟩ := Hd.c4_ BK293.out; obtain ⟨hfz33_0, hfz33_1, hfz33_2, hfz33_3⟩ := Hd.f4_ BK293.out) | (go_at_call 69; (with_reducible refine (spec_IsBox.calls a1_0 a1_1 a1_2 a1_3 true _ A5.out).mono ?_); rintro e w34 ⟨rfl, hb⟩; replace BK292 := Aside0.mk (Hd.kb_ BK292 hb); replace BK293 := Aside0.mk (Hd.kb_ BK293 hb); replace HB := Aside0.mk (below_step Hd.b_ hb); (try clear hb); (try clear hb2); (try clear hk); (try clear hi); obtain ⟨hcz35_0, hcz35_1, hcz35_2, hcz35_3⟩ := Hd.c4_ BK292.out; obtain ⟨hfz35_0, hfz35_1, hfz35_2, hfz35_3⟩ := Hd.f4_ BK292.out; obtain ⟨hcz36_0, hcz36_1, hcz36_2, hcz36_3⟩ := Hd.c4_ BK293.out; obtain ⟨hfz36_0, hfz36_1, hfz36_2, hfz36_3⟩ := Hd.f4_ BK293.out))
     go_ret
     exact ⟨Hd.e_, Hd.b_⟩
   ·
    rw [if_neg c7] at H
    have c7b0 : decide (a0_0 ≤ a1_2) = false := decide_eq_false c7
    clear c7
    obtain rfl := Option.some.inj H
    go_enter Try.func16, Try.ntmps16
    go_wp2_with (first | ((with_reducible refine gate_dst (N := 2) rfl ?_); refine Hd.box_ 2 (#[.int .i64 a0_0, .int .i64 a0_1, .int .i64 a0_2, .int .i64 a0_3]) 29 ?_; intro gb292 hg w37 hbox hb; have BK292 := Aside0.mk (hbox); have GW292 := Aside0.mk ((Hd.g_ hg Hd.b_ : w.heap.size ≤ gb292)); have GE292 := Aside0.mk ((Hd.g_ hg Hd.b_ : w.heap.size ≤ gb292)); replace HB := Aside0.mk (below_step Hd.b_ hb); clear hb hbox hg) | ((with_reducible refine gate_dst (N := 3) rfl ?_); refine Hd.box_ 3 (#[.int .i64 a1_0, .int .i64 a1_1, .int .i64 a1_2, .int .i64 a1_3]) 29 ?_; intro gb293 hg w38 hbox hb; have BK293 := Aside0.mk (hbox); have GW293 := Aside0.mk ((Hd.g_ hg Hd.b_ : w.heap.size ≤ gb293)); have GE293 := Aside0.mk ((Hd.g_ hg Hd.b_ : w.heap.size ≤ gb293)); replace HB := Aside0.mk (below_step Hd.b_ hb); have NB292_293 := Aside0.mk ((Hd.lt_ BK292 hg)); have NB293_292 := Aside0.mk ((Hd.gt_ BK292 hg)); replace BK292 := Aside0.mk (Hd.kb_ BK292 hb); clear hb hbox hg; have hnb39 := NB292_293.out; have hnc39 := NB293_292.out; obtain ⟨hcz40_0, hcz40_1, hcz40_2, hcz40_3⟩ := Hd.c4_ BK292.out; obtain ⟨hfz40_0, hfz40_1, hfz40_2, hfz40_3⟩ := Hd.f4_ BK292.out) | ((with_reducible refine gate_callee (f := 69) rfl ?_); refine goesL_ (some 6) rfl rfl Try.func69 (by kernel_rfl) rfl #[.agg #[.int .i64 a0_0, .int .i64 a0_1, .int .i64 a0_2, .int .i64 a0_3]] rfl Hd.m_ ?_; (with_reducible refine (spec_IsBox.calls a0_0 a0_1 a0_2 a0_3 true _ A3.out).mono ?_); rintro e w41 ⟨rfl, hb⟩; refine ⟨_, rfl, ?_⟩; replace BK292 := Aside0.mk (Hd.kb_ BK292 hb); replace BK293 := Aside0.mk (Hd.kb_ BK293 hb); replace HB := Aside0.mk (below_step Hd.b_ hb); (try clear hb); (try clear hb2); (try clear hk); (try clear hi); obtain ⟨hcz42_0, hcz42_1, hcz42_2, hcz42_3⟩ := Hd.c4_ BK293.out; obtain ⟨hfz42_0, hfz42_1, hfz42_2, hfz42_3⟩ := Hd.f4_ BK293.out) | (go_at_call 69; (with_reducible refine (spec_IsBox.calls a1_0 a1_1 a1_2 a1_3 true _ A5.out).mono ?_); rintro e w43 ⟨rfl, hb⟩; replace BK292 := Aside0.mk (Hd.kb_ BK292 hb); replace BK293 := Aside0.mk (Hd.kb_ BK293 hb); replace HB := Aside0.mk (below_step Hd.b_ hb); (try clear hb); (try clear hb2); (try clear hk); (try clear hi); obtain ⟨hcz44_0, hcz44_1, hcz44_2, hcz44_3⟩ := Hd.c4_ BK292.out; obtain ⟨hfz44_0, hfz44_1, hfz44_2, hfz44_3⟩ := Hd.f4_ BK292.out; obtain ⟨hcz45_0, hcz45_1, hcz45_2, hcz45_3⟩ := Hd.c4_ BK293.out; obtain ⟨hfz45_0, hfz45_1, hfz45_2, hfz45_3⟩ := Hd.f4_ BK293.out))
    go_ret
    exact ⟨Hd.e_, Hd.b_⟩
  ·
   replace c6 := Bool.eq_false_iff.mpr c6
   subst c6
   have H1 : (some false) = some r := by rw [if_neg (show ¬ (false = true) by decide)] at H; exact H
   clear H
   have H := H1
   clear H1
   obtain rfl := Option.some.inj H
   go_enter Try.func16, Try.ntmps16
   go_wp2_with (first | ((with_reducible refine gate_dst (N := 2) rfl ?_); refine Hd.box_ 2 (#[.int .i64 a0_0, .int .i64 a0_1, .int .i64 a0_2, .int .i64 a0_3]) 29 ?_; intro gb292 hg w46 hbox hb; have BK292 := Aside0.mk (hbox); have GW292 := Aside0.mk ((Hd.g_ hg Hd.b_ : w.heap.size ≤ gb292)); have GE292 := Aside0.mk ((Hd.g_ hg Hd.b_ : w.heap.size ≤ gb292)); replace HB := Aside0.mk (below_step Hd.b_ hb); clear hb hbox hg) | ((with_reducible refine gate_dst (N := 3) rfl ?_); refine Hd.box_ 3 (#[.int .i64 a1_0, .int .i64 a1_1, .int .i64 a1_2, .int .i64 a1_3]) 29 ?_; intro gb293 hg w47 hbox hb; have BK293 := Aside0.mk (hbox); have GW293 := Aside0.mk ((Hd.g_ hg Hd.b_ : w.heap.size ≤ gb293)); have GE293 := Aside0.mk ((Hd.g_ hg Hd.b_ : w.heap.size ≤ gb293)); replace HB := Aside0.mk (below_step Hd.b_ hb); have NB292_293 := Aside0.mk ((Hd.lt_ BK292 hg)); have NB293_292 := Aside0.mk ((Hd.gt_ BK292 hg)); replace BK292 := Aside0.mk (Hd.kb_ BK292 hb); clear hb hbox hg; have hnb48 := NB292_293.out; have hnc48 := NB293_292.out; obtain ⟨hcz49_0, hcz49_1, hcz49_2, hcz49_3⟩ := Hd.c4_ BK292.out; obtain ⟨hfz49_0, hfz49_1, hfz49_2, hfz49_3⟩ := Hd.f4_ BK292.out) | ((with_reducible refine gate_callee (f := 69) rfl ?_); refine goesL_ (some 6) rfl rfl Try.func69 (by kernel_rfl) rfl #[.agg #[.int .i64 a0_0, .int .i64 a0_1, .int .i64 a0_2, .int .i64 a0_3]] rfl Hd.m_ ?_; (with_reducible refine (spec_IsBox.calls a0_0 a0_1 a0_2 a0_3 true _ A3.out).mono ?_); rintro e w50 ⟨rfl, hb⟩; refine ⟨_, rfl, ?_⟩; replace BK292 := Aside0.mk (Hd.kb_ BK292 hb); replace BK293 := Aside0.mk (Hd.kb_ BK293 hb); replace HB := Aside0.mk (below_step Hd.b_ hb); (try clear hb); (try clear hb2); (try clear hk); (try clear hi); obtain ⟨hcz51_0, hcz51_1, hcz51_2, hcz51_3⟩ := Hd.c4_ BK293.out; obtain ⟨hfz51_0, hfz51_1, hfz51_2, hfz51_3⟩ := Hd.f4_ BK293.out) | (go_at_call 69; (with_reducible refine (spec_IsBox.calls a1_0 a1_1 a1_2 a1_3 false _ A5.out).mono ?_); rintro e w52 ⟨rfl, hb⟩; replace BK292 := Aside0.mk (Hd.kb_ BK292 hb); replace BK293 := Aside0.mk (Hd.kb_ BK293 hb); replace HB := Aside0.mk (below_step Hd.b_ hb); (try clear hb); (try clear hb2); (try clear hk); (try clear hi)))
   go_ret
   exact ⟨Hd.e_, Hd.b_⟩
 ·
  replace c4 := Bool.eq_false_iff.mpr c4
  subst c4
  have H1 : (some false) = some r := by rw [if_neg (show ¬ (false = true) by decide)] at H; exact H
  clear H
  have H := H1
  clear H1
  obtain rfl := Option.some.inj H
  go_enter Try.func16, Try.ntmps16
  go_wp2_with (first | ((with_reducible refine gate_dst (N := 2) rfl ?_); refine Hd.box_ 2 (#[.int .i64 a0_0, .int .i64 a0_1, .int .i64 a0_2, .int .i64 a0_3]) 29 ?_; intro gb292 hg w53 hbox hb; have BK292 := Aside0.mk (hbox); have GW292 := Aside0.mk ((Hd.g_ hg Hd.b_ : w.heap.size ≤ gb292)); have GE292 := Aside0.mk ((Hd.g_ hg Hd.b_ : w.heap.size ≤ gb292)); replace HB := Aside0.mk (below_step Hd.b_ hb); clear hb hbox hg) | ((with_reducible refine gate_dst (N := 3) rfl ?_); refine Hd.box_ 3 (#[.int .i64 a1_0, .int .i64 a1_1, .int .i64 a1_2, .int .i64 a1_3]) 29 ?_; intro gb293 hg w54 hbox hb; have BK293 := Aside0.mk (hbox); have GW293 := Aside0.mk ((Hd.g_ hg Hd.b_ : w.heap.size ≤ gb293)); have GE293 := Aside0.mk ((Hd.g_ hg Hd.b_ : w.heap.size ≤ gb293)); replace HB := Aside0.mk (below_step Hd.b_ hb); have NB292_293 := Aside0.mk ((Hd.lt_ BK292 hg)); have NB293_292 := Aside0.mk ((Hd.gt_ BK292 hg)); replace BK292 := Aside0.mk (Hd.kb_ BK292 hb); clear hb hbox hg; have hnb55 := NB292_293.out; have hnc55 := NB293_292.out; obtain ⟨hcz56_0, hcz56_1, hcz56_2, hcz56_3⟩ := Hd.c4_ BK292.out; obtain ⟨hfz56_0, hfz56_1, hfz56_2, hfz56_3⟩ := Hd.f4_ BK292.out) | ((with_reducible refine gate_callee (f := 69) rfl ?_); refine goesL_ (some 6) rfl rfl Try.func69 (by kernel_rfl) rfl #[.agg #[.int .i64 a0_0, .int .i64 a0_1, .int .i64 a0_2, .int .i64 a0_3]] rfl Hd.m_ ?_; (with_reducible refine (spec_IsBox.calls a0_0 a0_1 a0_2 a0_3 false _ A3.out).mono ?_); rintro e w57 ⟨rfl, hb⟩; refine ⟨_, rfl, ?_⟩; replace BK292 := Aside0.mk (Hd.kb_ BK292 hb); replace BK293 := Aside0.mk (Hd.kb_ BK293 hb); replace HB := Aside0.mk (below_step Hd.b_ hb); (try clear hb); (try clear hb2); (try clear hk); (try clear hi)))
  go_ret
  exact ⟨Hd.e_, Hd.b_⟩
end Go.Proofs.Ytbackoeakepngaa.MFnBoxes
