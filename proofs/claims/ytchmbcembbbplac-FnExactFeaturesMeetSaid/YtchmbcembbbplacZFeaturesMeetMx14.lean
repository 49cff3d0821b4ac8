-- Laid by this session's program pp.py, after the kit's print and texts of the session's own. Not trusted: Lean checks it.
import Derived.Test.YtchmbcembbbplacZFeaturesMeetMx0
import Derived.Test.YtchmbcembbbplacZFeaturesMeetMx2
import Derived.Test.YtchmbcembbbplacZFeaturesMeetMx7
import Derived.Test.YtchmbcembbbplacZFeaturesMeetMx13
namespace Go.Proofs.Ytchmbcembbbplac.MFnExactFeaturesMeet
open Go.RowKit Go.Proofs.YtchmbcembbbplacW.PrintWords Go.Proofs.YtchmbcembbbplacW.PrintLast Go.Proofs.YtchmbcembbbplacW.PrintMore
attribute [local go_sem] max2_int min2_int max_two min_two max_three min_three max_four min_four   -- for this text's walks alone
set_option linter.unusedVariables false
set_option linter.unusedSimpArgs false
def laws_FnExactFeaturesMeet.f (k : Nat) (a0_0 : Int) (a0_1 : Int) (a0_2 : Int) (a0_3 : ByteArray) (l0_4 : List (S98)) (a1_0 : Int) (a1_1 : Int) (a1_2 : Int) (a1_3 : ByteArray) (l1_4 : List (S98)) : Option (Bool) := (laws_szFeature.f a0_0 a0_1 a0_2 a0_3 l0_4 1048576).bind fun t428 => (if t428 < 0 then (some true) else ((laws_szFeature.f a1_0 a1_1 a1_2 a1_3 l1_4 t428).bind fun t429 => (if t429 < 0 then (some true) else ((laws_toFeature.f k a0_0 a0_1 a0_2 a0_3 l0_4).bind fun bt430 => ((laws_toFeature.f k a1_0 a1_1 a1_2 a1_3 l1_4).bind fun bt437 => ((spec_FeaturesMeet.f k bt430.1 bt430.2.1 bt430.2.2.1 bt430.2.2.2.1 bt430.2.2.2.2 bt437.1 bt437.2.1 bt437.2.2.1 bt437.2.2.2.1 bt437.2.2.2.2).bind fun t444 => ((laws_toFeature.f k a0_0 a0_1 a0_2 a0_3 l0_4).bind fun bt445 => ((laws_toFeature.f k a1_0 a1_1 a1_2 a1_3 l1_4).bind fun bt453 => ((impl_FeaturesMeet.f k bt445.1 bt445.2.1 bt445.2.2.1 bt445.2.2.2.1 bt445.2.2.2.2 bt453.1 bt453.2.1 bt453.2.2.1 bt453.2.2.2.1 bt453.2.2.2.2).bind fun t461 => (if t461 = t444 then ((laws_toFeature.f k a0_0 a0_1 a0_2 a0_3 l0_4).bind fun bt462 => ((laws_eqFeature.f k bt445.1 bt445.2.1 bt445.2.2.1 bt445.2.2.2.1 bt445.2.2.2.2 bt462.1 bt462.2.1 bt462.2.2.1 bt462.2.2.2.1 bt462.2.2.2.2).bind fun t469 => (if t469 = true then ((laws_toFeature.f k a1_0 a1_1 a1_2 a1_3 l1_4).bind fun bt470 => ((laws_eqFeature.f k bt453.1 bt453.2.1 bt453.2.2.1 bt453.2.2.2.1 bt453.2.2.2.2 bt470.1 bt470.2.1 bt470.2.2.1 bt470.2.2.2.1 bt470.2.2.2.2).bind fun t477 => (if t477 = true then (some true) else (some false)))) else (some false)))) else (some false)))))))))))
set_option maxHeartbeats 8000000 in
set_option maxRecDepth 100000 in
theorem laws_FnExactFeaturesMeet.calls (k : Nat) (a0_0 : Int) (a0_1 : Int) (a0_2 : Int) (a0_3 : ByteArray) (A0_4 : Option Addr) (c0_4 : Nat) (l0_4 : List (S98)) (a1_0 : Int) (a1_1 : Int) (a1_2 : Int) (a1_3 : ByteArray) (A1_4 : Option Addr) (c1_4 : Nat) (l1_4 : List (S98)) (r : Bool) (w : World) (hr0_4 : Kd.C k98 w A0_4 l0_4.length l0_4) (hc0_4 : l0_4.length ≤ c0_4) (hr1_4 : Kd.C k98 w A1_4 l1_4.length l1_4) (hc1_4 : l1_4.length ≤ c1_4) (h : laws_FnExactFeaturesMeet.f k a0_0 a0_1 a0_2 a0_3 l0_4 a1_0 a1_1 a1_2 a1_3 l1_4 = some r) :
  Calls Try.prog 12 #[.agg #[.int .i64 a0_0, .int .i64 a0_1, .int .i64 a0_2, .string a0_3, .slice A0_4 l0_4.length c0_4], .agg #[.int .i64 a1_0, .int .i64 a1_1, .int .i64 a1_2, .string a1_3, .slice A1_4 l1_4.length c1_4]] w fun e w' => e = .returned (.bool r) ∧ Below w.heap.size w w' := by
 have hu73 := Try.underlying73
 have hu77 := Try.underlying77
 have HR0_4 := Aside0.mk hr0_4
 have HC0_4 := Aside0.mk hc0_4
 clear hr0_4 hc0_4
 have HR1_4 := Aside0.mk hr1_4
 have HC1_4 := Aside0.mk hc1_4
 clear hr1_4 hc1_4
 have HB := Aside0.mk (Below.refl w.heap.size w)
 have H : ((laws_szFeature.f a0_0 a0_1 a0_2 a0_3 l0_4 1048576).bind fun t428 => (if t428 < 0 then (some true) else ((laws_szFeature.f a1_0 a1_1 a1_2 a1_3 l1_4 t428).bind fun t429 => (if t429 < 0 then (some true) else ((laws_toFeature.f k a0_0 a0_1 a0_2 a0_3 l0_4).bind fun bt430 => ((laws_toFeature.f k a1_0 a1_1 a1_2 a1_3 l1_4).bind fun bt437 => ((spec_FeaturesMeet.f k bt430.1 bt430.2.1 bt430.2.2.1 bt430.2.2.2.1 bt430.2.2.2.2 bt437.1 bt437.2.1 bt437.2.2.1 bt437.2.2.2.1 bt437.2.2.2.2).bind fun t444 => ((laws_toFeature.f k a0_0 a0_1 a0_2 a0_3 l0_4).bind fun bt445 => ((laws_toFeature.f k a1_0 a1_1 a1_2 a1_3 l1_4).bind fun bt453 => ((impl_FeaturesMeet.f k bt445.1 bt445.2.1 bt445.2.2.1 bt445.2.2.2.1 bt445.2.2.2.2 bt453.1 bt453.2.1 bt453.2.2.1 bt453.2.2.2.1 bt453.2.2.2.2).bind fun t461 => (if t461 = t444 then ((laws_toFeature.f k a0_0 a0_1 a0_2 a0_3 l0_4).bind fun bt462 => ((laws_eqFeature.f k bt445.1 bt445.2.1 bt445.2.2.1 bt445.2.2.2.1 bt445.2.2.2.2 bt462.1 bt462.2.1 bt462.2.2.1 bt462.2.2.2.1 bt462.2.2.2.2).bind fun t469 => (if t469 = true then ((laws_toFeature.f k a1_0 a1_1 a1_2 a1_3 l1_4).bind fun bt470 => ((laws_eqFeature.f k bt453.1 bt453.2.1 bt453.2.2.1 bt453.2.2.2.1 bt453.2.2.2.2 bt470.1 bt470.2.1 bt470.2.2.1 bt470.2.2.2.1 bt470.2.2.2.2).bind fun t477 => (if t477 = true then (some true) else (some false)))) else (some false)))) else (some false)))))))))))) = some r := h
 clear h
 replace H := Option.bind_eq_some_iff.mp H
 obtain ⟨t428, A30, H⟩ := H
 replace H : (if t428 < 0 then (some true) else ((laws_szFeature.f a1_0 a1_1 a1_2 a1_3 l1_4 t428).bind fun t429 => (if t429 < 0 then (some true) else ((laws_toFeature.f k a0_0 a0_1 a0_2 a0_3 l0_4).bind fun bt430 => ((laws_toFeature.f k a1_0 a1_1 a1_2 a1_3 l1_4).bind fun bt437 => ((spec_FeaturesMeet.f k bt430.1 bt430.2.1 bt430.2.2.1 bt430.2.2.2.1 bt430.2.2.2.2 bt437.1 bt437.2.1 bt437.2.2.1 bt437.2.2.2.1 bt437.2.2.2.2).bind fun t444 => ((laws_toFeature.f k a0_0 a0_1 a0_2 a0_3 l0_4).bind fun bt445 => ((laws_toFeature.f k a1_0 a1_1 a1_2 a1_3 l1_4).bind fun bt453 => ((impl_FeaturesMeet.f k bt445.1 bt445.2.1 bt445.2.2.1 bt445.2.2.2.1 bt445.2.2.2.2 bt453.1 bt453.2.1 bt453.2.2.1 bt453.2.2.2.1 bt453.2.2.2.2).bind fun t461 => (if t461 = t444 then ((laws_toFeature.f k a0_0 a0_1 a0_2 a0_3 l0_4).bind fun bt462 => ((laws_eqFeature.f k bt445.1 bt445.2.1 bt445.2.2.1 bt445.2.2.2.1 bt445.2.2.2.2 bt462.1 bt462.2.1 bt462.2.2.1 bt462.2.2.2.1 bt462.2.2.2.2).bind fun t469 => (if t469 = true then ((laws_toFeature.f k a1_0 a1_1 a1_2 a1_3 l1_4).bind fun bt470 => ((laws_eqFeature.f k bt453.1 bt453.2.1 bt453.2.2.1 bt453.2.2.2.1 bt453.2.2.2.2 bt470.1 bt470.2.1 bt470.2.2.1 bt470.2.2.2.1 bt470.2.2.2.2).bind fun t477 => (if t477 = true then (some true) else (some false)))) else (some false)))) else (some false))))))))))) = some r := H
 have A3 := Aside0.mk A30
 clear A30
 by_cases c4 : t428 < 0
 ·
  rw [if_pos c4] at H
  have c4b0 : decide (t428 < 0) = true := decide_eq_true c4
  clear c4
  obtain rfl := Option.some.inj H
  go_enter Try.func12, Try.ntmps12
  go_wp2_with (first | ((with_reducible refine gate_dst (N := 2) rfl ?_); refine Hd.box_ 2 (#[.int .i64 a0_0, .int .i64 a0_1, .int .i64 a0_2, .string a0_3, .slice A0_4 l0_4.length c0_4]) 73 ?_; intro gb426 hg w5 hbox hb; have BK426 := Aside0.mk (hbox); have GW426 := Aside0.mk ((Hd.g_ hg Hd.b_ : w.heap.size ≤ gb426)); have GE426 := Aside0.mk ((Hd.g_ hg Hd.b_ : w.heap.size ≤ gb426)); replace HB := Aside0.mk (below_step Hd.b_ hb); clear hb hbox hg) | ((with_reducible refine gate_dst (N := 3) rfl ?_); refine Hd.box_ 3 (#[.int .i64 a1_0, .int .i64 a1_1, .int .i64 a1_2, .string a1_3, .slice A1_4 l1_4.length c1_4]) 73 ?_; intro gb427 hg w6 hbox hb; have BK427 := Aside0.mk (hbox); have GW427 := Aside0.mk ((Hd.g_ hg Hd.b_ : w.heap.size ≤ gb427)); have GE427 := Aside0.mk ((Hd.g_ hg Hd.b_ : w.heap.size ≤ gb427)); replace HB := Aside0.mk (below_step Hd.b_ hb); have NB426_427 := Aside0.mk ((Hd.lt_ BK426 hg)); have NB427_426 := Aside0.mk ((Hd.gt_ BK426 hg)); replace BK426 := Aside0.mk (Hd.kb_ BK426 hb); clear hb hbox hg; have hnb7 := NB426_427.out; have hnc7 := NB427_426.out; obtain ⟨hcz8_0, hcz8_1, hcz8_2, hcz8_3, hcz8_4⟩ := Hd.c5_ BK426.out; obtain ⟨hfz8_0, hfz8_1, hfz8_2, hfz8_3, hfz8_4⟩ := Hd.f5_ BK426.out) | ((with_reducible refine gate_callee (f := 58) rfl ?_); refine goesL_ (some 12) rfl rfl Try.func58 (by kernel_rfl) rfl #[.agg #[.int .i64 a0_0, .int .i64 a0_1, .int .i64 a0_2, .string a0_3, .slice A0_4 l0_4.length c0_4], .int .i64 1048576] rfl Hd.m_ ?_; (with_reducible refine (laws_szFeature.calls a0_0 a0_1 a0_2 a0_3 _ _ l0_4 1048576 t428 _ ?side1 ?side2 A3.out).mono ?_); (case side1 => repeat (first | exact (Kd.C_below HR0_4.out HB.out) | (with_reducible refine Kd.C_alloc ?_ _) | (with_reducible refine Kd.C_drewN ?_ _) | (with_reducible refine Kd.C_drew ?_))); (case side2 => exact HC0_4.out); rintro e w9 ⟨rfl, hb⟩; refine ⟨_, rfl, ?_⟩; replace BK426 := Aside0.mk (Hd.kb_ BK426 hb); replace BK427 := Aside0.mk (Hd.kb_ BK427 hb); replace HB := Aside0.mk (below_step Hd.b_ hb); (try clear hb); (try clear hb2); (try clear hk); (try clear hi)))
  go_ret
  exact ⟨Hd.e_, Hd.b_⟩
 ·
  rw [if_neg c4] at H
  have c4b0 : decide (t428 < 0) = false := decide_eq_false c4
  clear c4
  replace H := Option.bind_eq_some_iff.mp H
  obtain ⟨t429, A100, H⟩ := H
  replace H : (if t429 < 0 then (some true) else ((laws_toFeature.f k a0_0 a0_1 a0_2 a0_3 l0_4).bind fun bt430 => ((laws_toFeature.f k a1_0 a1_1 a1_2 a1_3 l1_4).bind fun bt437 => ((spec_FeaturesMeet.f k bt430.1 bt430.2.1 bt430.2.2.1 bt430.2.2.2.1 bt430.2.2.2.2 bt437.1 bt437.2.1 bt437.2.2.1 bt437.2.2.2.1 bt437.2.2.2.2).bind fun t444 => ((laws_toFeature.f k a0_0 a0_1 a0_2 a0_3 l0_4).bind fun bt445 => ((laws_toFeature.f k a1_0 a1_1 a1_2 a1_3 l1_4).bind fun bt453 => ((impl_FeaturesMeet.f k bt445.1 bt445.2.1 bt445.2.2.1 bt445.2.2.2.1 bt445.2.2.2.2 bt453.1 bt453.2.1 bt453.2.2.1 bt453.2.2.2.1 bt453.2.2.2.2).bind fun t461 => (if t461 = t444 then ((laws_toFeature.f k a0_0 a0_1 a0_2 a0_3 l0_4).bind fun bt462 => ((laws_eqFeature.f k bt445.1 bt445.2.1 bt445.2.2.1 bt445.2.2.2.1 bt445.2.2.2.2 bt462.1 bt462.2.1 bt462.2.2.1 bt462.2.2.2.1 bt462.2.2.2.2).bind fun t469 => (if t469 = true then ((laws_toFeature.f k a1_0 a1_1 a1_2 a1_3 l1_4).bind fun bt470 => ((laws_eqFeature.f k bt453.1 bt453.2.1 bt453.2.2.1 bt453.2.2.2.1 bt453.2.2.2.2 bt470.1 bt470.2.1 bt470.2.2.1 bt470.2.2.2.1 bt470.2.2.2.2).bind fun t477 => (if t477 = true then (some true) else (some false)))) else (some false)))) else (some false))))))))) = some r := H
  have A10 := Aside0.mk A100
  clear A100
  by_cases c11 : t429 < 0
  ·
   rw [if_pos c11] at H
   have c11b0 : decide (t429 < 0) = true := decide_eq_true c11
   clear c11
   obtain rfl := Option.some.inj H
   go_enter Try.func12, Try.ntmps12
   go_wp2_with (first | ((with_reducible refine gate_dst (N := 2) rfl ?_); refine Hd.box_ 2 (#[.int .i64 a0_0, .int .i64 a0_1, .int .i64 a0_2, .string a0_3, .slice A0_4 l0_4.length c0_4]) 73 ?_; intro gb426 hg w12 hbox hb; have BK426 := Aside0.mk (hbox); have GW426 := Aside0.mk ((Hd.g_ hg Hd.b_ : w.heap.size ≤ gb426)); have GE426 := Aside0.mk ((Hd.g_ hg Hd.b_ : w.heap.size ≤ gb426)); replace HB := Aside0.mk (below_step Hd.b_ hb); clear hb hbox hg) | ((with_reducible refine gate_dst (N := 3) rfl ?_); refine Hd.box_ 3 (#[.int .i64 a1_0, .int .i64 a1_1, .int .i64 a1_2, .string a1_3, .slice A1_4 l1_4.length c1_4]) 73 ?_; intro gb427 hg w13 hbox hb; have BK427 := Aside0.mk (hbox); have GW427 := Aside0.mk ((Hd.g_ hg Hd.b_ : w.heap.size ≤ gb427)); have GE427 := Aside0.mk ((Hd.g_ hg Hd.b_ : w.heap.size ≤ gb427)); replace HB := Aside0.mk (below_step Hd.b_ hb); have NB426_427 := Aside0.mk ((Hd.lt_ BK426 hg)); have NB427_426 := Aside0.mk ((Hd.gt_ BK426 hg)); replace BK426 := Aside0.mk (Hd.kb_ BK426 hb); clear hb hbox hg; have hnb14 := NB426_427.out; have hnc14 := NB427_426.out; obtain ⟨hcz15_0, hcz15_1, hcz15_2, hcz15_3, hcz15_4⟩ := Hd.c5_ BK426.out; obtain ⟨hfz15_0, hfz15_1, hfz15_2, hfz15_3, hfz15_4⟩ := Hd.f5_ BK426.out) | ((with_reducible refine gate_callee (f := 58) rfl ?_); refine goesL_ (some 12) rfl rfl Try.func58 (by kernel_rfl) rfl #[.agg #[.int .i64 a0_0, .int .i64 a0_1, .int .i64 a0_2, .string a0_3, .slice A0_4 l0_4.length c0_4], .int .i64 1048576] rfl Hd.m_ ?_; (with_reducible refine (laws_szFeature.calls a0_0 a0_1 a0_2 a0_3 _ _ l0_4 1048576 t428 _ ?side1 ?side2 A3.out).mono ?_); (case side1 => repeat (first | exact (Kd.C_below HR0_4.out HB.out) | (with_reducible refine Kd.C_alloc ?_ _) | (with_reducible refine Kd.C_drewN ?_ _) | (with_reducible refine Kd.C_drew ?_))); (case side2 => exact HC0_4.out); rintro e w16 ⟨rfl, hb⟩; refine ⟨_, rfl, ?_⟩; replace BK426 := Aside0.mk (Hd.kb_ BK426 hb); replace BK427 := Aside0.mk (Hd.kb_ BK427 hb); replace HB := Aside0.mk (below_step Hd.b_ hb); (try clear hb); (try clear hb2); (try clear hk); (try clear hi); obtain ⟨hcz17_0, hcz17_1, hcz17_2, hcz17_3, hcz17_4⟩ := Hd.c5_ BK427.out; obtain ⟨hfz17_0, hfz17_1, hfz17_2, hfz17_3, hfz17_4⟩ := Hd.f5_ BK427.out) | ((with_reducible refine gate_callee (f := 58) rfl ?_); refine goesL_ (some 17) rfl rfl Try.func58 (by kernel_rfl) rfl #[.agg #[.int .i64 a1_0, .int .i64 a1_1, .int .i64 a1_2, .string a1_3, .slice A1_4 l1_4.length c1_4], .int .i64 t428] rfl Hd.m_ ?_; (with_reducible refine (laws_szFeature.calls a1_0 a1_1 a1_2 a1_3 _ _ l1_4 t428 t429 _ ?side1 ?side2 A10.out).mono ?_); (case side1 => repeat (first | exact (Kd.C_below HR1_4.out HB.out) | (with_reducible refine Kd.C_alloc ?_ _) | (with_reducible refine Kd.C_drewN ?_ _) | (with_reducible refine Kd.C_drew ?_))); (case side2 => exact HC1_4.out); rintro e w18 ⟨rfl, hb⟩; refine ⟨_, rfl, ?_⟩; replace BK426 := Aside0.mk (Hd.kb_ BK426 hb); replace BK427 := Aside0.mk (Hd.kb_ BK427 hb); replace HB := Aside0.mk (below_step Hd.b_ hb); (try clear hb); (try clear hb2); (try clear hk); (try clear hi)))
   go_ret
   exact ⟨Hd.e_, Hd.b_⟩
  ·
   rw [if_neg c11] at H
   have c11b0 : decide (t429 < 0) = false := decide_eq_false c11
   clear c11
   replace H := Option.bind_eq_some_iff.mp H
   obtain ⟨⟨t430, t431, t432, t433, t434⟩, A190, H⟩ := H
   replace H : ((laws_toFeature.f k a1_0 a1_1 a1_2 a1_3 l1_4).bind fun bt437 => ((spec_FeaturesMeet.f k t430 t431 t432 t433 t434 bt437.1 bt437.2.1 bt437.2.2.1 bt437.2.2.2.1 bt437.2.2.2.2).bind fun t444 => ((laws_toFeature.f k a0_0 a0_1 a0_2 a0_3 l0_4).bind fun bt445 => ((laws_toFeature.f k a1_0 a1_1 a1_2 a1_3 l1_4).bind fun bt453 => ((impl_FeaturesMeet.f k bt445.1 bt445.2.1 bt445.2.2.1 bt445.2.2.2.1 bt445.2.2.2.2 bt453.1 bt453.2.1 bt453.2.2.1 bt453.2.2.2.1 bt453.2.2.2.2).bind fun t461 => (if t461 = t444 then ((laws_toFeature.f k a0_0 a0_1 a0_2 a0_3 l0_4).bind fun bt462 => ((laws_eqFeature.f k bt445.1 bt445.2.1 bt445.2.2.1 bt445.2.2.2.1 bt445.2.2.2.2 bt462.1 bt462.2.1 bt462.2.2.1 bt462.2.2.2.1 bt462.2.2.2.2).bind fun t469 => (if t469 = true then ((laws_toFeature.f k a1_0 a1_1 a1_2 a1_3 l1_4).bind fun bt470 => ((laws_eqFeature.f k bt453.1 bt453.2.1 bt453.2.2.1 bt453.2.2.2.1 bt453.2.2.2.2 bt470.1 bt470.2.1 bt470.2.2.1 bt470.2.2.2.1 bt470.2.2.2.2).bind fun t477 => (if t477 = true then (some true) else (some false)))) else (some false)))) else (some false))))))) = some r := H
   have A19 := Aside0.mk A190
   clear A190
   replace H := Option.bind_eq_some_iff.mp H
   obtain ⟨⟨t437, t438, t439, t440, t441⟩, A200, H⟩ := H
   replace H : ((spec_FeaturesMeet.f k t430 t431 t432 t433 t434 t437 t438 t439 t440 t441).bind fun t444 => ((laws_toFeature.f k a0_0 a0_1 a0_2 a0_3 l0_4).bind fun bt445 => ((laws_toFeature.f k a1_0 a1_1 a1_2 a1_3 l1_4).bind fun bt453 => ((impl_FeaturesMeet.f k bt445.1 bt445.2.1 bt445.2.2.1 bt445.2.2.2.1 bt445.2.2.2.2 bt453.1 bt453.2.1 bt453.2.2.1 bt453.2.2.2.1 bt453.2.2.2.2).bind fun t461 => (if t461 = t444 then ((laws_toFeature.f k a0_0 a0_1 a0_2 a0_3 l0_4).bind fun bt462 => ((laws_eqFeature.f k bt445.1 bt445.2.1 bt445.2.2.1 bt445.2.2.2.1 bt445.2.2.2.2 bt462.1 bt462.2.1 bt462.2.2.1 bt462.2.2.2.1 bt462.2.2.2.2).bind fun t469 => (if t469 = true then ((laws_toFeature.f k a1_0 a1_1 a1_2 a1_3 l1_4).bind fun bt470 => ((laws_eqFeature.f k bt453.1 bt453.2.1 bt453.2.2.1 bt453.2.2.2.1 bt453.2.2.2.2 bt470.1 bt470.2.1 bt470.2.2.1 bt470.2.2.2.1 bt470.2.2.2.2).bind fun t477 => (if t477 = true then (some true) else (some false)))) else (some false)))) else (some false)))))) = some r := H
   have A20 := Aside0.mk A200
   clear A200
   replace H := Option.bind_eq_some_iff.mp H
   obtain ⟨t444, A210, H⟩ := H
   replace H : ((laws_toFeature.f k a0_0 a0_1 a0_2 a0_3 l0_4).bind fun bt445 => ((laws_toFeature.f k a1_0 a1_1 a1_2 a1_3 l1_4).bind fun bt453 => ((impl_FeaturesMeet.f k bt445.1 bt445.2.1 bt445.2.2.1 bt445.2.2.2.1 bt445.2.2.2.2 bt453.1 bt453.2.1 bt453.2.2.1 bt453.2.2.2.1 bt453.2.2.2.2).bind fun t461 => (if t461 = t444 then ((laws_toFeature.f k a0_0 a0_1 a0_2 a0_3 l0_4).bind fun bt462 => ((laws_eqFeature.f k bt445.1 bt445.2.1 bt445.2.2.1 bt445.2.2.2.1 bt445.2.2.2.2 bt462.1 bt462.2.1 bt462.2.2.1 bt462.2.2.2.1 bt462.2.2.2.2).bind fun t469 => (if t469 = true then ((laws_toFeature.f k a1_0 a1_1 a1_2 a1_3 l1_4).bind fun bt470 => ((laws_eqFeature.f k bt453.1 bt453.2.1 bt453.2.2.1 bt453.2.2.2.1 bt453.2.2.2.2 bt470.1 bt470.2.1 bt470.2.2.1 bt470.2.2.2.1 bt470.2.2.2.2).bind fun t477 => (if t477 = true then (some true) else (some false)))) else (some false)))) else (some false))))) = some r := H
   have A21 := Aside0.mk A210
   clear A210
   replace H := Option.bind_eq_some_iff.mp H
   obtain ⟨⟨t445, t446, t447, t448, t449⟩, A220, H⟩ := H
   replace H : ((laws_toFeature.f k a1_0 a1_1 a1_2 a1_3 l1_4).bind fun bt453 => ((impl_FeaturesMeet.f k t445 t446 t447 t448 t449 bt453.1 bt453.2.1 bt453.2.2.1 bt453.2.2.2.1 bt453.2.2.2.2).bind fun t461 => (if t461 = t444 then ((laws_toFeature.f k a0_0 a0_1 a0_2 a0_3 l0_4).bind fun bt462 => ((laws_eqFeature.f k t445 t446 t447 t448 t449 bt462.1 bt462.2.1 bt462.2.2.1 bt462.2.2.2.1 bt462.2.2.2.2).bind fun t469 => (if t469 = true then ((laws_toFeature.f k a1_0 a1_1 a1_2 a1_3 l1_4).bind fun bt470 => ((laws_eqFeature.f k bt453.1 bt453.2.1 bt453.2.2.1 bt453.2.2.2.1 bt453.2.2.2.2 bt470.1 bt470.2.1 bt470.2.2.1 bt470.2.2.2.1 bt470.2.2.2.2).bind fun t477 => (if t477 = true then (some true) else (some false)))) else (some false)))) else (some false)))) = some r := H
   have A22 := Aside0.mk A220
   clear A220
   replace H := Option.bind_eq_some_iff.mp H
   obtain ⟨⟨t453, t454, t455, t456, t457⟩, A230, H⟩ := H
   replace H : ((impl_FeaturesMeet.f k t445 t446 t447 t448 t449 t453 t454 t455 t456 t457).bind fun t461 => (if t461 = t444 then ((laws_toFeature.f k a0_0 a0_1 a0_2 a0_3 l0_4).bind fun bt462 => ((laws_eqFeature.f k t445 t446 t447 t448 t449 bt462.1 bt462.2.1 bt462.2.2.1 bt462.2.2.2.1 bt462.2.2.2.2).bind fun t469 => (if t469 = true then ((laws_toFeature.f k a1_0 a1_1 a1_2 a1_3 l1_4).bind fun bt470 => ((laws_eqFeature.f k t453 t454 t455 t456 t457 bt470.1 bt470.2.1 bt470.2.2.1 bt470.2.2.2.1 bt470.2.2.2.2).bind fun t477 => (if t477 = true then (some true) else (some false)))) else (some false)))) else (some false))) = some r := H
   have A23 := Aside0.mk A230
   clear A230
   replace H := Option.bind_eq_some_iff.mp H
   obtain ⟨t461, A240, H⟩ := H
   replace H : (if t461 = t444 then ((laws_toFeature.f k a0_0 a0_1 a0_2 a0_3 l0_4).bind fun bt462 => ((laws_eqFeature.f k t445 t446 t447 t448 t449 bt462.1 bt462.2.1 bt462.2.2.1 bt462.2.2.2.1 bt462.2.2.2.2).bind fun t469 => (if t469 = true then ((laws_toFeature.f k a1_0 a1_1 a1_2 a1_3 l1_4).bind fun bt470 => ((laws_eqFeature.f k t453 t454 t455 t456 t457 bt470.1 bt470.2.1 bt470.2.2.1 bt470.2.2.2.1 bt470.2.2.2.2).bind fun t477 => (if t477 = true then (some true) else (some false)))) else (some false)))) else (some false)) = some r := H
   have A24 := Aside0.mk A240
   clear A240
   by_cases c25 : t461 = t444
   ·
    rw [if_pos c25] at H
    have c25b0 : (t461 == t444) = true := beq_iff_eq.mpr c25
    have c25b1 : (t461 != t444) = false := bne_eq_false_iff_eq.mpr c25
    clear c25
    replace H := Option.bind_eq_some_iff.mp H
    obtain ⟨⟨t462, t463, t464, t465, t466⟩, A260, H⟩ := H
    replace H : ((laws_eqFeature.f k t445 t446 t447 t448 t449 t462 t463 t464 t465 t466).bind fun t469 => (if t469 = true then ((laws_toFeature.f k a1_0 a1_1 a1_2 a1_3 l1_4).bind fun bt470 => ((laws_eqFeature.f k t453 t454 t455 t456 t457 bt470.1 bt470.2.1 bt470.2.2.1 bt470.2.2.2.1 bt470.2.2.2.2).bind fun t477 => (if t477 = true then (some true) else (some false)))) else (some false))) = some r := H
    have A26 := Aside0.mk A260
    clear A260
    replace H := Option.bind_eq_some_iff.mp H
    obtain ⟨t469, A270, H⟩ := H
    replace H : (if t469 = true then ((laws_toFeature.f k a1_0 a1_1 a1_2 a1_3 l1_4).bind fun bt470 => ((laws_eqFeature.f k t453 t454 t455 t456 t457 bt470.1 bt470.2.1 bt470.2.2.1 bt470.2.2.2.1 bt470.2.2.2.2).bind fun t477 => (if t477 = true then (some true) else (some false)))) else (some false)) = some r := H
    have A27 := Aside0.mk A270
    clear A270
    by_cases c28 : t469 = true
    ·
     subst c28
     have H1 : ((laws_toFeature.f k a1_0 a1_1 a1_2 a1_3 l1_4).bind fun bt470 => ((laws_eqFeature.f k t453 t454 t455 t456 t457 bt470.1 bt470.2.1 bt470.2.2.1 bt470.2.2.2.1 bt470.2.2.2.2).bind fun t477 => (if t477 = true then (some true) else (some false)))) = some r := by rw [if_pos rfl] at H; exact H
     clear H
     have H := H1
     clear H1
     replace H := Option.bind_eq_some_iff.mp H
     obtain ⟨⟨t470, t471, t472, t473, t474⟩, A290, H⟩ := H
     replace H : ((laws_eqFeature.f k t453 t454 t455 t456 t457 t470 t471 t472 t473 t474).bind fun t477 => (if t477 = true then (some true) else (some false))) = some r := H
     have A29 := Aside0.mk A290
     clear A290
     replace H := Option.bind_eq_some_iff.mp H
     obtain ⟨t477, A300, H⟩ := H
     replace H : (if t477 = true then (some true) else (some false)) = some r := H
     have A30 := Aside0.mk A300
     clear A300
     by_cases c31 : t477 = true
     ·
      subst c31
      have H1 : (some true) = some r := by rw [if_pos rfl] at H; exact H
      clear H
      have H := H1
      clear H1
      obtain rfl := Option.some.inj H
      go_enter Try.func12, Try.ntmps12
      try go_wp2_with (first | ((with_reducible refine gate_dst (N := 2) rfl ?_); refine Hd.box_ 2 (#[.int .i64 a0_0, .int .i64 a0_1, .int .i64 a0_2, .string a0_3, .slice A0_4 l0_4.length c0_4]) 73 ?_; intro gb426 hg w32 hbox hb; have BK426 := Aside0.mk (hbox); have GW426 := Aside0.mk ((Hd.g_ hg Hd.b_ : w.heap.size ≤ gb426)); have GE426 := Aside0.mk ((Hd.g_ hg Hd.b_ : w.heap.size ≤ gb426)); replace HB := Aside0.mk (below_step Hd.b_ hb); clear hb hbox hg) | ((with_reducible refine gate_dst (N := 3) rfl ?_); refine Hd.box_ 3 (#[.int .i64 a1_0, .int .i64 a1_1, .int .i64 a1_2, .string a1_3, .slice A1_4 l1_4.length c1_4]) 73 ?_; intro gb427 hg w33 hbox hb; have BK427 := Aside0.mk (hbox); have GW427 := Aside0.mk ((Hd.g_ hg Hd.b_ : w.heap.size ≤ gb427)); have GE427 := Aside0.mk ((Hd.g_ hg Hd.b_ : w.heap.size ≤ gb427)); replace HB := Aside0.mk (below_step Hd.b_ hb); have NB426_427 := Aside0.mk ((Hd.lt_ BK426 hg)); have NB427_426 := Aside0.mk ((Hd.gt_ BK426 hg)); replace BK426 := Aside0.mk (Hd.kb_ BK426 hb); clear hb hbox hg; have hnb34 := NB426_427.out; have hnc34 := NB427_426.out; obtain ⟨hcz35_0, hcz35_1, hcz35_2, hcz35_3, hcz35_4⟩ := Hd.c5_ BK426.out; obtain ⟨hfz35_0, hfz35_1, hfz35_2, hfz35_3, hfz35_4⟩ := Hd.f5_ BK426.out) | ((with_reducible refine gate_callee (f := 58) rfl ?_); refine goesL_ (some 12) rfl rfl Try.func58 (by kernel_rfl) rfl #[.agg #[.int .i64 a0_0, .int .i64 a0_1, .int .i64 a0_2, .string a0_3, .slice A0_4 l0_4.length c0_4], .int .i64 1048576] rfl Hd.m_ ?_; (with_reducible refine (laws_szFeature.calls a0_0 a0_1 a0_2 a0_3 _ _ l0_4 1048576 t428 _ ?side1 ?side2 A3.out).mono ?_); (case side1 => repeat (first | exact (Kd.C_below HR0_4.out HB.out) | (with_reducible refine Kd.C_alloc ?_ _) | (with_reducible refine Kd.C_drewN ?_ _) | (with_reducible refine Kd.C_drew ?_))); (case side2 => exact HC0_4.out); rintro e w36 ⟨rfl, hb⟩; refine ⟨_, rfl, ?_⟩; replace BK426 := Aside0.mk (Hd.kb_ BK426 hb); replace BK427 := Aside0.mk (Hd.kb_ BK427 hb); replace HB := Aside0.mk (below_step Hd.b_ hb); (try clear hb); (try clear hb2); (try clear hk); (try clear hi); obtain ⟨hcz37_0, hcz37_1, hcz37_2, hcz37_3, hcz37_4⟩ := Hd.c5_ BK427.out; obtain ⟨hfz37_0, hfz37_1, hfz37_2, hfz37_3, hfz37_4⟩ := Hd.f5_ BK427.out) | ((with_reducible refine gate_callee (f := 58) rfl ?_); refine goesL_ (some 17) rfl rfl Try.func58 (by kernel_rfl) rfl #[.agg #[.int .i64 a1_0, .int .i64 a1_1, .int .i64 a1_2, .string a1_3, .slice A1_4 l1_4.length c1_4], .int .i64 t428] rfl Hd.m_ ?_; (with_reducible refine (laws_szFeature.calls a1_0 a1_1 a1_2 a1_3 _ _ l1_4 t428 t429 _ ?side1 ?side2 A10.out).mono ?_); (case side1 => repeat (first | exact (Kd.C_below HR1_4.out HB.out) | (with_reducible refine Kd.C_alloc ?_ _) | (with_reducible refine Kd.C_drewN ?_ _) | (with_reducible refine Kd.C_drew ?_))); (case side2 => exact HC1_4.out); rintro e w38 ⟨rfl, hb⟩; refine ⟨_, rfl, ?_⟩; replace BK426 := Aside0.mk (Hd.kb_ BK426 hb); replace BK427 := Aside0.mk (Hd.kb_ BK427 hb); replace HB := Aside0.mk (below_step Hd.b_ hb); (try clear hb); (try clear hb2); (try clear hk); (try clear hi)))
      replace BK426 := Aside0.mk (blk_drew BK426.out)
      replace BK427 := Aside0.mk (blk_drew BK427.out)
      replace HB := Aside0.mk (below_drew1 HB.out)
      refine start_ (n := 6) (S := fun w' => w'.cell? ⟨gb426, 0, none⟩ = some (.int .i64 a0_0) ∧ w'.cell? ⟨gb426, 1, none⟩ = some (.int .i64 a0_1) ∧ w'.cell? ⟨gb426, 2, none⟩ = some (.int .i64 a0_2) ∧ w'.cell? ⟨gb426, 3, none⟩ = some (.string a0_3) ∧ w'.cell? ⟨gb426, 4, none⟩ = some (.slice A0_4 l0_4.length c0_4) ∧ w'.cell? ⟨gb427, 0, none⟩ = some (.int .i64 a1_0) ∧ w'.cell? ⟨gb427, 1, none⟩ = some (.int .i64 a1_1) ∧ w'.cell? ⟨gb427, 2, none⟩ = some (.int .i64 a1_2) ∧ w'.cell? ⟨gb427, 3, none⟩ = some (.string a1_3) ∧ w'.cell? ⟨gb427, 4, none⟩ = some (.slice A1_4 l1_4.length c1_4)) (ds := []) #[false, false, false, false, false, false] (by kernel_rfl) rfl rfl ⟨(blk_cell BK426.out 0).trans rfl, (blk_cell BK426.out 1).trans rfl, (blk_cell BK426.out 2).trans rfl, (blk_cell BK426.out 3).trans rfl, (blk_cell BK426.out 4).trans rfl, (blk_cell BK427.out 0).trans rfl, (blk_cell BK427.out 1).trans rfl, (blk_cell BK427.out 2).trans rfl, (blk_cell BK427.out 3).trans rfl, (blk_cell BK427.out 4).trans rfl⟩ (fun hHeld => ?_)
      generalize w38.drew = w39 at BK426 BK427 HB hHeld ⊢
      refine take_ (i := 0) (N := some 20) (v := ?_) (a' := ?_) #[true, false, false, false, false, false] rfl rfl (by kernel_rfl) (fun _ _ _ h => h) (Or.inl ⟨by rfl, ?_⟩) hHeld ?_ ?_
      rotate_left
      ·
       rintro w' ⟨s0, s1, s2, s3, s4, s5, s6, s7, s8, s9⟩
       go_simp
       with_reducible rfl
      rotate_left
      ·
       simp only [Act.put, List.setIfInBounds_toArray, List.set_cons_zero, List.set_cons_succ, i64_w, i32_w]
       rfl
      refine take_ (i := 2) (N := some 22) (v := ?_) (a' := ?_) #[true, false, true, false, false, false] rfl rfl (by kernel_rfl) (fun _ _ _ h => h) (Or.inl ⟨by rfl, ?_⟩) hHeld ?_ ?_
      rotate_left
      ·
       rintro w' ⟨s0, s1, s2, s3, s4, s5, s6, s7, s8, s9⟩
       go_simp
       with_reducible rfl
      rotate_left
      ·
       simp only [Act.put, List.setIfInBounds_toArray, List.set_cons_zero, List.set_cons_succ, i64_w, i32_w]
       rfl
      refine one_ (i := 1) (N := some 21) #[true, true, true, false, false, false] rfl rfl (by kernel_rfl) (by decide) (fun K hK => ?_)
      refine goes_ Try.func60 (by kernel_rfl) rfl #[.agg #[.int .i64 a0_0, .int .i64 a0_1, .int .i64 a0_2, .string a0_3, .slice A0_4 l0_4.length c0_4]] (by rfl) rfl rfl Hd.m_ ?_
      with_reducible refine (laws_toFeature.calls k a0_0 a0_1 a0_2 a0_3 _ _ l0_4 t430 t431 t432 t433 t434 _ ?side1 ?side2 A19.out).mono ?_
      (case side1 => repeat (first | exact (Kd.C_below HR0_4.out HB.out) | (with_reducible refine Kd.C_alloc ?_ _) | (with_reducible refine Kd.C_drewN ?_ _) | (with_reducible refine Kd.C_drew ?_)))
      (case side2 => exact HC0_4.out)
      rintro e w40 ⟨v435, rfl, ho0, hb⟩
      refine ⟨_, rfl, ?_⟩
      have HO436 := Aside0.mk (Kd.R_lower ho0 (below_size Hd.b_))
      replace BK426 := Aside0.mk (Hd.kb_ BK426 hb)
      replace BK427 := Aside0.mk (Hd.kb_ BK427 hb)
      replace HB := Aside0.mk (below_step Hd.b_ hb)
      (try clear hb)
      (try clear hb2)
      (try clear hk)
      (try clear hi)
      (try clear ho0)
      refine hK.out _ _ ⟨(blk_cell BK426.out 0).trans rfl, (blk_cell BK426.out 1).trans rfl, (blk_cell BK426.out 2).trans rfl, (blk_cell BK426.out 3).trans rfl, (blk_cell BK426.out 4).trans rfl, (blk_cell BK427.out 0).trans rfl, (blk_cell BK427.out 1).trans rfl, (blk_cell BK427.out 2).trans rfl, (blk_cell BK427.out 3).trans rfl, (blk_cell BK427.out 4).trans rfl⟩ (fun hHeld => ?_)
      clear hK K
      refine Hd.n_ (some 21) ?_
      refine one_ (i := 3) (N := some 23) #[true, true, true, true, false, false] rfl rfl (by kernel_rfl) (by decide) (fun K hK => ?_)
      refine goes_ Try.func60 (by kernel_rfl) rfl #[.agg #[.int .i64 a1_0, .int .i64 a1_1, .int .i64 a1_2, .string a1_3, .slice A1_4 l1_4.length c1_4]] (by rfl) rfl rfl Hd.m_ ?_
      with_reducible refine (laws_toFeature.calls k a1_0 a1_1 a1_2 a1_3 _ _ l1_4 t437 t438 t439 t440 t441 _ ?side1 ?side2 A20.out).mono ?_
      (case side1 => repeat (first | exact (Kd.C_below HR1_4.out HB.out) | (with_reducible refine Kd.C_alloc ?_ _) | (with_reducible refine Kd.C_drewN ?_ _) | (with_reducible refine Kd.C_drew ?_)))
      (case side2 => exact HC1_4.out)
      rintro e w41 ⟨v442, rfl, ho0, hb⟩
      refine ⟨_, rfl, ?_⟩
      have HO443 := Aside0.mk (Kd.R_lower (Kd.R_new' ho0 (Kd.R_lt (Hd.r_ HO436))) (below_size Hd.b_))
      replace HO436 := Aside0.mk (Kd.R_elder' (Hd.r_ HO436) (Kd.R_base ho0) hb)
      replace BK426 := Aside0.mk (Hd.kb_ BK426 hb)
      replace BK427 := Aside0.mk (Hd.kb_ BK427 hb)
      replace HB := Aside0.mk (below_step Hd.b_ hb)
      (try clear hb)
      (try clear hb2)
      (try clear hk)
      (try clear hi)
      (try clear ho0)
      obtain ⟨Ao42, co42, eo42⟩ := Kd.R_slice HO436.out
      (first | subst eo42 | (injection eo42 with f1_ f2_ f3_; have f4_ := f1_.symm; have f5_ := f3_.symm; clear f1_ f2_ f3_; subst f4_; subst f5_))
      obtain ⟨Ao43, co43, eo43⟩ := Kd.R_slice HO443.out
      (first | subst eo43 | (injection eo43 with f1_ f2_ f3_; have f4_ := f1_.symm; have f5_ := f3_.symm; clear f1_ f2_ f3_; subst f4_; subst f5_))
      refine hK.out _ _ ⟨(blk_cell BK426.out 0).trans rfl, (blk_cell BK426.out 1).trans rfl, (blk_cell BK426.out 2).trans rfl, (blk_cell BK426.out 3).trans rfl, (blk_cell BK426.out 4).trans rfl, (blk_cell BK427.out 0).trans rfl, (blk_cell BK427.out 1).trans rfl, (blk_cell BK427.out 2).trans rfl, (blk_cell BK427.out 3).trans rfl, (blk_cell BK427.out 4).trans rfl⟩ (fun hHeld => ?_)
      clear hK K
      refine Hd.n_ (some 23) ?_
      refine one_ (i := 4) (N := some 24) #[true, true, true, true, true, false] rfl rfl (by kernel_rfl) (by decide) (fun K hK => ?_)
      refine goes_ Try.func69 (by kernel_rfl) rfl #[.agg #[.int .i64 t430, .int .i64 t431, .int .i64 t432, .string t433, .slice Ao42 t434.length co42], .agg #[.int .i64 t437, .int .i64 t438, .int .i64 t439, .string t440, .slice Ao43 t441.length co43]] (by rfl) rfl rfl Hd.m_ ?_
      with_reducible refine (spec_FeaturesMeet.calls k t430 t431 t432 t433 _ _ t434 t437 t438 t439 t440 _ _ t441 t444 _ ?side1 ?side2 ?side3 ?side4 A21.out).mono ?_
      (case side1 => repeat (first | exact (Kd.R_reads' HO436.out).2.2 | (with_reducible refine Kd.C_alloc ?_ _) | (with_reducible refine Kd.C_drewN ?_ _) | (with_reducible refine Kd.C_drew ?_)))
      (case side2 => exact (Kd.R_reads' HO436.out).2.1)
      (case side3 => repeat (first | exact (Kd.R_reads' HO443.out).2.2 | (with_reducible refine Kd.C_alloc ?_ _) | (with_reducible refine Kd.C_drewN ?_ _) | (with_reducible refine Kd.C_drew ?_)))
      (case side4 => exact (Kd.R_reads' HO443.out).2.1)
      rintro e w44 ⟨rfl, hb⟩
      refine ⟨_, rfl, ?_⟩
      replace HO436 := Aside0.mk (Kd.R_below (Hd.r_ HO436) hb)
      replace HO443 := Aside0.mk (Kd.R_below (Hd.r_ HO443) hb)
      replace BK426 := Aside0.mk (Hd.kb_ BK426 hb)
      replace BK427 := Aside0.mk (Hd.kb_ BK427 hb)
      replace HB := Aside0.mk (below_step Hd.b_ hb)
      (try clear hb)
      (try clear hb2)
      (try clear hk)
      (try clear hi)
      refine hK.out _ _ ⟨(blk_cell BK426.out 0).trans rfl, (blk_cell BK426.out 1).trans rfl, (blk_cell BK426.out 2).trans rfl, (blk_cell BK426.out 3).trans rfl, (blk_cell BK426.out 4).trans rfl, (blk_cell BK427.out 0).trans rfl, (blk_cell BK427.out 1).trans rfl, (blk_cell BK427.out 2).trans rfl, (blk_cell BK427.out 3).trans rfl, (blk_cell BK427.out 4).trans rfl⟩ (fun hHeld => ?_)
      clear hK K
      refine Hd.n_ (some 24) ?_
      refine pure_ (i := 5) (N := some 6) (v := ?_) (a' := ?_) #[true, true, true, true, true, true] rfl rfl (by kernel_rfl) (fun _ _ _ h => h) (Or.inl ⟨by rfl, ?_⟩) ?_ ?_
      rotate_left
      ·
       intro w'
       go_simp
       with_reducible rfl
      rotate_left
      ·
       simp only [Act.put, List.setIfInBounds_toArray, List.set_cons_zero, List.set_cons_succ, i64_w, i32_w]
       rfl
      refine done_ (by kernel_rfl) ?_
      obtain ⟨hcz45_0, hcz45_1, hcz45_2, hcz45_3, hcz45_4⟩ := Hd.c5_ BK426.out
      obtain ⟨hfz45_0, hfz45_1, hfz45_2, hfz45_3, hfz45_4⟩ := Hd.f5_ BK426.out
      try go_wp2_with (first | ((with_reducible refine gate_callee (f := 60) rfl ?_); refine goesL_ (some 26) rfl rfl Try.func60 (by kernel_rfl) rfl #[.agg #[.int .i64 a0_0, .int .i64 a0_1, .int .i64 a0_2, .string a0_3, .slice A0_4 l0_4.length c0_4]] rfl Hd.m_ ?_; (with_reducible refine (laws_toFeature.calls k a0_0 a0_1 a0_2 a0_3 _ _ l0_4 t445 t446 t447 t448 t449 _ ?side1 ?side2 A22.out).mono ?_); (case side1 => repeat (first | exact (Kd.C_below HR0_4.out HB.out) | (with_reducible refine Kd.C_alloc ?_ _) | (with_reducible refine Kd.C_drewN ?_ _) | (with_reducible refine Kd.C_drew ?_))); (case side2 => exact HC0_4.out); rintro e w46 ⟨v450, rfl, ho0, hb⟩; refine ⟨_, rfl, ?_⟩; have HO451 := Aside0.mk (Kd.R_lower (Kd.R_new' (Kd.R_new' ho0 (Kd.R_lt (Hd.r_ HO436))) (Kd.R_lt (Hd.r_ HO443))) (below_size Hd.b_)); replace HO436 := Aside0.mk (Kd.R_elder' (Hd.r_ HO436) (Kd.R_base ho0) hb); replace HO443 := Aside0.mk (Kd.R_elder' (Hd.r_ HO443) (Kd.R_base ho0) hb); replace BK426 := Aside0.mk (Hd.kb_ BK426 hb); replace BK427 := Aside0.mk (Hd.kb_ BK427 hb); replace HB := Aside0.mk (below_step Hd.b_ hb); (try clear hb); (try clear hb2); (try clear hk); (try clear hi); (try clear ho0)) | ((with_reducible refine gate_dst (N := 7) rfl ?_); refine Hd.box_ 7 (#[.int .i64 0, .int .i64 0, .int .i64 0, .string (⟨#[]⟩ : ByteArray), .slice none 0 0]) 77 ?_; intro gb452 hg w47 hbox hb; replace HO436 := Aside0.mk (Kd.R_below (Hd.r_ HO436) hb); replace HO443 := Aside0.mk (Kd.R_below (Hd.r_ HO443) hb); replace HO451 := Aside0.mk (Kd.R_below (Hd.r_ HO451) hb); have BK452 := Aside0.mk (hbox); have GW452 := Aside0.mk ((Hd.g_ hg Hd.b_ : w.heap.size ≤ gb452)); have GE452 := Aside0.mk ((Hd.g_ hg Hd.b_ : w.heap.size ≤ gb452)); replace HB := Aside0.mk (below_step Hd.b_ hb); have NB426_452 := Aside0.mk ((Hd.lt_ BK426 hg)); have NB452_426 := Aside0.mk ((Hd.gt_ BK426 hg)); replace BK426 := Aside0.mk (Hd.kb_ BK426 hb); have NB427_452 := Aside0.mk ((Hd.lt_ BK427 hg)); have NB452_427 := Aside0.mk ((Hd.gt_ BK427 hg)); replace BK427 := Aside0.mk (Hd.kb_ BK427 hb); clear hb hbox hg; have hnb48 := NB452_426.out; have hnc48 := NB426_452.out; have hnb49 := NB452_427.out; have hnc49 := NB427_452.out; obtain ⟨hcz50_0, hcz50_1, hcz50_2, hcz50_3, hcz50_4⟩ := Hd.c5_ BK452.out; obtain ⟨hfz50_0, hfz50_1, hfz50_2, hfz50_3, hfz50_4⟩ := Hd.f5_ BK452.out; obtain ⟨Ao51, co51, eo51⟩ := Kd.R_slice HO451.out; subst eo51; obtain ⟨hcz52_0, hcz52_1, hcz52_2, hcz52_3, hcz52_4⟩ := Hd.c5_ BK427.out; obtain ⟨hfz52_0, hfz52_1, hfz52_2, hfz52_3, hfz52_4⟩ := Hd.f5_ BK427.out) | ((with_reducible refine gate_callee (f := 60) rfl ?_); refine goesL_ (some 28) rfl rfl Try.func60 (by kernel_rfl) rfl #[.agg #[.int .i64 a1_0, .int .i64 a1_1, .int .i64 a1_2, .string a1_3, .slice A1_4 l1_4.length c1_4]] rfl Hd.m_ ?_; (with_reducible refine (laws_toFeature.calls k a1_0 a1_1 a1_2 a1_3 _ _ l1_4 t453 t454 t455 t456 t457 _ ?side1 ?side2 A23.out).mono ?_); (case side1 => exact Kd.C_below HR1_4.out Hd.b_); (case side2 => exact HC1_4.out); rintro e w53 ⟨v458, rfl, ho0, hb⟩; refine ⟨_, rfl, ?_⟩; have HO459 := Aside0.mk (Kd.R_lower (Kd.R_new' (Kd.R_new' (Kd.R_new' ho0 (Kd.R_lt (by (with_reducible repeat (first | apply Kd.R_alloc | apply Kd.R_drewN | apply Kd.R_drew)); exact (Kd.R_mono (Kd.R_far (p := ⟨gb452, 4, none⟩) (Kd.R_far (p := ⟨gb452, 3, none⟩) (Kd.R_far (p := ⟨gb452, 2, none⟩) (Kd.R_far (p := ⟨gb452, 1, none⟩) (Kd.R_far (p := ⟨gb452, 0, none⟩) (Kd.R_types HO436.out BK452.out (by decide)) (fun _ hk => hk.2) (.int .i64 t445)) (fun _ hk => hk.2) (.int .i64 t446)) (fun _ hk => hk.2) (.int .i64 t447)) (fun _ hk => hk.2) (.string t448)) (fun _ hk => hk.2) (.slice Ao51 t449.length co51)) (fun _ h_ => h_.1))))) (Kd.R_lt (by (with_reducible repeat (first | apply Kd.R_alloc | apply Kd.R_drewN | apply Kd.R_drew)); exact (Kd.R_mono (Kd.R_far (p := ⟨gb452, 4, none⟩) (Kd.R_far (p := ⟨gb452, 3, none⟩) (Kd.R_far (p := ⟨gb452, 2, none⟩) (Kd.R_far (p := ⟨gb452, 1, none⟩) (Kd.R_far (p := ⟨gb452, 0, none⟩) (Kd.R_types HO443.out BK452.out (by decide)) (fun _ hk => hk.2) (.int .i64 t445)) (fun _ hk => hk.2) (.int .i64 t446)) (fun _ hk => hk.2) (.int .i64 t447)) (fun _ hk => hk.2) (.string t448)) (fun _ hk => hk.2) (.slice Ao51 t449.length co51)) (fun _ h_ => h_.1))))) (Kd.R_lt (by (with_reducible repeat (first | apply Kd.R_alloc | apply Kd.R_drewN | apply Kd.R_drew)); exact (Kd.R_mono (Kd.R_far (p := ⟨gb452, 4, none⟩) (Kd.R_far (p := ⟨gb452, 3, none⟩) (Kd.R_far (p := ⟨gb452, 2, none⟩) (Kd.R_far (p := ⟨gb452, 1, none⟩) (Kd.R_far (p := ⟨gb452, 0, none⟩) (Kd.R_types HO451.out BK452.out (by decide)) (fun _ hk => hk.2) (.int .i64 t445)) (fun _ hk => hk.2) (.int .i64 t446)) (fun _ hk => hk.2) (.int .i64 t447)) (fun _ hk => hk.2) (.string t448)) (fun _ hk => hk.2) (.slice Ao51 t449.length co51)) (fun _ h_ => h_.1))))) (below_size Hd.b_)); replace HO436 := Aside0.mk (Kd.R_elder' (by (with_reducible repeat (first | apply Kd.R_alloc | apply Kd.R_drewN | apply Kd.R_drew)); exact (Kd.R_mono (Kd.R_far (p := ⟨gb452, 4, none⟩) (Kd.R_far (p := ⟨gb452, 3, none⟩) (Kd.R_far (p := ⟨gb452, 2, none⟩) (Kd.R_far (p := ⟨gb452, 1, none⟩) (Kd.R_far (p := ⟨gb452, 0, none⟩) (Kd.R_types HO436.out BK452.out (by decide)) (fun _ hk => hk.2) (.int .i64 t445)) (fun _ hk => hk.2) (.int .i64 t446)) (fun _ hk => hk.2) (.int .i64 t447)) (fun _ hk => hk.2) (.string t448)) (fun _ hk => hk.2) (.slice Ao51 t449.length co51)) (fun _ h_ => h_.1))) (Kd.R_base ho0) hb); replace HO443 := Aside0.mk (Kd.R_elder' (by (with_reducible repeat (first | apply Kd.R_alloc | apply Kd.R_drewN | apply Kd.R_drew)); exact (Kd.R_mono (Kd.R_far (p := ⟨gb452, 4, none⟩) (Kd.R_far (p := ⟨gb452, 3, none⟩) (Kd.R_far (p := ⟨gb452, 2, none⟩) (Kd.R_far (p := ⟨gb452, 1, none⟩) (Kd.R_far (p := ⟨gb452, 0, none⟩) (Kd.R_types HO443.out BK452.out (by decide)) (fun _ hk => hk.2) (.int .i64 t445)) (fun _ hk => hk.2) (.int .i64 t446)) (fun _ hk => hk.2) (.int .i64 t447)) (fun _ hk => hk.2) (.string t448)) (fun _ hk => hk.2) (.slice Ao51 t449.length co51)) (fun _ h_ => h_.1))) (Kd.R_base ho0) hb); replace HO451 := Aside0.mk (Kd.R_elder' (by (with_reducible repeat (first | apply Kd.R_alloc | apply Kd.R_drewN | apply Kd.R_drew)); exact (Kd.R_mono (Kd.R_far (p := ⟨gb452, 4, none⟩) (Kd.R_far (p := ⟨gb452, 3, none⟩) (Kd.R_far (p := ⟨gb452, 2, none⟩) (Kd.R_far (p := ⟨gb452, 1, none⟩) (Kd.R_far (p := ⟨gb452, 0, none⟩) (Kd.R_types HO451.out BK452.out (by decide)) (fun _ hk => hk.2) (.int .i64 t445)) (fun _ hk => hk.2) (.int .i64 t446)) (fun _ hk => hk.2) (.int .i64 t447)) (fun _ hk => hk.2) (.string t448)) (fun _ hk => hk.2) (.slice Ao51 t449.length co51)) (fun _ h_ => h_.1))) (Kd.R_base ho0) hb); replace BK426 := Aside0.mk (blk_below (g := gb426) (o := .cells #[.int .i64 a0_0, .int .i64 a0_1, .int .i64 a0_2, .string a0_3, .slice A0_4 l0_4.length c0_4] 73 (0, 0)) (by (with_reducible repeat (first | refine blk_drewN ?_ _ | refine blk_drew ?_ | refine blk_alloc ?_ _)); refine blk_far ?_ NB426_452.out _; (with_reducible repeat (first | refine blk_drewN ?_ _ | refine blk_drew ?_ | refine blk_alloc ?_ _)); refine blk_far ?_ NB426_452.out _; (with_reducible repeat (first | refine blk_drewN ?_ _ | refine blk_drew ?_ | refine blk_alloc ?_ _)); refine blk_far ?_ NB426_452.out _; (with_reducible repeat (first | refine blk_drewN ?_ _ | refine blk_drew ?_ | refine blk_alloc ?_ _)); refine blk_far ?_ NB426_452.out _; (with_reducible repeat (first | refine blk_drewN ?_ _ | refine blk_drew ?_ | refine blk_alloc ?_ _)); refine blk_far ?_ NB426_452.out _; (with_reducible repeat (first | refine blk_drewN ?_ _ | refine blk_drew ?_ | refine blk_alloc ?_ _)); exact BK426.out) hb); replace BK427 := Aside0.mk (blk_below (g := gb427) (o := .cells #[.int .i64 a1_0, .int .i64 a1_1, .int .i64 a1_2, .string a1_3, .slice A1_4 l1_4.length c1_4] 73 (0, 0)) (by (with_reducible repeat (first | refine blk_drewN ?_ _ | refine blk_drew ?_ | refine blk_alloc ?_ _)); refine blk_far ?_ NB427_452.out _; (with_reducible repeat (first | refine blk_drewN ?_ _ | refine blk_drew ?_ | refine blk_alloc ?_ _)); refine blk_far ?_ NB427_452.out _; (with_reducible repeat (first | refine blk_drewN ?_ _ | refine blk_drew ?_ | refine blk_alloc ?_ _)); refine blk_far ?_ NB427_452.out _; (with_reducible repeat (first | refine blk_drewN ?_ _ | refine blk_drew ?_ | refine blk_alloc ?_ _)); refine blk_far ?_ NB427_452.out _; (with_reducible repeat (first | refine blk_drewN ?_ _ | refine blk_drew ?_ | refine blk_alloc ?_ _)); refine blk_far ?_ NB427_452.out _; (with_reducible repeat (first | refine blk_drewN ?_ _ | refine blk_drew ?_ | refine blk_alloc ?_ _)); exact BK427.out) hb); replace BK452 := Aside0.mk (blk_below (g := gb452) (o := .cells #[.int .i64 t445, .int .i64 t446, .int .i64 t447, .string t448, .slice Ao51 t449.length co51] 77 (0, 0)) (by (with_reducible repeat (first | refine blk_drewN ?_ _ | refine blk_drew ?_ | refine blk_alloc ?_ _)); refine blk_put (cs := #[.int .i64 t445, .int .i64 t446, .int .i64 t447, .string t448, .slice none 0 0]) ?_ 4 _ rfl; (with_reducible repeat (first | refine blk_drewN ?_ _ | refine blk_drew ?_ | refine blk_alloc ?_ _)); refine blk_put (cs := #[.int .i64 t445, .int .i64 t446, .int .i64 t447, .string (⟨#[]⟩ : ByteArray), .slice none 0 0]) ?_ 3 _ rfl; (with_reducible repeat (first | refine blk_drewN ?_ _ | refine blk_drew ?_ | refine blk_alloc ?_ _)); refine blk_put (cs := #[.int .i64 t445, .int .i64 t446, .int .i64 0, .string (⟨#[]⟩ : ByteArray), .slice none 0 0]) ?_ 2 _ rfl; (with_reducible repeat (first | refine blk_drewN ?_ _ | refine blk_drew ?_ | refine blk_alloc ?_ _)); refine blk_put (cs := #[.int .i64 t445, .int .i64 0, .int .i64 0, .string (⟨#[]⟩ : ByteArray), .slice none 0 0]) ?_ 1 _ rfl; (with_reducible repeat (first | refine blk_drewN ?_ _ | refine blk_drew ?_ | refine blk_alloc ?_ _)); refine blk_put (cs := #[.int .i64 0, .int .i64 0, .int .i64 0, .string (⟨#[]⟩ : ByteArray), .slice none 0 0]) ?_ 0 _ rfl; (with_reducible repeat (first | refine blk_drewN ?_ _ | refine blk_drew ?_ | refine blk_alloc ?_ _)); exact BK452.out) hb); replace HB := Aside0.mk (below_step Hd.b_ hb); (try clear hb); (try clear hb2); (try clear hk); (try clear hi); (try clear ho0)) | ((with_reducible refine gate_dst (N := 8) rfl ?_); refine Hd.box_ 8 (#[.int .i64 0, .int .i64 0, .int .i64 0, .string (⟨#[]⟩ : ByteArray), .slice none 0 0]) 77 ?_; intro gb460 hg w54 hbox hb; replace HO436 := Aside0.mk (Kd.R_below (Hd.r_ HO436) hb); replace HO443 := Aside0.mk (Kd.R_below (Hd.r_ HO443) hb); replace HO451 := Aside0.mk (Kd.R_below (Hd.r_ HO451) hb); replace HO459 := Aside0.mk (Kd.R_below (Hd.r_ HO459) hb); have BK460 := Aside0.mk (hbox); have GW460 := Aside0.mk ((Hd.g_ hg Hd.b_ : w.heap.size ≤ gb460)); have GE460 := Aside0.mk ((Hd.g_ hg Hd.b_ : w.heap.size ≤ gb460)); replace HB := Aside0.mk (below_step Hd.b_ hb); have NB426_460 := Aside0.mk ((Hd.lt_ BK426 hg)); have NB460_426 := Aside0.mk ((Hd.gt_ BK426 hg)); replace BK426 := Aside0.mk (Hd.kb_ BK426 hb); have NB427_460 := Aside0.mk ((Hd.lt_ BK427 hg)); have NB460_427 := Aside0.mk ((Hd.gt_ BK427 hg)); replace BK427 := Aside0.mk (Hd.kb_ BK427 hb); have NB452_460 := Aside0.mk ((Hd.lt_ BK452 hg)); have NB460_452 := Aside0.mk ((Hd.gt_ BK452 hg)); replace BK452 := Aside0.mk (Hd.kb_ BK452 hb); clear hb hbox hg; have hnb55 := NB460_426.out; have hnc55 := NB426_460.out; have hnb56 := NB460_427.out; have hnc56 := NB427_460.out; have hnb57 := NB460_452.out; have hnc57 := NB452_460.out; obtain ⟨hcz58_0, hcz58_1, hcz58_2, hcz58_3, hcz58_4⟩ := Hd.c5_ BK460.out; obtain ⟨hfz58_0, hfz58_1, hfz58_2, hfz58_3, hfz58_4⟩ := Hd.f5_ BK460.out; obtain ⟨Ao59, co59, eo59⟩ := Kd.R_slice HO459.out; subst eo59; obtain ⟨hcz60_0, hcz60_1, hcz60_2, hcz60_3, hcz60_4⟩ := Hd.c5_ BK452.out; obtain ⟨hfz60_0, hfz60_1, hfz60_2, hfz60_3, hfz60_4⟩ := Hd.f5_ BK452.out) | ((with_reducible refine gate_callee (f := 70) rfl ?_); refine goesL_ (some 31) rfl rfl Try.func70 (by kernel_rfl) rfl #[.agg #[.int .i64 t445, .int .i64 t446, .int .i64 t447, .string t448, .slice Ao51 t449.length co51], .agg #[.int .i64 t453, .int .i64 t454, .int .i64 t455, .string t456, .slice Ao59 t457.length co59]] rfl Hd.m_ ?_; (with_reducible refine (impl_FeaturesMeet.calls k t445 t446 t447 t448 _ _ t449 t453 t454 t455 t456 _ _ t457 t461 _ ?side1 ?side2 ?side3 ?side4 A24.out).mono ?_); (case side1 => refine (Kd.R_reads' (e := 49) (base := w.heap.size) (ok := fun k_ => (((True ∧ some k_ ≠ (.slice Ao42 t434.length co42 : Value).ownBlock) ∧ some k_ ≠ (.slice Ao43 t441.length co43 : Value).ownBlock) ∧ some k_ ≠ (.slice Ao59 t457.length co59 : Value).ownBlock)) (n := t449.length) (c := co51) ?_).2.2; exact (by (with_reducible repeat (first | apply Kd.R_alloc | apply Kd.R_drewN | apply Kd.R_drew)); exact (Kd.R_mono (Kd.R_far (p := ⟨gb460, 4, none⟩) (Kd.R_far (p := ⟨gb460, 3, none⟩) (Kd.R_far (p := ⟨gb460, 2, none⟩) (Kd.R_far (p := ⟨gb460, 1, none⟩) (Kd.R_far (p := ⟨gb460, 0, none⟩) (Kd.R_types HO451.out BK460.out (by decide)) (fun _ hk => hk.2) (.int .i64 t453)) (fun _ hk => hk.2) (.int .i64 t454)) (fun _ hk => hk.2) (.int .i64 t455)) (fun _ hk => hk.2) (.string t456)) (fun _ hk => hk.2) (.slice Ao59 t457.length co59)) (fun _ h_ => h_.1)))); (case side2 => exact (Kd.R_reads' HO451.out).2.1); (case side3 => refine (Kd.R_reads' (e := 49) (base := w.heap.size) (ok := fun k_ => (((True ∧ some k_ ≠ (.slice Ao42 t434.length co42 : Value).ownBlock) ∧ some k_ ≠ (.slice Ao43 t441.length co43 : Value).ownBlock) ∧ some k_ ≠ (.slice Ao51 t449.length co51 : Value).ownBlock)) (n := t457.length) (c := co59) ?_).2.2; exact (by (with_reducible repeat (first | apply Kd.R_alloc | apply Kd.R_drewN | apply Kd.R_drew)); exact (Kd.R_mono (Kd.R_far (p := ⟨gb460, 4, none⟩) (Kd.R_far (p := ⟨gb460, 3, none⟩) (Kd.R_far (p := ⟨gb460, 2, none⟩) (Kd.R_far (p := ⟨gb460, 1, none⟩) (Kd.R_far (p := ⟨gb460, 0, none⟩) (Kd.R_types HO459.out BK460.out (by decide)) (fun _ hk => hk.2) (.int .i64 t453)) (fun _ hk => hk.2) (.int .i64 t454)) (fun _ hk => hk.2) (.int .i64 t455)) (fun _ hk => hk.2) (.string t456)) (fun _ hk => hk.2) (.slice Ao59 t457.length co59)) (fun _ h_ => h_.1)))); (case side4 => exact (Kd.R_reads' HO459.out).2.1); rintro e w61 ⟨rfl, hb⟩; refine ⟨_, rfl, ?_⟩; replace HO436 := Aside0.mk (Kd.R_below (by (with_reducible repeat (first | apply Kd.R_alloc | apply Kd.R_drewN | apply Kd.R_drew)); exact (Kd.R_mono (Kd.R_far (p := ⟨gb460, 4, none⟩) (Kd.R_far (p := ⟨gb460, 3, none⟩) (Kd.R_far (p := ⟨gb460, 2, none⟩) (Kd.R_far (p := ⟨gb460, 1, none⟩) (Kd.R_far (p := ⟨gb460, 0, none⟩) (Kd.R_types HO436.out BK460.out (by decide)) (fun _ hk => hk.2) (.int .i64 t453)) (fun _ hk => hk.2) (.int .i64 t454)) (fun _ hk => hk.2) (.int .i64 t455)) (fun _ hk => hk.2) (.string t456)) (fun _ hk => hk.2) (.slice Ao59 t457.length co59)) (fun _ h_ => h_.1))) hb); replace HO443 := Aside0.mk (Kd.R_below (by (with_reducible repeat (first | apply Kd.R_alloc | apply Kd.R_drewN | apply Kd.R_drew)); exact (Kd.R_mono (Kd.R_far (p := ⟨gb460, 4, none⟩) (Kd.R_far (p := ⟨gb460, 3, none⟩) (Kd.R_far (p := ⟨gb460, 2, none⟩) (Kd.R_far (p := ⟨gb460, 1, none⟩) (Kd.R_far (p := ⟨gb460, 0, none⟩) (Kd.R_types HO443.out BK460.out (by decide)) (fun _ hk => hk.2) (.int .i64 t453)) (fun _ hk => hk.2) (.int .i64 t454)) (fun _ hk => hk.2) (.int .i64 t455)) (fun _ hk => hk.2) (.string t456)) (fun _ hk => hk.2) (.slice Ao59 t457.length co59)) (fun _ h_ => h_.1))) hb); replace HO451 := Aside0.mk (Kd.R_below (by (with_reducible repeat (first | apply Kd.R_alloc | apply Kd.R_drewN | apply Kd.R_drew)); exact (Kd.R_mono (Kd.R_far (p := ⟨gb460, 4, none⟩) (Kd.R_far (p := ⟨gb460, 3, none⟩) (Kd.R_far (p := ⟨gb460, 2, none⟩) (Kd.R_far (p := ⟨gb460, 1, none⟩) (Kd.R_far (p := ⟨gb460, 0, none⟩) (Kd.R_types HO451.out BK460.out (by decide)) (fun _ hk => hk.2) (.int .i64 t453)) (fun _ hk => hk.2) (.int .i64 t454)) (fun _ hk => hk.2) (.int .i64 t455)) (fun _ hk => hk.2) (.string t456)) (fun _ hk => hk.2) (.slice Ao59 t457.length co59)) (fun _ h_ => h_.1))) hb); replace HO459 := Aside0.mk (Kd.R_below (by (with_reducible repeat (first | apply Kd.R_alloc | apply Kd.R_drewN | apply Kd.R_drew)); exact (Kd.R_mono (Kd.R_far (p := ⟨gb460, 4, none⟩) (Kd.R_far (p := ⟨gb460, 3, none⟩) (Kd.R_far (p := ⟨gb460, 2, none⟩) (Kd.R_far (p := ⟨gb460, 1, none⟩) (Kd.R_far (p := ⟨gb460, 0, none⟩) (Kd.R_types HO459.out BK460.out (by decide)) (fun _ hk => hk.2) (.int .i64 t453)) (fun _ hk => hk.2) (.int .i64 t454)) (fun _ hk => hk.2) (.int .i64 t455)) (fun _ hk => hk.2) (.string t456)) (fun _ hk => hk.2) (.slice Ao59 t457.length co59)) (fun _ h_ => h_.1))) hb); replace BK426 := Aside0.mk (blk_below (g := gb426) (o := .cells #[.int .i64 a0_0, .int .i64 a0_1, .int .i64 a0_2, .string a0_3, .slice A0_4 l0_4.length c0_4] 73 (0, 0)) (by (with_reducible repeat (first | refine blk_drewN ?_ _ | refine blk_drew ?_ | refine blk_alloc ?_ _)); refine blk_far ?_ NB426_460.out _; (with_reducible repeat (first | refine blk_drewN ?_ _ | refine blk_drew ?_ | refine blk_alloc ?_ _)); refine blk_far ?_ NB426_460.out _; (with_reducible repeat (first | refine blk_drewN ?_ _ | refine blk_drew ?_ | refine blk_alloc ?_ _)); refine blk_far ?_ NB426_460.out _; (with_reducible repeat (first | refine blk_drewN ?_ _ | refine blk_drew ?_ | refine blk_alloc ?_ _)); refine blk_far ?_ NB426_460.out _; (with_reducible repeat (first | refine blk_drewN ?_ _ | refine blk_drew ?_ | refine blk_alloc ?_ _)); refine blk_far ?_ NB426_460.out _; (with_reducible repeat (first | refine blk_drewN ?_ _ | refine blk_drew ?_ | refine blk_alloc ?_ _)); exact BK426.out) hb); replace BK427 := Aside0.mk (blk_below (g := gb427) (o := .cells #[.int .i64 a1_0, .int .i64 a1_1, .int .i64 a1_2, .string a1_3, .slice A1_4 l1_4.length c1_4] 73 (0, 0)) (by (with_reducible repeat (first | refine blk_drewN ?_ _ | refine blk_drew ?_ | refine blk_alloc ?_ _)); refine blk_far ?_ NB427_460.out _; (with_reducible repeat (first | refine blk_drewN ?_ _ | refine blk_drew ?_ | refine blk_alloc ?_ _)); refine blk_far ?_ NB427_460.out _; (with_reducible repeat (first | refine blk_drewN ?_ _ | refine blk_drew ?_ | refine blk_alloc ?_ _)); refine blk_far ?_ NB427_460.out _; (with_reducible repeat (first | refine blk_drewN ?_ _ | refine blk_drew ?_ | refine blk_alloc ?_ _)); refine blk_far ?_ NB427_460.out _; (with_reducible repeat (first | refine blk_drewN ?_ _ | refine blk_drew ?_ | refine blk_alloc ?_ _)); refine blk_far ?_ NB427_460.out _; (with_reducible repeat (first | refine blk_drewN ?_ _ | refine blk_drew ?_ | refine blk_alloc ?_ _)); exact BK427.out) hb); replace BK452 := Aside0.mk (blk_below (g := gb452) (o := .cells #[.int .i64 t445, .int .i64 t446, .int .i64 t447, .string t448, .slice Ao51 t449.length co51] 77 (0, 0)) (by (with_reducible repeat (first | refine blk_drewN ?_ _ | refine blk_drew ?_ | refine blk_alloc ?_ _)); refine blk_far ?_ NB452_460.out _; (with_reducible repeat (first | refine blk_drewN ?_ _ | refine blk_drew ?_ | refine blk_alloc ?_ _)); refine blk_far ?_ NB452_460.out _; (with_reducible repeat (first | refine blk_drewN ?_ _ | refine blk_drew ?_ | refine blk_alloc ?_ _)); refine blk_far ?_ NB452_460.out _; (with_reducible repeat (first | refine blk_drewN ?_ _ | refine blk_drew ?_ | refine blk_alloc ?_ _)); refine blk_far ?_ NB452_460.out _; (with_reducible repeat (first | refine blk_drewN ?_ _ | refine blk_drew ?_ | refine blk_alloc ?_ _)); refine blk_far ?_ NB452_460.out _; (with_reducible repeat (first | refine blk_drewN ?_ _ | refine blk_drew ?_ | refine blk_alloc ?_ _)); exact BK452.out) hb); replace BK460 := Aside0.mk (blk_below (g := gb460) (o := .cells #[.int .i64 t453, .int .i64 t454, .int .i64 t455, .string t456, .slice Ao59 t457.length co59] 77 (0, 0)) (by (with_reducible repeat (first | refine blk_drewN ?_ _ | refine blk_drew ?_ | refine blk_alloc ?_ _)); refine blk_put (cs := #[.int .i64 t453, .int .i64 t454, .int .i64 t455, .string t456, .slice none 0 0]) ?_ 4 _ rfl; (with_reducible repeat (first | refine blk_drewN ?_ _ | refine blk_drew ?_ | refine blk_alloc ?_ _)); refine blk_put (cs := #[.int .i64 t453, .int .i64 t454, .int .i64 t455, .string (⟨#[]⟩ : ByteArray), .slice none 0 0]) ?_ 3 _ rfl; (with_reducible repeat (first | refine blk_drewN ?_ _ | refine blk_drew ?_ | refine blk_alloc ?_ _)); refine blk_put (cs := #[.int .i64 t453, .int .i64 t454, .int .i64 0, .string (⟨#[]⟩ : ByteArray), .slice none 0 0]) ?_ 2 _ rfl; (with_reducible repeat (first | refine blk_drewN ?_ _ | refine blk_drew ?_ | refine blk_alloc ?_ _)); refine blk_put (cs := #[.int .i64 t453, .int .i64 0, .int .i64 0, .string (⟨#[]⟩ : ByteArray), .slice none 0 0]) ?_ 1 _ rfl; (with_reducible repeat (first | refine blk_drewN ?_ _ | refine blk_drew ?_ | refine blk_alloc ?_ _)); refine blk_put (cs := #[.int .i64 0, .int .i64 0, .int .i64 0, .string (⟨#[]⟩ : ByteArray), .slice none 0 0]) ?_ 0 _ rfl; (with_reducible repeat (first | refine blk_drewN ?_ _ | refine blk_drew ?_ | refine blk_alloc ?_ _)); exact BK460.out) hb); replace HB := Aside0.mk (below_step Hd.b_ hb); (try clear hb); (try clear hb2); (try clear hk); (try clear hi)))
      replace HO436 := Aside0.mk (Kd.R_drew HO436.out)
      replace HO443 := Aside0.mk (Kd.R_drew HO443.out)
      replace HO451 := Aside0.mk (Kd.R_drew HO451.out)
      replace HO459 := Aside0.mk (Kd.R_drew HO459.out)
      replace BK426 := Aside0.mk (blk_drew BK426.out)
      replace BK427 := Aside0.mk (blk_drew BK427.out)
      replace BK452 := Aside0.mk (blk_drew BK452.out)
      replace BK460 := Aside0.mk (blk_drew BK460.out)
      replace HB := Aside0.mk (below_drew1 HB.out)
      refine start_ (n := 5) (S := fun w' => w'.cell? ⟨gb452, 0, none⟩ = some (.int .i64 t445) ∧ w'.cell? ⟨gb452, 1, none⟩ = some (.int .i64 t446) ∧ w'.cell? ⟨gb452, 2, none⟩ = some (.int .i64 t447) ∧ w'.cell? ⟨gb452, 3, none⟩ = some (.string t448) ∧ w'.cell? ⟨gb452, 4, none⟩ = some (.slice Ao51 t449.length co51) ∧ w'.cell? ⟨gb426, 0, none⟩ = some (.int .i64 a0_0) ∧ w'.cell? ⟨gb426, 1, none⟩ = some (.int .i64 a0_1) ∧ w'.cell? ⟨gb426, 2, none⟩ = some (.int .i64 a0_2) ∧ w'.cell? ⟨gb426, 3, none⟩ = some (.string a0_3) ∧ w'.cell? ⟨gb426, 4, none⟩ = some (.slice A0_4 l0_4.length c0_4)) (ds := []) #[false, false, false, false, false] (by kernel_rfl) rfl rfl ⟨(blk_cell BK452.out 0).trans rfl, (blk_cell BK452.out 1).trans rfl, (blk_cell BK452.out 2).trans rfl, (blk_cell BK452.out 3).trans rfl, (blk_cell BK452.out 4).trans rfl, (blk_cell BK426.out 0).trans rfl, (blk_cell BK426.out 1).trans rfl, (blk_cell BK426.out 2).trans rfl, (blk_cell BK426.out 3).trans rfl, (blk_cell BK426.out 4).trans rfl⟩ (fun hHeld => ?_)
      generalize w61.drew = w62 at HO436 HO443 HO451 HO459 BK426 BK427 BK452 BK460 HB hHeld ⊢
      refine take_ (i := 0) (N := some 35) (v := ?_) (a' := ?_) #[true, false, false, false, false] rfl rfl (by kernel_rfl) (fun _ _ _ h => h) (Or.inl ⟨by rfl, ?_⟩) hHeld ?_ ?_
      rotate_left
      ·
       rintro w' ⟨s0, s1, s2, s3, s4, s5, s6, s7, s8, s9⟩
       go_simp
       with_reducible rfl
      rotate_left
      ·
       simp only [Act.put, List.setIfInBounds_toArray, List.set_cons_zero, List.set_cons_succ, i64_w, i32_w]
       rfl
      refine take_ (i := 1) (N := some 36) (v := ?_) (a' := ?_) #[true, true, false, false, false] rfl rfl (by kernel_rfl) (fun _ _ _ h => h) (Or.inl ⟨by rfl, ?_⟩) hHeld ?_ ?_
      rotate_left
      ·
       rintro w' ⟨s0, s1, s2, s3, s4, s5, s6, s7, s8, s9⟩
       go_simp
       with_reducible rfl
      rotate_left
      ·
       simp only [Act.put, List.setIfInBounds_toArray, List.set_cons_zero, List.set_cons_succ, i64_w, i32_w]
       rfl
      refine one_ (i := 2) (N := some 37) #[true, true, true, false, false] rfl rfl (by kernel_rfl) (by decide) (fun K hK => ?_)
      refine goes_ Try.func60 (by kernel_rfl) rfl #[.agg #[.int .i64 a0_0, .int .i64 a0_1, .int .i64 a0_2, .string a0_3, .slice A0_4 l0_4.length c0_4]] (by rfl) rfl rfl Hd.m_ ?_
      with_reducible refine (laws_toFeature.calls k a0_0 a0_1 a0_2 a0_3 _ _ l0_4 t462 t463 t464 t465 t466 _ ?side1 ?side2 A26.out).mono ?_
      (case side1 => repeat (first | exact (Kd.C_below HR0_4.out HB.out) | (with_reducible refine Kd.C_alloc ?_ _) | (with_reducible refine Kd.C_drewN ?_ _) | (with_reducible refine Kd.C_drew ?_)))
      (case side2 => exact HC0_4.out)
      rintro e w63 ⟨v467, rfl, ho0, hb⟩
      refine ⟨_, rfl, ?_⟩
      have HO468 := Aside0.mk (Kd.R_lower (Kd.R_new' (Kd.R_new' (Kd.R_new' (Kd.R_new' ho0 (Kd.R_lt (Hd.r_ HO436))) (Kd.R_lt (Hd.r_ HO443))) (Kd.R_lt (Hd.r_ HO451))) (Kd.R_lt (Hd.r_ HO459))) (below_size Hd.b_))
      replace HO436 := Aside0.mk (Kd.R_elder' (Hd.r_ HO436) (Kd.R_base ho0) hb)
      replace HO443 := Aside0.mk (Kd.R_elder' (Hd.r_ HO443) (Kd.R_base ho0) hb)
      replace HO451 := Aside0.mk (Kd.R_elder' (Hd.r_ HO451) (Kd.R_base ho0) hb)
      replace HO459 := Aside0.mk (Kd.R_elder' (Hd.r_ HO459) (Kd.R_base ho0) hb)
      replace BK426 := Aside0.mk (Hd.kb_ BK426 hb)
      replace BK427 := Aside0.mk (Hd.kb_ BK427 hb)
      replace BK452 := Aside0.mk (Hd.kb_ BK452 hb)
      replace BK460 := Aside0.mk (Hd.kb_ BK460 hb)
      replace HB := Aside0.mk (below_step Hd.b_ hb)
      (try clear hb)
      (try clear hb2)
      (try clear hk)
      (try clear hi)
      (try clear ho0)
      obtain ⟨Ao64, co64, eo64⟩ := Kd.R_slice HO468.out
      (first | subst eo64 | (injection eo64 with f1_ f2_ f3_; have f4_ := f1_.symm; have f5_ := f3_.symm; clear f1_ f2_ f3_; subst f4_; subst f5_))
      refine hK.out _ _ ⟨(blk_cell BK452.out 0).trans rfl, (blk_cell BK452.out 1).trans rfl, (blk_cell BK452.out 2).trans rfl, (blk_cell BK452.out 3).trans rfl, (blk_cell BK452.out 4).trans rfl, (blk_cell BK426.out 0).trans rfl, (blk_cell BK426.out 1).trans rfl, (blk_cell BK426.out 2).trans rfl, (blk_cell BK426.out 3).trans rfl, (blk_cell BK426.out 4).trans rfl⟩ (fun hHeld => ?_)
      clear hK K
      refine Hd.n_ (some 37) ?_
      refine one_ (i := 3) (N := some 38) #[true, true, true, true, false] rfl rfl (by kernel_rfl) (by decide) (fun K hK => ?_)
      refine goes_ Try.func62 (by kernel_rfl) rfl #[.agg #[.int .i64 t445, .int .i64 t446, .int .i64 t447, .string t448, .slice Ao51 t449.length co51], .agg #[.int .i64 t462, .int .i64 t463, .int .i64 t464, .string t465, .slice Ao64 t466.length co64]] (by rfl) rfl rfl Hd.m_ ?_
      with_reducible refine (laws_eqFeature.calls k t445 t446 t447 t448 _ _ t449 t462 t463 t464 t465 _ _ t466 true _ ?side1 ?side2 ?side3 ?side4 A27.out).mono ?_
      (case side1 => repeat (first | exact (Kd.R_reads' HO451.out).2.2 | (with_reducible refine Kd.C_alloc ?_ _) | (with_reducible refine Kd.C_drewN ?_ _) | (with_reducible refine Kd.C_drew ?_)))
      (case side2 => exact (Kd.R_reads' HO451.out).2.1)
      (case side3 => repeat (first | exact (Kd.R_reads' HO468.out).2.2 | (with_reducible refine Kd.C_alloc ?_ _) | (with_reducible refine Kd.C_drewN ?_ _) | (with_reducible refine Kd.C_drew ?_)))
      (case side4 => exact (Kd.R_reads' HO468.out).2.1)
      rintro e w65 ⟨rfl, hb⟩
      refine ⟨_, rfl, ?_⟩
      replace HO436 := Aside0.mk (Kd.R_below (Hd.r_ HO436) hb)
      replace HO443 := Aside0.mk (Kd.R_below (Hd.r_ HO443) hb)
      replace HO451 := Aside0.mk (Kd.R_below (Hd.r_ HO451) hb)
      replace HO459 := Aside0.mk (Kd.R_below (Hd.r_ HO459) hb)
      replace HO468 := Aside0.mk (Kd.R_below (Hd.r_ HO468) hb)
      replace BK426 := Aside0.mk (Hd.kb_ BK426 hb)
      replace BK427 := Aside0.mk (Hd.kb_ BK427 hb)
      replace BK452 := Aside0.mk (Hd.kb_ BK452 hb)
      replace BK460 := Aside0.mk (Hd.kb_ BK460 hb)
      replace HB := Aside0.mk (below_step Hd.b_ hb)
      (try clear hb)
      (try clear hb2)
      (try clear hk)
      (try clear hi)
      refine hK.out _ _ ⟨(blk_cell BK452.out 0).trans rfl, (blk_cell BK452.out 1).trans rfl, (blk_cell BK452.out 2).trans rfl, (blk_cell BK452.out 3).trans rfl, (blk_cell BK452.out 4).trans rfl, (blk_cell BK426.out 0).trans rfl, (blk_cell BK426.out 1).trans rfl, (blk_cell BK426.out 2).trans rfl, (blk_cell BK426.out 3).trans rfl, (blk_cell BK426.out 4).trans rfl⟩ (fun hHeld => ?_)
      clear hK K
      refine Hd.n_ (some 38) ?_
      refine pure_ (i := 4) (N := some 39) (v := ?_) (a' := ?_) #[true, true, true, true, true] rfl rfl (by kernel_rfl) (fun _ _ _ h => h) (Or.inl ⟨by rfl, ?_⟩) ?_ ?_
      rotate_left
      ·
       intro w'
       go_simp
       with_reducible rfl
      rotate_left
      ·
       simp only [Act.put, List.setIfInBounds_toArray, List.set_cons_zero, List.set_cons_succ, i64_w, i32_w]
       rfl
      refine done_ (by kernel_rfl) ?_
      try go_wp2
      replace HO436 := Aside0.mk (Kd.R_drew HO436.out)
      replace HO443 := Aside0.mk (Kd.R_drew HO443.out)
      replace HO451 := Aside0.mk (Kd.R_drew HO451.out)
      replace HO459 := Aside0.mk (Kd.R_drew HO459.out)
      replace HO468 := Aside0.mk (Kd.R_drew HO468.out)
      replace BK426 := Aside0.mk (blk_drew BK426.out)
      replace BK427 := Aside0.mk (blk_drew BK427.out)
      replace BK452 := Aside0.mk (blk_drew BK452.out)
      replace BK460 := Aside0.mk (blk_drew BK460.out)
      replace HB := Aside0.mk (below_drew1 HB.out)
      refine start_ (n := 5) (S := fun w' => w'.cell? ⟨gb460, 0, none⟩ = some (.int .i64 t453) ∧ w'.cell? ⟨gb460, 1, none⟩ = some (.int .i64 t454) ∧ w'.cell? ⟨gb460, 2, none⟩ = some (.int .i64 t455) ∧ w'.cell? ⟨gb460, 3, none⟩ = some (.string t456) ∧ w'.cell? ⟨gb460, 4, none⟩ = some (.slice Ao59 t457.length co59) ∧ w'.cell? ⟨gb427, 0, none⟩ = some (.int .i64 a1_0) ∧ w'.cell? ⟨gb427, 1, none⟩ = some (.int .i64 a1_1) ∧ w'.cell? ⟨gb427, 2, none⟩ = some (.int .i64 a1_2) ∧ w'.cell? ⟨gb427, 3, none⟩ = some (.string a1_3) ∧ w'.cell? ⟨gb427, 4, none⟩ = some (.slice A1_4 l1_4.length c1_4)) (ds := []) #[false, false, false, false, false] (by kernel_rfl) rfl rfl ⟨(blk_cell BK460.out 0).trans rfl, (blk_cell BK460.out 1).trans rfl, (blk_cell BK460.out 2).trans rfl, (blk_cell BK460.out 3).trans rfl, (blk_cell BK460.out 4).trans rfl, (blk_cell BK427.out 0).trans rfl, (blk_cell BK427.out 1).trans rfl, (blk_cell BK427.out 2).trans rfl, (blk_cell BK427.out 3).trans rfl, (blk_cell BK427.out 4).trans rfl⟩ (fun hHeld => ?_)
      generalize w65.drew = w66 at HO436 HO443 HO451 HO459 HO468 BK426 BK427 BK452 BK460 HB hHeld ⊢
      refine take_ (i := 0) (N := some 40) (v := ?_) (a' := ?_) #[true, false, false, false, false] rfl rfl (by kernel_rfl) (fun _ _ _ h => h) (Or.inl ⟨by rfl, ?_⟩) hHeld ?_ ?_
      rotate_left
      ·
       rintro w' ⟨s0, s1, s2, s3, s4, s5, s6, s7, s8, s9⟩
       go_simp
       with_reducible rfl
      rotate_left
      ·
       simp only [Act.put, List.setIfInBounds_toArray, List.set_cons_zero, List.set_cons_succ, i64_w, i32_w]
       rfl
      refine take_ (i := 1) (N := some 41) (v := ?_) (a' := ?_) #[true, true, false, false, false] rfl rfl (by kernel_rfl) (fun _ _ _ h => h) (Or.inl ⟨by rfl, ?_⟩) hHeld ?_ ?_
      rotate_left
      ·
       rintro w' ⟨s0, s1, s2, s3, s4, s5, s6, s7, s8, s9⟩
       go_simp
       with_reducible rfl
      rotate_left
      ·
       simp only [Act.put, List.setIfInBounds_toArray, List.set_cons_zero, List.set_cons_succ, i64_w, i32_w]
       rfl
      refine one_ (i := 2) (N := some 42) #[true, true, true, false, false] rfl rfl (by kernel_rfl) (by decide) (fun K hK => ?_)
      refine goes_ Try.func60 (by kernel_rfl) rfl #[.agg #[.int .i64 a1_0, .int .i64 a1_1, .int .i64 a1_2, .string a1_3, .slice A1_4 l1_4.length c1_4]] (by rfl) rfl rfl Hd.m_ ?_
      with_reducible refine (laws_toFeature.calls k a1_0 a1_1 a1_2 a1_3 _ _ l1_4 t470 t471 t472 t473 t474 _ ?side1 ?side2 A29.out).mono ?_
      (case side1 => repeat (first | exact (Kd.C_below HR1_4.out HB.out) | (with_reducible refine Kd.C_alloc ?_ _) | (with_reducible refine Kd.C_drewN ?_ _) | (with_reducible refine Kd.C_drew ?_)))
      (case side2 => exact HC1_4.out)
      rintro e w67 ⟨v475, rfl, ho0, hb⟩
      refine ⟨_, rfl, ?_⟩
      have HO476 := Aside0.mk (Kd.R_lower (Kd.R_new' (Kd.R_new' (Kd.R_new' (Kd.R_new' (Kd.R_new' ho0 (Kd.R_lt (Hd.r_ HO436))) (Kd.R_lt (Hd.r_ HO443))) (Kd.R_lt (Hd.r_ HO451))) (Kd.R_lt (Hd.r_ HO459))) (Kd.R_lt (Hd.r_ HO468))) (below_size Hd.b_))
      replace HO436 := Aside0.mk (Kd.R_elder' (Hd.r_ HO436) (Kd.R_base ho0) hb)
      replace HO443 := Aside0.mk (Kd.R_elder' (Hd.r_ HO443) (Kd.R_base ho0) hb)
      replace HO451 := Aside0.mk (Kd.R_elder' (Hd.r_ HO451) (Kd.R_base ho0) hb)
      replace HO459 := Aside0.mk (Kd.R_elder' (Hd.r_ HO459) (Kd.R_base ho0) hb)
      replace HO468 := Aside0.mk (Kd.R_elder' (Hd.r_ HO468) (Kd.R_base ho0) hb)
      replace BK426 := Aside0.mk (Hd.kb_ BK426 hb)
      replace BK427 := Aside0.mk (Hd.kb_ BK427 hb)
      replace BK452 := Aside0.mk (Hd.kb_ BK452 hb)
      replace BK460 := Aside0.mk (Hd.kb_ BK460 hb)
      replace HB := Aside0.mk (below_step Hd.b_ hb)
      (try clear hb)
      (try clear hb2)
      (try clear hk)
      (try clear hi)
      (try clear ho0)
      obtain ⟨Ao68, co68, eo68⟩ := Kd.R_slice HO476.out
      (first | subst eo68 | (injection eo68 with f1_ f2_ f3_; have f4_ := f1_.symm; have f5_ := f3_.symm; clear f1_ f2_ f3_; subst f4_; subst f5_))
      refine hK.out _ _ ⟨(blk_cell BK460.out 0).trans rfl, (blk_cell BK460.out 1).trans rfl, (blk_cell BK460.out 2).trans rfl, (blk_cell BK460.out 3).trans rfl, (blk_cell BK460.out 4).trans rfl, (blk_cell BK427.out 0).trans rfl, (blk_cell BK427.out 1).trans rfl, (blk_cell BK427.out 2).trans rfl, (blk_cell BK427.out 3).trans rfl, (blk_cell BK427.out 4).trans rfl⟩ (fun hHeld => ?_)
      clear hK K
      refine Hd.n_ (some 42) ?_
      refine one_ (i := 3) (N := some 43) #[true, true, true, true, false] rfl rfl (by kernel_rfl) (by decide) (fun K hK => ?_)
      refine goes_ Try.func62 (by kernel_rfl) rfl #[.agg #[.int .i64 t453, .int .i64 t454, .int .i64 t455, .string t456, .slice Ao59 t457.length co59], .agg #[.int .i64 t470, .int .i64 t471, .int .i64 t472, .string t473, .slice Ao68 t474.length co68]] (by rfl) rfl rfl Hd.m_ ?_
      with_reducible refine (laws_eqFeature.calls k t453 t454 t455 t456 _ _ t457 t470 t471 t472 t473 _ _ t474 true _ ?side1 ?side2 ?side3 ?side4 A30.out).mono ?_
      (case side1 => repeat (first | exact (Kd.R_reads' HO459.out).2.2 | (with_reducible refine Kd.C_alloc ?_ _) | (with_reducible refine Kd.C_drewN ?_ _) | (with_reducible refine Kd.C_drew ?_)))
      (case side2 => exact (Kd.R_reads' HO459.out).2.1)
      (case side3 => repeat (first | exact (Kd.R_reads' HO476.out).2.2 | (with_reducible refine Kd.C_alloc ?_ _) | (with_reducible refine Kd.C_drewN ?_ _) | (with_reducible refine Kd.C_drew ?_)))
      (case side4 => exact (Kd.R_reads' HO476.out).2.1)
      rintro e w69 ⟨rfl, hb⟩
      refine ⟨_, rfl, ?_⟩
      replace HO436 := Aside0.mk (Kd.R_below (Hd.r_ HO436) hb)
      replace HO443 := Aside0.mk (Kd.R_below (Hd.r_ HO443) hb)
      replace HO451 := Aside0.mk (Kd.R_below (Hd.r_ HO451) hb)
      replace HO459 := Aside0.mk (Kd.R_below (Hd.r_ HO459) hb)
      replace HO468 := Aside0.mk (Kd.R_below (Hd.r_ HO468) hb)
      replace HO476 := Aside0.mk (Kd.R_below (Hd.r_ HO476) hb)
      replace BK426 := Aside0.mk (Hd.kb_ BK426 hb)
      replace BK427 := Aside0.mk (Hd.kb_ BK427 hb)
      replace BK452 := Aside0.mk (Hd.kb_ BK452 hb)
      replace BK460 := Aside0.mk (Hd.kb_ BK460 hb)
      replace HB := Aside0.mk (below_step Hd.b_ hb)
      (try clear hb)
      (try clear hb2)
      (try clear hk)
      (try clear hi)
      refine hK.out _ _ ⟨(blk_cell BK460.out 0).trans rfl, (blk_cell BK460.out 1).trans rfl, (blk_cell BK460.out 2).trans rfl, (blk_cell BK460.out 3).trans rfl, (blk_cell BK460.out 4).trans rfl, (blk_cell BK427.out 0).trans rfl, (blk_cell BK427.out 1).trans rfl, (blk_cell BK427.out 2).trans rfl, (blk_cell BK427.out 3).trans rfl, (blk_cell BK427.out 4).trans rfl⟩ (fun hHeld => ?_)
      clear hK K
      refine Hd.n_ (some 43) ?_
      refine pure_ (i := 4) (N := some 44) (v := ?_) (a' := ?_) #[true, true, true, true, true] rfl rfl (by kernel_rfl) (fun _ _ _ h => h) (Or.inl ⟨by rfl, ?_⟩) ?_ ?_
      rotate_left
      ·
       intro w'
       go_simp
       with_reducible rfl
      rotate_left
      ·
       simp only [Act.put, List.setIfInBounds_toArray, List.set_cons_zero, List.set_cons_succ, i64_w, i32_w]
       rfl
      refine done_ (by kernel_rfl) ?_
      try go_wp2
      go_ret
      exact ⟨Hd.e_, Hd.b_⟩
     ·
      replace c31 := Bool.eq_false_iff.mpr c31
      subst c31
      have H1 : (some false) = some r := by rw [if_neg (show ¬ (false = true) by decide)] at H; exact H
      clear H
      have H := H1
      clear H1
      obtain rfl := Option.some.inj H
      go_enter Try.func12, Try.ntmps12
      try go_wp2_with (first | ((with_reducible refine gate_dst (N := 2) rfl ?_); refine Hd.box_ 2 (#[.int .i64 a0_0, .int .i64 a0_1, .int .i64 a0_2, .string a0_3, .slice A0_4 l0_4.length c0_4]) 73 ?_; intro gb426 hg w70 hbox hb; have BK426 := Aside0.mk (hbox); have GW426 := Aside0.mk ((Hd.g_ hg Hd.b_ : w.heap.size ≤ gb426)); have GE426 := Aside0.mk ((Hd.g_ hg Hd.b_ : w.heap.size ≤ gb426)); replace HB := Aside0.mk (below_step Hd.b_ hb); clear hb hbox hg) | ((with_reducible refine gate_dst (N := 3) rfl ?_); refine Hd.box_ 3 (#[.int .i64 a1_0, .int .i64 a1_1, .int .i64 a1_2, .string a1_3, .slice A1_4 l1_4.length c1_4]) 73 ?_; intro gb427 hg w71 hbox hb; have BK427 := Aside0.mk (hbox); have GW427 := Aside0.mk ((Hd.g_ hg Hd.b_ : w.heap.size ≤ gb427)); have GE427 := Aside0.mk ((Hd.g_ hg Hd.b_ : w.heap.size ≤ gb427)); replace HB := Aside0.mk (below_step Hd.b_ hb); have NB426_427 := Aside0.mk ((Hd.lt_ BK426 hg)); have NB427_426 := Aside0.mk ((Hd.gt_ BK426 hg)); replace BK426 := Aside0.mk (Hd.kb_ BK426 hb); clear hb hbox hg; have hnb72 := NB426_427.out; have hnc72 := NB427_426.out; obtain ⟨hcz73_0, hcz73_1, hcz73_2, hcz73_3, hcz73_4⟩ := Hd.c5_ BK426.out; obtain ⟨hfz73_0, hfz73_1, hfz73_2, hfz73_3, hfz73_4⟩ := Hd.f5_ BK426.out) | ((with_reducible refine gate_callee (f := 58) rfl ?_); refine goesL_ (some 12) rfl rfl Try.func58 (by kernel_rfl) rfl #[.agg #[.int .i64 a0_0, .int .i64 a0_1, .int .i64 a0_2, .string a0_3, .slice A0_4 l0_4.length c0_4], .int .i64 1048576] rfl Hd.m_ ?_; (with_reducible refine (laws_szFeature.calls a0_0 a0_1 a0_2 a0_3 _ _ l0_4 1048576 t428 _ ?side1 ?side2 A3.out).mono ?_); (case side1 => repeat (first | exact (Kd.C_below HR0_4.out HB.out) | (with_reducible refine Kd.C_alloc ?_ _) | (with_reducible refine Kd.C_drewN ?_ _) | (with_reducible refine Kd.C_drew ?_))); (case side2 => exact HC0_4.out); rintro e w74 ⟨rfl, hb⟩; refine ⟨_, rfl, ?_⟩; replace BK426 := Aside0.mk (Hd.kb_ BK426 hb); replace BK427 := Aside0.mk (Hd.kb_ BK427 hb); replace HB := Aside0.mk (below_step Hd.b_ hb); (try clear hb); (try clear hb2); (try clear hk); (try clear hi); obtain ⟨hcz75_0, hcz75_1, hcz75_2, hcz75_3, hcz75_4⟩ := Hd.c5_ BK427.out; obtain ⟨hfz75_0, hfz75_1, hfz75_2, hfz75_3, hfz75_4⟩ := Hd.f5_ BK427.out) | ((with_reducible refine gate_callee (f := 58) rfl ?_); refine goesL_ (some 17) rfl rfl Try.func58 (by kernel_rfl) rfl #[.agg #[.int .i64 a1_0, .int .i64 a1_1, .int .i64 a1_2, .string a1_3, .slice A1_4 l1_4.length c1_4], .int .i64 t428] rfl Hd.m_ ?_; (with_reducible refine (laws_szFeature.calls a1_0 a1_1 a1_2 a1_3 _ _ l1_4 t428 t429 _ ?side1 ?side2 A10.out).mono ?_); (case side1 => repeat (first | exact (Kd.C_below HR1_4.out HB.out) | (with_reducible refine Kd.C_alloc ?_ _) | (with_reducible refine Kd.C_drewN ?_ _) | (with_reducible refine Kd.C_drew ?_))); (case side2 => exact HC1_4.out); rintro e w76 ⟨rfl, hb⟩; refine ⟨_, rfl, ?_⟩; replace BK426 := Aside0.mk (Hd.kb_ BK426 hb); replace BK427 := Aside0.mk (Hd.kb_ BK427 hb); replace HB := Aside0.mk (below_step Hd.b_ hb); (try clear hb); (try clear hb2); (try clear hk); (try clear hi)))
      replace BK426 := Aside0.mk (blk_drew BK426.out)
      replace BK427 := Aside0.mk (blk_drew BK427.out)
      replace HB := Aside0.mk (below_drew1 HB.out)
      refine start_ (n := 6) (S := fun w' => w'.cell? ⟨gb426, 0, none⟩ = some (.int .i64 a0_0) ∧ w'.cell? ⟨gb426, 1, none⟩ = some (.int .i64 a0_1) ∧ w'.cell? ⟨gb426, 2, none⟩ = some (.int .i64 a0_2) ∧ w'.cell? ⟨gb426, 3, none⟩ = some (.string a0_3) ∧ w'.cell? ⟨gb426, 4, none⟩ = some (.slice A0_4 l0_4.length c0_4) ∧ w'.cell? ⟨gb427, 0, none⟩ = some (.int .i64 a1_0) ∧ w'.cell? ⟨gb427, 1, none⟩ = some (.int .i64 a1_1) ∧ w'.cell? ⟨gb427, 2, none⟩ = some (.int .i64 a1_2) ∧ w'.cell? ⟨gb427, 3, none⟩ = some (.string a1_3) ∧ w'.cell? ⟨gb427, 4, none⟩ = some (.slice A1_4 l1_4.length c1_4)) (ds := []) #[false, false, false, false, false, false] (by kernel_rfl) rfl rfl ⟨(blk_cell BK426.out 0).trans rfl, (blk_cell BK426.out 1).trans rfl, (blk_cell BK426.out 2).trans rfl, (blk_cell BK426.out 3).trans rfl, (blk_cell BK426.out 4).trans rfl, (blk_cell BK427.out 0).trans rfl, (blk_cell BK427.out 1).trans rfl, (blk_cell BK427.out 2).trans rfl, (blk_cell BK427.out 3).trans rfl, (blk_cell BK427.out 4).trans rfl⟩ (fun hHeld => ?_)
      generalize w76.drew = w77 at BK426 BK427 HB hHeld ⊢
      refine take_ (i := 0) (N := some 20) (v := ?_) (a' := ?_) #[true, false, false, false, false, false] rfl rfl (by kernel_rfl) (fun _ _ _ h => h) (Or.inl ⟨by rfl, ?_⟩) hHeld ?_ ?_
      rotate_left
      ·
       rintro w' ⟨s0, s1, s2, s3, s4, s5, s6, s7, s8, s9⟩
       go_simp
       with_reducible rfl
      rotate_left
      ·
       simp only [Act.put, List.setIfInBounds_toArray, List.set_cons_zero, List.set_cons_succ, i64_w, i32_w]
       rfl
      refine take_ (i := 2) (N := some 22) (v := ?_) (a' := ?_) #[true, false, true, false, false, false] rfl rfl (by kernel_rfl) (fun _ _ _ h => h) (Or.inl ⟨by rfl, ?_⟩) hHeld ?_ ?_
      rotate_left
      ·
       rintro w' ⟨s0, s1, s2, s3, s4, s5, s6, s7, s8, s9⟩
       go_simp
       with_reducible rfl
      rotate_left
      ·
       simp only [Act.put, List.setIfInBounds_toArray, List.set_cons_zero, List.set_cons_succ, i64_w, i32_w]
       rfl
      refine one_ (i := 1) (N := some 21) #[true, true, true, false, false, false] rfl rfl (by kernel_rfl) (by decide) (fun K hK => ?_)
      refine goes_ Try.func60 (by kernel_rfl) rfl #[.agg #[.int .i64 a0_0, .int .i64 a0_1, .int .i64 a0_2, .string a0_3, .slice A0_4 l0_4.length c0_4]] (by rfl) rfl rfl Hd.m_ ?_
      with_reducible refine (laws_toFeature.calls k a0_0 a0_1 a0_2 a0_3 _ _ l0_4 t430 t431 t432 t433 t434 _ ?side1 ?side2 A19.out).mono ?_
      (case side1 => repeat (first | exact (Kd.C_below HR0_4.out HB.out) | (with_reducible refine Kd.C_alloc ?_ _) | (with_reducible refine Kd.C_drewN ?_ _) | (with_reducible refine Kd.C_drew ?_)))
      (case side2 => exact HC0_4.out)
      rintro e w78 ⟨v435, rfl, ho0, hb⟩
      refine ⟨_, rfl, ?_⟩
      have HO436 := Aside0.mk (Kd.R_lower ho0 (below_size Hd.b_))
      replace BK426 := Aside0.mk (Hd.kb_ BK426 hb)
      replace BK427 := Aside0.mk (Hd.kb_ BK427 hb)
      replace HB := Aside0.mk (below_step Hd.b_ hb)
      (try clear hb)
      (try clear hb2)
      (try clear hk)
      (try clear hi)
      (try clear ho0)
      refine hK.out _ _ ⟨(blk_cell BK426.out 0).trans rfl, (blk_cell BK426.out 1).trans rfl, (blk_cell BK426.out 2).trans rfl, (blk_cell BK426.out 3).trans rfl, (blk_cell BK426.out 4).trans rfl, (blk_cell BK427.out 0).trans rfl, (blk_cell BK427.out 1).trans rfl, (blk_cell BK427.out 2).trans rfl, (blk_cell BK427.out 3).trans rfl, (blk_cell BK427.out 4).trans rfl⟩ (fun hHeld => ?_)
      clear hK K
      refine Hd.n_ (some 21) ?_
      refine one_ (i := 3) (N := some 23) #[true, true, true, true, false, false] rfl rfl (by kernel_rfl) (by decide) (fun K hK => ?_)
      refine goes_ Try.func60 (by kernel_rfl) rfl #[.agg #[.int .i64 a1_0, .int .i64 a1_1, .int .i64 a1_2, .string a1_3, .slice A1_4 l1_4.length c1_4]] (by rfl) rfl rfl Hd.m_ ?_
      with_reducible refine (laws_toFeature.calls k a1_0 a1_1 a1_2 a1_3 _ _ l1_4 t437 t438 t439 t440 t441 _ ?side1 ?side2 A20.out).mono ?_
      (case side1 => repeat (first | exact (Kd.C_below HR1_4.out HB.out) | (with_reducible refine Kd.C_alloc ?_ _) | (with_reducible refine Kd.C_drewN ?_ _) | (with_reducible refine Kd.C_drew ?_)))
      (case side2 => exact HC1_4.out)
      rintro e w79 ⟨v442, rfl, ho0, hb⟩
      refine ⟨_, rfl, ?_⟩
      have HO443 := Aside0.mk (Kd.R_lower (Kd.R_new' ho0 (Kd.R_lt (Hd.r_ HO436))) (below_size Hd.b_))
      replace HO436 := Aside0.mk (Kd.R_elder' (Hd.r_ HO436) (Kd.R_base ho0) hb)
      replace BK426 := Aside0.mk (Hd.kb_ BK426 hb)
      replace BK427 := Aside0.mk (Hd.kb_ BK427 hb)
      replace HB := Aside0.mk (below_step Hd.b_ hb)
      (try clear hb)
      (try clear hb2)
      (try clear hk)
      (try clear hi)
      (try clear ho0)
      obtain ⟨Ao80, co80, eo80⟩ := Kd.R_slice HO436.out
      (first | subst eo80 | (injection eo80 with f1_ f2_ f3_; have f4_ := f1_.symm; have f5_ := f3_.symm; clear f1_ f2_ f3_; subst f4_; subst f5_))
      obtain ⟨Ao81, co81, eo81⟩ := Kd.R_slice HO443.out
      (first | subst eo81 | (injection eo81 with f1_ f2_ f3_; have f4_ := f1_.symm; have f5_ := f3_.symm; clear f1_ f2_ f3_; subst f4_; subst f5_))
      refine hK.out _ _ ⟨(blk_cell BK426.out 0).trans rfl, (blk_cell BK426.out 1).trans rfl, (blk_cell BK426.out 2).trans rfl, (blk_cell BK426.out 3).trans rfl, (blk_cell BK426.out 4).trans rfl, (blk_cell BK427.out 0).trans rfl, (blk_cell BK427.out 1).trans rfl, (blk_cell BK427.out 2).trans rfl, (blk_cell BK427.out 3).trans rfl, (blk_cell BK427.out 4).trans rfl⟩ (fun hHeld => ?_)
      clear hK K
      refine Hd.n_ (some 23) ?_
      refine one_ (i := 4) (N := some 24) #[true, true, true, true, true, false] rfl rfl (by kernel_rfl) (by decide) (fun K hK => ?_)
      refine goes_ Try.func69 (by kernel_rfl) rfl #[.agg #[.int .i64 t430, .int .i64 t431, .int .i64 t432, .string t433, .slice Ao80 t434.length co80], .agg #[.int .i64 t437, .int .i64 t438, .int .i64 t439, .string t440, .slice Ao81 t441.length co81]] (by rfl) rfl rfl Hd.m_ ?_
      with_reducible refine (spec_FeaturesMeet.calls k t430 t431 t432 t433 _ _ t434 t437 t438 t439 t440 _ _ t441 t444 _ ?side1 ?side2 ?side3 ?side4 A21.out).mono ?_
      (case side1 => repeat (first | exact (Kd.R_reads' HO436.out).2.2 | (with_reducible refine Kd.C_alloc ?_ _) | (with_reducible refine Kd.C_drewN ?_ _) | (with_reducible refine Kd.C_drew ?_)))
      (case side2 => exact (Kd.R_reads' HO436.out).2.1)
      (case side3 => repeat (first | exact (Kd.R_reads' HO443.out).2.2 | (with_reducible refine Kd.C_alloc ?_ _) | (with_reducible refine Kd.C_drewN ?_ _) | (with_reducible refine Kd.C_drew ?_)))
      (case side4 => exact (Kd.R_reads' HO443.out).2.1)
      rintro e w82 ⟨rfl, hb⟩
      refine ⟨_, rfl, ?_⟩
      replace HO436 := Aside0.mk (Kd.R_below (Hd.r_ HO436) hb)
      replace HO443 := Aside0.mk (Kd.R_below (Hd.r_ HO443) hb)
      replace BK426 := Aside0.mk (Hd.kb_ BK426 hb)
      replace BK427 := Aside0.mk (Hd.kb_ BK427 hb)
      replace HB := Aside0.mk (below_step Hd.b_ hb)
      (try clear hb)
      (try clear hb2)
      (try clear hk)
      (try clear hi)
      refine hK.out _ _ ⟨(blk_cell BK426.out 0).trans rfl, (blk_cell BK426.out 1).trans rfl, (blk_cell BK426.out 2).trans rfl, (blk_cell BK426.out 3).trans rfl, (blk_cell BK426.out 4).trans rfl, (blk_cell BK427.out 0).trans rfl, (blk_cell BK427.out 1).trans rfl, (blk_cell BK427.out 2).trans rfl, (blk_cell BK427.out 3).trans rfl, (blk_cell BK427.out 4).trans rfl⟩ (fun hHeld => ?_)
      clear hK K
      refine Hd.n_ (some 24) ?_
      refine pure_ (i := 5) (N := some 6) (v := ?_) (a' := ?_) #[true, true, true, true, true, true] rfl rfl (by kernel_rfl) (fun _ _ _ h => h) (Or.inl ⟨by rfl, ?_⟩) ?_ ?_
      rotate_left
      ·
       intro w'
       go_simp
       with_reducible rfl
      rotate_left
      ·
       simp only [Act.put, List.setIfInBounds_toArray, List.set_cons_zero, List.set_cons_succ, i64_w, i32_w]
       rfl
      refine done_ (by kernel_rfl) ?_
      obtain ⟨hcz83_0, hcz83_1, hcz83_2, hcz83_3, hcz83_4⟩ := Hd.c5_ BK426.out
      obtain ⟨hfz83_0, hfz83_1, hfz83_2, hfz83_3, hfz83_4⟩ := Hd.f5_ BK426.out
      try go_wp2_with (first | ((with_reducible refine gate_callee (f := 60) rfl ?_); refine goesL_ (some 26) rfl rfl Try.func60 (by kernel_rfl) rfl #[.agg #[.int .i64 a0_0, .int .i64 a0_1, .int .i64 a0_2, .string a0_3, .slice A0_4 l0_4.length c0_4]] rfl Hd.m_ ?_; (with_reducible refine (laws_toFeature.calls k a0_0 a0_1 a0_2 a0_3 _ _ l0_4 t445 t446 t447 t448 t449 _ ?side1 ?side2 A22.out).mono ?_); (case side1 => repeat (first | exact (Kd.C_below HR0_4.out HB.out) | (with_reducible refine Kd.C_alloc ?_ _) | (with_reducible refine Kd.C_drewN ?_ _) | (with_reducible refine Kd.C_drew ?_))); (case side2 => exact HC0_4.out); rintro e w84 ⟨v450, rfl, ho0, hb⟩; refine ⟨_, rfl, ?_⟩; have HO451 := Aside0.mk (Kd.R_lower (Kd.R_new' (Kd.R_new' ho0 (Kd.R_lt (Hd.r_ HO436))) (Kd.R_lt (Hd.r_ HO443))) (below_size Hd.b_)); replace HO436 := Aside0.mk (Kd.R_elder' (Hd.r_ HO436) (Kd.R_base ho0) hb); replace HO443 := Aside0.mk (Kd.R_elder' (Hd.r_ HO443) (Kd.R_base ho0) hb); replace BK426 := Aside0.mk (Hd.kb_ BK426 hb); replace BK427 := Aside0.mk (Hd.kb_ BK427 hb); replace HB := Aside0.mk (below_step Hd.b_ hb); (try clear hb); (try clear hb2); (try clear hk); (try clear hi); (try clear ho0)) | ((with_reducible refine gate_dst (N := 7) rfl ?_); refine Hd.box_ 7 (#[.int .i64 0, .int .i64 0, .int .i64 0, .string (⟨#[]⟩ : ByteArray), .slice none 0 0]) 77 ?_; intro gb452 hg w85 hbox hb; replace HO436 := Aside0.mk (Kd.R_below (Hd.r_ HO436) hb); replace HO443 := Aside0.mk (Kd.R_below (Hd.r_ HO443) hb); replace HO451 := Aside0.mk (Kd.R_below (Hd.r_ HO451) hb); have BK452 := Aside0.mk (hbox); have GW452 := Aside0.mk ((Hd.g_ hg Hd.b_ : w.heap.size ≤ gb452)); have GE452 := Aside0.mk ((Hd.g_ hg Hd.b_ : w.heap.size ≤ gb452)); replace HB := Aside0.mk (below_step Hd.b_ hb); have NB426_452 := Aside0.mk ((Hd.lt_ BK426 hg)); have NB452_426 := Aside0.mk ((Hd.gt_ BK426 hg)); replace BK426 := Aside0.mk (Hd.kb_ BK426 hb); have NB427_452 := Aside0.mk ((Hd.lt_ BK427 hg)); have NB452_427 := Aside0.mk ((Hd.gt_ BK427 hg)); replace BK427 := Aside0.mk (Hd.kb_ BK427 hb); clear hb hbox hg; have hnb86 := NB452_426.out; have hnc86 := NB426_452.out; have hnb87 := NB452_427.out; have hnc87 := NB427_452.out; obtain ⟨hcz88_0, hcz88_1, hcz88_2, hcz88_3, hcz88_4⟩ := Hd.c5_ BK452.out; obtain ⟨hfz88_0, hfz88_1, hfz88_2, hfz88_3, hfz88_4⟩ := Hd.f5_ BK452.out; obtain ⟨Ao89, co89, eo89⟩ := Kd.R_slice HO451.out; subst eo89; obtain ⟨hcz90_0, hcz90_1, hcz90_2, hcz90_3, hcz90_4⟩ := Hd.c5_ BK427.out; obtain ⟨hfz90_0, hfz90_1, hfz90_2, hfz90_3, hfz90_4⟩ := Hd.f5_ BK427.out) | ((with_reducible refine gate_callee (f := 60) rfl ?_); refine goesL_ (some 28) rfl rfl Try.func60 (by kernel_rfl) rfl #[.agg #[.int .i64 a1_0, .int .i64 a1_1, .int .i64 a1_2, .string a1_3, .slice A1_4 l1_4.length c1_4]] rfl Hd.m_ ?_; (with_reducible refine (laws_toFeature.calls k a1_0 a1_1 a1_2 a1_3 _ _ l1_4 t453 t454 t455 t456 t457 _ ?side1 ?side2 A23.out).mono ?_); (case side1 => exact Kd.C_below HR1_4.out Hd.b_); (case side2 => exact HC1_4.out); rintro e w91 ⟨v458, rfl, ho0, hb⟩; refine ⟨_, rfl, ?_⟩; have HO459 := Aside0.mk (Kd.R_lower (Kd.R_new' (Kd.R_new' (Kd.R_new' ho0 (Kd.R_lt (by (with_reducible repeat (first | apply Kd.R_alloc | apply Kd.R_drewN | apply Kd.R_drew)); exact (Kd.R_mono (Kd.R_far (p := ⟨gb452, 4, none⟩) (Kd.R_far (p := ⟨gb452, 3, none⟩) (Kd.R_far (p := ⟨gb452, 2, none⟩) (Kd.R_far (p := ⟨gb452, 1, none⟩) (Kd.R_far (p := ⟨gb452, 0, none⟩) (Kd.R_types HO436.out BK452.out (by decide)) (fun _ hk => hk.2) (.int .i64 t445)) (fun _ hk => hk.2) (.int .i64 t446)) (fun _ hk => hk.2) (.int .i64 t447)) (fun _ hk => hk.2) (.string t448)) (fun _ hk => hk.2) (.slice Ao89 t449.length co89)) (fun _ h_ => h_.1))))) (Kd.R_lt (by (with_reducible repeat (first | apply Kd.R_alloc | apply Kd.R_drewN | apply Kd.R_drew)); exact (Kd.R_mono (Kd.R_far (p := ⟨gb452, 4, none⟩) (Kd.R_far (p := ⟨gb452, 3, none⟩) (Kd.R_far (p := ⟨gb452, 2, none⟩) (Kd.R_far (p := ⟨gb452, 1, none⟩) (Kd.R_far (p := ⟨gb452, 0, none⟩) (Kd.R_types HO443.out BK452.out (by decide)) (fun _ hk => hk.2) (.int .i64 t445)) (fun _ hk => hk.2) (.int .i64 t446)) (fun _ hk => hk.2) (.int .i64 t447)) (fun _ hk => hk.2) (.string t448)) (fun _ hk => hk.2) (.slice Ao89 t449.length co89)) (fun _ h_ => h_.1))))) (Kd.R_lt (by (with_reducible repeat (first | apply Kd.R_alloc | apply Kd.R_drewN | apply Kd.R_drew)); exact (Kd.R_mono (Kd.R_far (p := ⟨gb452, 4, none⟩) (Kd.R_far (p := ⟨gb452, 3, none⟩) (Kd.R_far (p := ⟨gb452, 2, none⟩) (Kd.R_far (p := ⟨gb452, 1, none⟩) (Kd.R_far (p := ⟨gb452, 0, none⟩) (Kd.R_types HO451.out BK452.out (by decide)) (fun _ hk => hk.2) (.int .i64 t445)) (fun _ hk => hk.2) (.int .i64 t446)) (fun _ hk => hk.2) (.int .i64 t447)) (fun _ hk => hk.2) (.string t448)) (fun _ hk => hk.2) (.slice Ao89 t449.length co89)) (fun _ h_ => h_.1))))) (below_size Hd.b_)); replace HO436 := Aside0.mk (Kd.R_elder' (by (with_reducible repeat (first | apply Kd.R_alloc | apply Kd.R_drewN | apply Kd.R_drew)); exact (Kd.R_mono (Kd.R_far (p := ⟨gb452, 4, none⟩) (Kd.R_far (p := ⟨gb452, 3, none⟩) (Kd.R_far (p := ⟨gb452, 2, none⟩) (Kd.R_far (p := ⟨gb452, 1, none⟩) (Kd.R_far (p := ⟨gb452, 0, none⟩) (Kd.R_types HO436.out BK452.out (by decide)) (fun _ hk => hk.2) (.int .i64 t445)) (fun _ hk => hk.2) (.int .i64 t446)) (fun _ hk => hk.2) (.int .i64 t447)) (fun _ hk => hk.2) (.string t448)) (fun _ hk => hk.2) (.slice Ao89 t449.length co89)) (fun _ h_ => h_.1))) (Kd.R_base ho0) hb); replace HO443 := Aside0.mk (Kd.R_elder' (by (with_reducible repeat (first | apply Kd.R_alloc | apply Kd.R_drewN | apply Kd.R_drew)); exact (Kd.R_mono (Kd.R_far (p := ⟨gb452, 4, none⟩) (Kd.R_far (p := ⟨gb452, 3, none⟩) (Kd.R_far (p := ⟨gb452, 2, none⟩) (Kd.R_far (p := ⟨gb452, 1, none⟩) (Kd.R_far (p := ⟨gb452, 0, none⟩) (Kd.R_types HO443.out BK452.out (by decide)) (fun _ hk => hk.2) (.int .i64 t445)) (fun _ hk => hk.2) (.int .i64 t446)) (fun _ hk => hk.2) (.int .i64 t447)) (fun _ hk => hk.2) (.string t448)) (fun _ hk => hk.2) (.slice Ao89 t449.length co89)) (fun _ h_ => h_.1))) (Kd.R_base ho0) hb); replace HO451 := Aside0.mk (Kd.R_elder' (by (with_reducible repeat (first | apply Kd.R_alloc | apply Kd.R_drewN | apply Kd.R_drew)); exact (Kd.R_mono (Kd.R_far (p := ⟨gb452, 4, none⟩) (Kd.R_far (p := ⟨gb452, 3, none⟩) (Kd.R_far (p := ⟨gb452, 2, none⟩) (Kd.R_far (p := ⟨gb452, 1, none⟩) (Kd.R_far (p := ⟨gb452, 0, none⟩) (Kd.R_types HO451.out BK452.out (by decide)) (fun _ hk => hk.2) (.int .i64 t445)) (fun _ hk => hk.2) (.int .i64 t446)) (fun _ hk => hk.2) (.int .i64 t447)) (fun _ hk => hk.2) (.string t448)) (fun _ hk => hk.2) (.slice Ao89 t449.length co89)) (fun _ h_ => h_.1))) (Kd.R_base ho0) hb); replace BK426 := Aside0.mk (blk_below (g := gb426) (o := .cells #[.int .i64 a0_0, .int .i64 a0_1, .int .i64 a0_2, .string a0_3, .slice A0_4 l0_4.length c0_4] 73 (0, 0)) (by (with_reducible repeat (first | refine blk_drewN ?_ _ | refine blk_drew ?_ | refine blk_alloc ?_ _)); refine blk_far ?_ NB426_452.out _; (with_reducible repeat (first | refine blk_drewN ?_ _ | refine blk_drew ?_ | refine blk_alloc ?_ _)); refine blk_far ?_ NB426_452.out _; (with_reducible repeat (first | refine blk_drewN ?_ _ | refine blk_drew ?_ | refine blk_alloc ?_ _)); refine blk_far ?_ NB426_452.out _; (with_reducible repeat (first | refine blk_drewN ?_ _ | refine blk_drew ?_ | refine blk_alloc ?_ _)); refine blk_far ?_ NB426_452.out _; (with_reducible repeat (first | refine blk_drewN ?_ _ | refine blk_drew ?_ | refine blk_alloc ?_ _)); refine blk_far ?_ NB426_452.out _; (with_reducible repeat (first | refine blk_drewN ?_ _ | refine blk_drew ?_ | refine blk_alloc ?_ _)); exact BK426.out) hb); replace BK427 := Aside0.mk (blk_below (g := gb427) (o := .cells #[.int .i64 a1_0, .int .i64 a1_1, .int .i64 a1_2, .string a1_3, .slice A1_4 l1_4.length c1_4] 73 (0, 0)) (by (with_reducible repeat (first | refine blk_drewN ?_ _ | refine blk_drew ?_ | refine blk_alloc ?_ _)); refine blk_far ?_ NB427_452.out _; (with_reducible repeat (first | refine blk_drewN ?_ _ | refine blk_drew ?_ | refine blk_alloc ?_ _)); refine blk_far ?_ NB427_452.out _; (with_reducible repeat (first | refine blk_drewN ?_ _ | refine blk_drew ?_ | refine blk_alloc ?_ _)); refine blk_far ?_ NB427_452.out _; (with_reducible repeat (first | refine blk_drewN ?_ _ | refine blk_drew ?_ | refine blk_alloc ?_ _)); refine blk_far ?_ NB427_452.out _; (with_reducible repeat (first | refine blk_drewN ?_ _ | refine blk_drew ?_ | refine blk_alloc ?_ _)); refine blk_far ?_ NB427_452.out _; (with_reducible repeat (first | refine blk_drewN ?_ _ | refine blk_drew ?_ | refine blk_alloc ?_ _)); exact BK427.out) hb); replace BK452 := Aside0.mk (blk_below (g := gb452) (o := .cells #[.int .i64 t445, .int .i64 t446, .int .i64 t447, .string t448, .slice Ao89 t449.length co89] 77 (0, 0)) (by (with_reducible repeat (first | refine blk_drewN ?_ _ | refine blk_drew ?_ | refine blk_alloc ?_ _)); refine blk_put (cs := #[.int .i64 t445, .int .i64 t446, .int .i64 t447, .string t448, .slice none 0 0]) ?_ 4 _ rfl; (with_reducible repeat (first | refine blk_drewN ?_ _ | refine blk_drew ?_ | refine blk_alloc ?_ _)); refine blk_put (cs := #[.int .i64 t445, .int .i64 t446, .int .i64 t447, .string (⟨#[]⟩ : ByteArray), .slice none 0 0]) ?_ 3 _ rfl; (with_reducible repeat (first | refine blk_drewN ?_ _ | refine blk_drew ?_ | refine blk_alloc ?_ _)); refine blk_put (cs := #[.int .i64 t445, .int .i64 t446, .int .i64 0, .string (⟨#[]⟩ : ByteArray), .slice none 0 0]) ?_ 2 _ rfl; (with_reducible repeat (first | refine blk_drewN ?_ _ | refine blk_drew ?_ | refine blk_alloc ?_ _)); refine blk_put (cs := #[.int .i64 t445, .int .i64 0, .int .i64 0, .string (⟨#[]⟩ : ByteArray), .slice none 0 0]) ?_ 1 _ rfl; (with_reducible repeat (first | refine blk_drewN ?_ _ | refine blk_drew ?_ | refine blk_alloc ?_ _)); refine blk_put (cs := #[.int .i64 0, .int .i64 0, .int .i64 0, .string (⟨#[]⟩ : ByteArray), .slice none 0 0]) ?_ 0 _ rfl; (with_reducible repeat (first | refine blk_drewN ?_ _ | refine blk_drew ?_ | refine blk_alloc ?_ _)); exact BK452.out) hb); replace HB := Aside0.mk (below_step Hd.b_ hb); (try clear hb); (try clear hb2); (try clear hk); (try clear hi); (try clear ho0)) | ((with_reducible refine gate_dst (N := 8) rfl ?_); refine Hd.box_ 8 (#[.int .i64 0, .int .i64 0, .int .i64 0, .string (⟨#[]⟩ : ByteArray), .slice none 0 0]) 77 ?_; intro gb460 hg w92 hbox hb; replace HO436 := Aside0.mk (Kd.R_below (Hd.r_ HO436) hb); replace HO443 := Aside0.mk (Kd.R_below (Hd.r_ HO443) hb); replace HO451 := Aside0.mk (Kd.R_below (Hd.r_ HO451) hb); replace HO459 := Aside0.mk (Kd.R_below (Hd.r_ HO459) hb); have BK460 := Aside0.mk (hbox); have GW460 := Aside0.mk ((Hd.g_ hg Hd.b_ : w.heap.size ≤ gb460)); have GE460 := Aside0.mk ((Hd.g_ hg Hd.b_ : w.heap.size ≤ gb460)); replace HB := Aside0.mk (below_step Hd.b_ hb); have NB426_460 := Aside0.mk ((Hd.lt_ BK426 hg)); have NB460_426 := Aside0.mk ((Hd.gt_ BK426 hg)); replace BK426 := Aside0.mk (Hd.kb_ BK426 hb); have NB427_460 := Aside0.mk ((Hd.lt_ BK427 hg)); have NB460_427 := Aside0.mk ((Hd.gt_ BK427 hg)); replace BK427 := Aside0.mk (Hd.kb_ BK427 hb); have NB452_460 := Aside0.mk ((Hd.lt_ BK452 hg)); have NB460_452 := Aside0.mk ((Hd.gt_ BK452 hg)); replace BK452 := Aside0.mk (Hd.kb_ BK452 hb); clear hb hbox hg; have hnb93 := NB460_426.out; have hnc93 := NB426_460.out; have hnb94 := NB460_427.out; have hnc94 := NB427_460.out; have hnb95 := NB460_452.out; have hnc95 := NB452_460.out; obtain ⟨hcz96_0, hcz96_1, hcz96_2, hcz96_3, hcz96_4⟩ := Hd.c5_ BK460.out; obtain ⟨hfz96_0, hfz96_1, hfz96_2, hfz96_3, hfz96_4⟩ := Hd.f5_ BK460.out; obtain ⟨Ao97, co97, eo97⟩ := Kd.R_slice HO459.out; subst eo97; obtain ⟨hcz98_0, hcz98_1, hcz98_2, hcz98_3, hcz98_4⟩ := Hd.c5_ BK452.out; obtain ⟨hfz98_0, hfz98_1, hfz98_2, hfz98_3, hfz98_4⟩ := Hd.f5_ BK452.out) | ((with_reducible refine gate_callee (f := 70) rfl ?_); refine goesL_ (some 31) rfl rfl Try.func70 (by kernel_rfl) rfl #[.agg #[.int .i64 t445, .int .i64 t446, .int .i64 t447, .string t448, .slice Ao89 t449.length co89], .agg #[.int .i64 t453, .int .i64 t454, .int .i64 t455, .string t456, .slice Ao97 t457.length co97]] rfl Hd.m_ ?_; (with_reducible refine (impl_FeaturesMeet.calls k t445 t446 t447 t448 _ _ t449 t453 t454 t455 t456 _ _ t457 t461 _ ?side1 ?side2 ?side3 ?side4 A24.out).mono ?_); (case side1 => refine (Kd.R_reads' (e := 49) (base := w.heap.size) (ok := fun k_ => (((True ∧ some k_ ≠ (.slice Ao80 t434.length co80 : Value).ownBlock) ∧ some k_ ≠ (.slice Ao81 t441.length co81 : Value).ownBlock) ∧ some k_ ≠ (.slice Ao97 t457.length co97 : Value).ownBlock)) (n := t449.length) (c := co89) ?_).2.2; exact (by (with_reducible repeat (first | apply Kd.R_alloc | apply Kd.R_drewN | apply Kd.R_drew)); exact (Kd.R_mono (Kd.R_far (p := ⟨gb460, 4, none⟩) (Kd.R_far (p := ⟨gb460, 3, none⟩) (Kd.R_far (p := ⟨gb460, 2, none⟩) (Kd.R_far (p := ⟨gb460, 1, none⟩) (Kd.R_far (p := ⟨gb460, 0, none⟩) (Kd.R_types HO451.out BK460.out (by decide)) (fun _ hk => hk.2) (.int .i64 t453)) (fun _ hk => hk.2) (.int .i64 t454)) (fun _ hk => hk.2) (.int .i64 t455)) (fun _ hk => hk.2) (.string t456)) (fun _ hk => hk.2) (.slice Ao97 t457.length co97)) (fun _ h_ => h_.1)))); (case side2 => exact (Kd.R_reads' HO451.out).2.1); (case side3 => refine (Kd.R_reads' (e := 49) (base := w.heap.size) (ok := fun k_ => (((True ∧ some k_ ≠ (.slice Ao80 t434.length co80 : Value).ownBlock) ∧ some k_ ≠ (.slice Ao81 t441.length co81 : Value).ownBlock) ∧ some k_ ≠ (.slice Ao89 t449.length co89 : Value).ownBlock)) (n := t457.length) (c := co97) ?_).2.2; exact (by (with_reducible repeat (first | apply Kd.R_alloc | apply Kd.R_drewN | apply Kd.R_drew)); exact (Kd.R_mono (Kd.R_far (p := ⟨gb460, 4, none⟩) (Kd.R_far (p := ⟨gb460, 3, none⟩) (Kd.R_far (p := ⟨gb460, 2, none⟩) (Kd.R_far (p := ⟨gb460, 1, none⟩) (Kd.R_far (p := ⟨gb460, 0, none⟩) (Kd.R_types HO459.out BK460.out (by decide)) (fun _ hk => hk.2) (.int .i64 t453)) (fun _ hk => hk.2) (.int .i64 t454)) (fun _ hk => hk.2) (.int .i64 t455)) (fun _ hk => hk.2) (.string t456)) (fun _ hk => hk.2) (.slice Ao97 t457.length co97)) (fun _ h_ => h_.1)))); (case side4 => exact (Kd.R_reads' HO459.out).2.1); rintro e w99 ⟨rfl, hb⟩; refine ⟨_, rfl, ?_⟩; replace HO436 := Aside0.mk (Kd.R_below (by (with_reducible repeat (first | apply Kd.R_alloc | apply Kd.R_drewN | apply Kd.R_drew)); exact (Kd.R_mono (Kd.R_far (p := ⟨gb460, 4, none⟩) (Kd.R_far (p := ⟨gb460, 3, none⟩) (Kd.R_far (p := ⟨gb460, 2, none⟩) (Kd.R_far (p := ⟨gb460, 1, none⟩) (Kd.R_far (p := ⟨gb460, 0, none⟩) (Kd.R_types HO436.out BK460.out (by decide)) (fun _ hk => hk.2) (.int .i64 t453)) (fun _ hk => hk.2) (.int .i64 t454)) (fun _ hk => hk.2) (.int .i64 t455)) (fun _ hk => hk.2) (.string t456)) (fun _ hk => hk.2) (.slice Ao97 t457.length co97)) (fun _ h_ => h_.1))) hb); replace HO443 := Aside0.mk (Kd.R_below (by (with_reducible repeat (first | apply Kd.R_alloc | apply Kd.R_drewN | apply Kd.R_drew)); exact (Kd.R_mono (Kd.R_far (p := ⟨gb460, 4, none⟩) (Kd.R_far (p := ⟨gb460, 3, none⟩) (Kd.R_far (p := ⟨gb460, 2, none⟩) (Kd.R_far (p := ⟨gb460, 1, none⟩) (Kd.R_far (p := ⟨gb460, 0, none⟩) (Kd.R_types HO443.out BK460.out (by decide)) (fun _ hk => hk.2) (.int .i64 t453)) (fun _ hk => hk.2) (.int .i64 t454)) (fun _ hk => hk.2) (.int .i64 t455)) (fun _ hk => hk.2) (.string t456)) (fun _ hk => hk.2) (.slice Ao97 t457.length co97)) (fun _ h_ => h_.1))) hb); replace HO451 := Aside0.mk (Kd.R_below (by (with_reducible repeat (first | apply Kd.R_alloc | apply Kd.R_drewN | apply Kd.R_drew)); exact (Kd.R_mono (Kd.R_far (p := ⟨gb460, 4, none⟩) (Kd.R_far (p := ⟨gb460, 3, none⟩) (Kd.R_far (p := ⟨gb460, 2, none⟩) (Kd.R_far (p := ⟨gb460, 1, none⟩) (Kd.R_far (p := ⟨gb460, 0, none⟩) (Kd.R_types HO451.out BK460.out (by decide)) (fun _ hk => hk.2) (.int .i64 t453)) (fun _ hk => hk.2) (.int .i64 t454)) (fun _ hk => hk.2) (.int .i64 t455)) (fun _ hk => hk.2) (.string t456)) (fun _ hk => hk.2) (.slice Ao97 t457.length co97)) (fun _ h_ => h_.1))) hb); replace HO459 := Aside0.mk (Kd.R_below (by (with_reducible repeat (first | apply Kd.R_alloc | apply Kd.R_drewN | apply Kd.R_drew)); exact (Kd.R_mono (Kd.R_far (p := ⟨gb460, 4, none⟩) (Kd.R_far (p := ⟨gb460, 3, none⟩) (Kd.R_far (p := ⟨gb460, 2, none⟩) (Kd.R_far (p := ⟨gb460, 1, none⟩) (Kd.R_far (p := ⟨gb460, 0, none⟩) (Kd.R_types HO459.out BK460.out (by decide)) (fun _ hk => hk.2) (.int .i64 t453)) (fun _ hk => hk.2) (.int .i64 t454)) (fun _ hk => hk.2) (.int .i64 t455)) (fun _ hk => hk.2) (.string t456)) (fun _ hk => hk.2) (.slice Ao97 t457.length co97)) (fun _ h_ => h_.1))) hb); replace BK426 := Aside0.mk (blk_below (g := gb426) (o := .cells #[.int .i64 a0_0, .int .i64 a0_1, .int .i64 a0_2, .string a0_3, .slice A0_4 l0_4.length c0_4] 73 (0, 0)) (by (with_reducible repeat (first | refine blk_drewN ?_ _ | refine blk_drew ?_ | refine blk_alloc ?_ _)); refine blk_far ?_ NB426_460.out _; (with_reducible repeat (first | refine blk_drewN ?_ _ | refine blk_drew ?_ | refine blk_alloc ?_ _)); refine blk_far ?_ NB426_460.out _; (with_reducible repeat (first | refine blk_drewN ?_ _ | refine blk_drew ?_ | refine blk_alloc ?_ _)); refine blk_far ?_ NB426_460.out _; (with_reducible repeat (first | refine blk_drewN ?_ _ | refine blk_drew ?_ | refine blk_alloc ?_ _)); refine blk_far ?_ NB426_460.out _; (with_reducible repeat (first | refine blk_drewN ?_ _ | refine blk_drew ?_ | refine blk_alloc ?_ _)); refine blk_far ?_ NB426_460.out _; (with_reducible repeat (first | refine blk_drewN ?_ _ | refine blk_drew ?_ | refine blk_alloc ?_ _)); exact BK426.out) hb); replace BK427 := Aside0.mk (blk_below (g := gb427) (o := .cells #[.int .i64 a1_0, .int .i64 a1_1, .int .i64 a1_2, .string a1_3, .slice A1_4 l1_4.length c1_4] 73 (0, 0)) (by (with_reducible repeat (first | refine blk_drewN ?_ _ | refine blk_drew ?_ | refine blk_alloc ?_ _)); refine blk_far ?_ NB427_460.out _; (with_reducible repeat (first | refine blk_drewN ?_ _ | refine blk_drew ?_ | refine blk_alloc ?_ _)); refine blk_far ?_ NB427_460.out _; (with_reducible repeat (first | refine blk_drewN ?_ _ | refine blk_drew ?_ | refine blk_alloc ?_ _)); refine blk_far ?_ NB427_460.out _; (with_reducible repeat (first | refine blk_drewN ?_ _ | refine blk_drew ?_ | refine blk_alloc ?_ _)); refine blk_far ?_ NB427_460.out _; (with_reducible repeat (first | refine blk_drewN ?_ _ | refine blk_drew ?_ | refine blk_alloc ?_ _)); refine blk_far ?_ NB427_460.out _; (with_reducible repeat (first | refine blk_drewN ?_ _ | refine blk_drew ?_ | refine blk_alloc ?_ _)); exact BK427.out) hb); replace BK452 := Aside0.mk (blk_below (g := gb452) (o := .cells #[.int .i64 t445, .int .i64 t446, .int .i64 t447, .string t448, .slice Ao89 t449.length co89] 77 (0, 0)) (by (with_reducible repeat (first | refine blk_drewN ?_ _ | refine blk_drew ?_ | refine blk_alloc ?_ _)); refine blk_far ?_ NB452_460.out _; (with_reducible repeat (first | refine blk_drewN ?_ _ | refine blk_drew ?_ | refine blk_alloc ?_ _)); refine blk_far ?_ NB452_460.out _; (with_reducible repeat (first | refine blk_drewN ?_ _ | refine blk_drew ?_ | refine blk_alloc ?_ _)); refine blk_far ?_ NB452_460.out _; (with_reducible repeat (first | refine blk_drewN ?_ _ | refine blk_drew ?_ | refine blk_alloc ?_ _)); refine blk_far ?_ NB452_460.out _; (with_reducible repeat (first | refine blk_drewN ?_ _ | refine blk_drew ?_ | refine blk_alloc ?_ _)); refine blk_far ?_ NB452_460.out _; (with_reducible repeat (first | refine blk_drewN ?_ _ | refine blk_drew ?_ | refine blk_alloc ?_ _)); exact BK452.out) hb); replace BK460 := Aside0.mk (blk_below (g := gb460) (o := .cells #[.int .i64 t453, .int .i64 t454, .int .i64 t455, .string t456, .slice Ao97 t457.length co97] 77 (0, 0)) (by (with_reducible repeat (first | refine blk_drewN ?_ _ | refine blk_drew ?_ | refine blk_alloc ?_ _)); refine blk_put (cs := #[.int .i64 t453, .int .i64 t454, .int .i64 t455, .string t456, .slice none 0 0]) ?_ 4 _ rfl; (with_reducible repeat (first | refine blk_drewN ?_ _ | refine blk_drew ?_ | refine blk_alloc ?_ _)); refine blk_put (cs := #[.int .i64 t453, .int .i64 t454, .int .i64 t455, .string (⟨#[]⟩ : ByteArray), .slice none 0 0]) ?_ 3 _ rfl; (with_reducible repeat (first | refine blk_drewN ?_ _ | refine blk_drew ?_ | refine blk_alloc ?_ _)); refine blk_put (cs := #[.int .i64 t453, .int .i64 t454, .int .i64 0, .string (⟨#[]⟩ : ByteArray), .slice none 0 0]) ?_ 2 _ rfl; (with_reducible repeat (first | refine blk_drewN ?_ _ | refine blk_drew ?_ | refine blk_alloc ?_ _)); refine blk_put (cs := #[.int .i64 t453, .int .i64 0, .int .i64 0, .string (⟨#[]⟩ : ByteArray), .slice none 0 0]) ?_ 1 _ rfl; (with_reducible repeat (first | refine blk_drewN ?_ _ | refine blk_drew ?_ | refine blk_alloc ?_ _)); refine blk_put (cs := #[.int .i64 0, .int .i64 0, .int .i64 0, .string (⟨#[]⟩ : ByteArray), .slice none 0 0]) ?_ 0 _ rfl; (with_reducible repeat (first | refine blk_drewN ?_ _ | refine blk_drew ?_ | refine blk_alloc ?_ _)); exact BK460.out) hb); replace HB := Aside0.mk (below_step Hd.b_ hb); (try clear hb); (try clear hb2); (try clear hk); (try clear hi)))
      replace HO436 := Aside0.mk (Kd.R_drew HO436.out)
      replace HO443 := Aside0.mk (Kd.R_drew HO443.out)
      replace HO451 := Aside0.mk (Kd.R_drew HO451.out)
      replace HO459 := Aside0.mk (Kd.R_drew HO459.out)
      replace BK426 := Aside0.mk (blk_drew BK426.out)
      replace BK427 := Aside0.mk (blk_drew BK427.out)
      replace BK452 := Aside0.mk (blk_drew BK452.out)
      replace BK460 := Aside0.mk (blk_drew BK460.out)
      replace HB := Aside0.mk (below_drew1 HB.out)
      refine start_ (n := 5) (S := fun w' => w'.cell? ⟨gb452, 0, none⟩ = some (.int .i64 t445) ∧ w'.cell? ⟨gb452, 1, none⟩ = some (.int .i64 t446) ∧ w'.cell? ⟨gb452, 2, none⟩ = some (.int .i64 t447) ∧ w'.cell? ⟨gb452, 3, none⟩ = some (.string t448) ∧ w'.cell? ⟨gb452, 4, none⟩ = some (.slice Ao89 t449.length co89) ∧ w'.cell? ⟨gb426, 0, none⟩ = some (.int .i64 a0_0) ∧ w'.cell? ⟨gb426, 1, none⟩ = some (.int .i64 a0_1) ∧ w'.cell? ⟨gb426, 2, none⟩ = some (.int .i64 a0_2) ∧ w'.cell? ⟨gb426, 3, none⟩ = some (.string a0_3) ∧ w'.cell? ⟨gb426, 4, none⟩ = some (.slice A0_4 l0_4.length c0_4)) (ds := []) #[false, false, false, false, false] (by kernel_rfl) rfl rfl ⟨(blk_cell BK452.out 0).trans rfl, (blk_cell BK452.out 1).trans rfl, (blk_cell BK452.out 2).trans rfl, (blk_cell BK452.out 3).trans rfl, (blk_cell BK452.out 4).trans rfl, (blk_cell BK426.out 0).trans rfl, (blk_cell BK426.out 1).trans rfl, (blk_cell BK426.out 2).trans rfl, (blk_cell BK426.out 3).trans rfl, (blk_cell BK426.out 4).trans rfl⟩ (fun hHeld => ?_)
      generalize w99.drew = w100 at HO436 HO443 HO451 HO459 BK426 BK427 BK452 BK460 HB hHeld ⊢
      refine take_ (i := 0) (N := some 35) (v := ?_) (a' := ?_) #[true, false, false, false, false] rfl rfl (by kernel_rfl) (fun _ _ _ h => h) (Or.inl ⟨by rfl, ?_⟩) hHeld ?_ ?_
      rotate_left
      ·
       rintro w' ⟨s0, s1, s2, s3, s4, s5, s6, s7, s8, s9⟩
       go_simp
       with_reducible rfl
      rotate_left
      ·
       simp only [Act.put, List.setIfInBounds_toArray, List.set_cons_zero, List.set_cons_succ, i64_w, i32_w]
       rfl
      refine take_ (i := 1) (N := some 36) (v := ?_) (a' := ?_) #[true, true, false, false, false] rfl rfl (by kernel_rfl) (fun _ _ _ h => h) (Or.inl ⟨by rfl, ?_⟩) hHeld ?_ ?_
      rotate_left
      ·
       rintro w' ⟨s0, s1, s2, s3, s4, s5, s6, s7, s8, s9⟩
       go_simp
       with_reducible rfl
      rotate_left
      ·
       simp only [Act.put, List.setIfInBounds_toArray, List.set_cons_zero, List.set_cons_succ, i64_w, i32_w]
       rfl
      refine one_ (i := 2) (N := some 37) #[true, true, true, false, false] rfl rfl (by kernel_rfl) (by decide) (fun K hK => ?_)
      refine goes_ Try.func60 (by kernel_rfl) rfl #[.agg #[.int .i64 a0_0, .int .i64 a0_1, .int .i64 a0_2, .string a0_3, .slice A0_4 l0_4.length c0_4]] (by rfl) rfl rfl Hd.m_ ?_
      with_reducible refine (laws_toFeature.calls k a0_0 a0_1 a0_2 a0_3 _ _ l0_4 t462 t463 t464 t465 t466 _ ?side1 ?side2 A26.out).mono ?_
      (case side1 => repeat (first | exact (Kd.C_below HR0_4.out HB.out) | (with_reducible refine Kd.C_alloc ?_ _) | (with_reducible refine Kd.C_drewN ?_ _) | (with_reducible refine Kd.C_drew ?_)))
      (case side2 => exact HC0_4.out)
      rintro e w101 ⟨v467, rfl, ho0, hb⟩
      refine ⟨_, rfl, ?_⟩
      have HO468 := Aside0.mk (Kd.R_lower (Kd.R_new' (Kd.R_new' (Kd.R_new' (Kd.R_new' ho0 (Kd.R_lt (Hd.r_ HO436))) (Kd.R_lt (Hd.r_ HO443))) (Kd.R_lt (Hd.r_ HO451))) (Kd.R_lt (Hd.r_ HO459))) (below_size Hd.b_))
      replace HO436 := Aside0.mk (Kd.R_elder' (Hd.r_ HO436) (Kd.R_base ho0) hb)
      replace HO443 := Aside0.mk (Kd.R_elder' (Hd.r_ HO443) (Kd.R_base ho0) hb)
      replace HO451 := Aside0.mk (Kd.R_elder' (Hd.r_ HO451) (Kd.R_base ho0) hb)
      replace HO459 := Aside0.mk (Kd.R_elder' (Hd.r_ HO459) (Kd.R_base ho0) hb)
      replace BK426 := Aside0.mk (Hd.kb_ BK426 hb)
      replace BK427 := Aside0.mk (Hd.kb_ BK427 hb)
      replace BK452 := Aside0.mk (Hd.kb_ BK452 hb)
      replace BK460 := Aside0.mk (Hd.kb_ BK460 hb)
      replace HB := Aside0.mk (below_step Hd.b_ hb)
      (try clear hb)
      (try clear hb2)
      (try clear hk)
      (try clear hi)
      (try clear ho0)
      obtain ⟨Ao102, co102, eo102⟩ := Kd.R_slice HO468.out
      (first | subst eo102 | (injection eo102 with f1_ f2_ f3_; have f4_ := f1_.symm; have f5_ := f3_.symm; clear f1_ f2_ f3_; subst f4_; subst f5_))
      refine hK.out _ _ ⟨(blk_cell BK452.out 0).trans rfl, (blk_cell BK452.out 1).trans rfl, (blk_cell BK452.out 2).trans rfl, (blk_cell BK452.out 3).trans rfl, (blk_cell BK452.out 4).trans rfl, (blk_cell BK426.out 0).trans rfl, (blk_cell BK426.out 1).trans rfl, (blk_cell BK426.out 2).trans rfl, (blk_cell BK426.out 3).trans rfl, (blk_cell BK426.out 4).trans rfl⟩ (fun hHeld => ?_)
      clear hK K
      refine Hd.n_ (some 37) ?_
      refine one_ (i := 3) (N := some 38) #[true, true, true, true, false] rfl rfl (by kernel_rfl) (by decide) (fun K hK => ?_)
      refine goes_ Try.func62 (by kernel_rfl) rfl #[.agg #[.int .i64 t445, .int .i64 t446, .int .i64 t447, .string t448, .slice Ao89 t449.length co89], .agg #[.int .i64 t462, .int .i64 t463, .int .i64 t464, .string t465, .slice Ao102 t466.length co102]] (by rfl) rfl rfl Hd.m_ ?_
      with_reducible refine (laws_eqFeature.calls k t445 t446 t447 t448 _ _ t449 t462 t463 t464 t465 _ _ t466 true _ ?side1 ?side2 ?side3 ?side4 A27.out).mono ?_
      (case side1 => repeat (first | exact (Kd.R_reads' HO451.out).2.2 | (with_reducible refine Kd.C_alloc ?_ _) | (with_reducible refine Kd.C_drewN ?_ _) | (with_reducible refine Kd.C_drew ?_)))
      (case side2 => exact (Kd.R_reads' HO451.out).2.1)
      (case side3 => repeat (first | exact (Kd.R_reads' HO468.out).2.2 | (with_reducible refine Kd.C_alloc ?_ _) | (with_reducible refine Kd.C_drewN ?_ _) | (with_reducible refine Kd.C_drew ?_)))
      (case side4 => exact (Kd.R_reads' HO468.out).2.1)
      rintro e w103 ⟨rfl, hb⟩
      refine ⟨_, rfl, ?_⟩
      replace HO436 := Aside0.mk (Kd.R_below (Hd.r_ HO436) hb)
      replace HO443 := Aside0.mk (Kd.R_below (Hd.r_ HO443) hb)
      replace HO451 := Aside0.mk (Kd.R_below (Hd.r_ HO451) hb)
      replace HO459 := Aside0.mk (Kd.R_below (Hd.r_ HO459) hb)
      replace HO468 := Aside0.mk (Kd.R_below (Hd.r_ HO468) hb)
      replace BK426 := Aside0.mk (Hd.kb_ BK426 hb)
      replace BK427 := Aside0.mk (Hd.kb_ BK427 hb)
      replace BK452 := Aside0.mk (Hd.kb_ BK452 hb)
      replace BK460 := Aside0.mk (Hd.kb_ BK460 hb)
      replace HB := Aside0.mk (below_step Hd.b_ hb)
      (try clear hb)
      (try clear hb2)
      (try clear hk)
      (try clear hi)
      refine hK.out _ _ ⟨(blk_cell BK452.out 0).trans rfl, (blk_cell BK452.out 1).trans rfl, (blk_cell BK452.out 2).trans rfl, (blk_cell BK452.out 3).trans rfl, (blk_cell BK452.out 4).trans rfl, (blk_cell BK426.out 0).trans rfl, (blk_cell BK426.out 1).trans rfl, (blk_cell BK426.out 2).trans rfl, (blk_cell BK426.out 3).trans rfl, (blk_cell BK426.out 4).trans rfl⟩ (fun hHeld => ?_)
      clear hK K
      refine Hd.n_ (some 38) ?_
      refine pure_ (i := 4) (N := some 39) (v := ?_) (a' := ?_) #[true, true, true, true, true] rfl rfl (by kernel_rfl) (fun _ _ _ h => h) (Or.inl ⟨by rfl, ?_⟩) ?_ ?_
      rotate_left
      ·
       intro w'
       go_simp
       with_reducible rfl
      rotate_left
      ·
       simp only [Act.put, List.setIfInBounds_toArray, List.set_cons_zero, List.set_cons_succ, i64_w, i32_w]
       rfl
      refine done_ (by kernel_rfl) ?_
      try go_wp2
      replace HO436 := Aside0.mk (Kd.R_drew HO436.out)
      replace HO443 := Aside0.mk (Kd.R_drew HO443.out)
      replace HO451 := Aside0.mk (Kd.R_drew HO451.out)
      replace HO459 := Aside0.mk (Kd.R_drew HO459.out)
      replace HO468 := Aside0.mk (Kd.R_drew HO468.out)
      replace BK426 := Aside0.mk (blk_drew BK426.out)
      replace BK427 := Aside0.mk (blk_drew BK427.out)
      replace BK452 := Aside0.mk (blk_drew BK452.out)
      replace BK460 := Aside0.mk (blk_drew BK460.out)
      replace HB := Aside0.mk (below_drew1 HB.out)
      refine start_ (n := 5) (S := fun w' => w'.cell? ⟨gb460, 0, none⟩ = some (.int .i64 t453) ∧ w'.cell? ⟨gb460, 1, none⟩ = some (.int .i64 t454) ∧ w'.cell? ⟨gb460, 2, none⟩ = some (.int .i64 t455) ∧ w'.cell? ⟨gb460, 3, none⟩ = some (.string t456) ∧ w'.cell? ⟨gb460, 4, none⟩ = some (.slice Ao97 t457.length co97) ∧ w'.cell? ⟨gb427, 0, none⟩ = some (.int .i64 a1_0) ∧ w'.cell? ⟨gb427, 1, none⟩ = some (.int .i64 a1_1) ∧ w'.cell? ⟨gb427, 2, none⟩ = some (.int .i64 a1_2) ∧ w'.cell? ⟨gb427, 3, none⟩ = some (.string a1_3) ∧ w'.cell? ⟨gb427, 4, none⟩ = some (.slice A1_4 l1_4.length c1_4)) (ds := []) #[false, false, false, false, false] (by kernel_rfl) rfl rfl ⟨(blk_cell BK460.out 0).trans rfl, (blk_cell BK460.out 1).trans rfl, (blk_cell BK460.out 2).trans rfl, (blk_cell BK460.out 3).trans rfl, (blk_cell BK460.out 4).trans rfl, (blk_cell BK427.out 0).trans rfl, (blk_cell BK427.out 1).trans rfl, (blk_cell BK427.out 2).trans rfl, (blk_cell BK427.out 3).trans rfl, (blk_cell BK427.out 4).trans rfl⟩ (fun hHeld => ?_)
      generalize w103.drew = w104 at HO436 HO443 HO451 HO459 HO468 BK426 BK427 BK452 BK460 HB hHeld ⊢
      refine take_ (i := 0) (N := some 40) (v := ?_) (a' := ?_) #[true, false, false, false, false] rfl rfl (by kernel_rfl) (fun _ _ _ h => h) (Or.inl ⟨by rfl, ?_⟩) hHeld ?_ ?_
      rotate_left
      ·
       rintro w' ⟨s0, s1, s2, s3, s4, s5, s6, s7, s8, s9⟩
       go_simp
       with_reducible rfl
      rotate_left
      ·
       simp only [Act.put, List.setIfInBounds_toArray, List.set_cons_zero, List.set_cons_succ, i64_w, i32_w]
       rfl
      refine take_ (i := 1) (N := some 41) (v := ?_) (a' := ?_) #[true, true, false, false, false] rfl rfl (by kernel_rfl) (fun _ _ _ h => h) (Or.inl ⟨by rfl, ?_⟩) hHeld ?_ ?_
      rotate_left
      ·
       rintro w' ⟨s0, s1, s2, s3, s4, s5, s6, s7, s8, s9⟩
       go_simp
       with_reducible rfl
      rotate_left
      ·
       simp only [Act.put, List.setIfInBounds_toArray, List.set_cons_zero, List.set_cons_succ, i64_w, i32_w]
       rfl
      refine one_ (i := 2) (N := some 42) #[true, true, true, false, false] rfl rfl (by kernel_rfl) (by decide) (fun K hK => ?_)
      refine goes_ Try.func60 (by kernel_rfl) rfl #[.agg #[.int .i64 a1_0, .int .i64 a1_1, .int .i64 a1_2, .string a1_3, .slice A1_4 l1_4.length c1_4]] (by rfl) rfl rfl Hd.m_ ?_
      with_reducible refine (laws_toFeature.calls k a1_0 a1_1 a1_2 a1_3 _ _ l1_4 t470 t471 t472 t473 t474 _ ?side1 ?side2 A29.out).mono ?_
      (case side1 => repeat (first | exact (Kd.C_below HR1_4.out HB.out) | (with_reducible refine Kd.C_alloc ?_ _) | (with_reducible refine Kd.C_drewN ?_ _) | (with_reducible refine Kd.C_drew ?_)))
      (case side2 => exact HC1_4.out)
      rintro e w105 ⟨v475, rfl, ho0, hb⟩
      refine ⟨_, rfl, ?_⟩
      have HO476 := Aside0.mk (Kd.R_lower (Kd.R_new' (Kd.R_new' (Kd.R_new' (Kd.R_new' (Kd.R_new' ho0 (Kd.R_lt (Hd.r_ HO436))) (Kd.R_lt (Hd.r_ HO443))) (Kd.R_lt (Hd.r_ HO451))) (Kd.R_lt (Hd.r_ HO459))) (Kd.R_lt (Hd.r_ HO468))) (below_size Hd.b_))
      replace HO436 := Aside0.mk (Kd.R_elder' (Hd.r_ HO436) (Kd.R_base ho0) hb)
      replace HO443 := Aside0.mk (Kd.R_elder' (Hd.r_ HO443) (Kd.R_base ho0) hb)
      replace HO451 := Aside0.mk (Kd.R_elder' (Hd.r_ HO451) (Kd.R_base ho0) hb)
      replace HO459 := Aside0.mk (Kd.R_elder' (Hd.r_ HO459) (Kd.R_base ho0) hb)
      replace HO468 := Aside0.mk (Kd.R_elder' (Hd.r_ HO468) (Kd.R_base ho0) hb)
      replace BK426 := Aside0.mk (Hd.kb_ BK426 hb)
      replace BK427 := Aside0.mk (Hd.kb_ BK427 hb)
      replace BK452 := Aside0.mk (Hd.kb_ BK452 hb)
      replace BK460 := Aside0.mk (Hd.kb_ BK460 hb)
      replace HB := Aside0.mk (below_step Hd.b_ hb)
      (try clear hb)
      (try clear hb2)
      (try clear hk)
      (try clear hi)
      (try clear ho0)
      obtain ⟨Ao106, co106, eo106⟩ := Kd.R_slice HO476.out
      (first | subst eo106 | (injection eo106 with f1_ f2_ f3_; have f4_ := f1_.symm; have f5_ := f3_.symm; clear f1_ f2_ f3_; subst f4_; subst f5_))
      refine hK.out _ _ ⟨(blk_cell BK460.out 0).trans rfl, (blk_cell BK460.out 1).trans rfl, (blk_cell BK460.out 2).trans rfl, (blk_cell BK460.out 3).trans rfl, (blk_cell BK460.out 4).trans rfl, (blk_cell BK427.out 0).trans rfl, (blk_cell BK427.out 1).trans rfl, (blk_cell BK427.out 2).trans rfl, (blk_cell BK427.out 3).trans rfl, (blk_cell BK427.out 4).trans rfl⟩ (fun hHeld => ?_)
      clear hK K
      refine Hd.n_ (some 42) ?_
      refine one_ (i := 3) (N := some 43) #[true, true, true, true, false] rfl rfl (by kernel_rfl) (by decide) (fun K hK => ?_)
      refine goes_ Try.func62 (by kernel_rfl) rfl #[.agg #[.int .i64 t453, .int .i64 t454, .int .i64 t455, .string t456, .slice Ao97 t457.length co97], .agg #[.int .i64 t470, .int .i64 t471, .int .i64 t472, .string t473, .slice Ao106 t474.length co106]] (by rfl) rfl rfl Hd.m_ ?_
      with_reducible refine (laws_eqFeature.calls k t453 t454 t455 t456 _ _ t457 t470 t471 t472 t473 _ _ t474 false _ ?side1 ?side2 ?side3 ?side4 A30.out).mono ?_
      (case side1 => repeat (first | exact (Kd.R_reads' HO459.out).2.2 | (with_reducible refine Kd.C_alloc ?_ _) | (with_reducible refine Kd.C_drewN ?_ _) | (with_reducible refine Kd.C_drew ?_)))
      (case side2 => exact (Kd.R_reads' HO459.out).2.1)
      (case side3 => repeat (first | exact (Kd.R_reads' HO476.out).2.2 | (with_reducible refine Kd.C_alloc ?_ _) | (with_reducible refine Kd.C_drewN ?_ _) | (with_reducible refine Kd.C_drew ?_)))
      (case side4 => exact (Kd.R_reads' HO476.out).2.1)
      rintro e w107 ⟨rfl, hb⟩
      refine ⟨_, rfl, ?_⟩
      replace HO436 := Aside0.mk (Kd.R_below (Hd.r_ HO436) hb)
      replace HO443 := Aside0.mk (Kd.R_below (Hd.r_ HO443) hb)
      replace HO451 := Aside0.mk (Kd.R_below (Hd.r_ HO451) hb)
      replace HO459 := Aside0.mk (Kd.R_below (Hd.r_ HO459) hb)
      replace HO468 := Aside0.mk (Kd.R_below (Hd.r_ HO468) hb)
      replace HO476 := Aside0.mk (Kd.R_below (Hd.r_ HO476) hb)
      replace BK426 := Aside0.mk (Hd.kb_ BK426 hb)
      replace BK427 := Aside0.mk (Hd.kb_ BK427 hb)
      replace BK452 := Aside0.mk (Hd.kb_ BK452 hb)
      replace BK460 := Aside0.mk (Hd.kb_ BK460 hb)
      replace HB := Aside0.mk (below_step Hd.b_ hb)
      (try clear hb)
      (try clear hb2)
      (try clear hk)
      (try clear hi)
      refine hK.out _ _ ⟨(blk_cell BK460.out 0).trans rfl, (blk_cell BK460.out 1).trans rfl, (blk_cell BK460.out 2).trans rfl, (blk_cell BK460.out 3).trans rfl, (blk_cell BK460.out 4).trans rfl, (blk_cell BK427.out 0).trans rfl, (blk_cell BK427.out 1).trans rfl, (blk_cell BK427.out 2).trans rfl, (blk_cell BK427.out 3).trans rfl, (blk_cell BK427.out 4).trans rfl⟩ (fun hHeld => ?_)
      clear hK K
      refine Hd.n_ (some 43) ?_
      refine pure_ (i := 4) (N := some 44) (v := ?_) (a' := ?_) #[true, true, true, true, true] rfl rfl (by kernel_rfl) (fun _ _ _ h => h) (Or.inl ⟨by rfl, ?_⟩) ?_ ?_
      rotate_left
      ·
       intro w'
       go_simp
       with_reducible rfl
      rotate_left
      ·
       simp only [Act.put, List.setIfInBounds_toArray, List.set_cons_zero, List.set_cons_succ, i64_w, i32_w]
       rfl
      refine done_ (by kernel_rfl) ?_
      try go_wp2
      go_ret
      exact ⟨Hd.e_, Hd.b_⟩
    ·
     replace c28 := Bool.eq_false_iff.mpr c28
     subst c28
     have H1 : (some false) = some r := by rw [if_neg (show ¬ (false = true) by decide)] at H; exact H
     clear H
     have H := H1
     clear H1
     obtain rfl := Option.some.inj H
     go_enter Try.func12, Try.ntmps12
     try go_wp2_with (first | ((with_reducible refine gate_dst (N := 2) rfl ?_); refine Hd.box_ 2 (#[.int .i64 a0_0, .int .i64 a0_1, .int .i64 a0_2, .string a0_3, .slice A0_4 l0_4.length c0_4]) 73 ?_; intro gb426 hg w108 hbox hb; have BK426 := Aside0.mk (hbox); have GW426 := Aside0.mk ((Hd.g_ hg Hd.b_ : w.heap.size ≤ gb426)); have GE426 := Aside0.mk ((Hd.g_ hg Hd.b_ : w.heap.size ≤ gb426)); replace HB := Aside0.mk (below_step Hd.b_ hb); clear hb hbox hg) | ((with_reducible refine gate_dst (N := 3) rfl ?_); refine Hd.box_ 3 (#[.int .i64 a1_0, .int .i64 a1_1, .int .i64 a1_2, .string a1_3, .slice A1_4 l1_4.length c1_4]) 73 ?_; intro gb427 hg w109 hbox hb; have BK427 := Aside0.mk (hbox); have GW427 := Aside0.mk ((Hd.g_ hg Hd.b_ : w.heap.size ≤ gb427)); have GE427 := Aside0.mk ((Hd.g_ hg Hd.b_ : w.heap.size ≤ gb427)); replace HB := Aside0.mk (below_step Hd.b_ hb); have NB426_427 := Aside0.mk ((Hd.lt_ BK426 hg)); have NB427_426 := Aside0.mk ((Hd.gt_ BK426 hg)); replace BK426 := Aside0.mk (Hd.kb_ BK426 hb); clear hb hbox hg; have hnb110 := NB426_427.out; have hnc110 := NB427_426.out; obtain ⟨hcz111_0, hcz111_1, hcz111_2, hcz111_3, hcz111_4⟩ := Hd.c5_ BK426.out; obtain ⟨hfz111_0, hfz111_1, hfz111_2, hfz111_3, hfz111_4⟩ := Hd.f5_ BK426.out) | ((with_reducible refine gate_callee (f := 58) rfl ?_); refine goesL_ (some 12) rfl rfl Try.func58 (by kernel_rfl) rfl #[.agg #[.int .i64 a0_0, .int .i64 a0_1, .int .i64 a0_2, .string a0_3, .slice A0_4 l0_4.length c0_4], .int .i64 1048576] rfl Hd.m_ ?_; (with_reducible refine (laws_szFeature.calls a0_0 a0_1 a0_2 a0_3 _ _ l0_4 1048576 t428 _ ?side1 ?side2 A3.out).mono ?_); (case side1 => repeat (first | exact (Kd.C_below HR0_4.out HB.out) | (with_reducible refine Kd.C_alloc ?_ _) | (with_reducible refine Kd.C_drewN ?_ _) | (with_reducible refine Kd.C_drew ?_))); (case side2 => exact HC0_4.out); rintro e w112 ⟨rfl, hb⟩; refine ⟨_, rfl, ?_⟩; replace BK426 := Aside0.mk (Hd.kb_ BK426 hb); replace BK427 := Aside0.mk (Hd.kb_ BK427 hb); replace HB := Aside0.mk (below_step Hd.b_ hb); (try clear hb); (try clear hb2); (try clear hk); (try clear hi); obtain ⟨hcz113_0, hcz113_1, hcz113_2, hcz113_3, hcz113_4⟩ := Hd.c5_ BK427.out; obtain ⟨hfz113_0, hfz113_1, hfz113_2, hfz113_3, hfz113_4⟩ := Hd.f5_ BK427.out) | ((with_reducible refine gate_callee (f := 58) rfl ?_); refine goesL_ (some 17) rfl rfl Try.func58 (by kernel_rfl) rfl #[.agg #[.int .i64 a1_0, .int .i64 a1_1, .int .i64 a1_2, .string a1_3, .slice A1_4 l1_4.length c1_4], .int .i64 t428] rfl Hd.m_ ?_; (with_reducible refine (laws_szFeature.calls a1_0 a1_1 a1_2 a1_3 _ _ l1_4 t428 t429 _ ?side1 ?side2 A10.out).mono ?_); (case side1 => repeat (first | exact (Kd.C_below HR1_4.out HB.out) | (with_reducible refine Kd.C_alloc ?_ _) | (with_reducible refine Kd.C_drewN ?_ _) | (with_reducible refine Kd.C_drew ?_))); (case side2 => exact HC1_4.out); rintro e w114 ⟨rfl, hb⟩; refine ⟨_, rfl, ?_⟩; replace BK426 := Aside0.mk (Hd.kb_ BK426 hb); replace BK427 := Aside0.mk (Hd.kb_ BK427 hb); replace HB := Aside0.mk (below_step Hd.b_ hb); (try clear hb); (try clear hb2); (try clear hk); (try clear hi)))
     replace BK426 := Aside0.mk (blk_drew BK426.out)
     replace BK427 := Aside0.mk (blk_drew BK427.out)
     replace HB := Aside0.mk (below_drew1 HB.out)
     refine start_ (n := 6) (S := fun w' => w'.cell? ⟨gb426, 0, none⟩ = some (.int .i64 a0_0) ∧ w'.cell? ⟨gb426, 1, none⟩ = some (.int .i64 a0_1) ∧ w'.cell? ⟨gb426, 2, none⟩ = some (.int .i64 a0_2) ∧ w'.cell? ⟨gb426, 3, none⟩ = some (.string a0_3) ∧ w'.cell? ⟨gb426, 4, none⟩ = some (.slice A0_4 l0_4.length c0_4) ∧ w'.cell? ⟨gb427, 0, none⟩ = some (.int .i64 a1_0) ∧ w'.cell? ⟨gb427, 1, none⟩ = some (.int .i64 a1_1) ∧ w'.cell? ⟨gb427, 2, none⟩ = some (.int .i64 a1_2) ∧ w'.cell? ⟨gb427, 3, none⟩ = some (.string a1_3) ∧ w'.cell? ⟨gb427, 4, none⟩ = some (.slice A1_4 l1_4.length c1_4)) (ds := []) #[false, false, false, false, false, false] (by kernel_rfl) rfl rfl ⟨(blk_cell BK426.out 0).trans rfl, (blk_cell BK426.out 1).trans rfl, (blk_cell BK426.out 2).trans rfl, (blk_cell BK426.out 3).trans rfl, (blk_cell BK426.out 4).trans rfl, (blk_cell BK427.out 0).trans rfl, (blk_cell BK427.out 1).trans rfl, (blk_cell BK427.out 2).trans rfl, (blk_cell BK427.out 3).trans rfl, (blk_cell BK427.out 4).trans rfl⟩ (fun hHeld => ?_)
     generalize w114.drew = w115 at BK426 BK427 HB hHeld ⊢
     refine take_ (i := 0) (N := some 20) (v := ?_) (a' := ?_) #[true, false, false, false, false, false] rfl rfl (by kernel_rfl) (fun _ _ _ h => h) (Or.inl ⟨by rfl, ?_⟩) hHeld ?_ ?_
     rotate_left
     ·
      rintro w' ⟨s0, s1, s2, s3, s4, s5, s6, s7, s8, s9⟩
      go_simp
      with_reducible rfl
     rotate_left
     ·
      simp only [Act.put, List.setIfInBounds_toArray, List.set_cons_zero, List.set_cons_succ, i64_w, i32_w]
      rfl
     refine take_ (i := 2) (N := some 22) (v := ?_) (a' := ?_) #[true, false, true, false, false, false] rfl rfl (by kernel_rfl) (fun _ _ _ h => h) (Or.inl ⟨by rfl, ?_⟩) hHeld ?_ ?_
     rotate_left
     ·
      rintro w' ⟨s0, s1, s2, s3, s4, s5, s6, s7, s8, s9⟩
      go_simp
      with_reducible rfl
     rotate_left
     ·
      simp only [Act.put, List.setIfInBounds_toArray, List.set_cons_zero, List.set_cons_succ, i64_w, i32_w]
      rfl
     refine one_ (i := 1) (N := some 21) #[true, true, true, false, false, false] rfl rfl (by kernel_rfl) (by decide) (fun K hK => ?_)
     refine goes_ Try.func60 (by kernel_rfl) rfl #[.agg #[.int .i64 a0_0, .int .i64 a0_1, .int .i64 a0_2, .string a0_3, .slice A0_4 l0_4.length c0_4]] (by rfl) rfl rfl Hd.m_ ?_
     with_reducible refine (laws_toFeature.calls k a0_0 a0_1 a0_2 a0_3 _ _ l0_4 t430 t431 t432 t433 t434 _ ?side1 ?side2 A19.out).mono ?_
     (case side1 => repeat (first | exact (Kd.C_below HR0_4.out HB.out) | (with_reducible refine Kd.C_alloc ?_ _) | (with_reducible refine Kd.C_drewN ?_ _) | (with_reducible refine Kd.C_drew ?_)))
     (case side2 => exact HC0_4.out)
     rintro e w116 ⟨v435, rfl, ho0, hb⟩
     refine ⟨_, rfl, ?_⟩
     have HO436 := Aside0.mk (Kd.R_lower ho0 (below_size Hd.b_))
     replace BK426 := Aside0.mk (Hd.kb_ BK426 hb)
     replace BK427 := Aside0.mk (Hd.kb_ BK427 hb)
     replace HB := Aside0.mk (below_step Hd.b_ hb)
     (try clear hb)
     (try clear hb2)
     (try clear hk)
     (try clear hi)
     (try clear ho0)
     refine hK.out _ _ ⟨(blk_cell BK426.out 0).trans rfl, (blk_cell BK426.out 1).trans rfl, (blk_cell BK426.out 2).trans rfl, (blk_cell BK426.out 3).trans rfl, (blk_cell BK426.out 4).trans rfl, (blk_cell BK427.out 0).trans rfl, (blk_cell BK427.out 1).trans rfl, (blk_cell BK427.out 2).trans rfl, (blk_cell BK427.out 3).trans rfl, (blk_cell BK427.out 4).trans rfl⟩ (fun hHeld => ?_)
     clear hK K
     refine Hd.n_ (some 21) ?_
     refine one_ (i := 3) (N := some 23) #[true, true, true, true, false, false] rfl rfl (by kernel_rfl) (by decide) (fun K hK => ?_)
     refine goes_ Try.func60 (by kernel_rfl) rfl #[.agg #[.int .i64 a1_0, .int .i64 a1_1, .int .i64 a1_2, .string a1_3, .slice A1_4 l1_4.length c1_4]] (by rfl) rfl rfl Hd.m_ ?_
     with_reducible refine (laws_toFeature.calls k a1_0 a1_1 a1_2 a1_3 _ _ l1_4 t437 t438 t439 t440 t441 _ ?side1 ?side2 A20.out).mono ?_
     (case side1 => repeat (first | exact (Kd.C_below HR1_4.out HB.out) | (with_reducible refine Kd.C_alloc ?_ _) | (with_reducible refine Kd.C_drewN ?_ _) | (with_reducible refine Kd.C_drew ?_)))
     (case side2 => exact HC1_4.out)
     rintro e w117 ⟨v442, rfl, ho0, hb⟩
     refine ⟨_, rfl, ?_⟩
     have HO443 := Aside0.mk (Kd.R_lower (Kd.R_new' ho0 (Kd.R_lt (Hd.r_ HO436))) (below_size Hd.b_))
     replace HO436 := Aside0.mk (Kd.R_elder' (Hd.r_ HO436) (Kd.R_base ho0) hb)
     replace BK426 := Aside0.mk (Hd.kb_ BK426 hb)
     replace BK427 := Aside0.mk (Hd.kb_ BK427 hb)
     replace HB := Aside0.mk (below_step Hd.b_ hb)
     (try clear hb)
     (try clear hb2)
     (try clear hk)
     (try clear hi)
     (try clear ho0)
     obtain ⟨Ao118, co118, eo118⟩ := Kd.R_slice HO436.out
     (first | subst eo118 | (injection eo118 with f1_ f2_ f3_; have f4_ := f1_.symm; have f5_ := f3_.symm; clear f1_ f2_ f3_; subst f4_; subst f5_))
     obtain ⟨Ao119, co119, eo119⟩ := Kd.R_slice HO443.out
     (first | subst eo119 | (injection eo119 with f1_ f2_ f3_; have f4_ := f1_.symm; have f5_ := f3_.symm; clear f1_ f2_ f3_; subst f4_; subst f5_))
     refine hK.out _ _ ⟨(blk_cell BK426.out 0).trans rfl, (blk_cell BK426.out 1).trans rfl, (blk_cell BK426.out 2).trans rfl, (blk_cell BK426.out 3).trans rfl, (blk_cell BK426.out 4).trans rfl, (blk_cell BK427.out 0).trans rfl, (blk_cell BK427.out 1).trans rfl, (blk_cell BK427.out 2).trans rfl, (blk_cell BK427.out 3).trans rfl, (blk_cell BK427.out 4).trans rfl⟩ (fun hHeld => ?_)
     clear hK K
     refine Hd.n_ (some 23) ?_
     refine one_ (i := 4) (N := some 24) #[true, true, true, true, true, false] rfl rfl (by kernel_rfl) (by decide) (fun K hK => ?_)
     refine goes_ Try.func69 (by kernel_rfl) rfl #[.agg #[.int .i64 t430, .int .i64 t431, .int .i64 t432, .string t433, .slice Ao118 t434.length co118], .agg #[.int .i64 t437, .int .i64 t438, .int .i64 t439, .string t440, .slice Ao119 t441.length co119]] (by rfl) rfl rfl Hd.m_ ?_
     with_reducible refine (spec_FeaturesMeet.calls k t430 t431 t432 t433 _ _ t434 t437 t438 t439 t440 _ _ t441 t444 _ ?side1 ?side2 ?side3 ?side4 A21.out).mono ?_
     (case side1 => repeat (first | exact (Kd.R_reads' HO436.out).2.2 | (with_reducible refine Kd.C_alloc ?_ _) | (with_reducible refine Kd.C_drewN ?_ _) | (with_reducible refine Kd.C_drew ?_)))
     (case side2 => exact (Kd.R_reads' HO436.out).2.1)
     (case side3 => repeat (first | exact (Kd.R_reads' HO443.out).2.2 | (with_reducible refine Kd.C_alloc ?_ _) | (with_reducible refine Kd.C_drewN ?_ _) | (with_reducible refine Kd.C_drew ?_)))
     (case side4 => exact (Kd.R_reads' HO443.out).2.1)
     rintro e w120 ⟨rfl, hb⟩
     refine ⟨_, rfl, ?_⟩
     replace HO436 := Aside0.mk (Kd.R_below (Hd.r_ HO436) hb)
     replace HO443 := Aside0.mk (Kd.R_below (Hd.r_ HO443) hb)
     replace BK426 := Aside0.mk (Hd.kb_ BK426 hb)
     replace BK427 := Aside0.mk (Hd.kb_ BK427 hb)
     replace HB := Aside0.mk (below_step Hd.b_ hb)
     (try clear hb)
     (try clear hb2)
     (try clear hk)
     (try clear hi)
     refine hK.out _ _ ⟨(blk_cell BK426.out 0).trans rfl, (blk_cell BK426.out 1).trans rfl, (blk_cell BK426.out 2).trans rfl, (blk_cell BK426.out 3).trans rfl, (blk_cell BK426.out 4).trans rfl, (blk_cell BK427.out 0).trans rfl, (blk_cell BK427.out 1).trans rfl, (blk_cell BK427.out 2).trans rfl, (blk_cell BK427.out 3).trans rfl, (blk_cell BK427.out 4).trans rfl⟩ (fun hHeld => ?_)
     clear hK K
     refine Hd.n_ (some 24) ?_
     refine pure_ (i := 5) (N := some 6) (v := ?_) (a' := ?_) #[true, true, true, true, true, true] rfl rfl (by kernel_rfl) (fun _ _ _ h => h) (Or.inl ⟨by rfl, ?_⟩) ?_ ?_
     rotate_left
     ·
      intro w'
      go_simp
      with_reducible rfl
     rotate_left
     ·
      simp only [Act.put, List.setIfInBounds_toArray, List.set_cons_zero, List.set_cons_succ, i64_w, i32_w]
      rfl
     refine done_ (by kernel_rfl) ?_
     obtain ⟨hcz121_0, hcz121_1, hcz121_2, hcz121_3, hcz121_4⟩ := Hd.c5_ BK426.out
     obtain ⟨hfz121_0, hfz121_1, hfz121_2, hfz121_3, hfz121_4⟩ := Hd.f5_ BK426.out
     try go_wp2_with (first | ((with_reducible refine gate_callee (f := 60) rfl ?_); refine goesL_ (some 26) rfl rfl Try.func60 (by kernel_rfl) rfl #[.agg #[.int .i64 a0_0, .int .i64 a0_1, .int .i64 a0_2, .string a0_3, .slice A0_4 l0_4.length c0_4]] rfl Hd.m_ ?_; (with_reducible refine (laws_toFeature.calls k a0_0 a0_1 a0_2 a0_3 _ _ l0_4 t445 t446 t447 t448 t449 _ ?side1 ?side2 A22.out).mono ?_); (case side1 => repeat (first | exact (Kd.C_below HR0_4.out HB.out) | (with_reducible refine Kd.C_alloc ?_ _) | (with_reducible refine Kd.C_drewN ?_ _) | (with_reducible refine Kd.C_drew ?_))); (case side2 => exact HC0_4.out); rintro e w122 ⟨v450, rfl, ho0, hb⟩; refine ⟨_, rfl, ?_⟩; have HO451 := Aside0.mk (Kd.R_lower (Kd.R_new' (Kd.R_new' ho0 (Kd.R_lt (Hd.r_ HO436))) (Kd.R_lt (Hd.r_ HO443))) (below_size Hd.b_)); replace HO436 := Aside0.mk (Kd.R_elder' (Hd.r_ HO436) (Kd.R_base ho0) hb); replace HO443 := Aside0.mk (Kd.R_elder' (Hd.r_ HO443) (Kd.R_base ho0) hb); replace BK426 := Aside0.mk (Hd.kb_ BK426 hb); replace BK427 := Aside0.mk (Hd.kb_ BK427 hb); replace HB := Aside0.mk (below_step Hd.b_ hb); (try clear hb); (try clear hb2); (try clear hk); (try clear hi); (try clear ho0)) | ((with_reducible refine gate_dst (N := 7) rfl ?_); refine Hd.box_ 7 (#[.int .i64 0, .int .i64 0, .int .i64 0, .string (⟨#[]⟩ : ByteArray), .slice none 0 0]) 77 ?_; intro gb452 hg w123 hbox hb; replace HO436 := Aside0.mk (Kd.R_below (Hd.r_ HO436) hb); replace HO443 := Aside0.mk (Kd.R_below (Hd.r_ HO443) hb); replace HO451 := Aside0.mk (Kd.R_below (Hd.r_ HO451) hb); have BK452 := Aside0.mk (hbox); have GW452 := Aside0.mk ((Hd.g_ hg Hd.b_ : w.heap.size ≤ gb452)); have GE452 := Aside0.mk ((Hd.g_ hg Hd.b_ : w.heap.size ≤ gb452)); replace HB := Aside0.mk (below_step Hd.b_ hb); have NB426_452 := Aside0.mk ((Hd.lt_ BK426 hg)); have NB452_426 := Aside0.mk ((Hd.gt_ BK426 hg)); replace BK426 := Aside0.mk (Hd.kb_ BK426 hb); have NB427_452 := Aside0.mk ((Hd.lt_ BK427 hg)); have NB452_427 := Aside0.mk ((Hd.gt_ BK427 hg)); replace BK427 := Aside0.mk (Hd.kb_ BK427 hb); clear hb hbox hg; have hnb124 := NB452_426.out; have hnc124 := NB426_452.out; have hnb125 := NB452_427.out; have hnc125 := NB427_452.out; obtain ⟨hcz126_0, hcz126_1, hcz126_2, hcz126_3, hcz126_4⟩ := Hd.c5_ BK452.out; obtain ⟨hfz126_0, hfz126_1, hfz126_2, hfz126_3, hfz126_4⟩ := Hd.f5_ BK452.out; obtain ⟨Ao127, co127, eo127⟩ := Kd.R_slice HO451.out; subst eo127; obtain ⟨hcz128_0, hcz128_1, hcz128_2, hcz128_3, hcz128_4⟩ := Hd.c5_ BK427.out; obtain ⟨hfz128_0, hfz128_1, hfz128_2, hfz128_3, hfz128_4⟩ := Hd.f5_ BK427.out) | ((with_reducible refine gate_callee (f := 60) rfl ?_); refine goesL_ (some 28) rfl rfl Try.func60 (by kernel_rfl) rfl #[.agg #[.int .i64 a1_0, .int .i64 a1_1, .int .i64 a1_2, .string a1_3, .slice A1_4 l1_4.length c1_4]] rfl Hd.m_ ?_; (with_reducible refine (laws_toFeature.calls k a1_0 a1_1 a1_2 a1_3 _ _ l1_4 t453 t454 t455 t456 t457 _ ?side1 ?side2 A23.out).mono ?_); (case side1 => exact Kd.C_below HR1_4.out Hd.b_); (case side2 => exact HC1_4.out); rintro e w129 ⟨v458, rfl, ho0, hb⟩; refine ⟨_, rfl, ?_⟩; have HO459 := Aside0.mk (Kd.R_lower (Kd.R_new' (Kd.R_new' (Kd.R_new' ho0 (Kd.R_lt (by (with_reducible repeat (first | apply Kd.R_alloc | apply Kd.R_drewN | apply Kd.R_drew)); exact (Kd.R_mono (Kd.R_far (p := ⟨gb452, 4, none⟩) (Kd.R_far (p := ⟨gb452, 3, none⟩) (Kd.R_far (p := ⟨gb452, 2, none⟩) (Kd.R_far (p := ⟨gb452, 1, none⟩) (Kd.R_far (p := ⟨gb452, 0, none⟩) (Kd.R_types HO436.out BK452.out (by decide)) (fun _ hk => hk.2) (.int .i64 t445)) (fun _ hk => hk.2) (.int .i64 t446)) (fun _ hk => hk.2) (.int .i64 t447)) (fun _ hk => hk.2) (.string t448)) (fun _ hk => hk.2) (.slice Ao127 t449.length co127)) (fun _ h_ => h_.1))))) (Kd.R_lt (by (with_reducible repeat (first | apply Kd.R_alloc | apply Kd.R_drewN | apply Kd.R_drew)); exact (Kd.R_mono (Kd.R_far (p := ⟨gb452, 4, none⟩) (Kd.R_far (p := ⟨gb452, 3, none⟩) (Kd.R_far (p := ⟨gb452, 2, none⟩) (Kd.R_far (p := ⟨gb452, 1, none⟩) (Kd.R_far (p := ⟨gb452, 0, none⟩) (Kd.R_types HO443.out BK452.out (by decide)) (fun _ hk => hk.2) (.int .i64 t445)) (fun _ hk => hk.2) (.int .i64 t446)) (fun _ hk => hk.2) (.int .i64 t447)) (fun _ hk => hk.2) (.string t448)) (fun _ hk => hk.2) (.slice Ao127 t449.length co127)) (fun _ h_ => h_.1))))) (Kd.R_lt (by (with_reducible repeat (first | apply Kd.R_alloc | apply Kd.R_drewN | apply Kd.R_drew)); exact (Kd.R_mono (Kd.R_far (p := ⟨gb452, 4, none⟩) (Kd.R_far (p := ⟨gb452, 3, none⟩) (Kd.R_far (p := ⟨gb452, 2, none⟩) (Kd.R_far (p := ⟨gb452, 1, none⟩) (Kd.R_far (p := ⟨gb452, 0, none⟩) (Kd.R_types HO451.out BK452.out (by decide)) (fun _ hk => hk.2) (.int .i64 t445)) (fun _ hk => hk.2) (.int .i64 t446)) (fun _ hk => hk.2) (.int .i64 t447)) (fun _ hk => hk.2) (.string t448)) (fun _ hk => hk.2) (.slice Ao127 t449.length co127)) (fun _ h_ => h_.1))))) (below_size Hd.b_)); replace HO436 := Aside0.mk (Kd.R_elder' (by (with_reducible repeat (first | apply Kd.R_alloc | apply Kd.R_drewN | apply Kd.R_drew)); exact (Kd.R_mono (Kd.R_far (p := ⟨gb452, 4, none⟩) (Kd.R_far (p := ⟨gb452, 3, none⟩) (Kd.R_far (p := ⟨gb452, 2, none⟩) (Kd.R_far (p := ⟨gb452, 1, none⟩) (Kd.R_far (p := ⟨gb452, 0, none⟩) (Kd.R_types HO436.out BK452.out (by decide)) (fun _ hk => hk.2) (.int .i64 t445)) (fun _ hk => hk.2) (.int .i64 t446)) (fun _ hk => hk.2) (.int .i64 t447)) (fun _ hk => hk.2) (.string t448)) (fun _ hk => hk.2) (.slice Ao127 t449.length co127)) (fun _ h_ => h_.1))) (Kd.R_base ho0) hb); replace HO443 := Aside0.mk (Kd.R_elder' (by (with_reducible repeat (first | apply Kd.R_alloc | apply Kd.R_drewN | apply Kd.R_drew)); exact (Kd.R_mono (Kd.R_far (p := ⟨gb452, 4, none⟩) (Kd.R_far (p := ⟨gb452, 3, none⟩) (Kd.R_far (p := ⟨gb452, 2, none⟩) (Kd.R_far (p := ⟨gb452, 1, none⟩) (Kd.R_far (p := ⟨gb452, 0, none⟩) (Kd.R_types HO443.out BK452.out (by decide)) (fun _ hk => hk.2) (.int .i64 t445)) (fun _ hk => hk.2) (.int .i64 t446)) (fun _ hk => hk.2) (.int .i64 t447)) (fun _ hk => hk.2) (.string t448)) (fun _ hk => hk.2) (.slice Ao127 t449.length co127)) (fun _ h_ => h_.1))) (Kd.R_base ho0) hb); replace HO451 := Aside0.mk (Kd.R_elder' (by (with_reducible repeat (first | apply Kd.R_alloc | apply Kd.R_drewN | apply Kd.R_drew)); exact (Kd.R_mono (Kd.R_far (p := ⟨gb452, 4, none⟩) (Kd.R_far (p := ⟨gb452, 3, none⟩) (Kd.R_far (p := ⟨gb452, 2, none⟩) (Kd.R_far (p := ⟨gb452, 1, none⟩) (Kd.R_far (p := ⟨gb452, 0, none⟩) (Kd.R_types HO451.out BK452.out (by decide)) (fun _ hk => hk.2) (.int .i64 t445)) (fun _ hk => hk.2) (.int .i64 t446)) (fun _ hk => hk.2) (.int .i64 t447)) (fun _ hk => hk.2) (.string t448)) (fun _ hk => hk.2) (.slice Ao127 t449.length co127)) (fun _ h_ => h_.1))) (Kd.R_base ho0) hb); replace BK426 := Aside0.mk (blk_below (g := gb426) (o := .cells #[.int .i64 a0_0, .int .i64 a0_1, .int .i64 a0_2, .string a0_3, .slice A0_4 l0_4.length c0_4] 73 (0, 0)) (by (with_reducible repeat (first | refine blk_drewN ?_ _ | refine blk_drew ?_ | refine blk_alloc ?_ _)); refine blk_far ?_ NB426_452.out _; (with_reducible repeat (first | refine blk_drewN ?_ _ | refine blk_drew ?_ | refine blk_alloc ?_ _)); refine blk_far ?_ NB426_452.out _; (with_reducible repeat (first | refine blk_drewN ?_ _ | refine blk_drew ?_ | refine blk_alloc ?_ _)); refine blk_far ?_ NB426_452.out _; (with_reducible repeat (first | refine blk_drewN ?_ _ | refine blk_drew ?_ | refine blk_alloc ?_ _)); refine blk_far ?_ NB426_452.out _; (with_reducible repeat (first | refine blk_drewN ?_ _ | refine blk_drew ?_ | refine blk_alloc ?_ _)); refine blk_far ?_ NB426_452.out _; (with_reducible repeat (first | refine blk_drewN ?_ _ | refine blk_drew ?_ | refine blk_alloc ?_ _)); exact BK426.out) hb); replace BK427 := Aside0.mk (blk_below (g := gb427) (o := .cells #[.int .i64 a1_0, .int .i64 a1_1, .int .i64 a1_2, .string a1_3, .slice A1_4 l1_4.length c1_4] 73 (0, 0)) (by (with_reducible repeat (first | refine blk_drewN ?_ _ | refine blk_drew ?_ | refine blk_alloc ?_ _)); refine blk_far ?_ NB427_452.out _; (with_reducible repeat (first | refine blk_drewN ?_ _ | refine blk_drew ?_ | refine blk_alloc ?_ _)); refine blk_far ?_ NB427_452.out _; (with_reducible repeat (first | refine blk_drewN ?_ _ | refine blk_drew ?_ | refine blk_alloc ?_ _)); refine blk_far ?_ NB427_452.out _; (with_reducible repeat (first | refine blk_drewN ?_ _ | refine blk_drew ?_ | refine blk_alloc ?_ _)); refine blk_far ?_ NB427_452.out _; (with_reducible repeat (first | refine blk_drewN ?_ _ | refine blk_drew ?_ | refine blk_alloc ?_ _)); refine blk_far ?_ NB427_452.out _; (with_reducible repeat (first | refine blk_drewN ?_ _ | refine blk_drew ?_ | refine blk_alloc ?_ _)); exact BK427.out) hb); replace BK452 := Aside0.mk (blk_below (g := gb452) (o := .cells #[.int .i64 t445, .int .i64 t446, .int .i64 t447, .string t448, .slice Ao127 t449.length co127] 77 (0, 0)) (by (with_reducible repeat (first | refine blk_drewN ?_ _ | refine blk_drew ?_ | refine blk_alloc ?_ _)); refine blk_put (cs := #[.int .i64 t445, .int .i64 t446, .int .i64 t447, .string t448, .slice none 0 0]) ?_ 4 _ rfl; (with_reducible repeat (first | refine blk_drewN ?_ _ | refine blk_drew ?_ | refine blk_alloc ?_ _)); refine blk_put (cs := #[.int .i64 t445, .int .i64 t446, .int .i64 t447, .string (⟨#[]⟩ : ByteArray), .slice none 0 0]) ?_ 3 _ rfl; (with_reducible repeat (first | refine blk_drewN ?_ _ | refine blk_drew ?_ | refine blk_alloc ?_ _)); refine blk_put (cs := #[.int .i64 t445, .int .i64 t446, .int .i64 0, .string (⟨#[]⟩ : ByteArray), .slice none 0 0]) ?_ 2 _ rfl; (with_reducible repeat (first | refine blk_drewN ?_ _ | refine blk_drew ?_ | refine blk_alloc ?_ _)); refine blk_put (cs := #[.int .i64 t445, .int .i64 0, .int .i64 0, .string (⟨#[]⟩ : ByteArray), .slice none 0 0]) ?_ 1 _ rfl; (with_reducible repeat (first | refine blk_drewN ?_ _ | refine blk_drew ?_ | refine blk_alloc ?_ _)); refine blk_put (cs := #[.int .i64 0, .int .i64 0, .int .i64 0, .string (⟨#[]⟩ : ByteArray), .slice none 0 0]) ?_ 0 _ rfl; (with_reducible repeat (first | refine blk_drewN ?_ _ | refine blk_drew ?_ | refine blk_alloc ?_ _)); exact BK452.out) hb); replace HB := Aside0.mk (below_step Hd.b_ hb); (try clear hb); (try clear hb2); (try clear hk); (try clear hi); (try clear ho0)) | ((with_reducible refine gate_dst (N := 8) rfl ?_); refine Hd.box_ 8 (#[.int .i64 0, .int .i64 0, .int .i64 0, .string (⟨#[]⟩ : ByteArray), .slice none 0 0]) 77 ?_; intro gb460 hg w130 hbox hb; replace HO436 := Aside0.mk (Kd.R_below (Hd.r_ HO436) hb); replace HO443 := Aside0.mk (Kd.R_below (Hd.r_ HO443) hb); replace HO451 := Aside0.mk (Kd.R_below (Hd.r_ HO451) hb); replace HO459 := Aside0.mk (Kd.R_below (Hd.r_ HO459) hb); have BK460 := Aside0.mk (hbox); have GW460 := Aside0.mk ((Hd.g_ hg Hd.b_ : w.heap.size ≤ gb460)); have GE460 := Aside0.mk ((Hd.g_ hg Hd.b_ : w.heap.size ≤ gb460)); replace HB := Aside0.mk (below_step Hd.b_ hb); have NB426_460 := Aside0.mk ((Hd.lt_ BK426 hg)); have NB460_426 := Aside0.mk ((Hd.gt_ BK426 hg)); replace BK426 := Aside0.mk (Hd.kb_ BK426 hb); have NB427_460 := Aside0.mk ((Hd.lt_ BK427 hg)); have NB460_427 := Aside0.mk ((Hd.gt_ BK427 hg)); replace BK427 := Aside0.mk (Hd.kb_ BK427 hb); have NB452_460 := Aside0.mk ((Hd.lt_ BK452 hg)); have NB460_452 := Aside0.mk ((Hd.gt_ BK452 hg)); replace BK452 := Aside0.mk (Hd.kb_ BK452 hb); clear hb hbox hg; have hnb131 := NB460_426.out; have hnc131 := NB426_460.out; have hnb132 := NB460_427.out; have hnc132 := NB427_460.out; have hnb133 := NB460_452.out; have hnc133 := NB452_460.out; obtain ⟨hcz134_0, hcz134_1, hcz134_2, hcz134_3, hcz134_4⟩ := Hd.c5_ BK460.out; obtain ⟨hfz134_0, hfz134_1, hfz134_2, hfz134_3, hfz134_4⟩ := Hd.f5_ BK460.out; obtain ⟨Ao135, co135, eo135⟩ := Kd.R_slice HO459.out; subst eo135; obtain ⟨hcz136_0, hcz136_1, hcz136_2, hcz136_3, hcz136_4⟩ := Hd.c5_ BK452.out; obtain ⟨hfz136_0, hfz136_1, hfz136_2, hfz136_3, hfz136_4⟩ := Hd.f5_ BK452.out) | ((with_reducible refine gate_callee (f := 70) rfl ?_); refine goesL_ (some 31) rfl rfl Try.func70 (by kernel_rfl) rfl #[.agg #[.int .i64 t445, .int .i64 t446, .int .i64 t447, .string t448, .slice Ao127 t449.length co127], .agg #[.int .i64 t453, .int .i64 t454, .int .i64 t455, .string t456, .slice Ao135 t457.length co135]] rfl Hd.m_ ?_; (with_reducible refine (impl_FeaturesMeet.calls k t445 t446 t447 t448 _ _ t449 t453 t454 t455 t456 _ _ t457 t461 _ ?side1 ?side2 ?side3 ?side4 A24.out).mono ?_); (case side1 => refine (Kd.R_reads' (e := 49) (base := w.heap.size) (ok := fun k_ => (((True ∧ some k_ ≠ (.slice Ao118 t434.length co118 : Value).ownBlock) ∧ some k_ ≠ (.slice Ao119 t441.length co119 : Value).ownBlock) ∧ some k_ ≠ (.slice Ao135 t457.length co135 : Value).ownBlock)) (n := t449.length) (c := co127) ?_).2.2; exact (by (with_reducible repeat (first | apply Kd.R_alloc | apply Kd.R_drewN | apply Kd.R_drew)); exact (Kd.R_mono (Kd.R_far (p := ⟨gb460, 4, none⟩) (Kd.R_far (p := ⟨gb460, 3, none⟩) (Kd.R_far (p := ⟨gb460, 2, none⟩) (Kd.R_far (p := ⟨gb460, 1, none⟩) (Kd.R_far (p := ⟨gb460, 0, none⟩) (Kd.R_types HO451.out BK460.out (by decide)) (fun _ hk => hk.2) (.int .i64 t453)) (fun _ hk => hk.2) (.int .i64 t454)) (fun _ hk => hk.2) (.int .i64 t455)) (fun _ hk => hk.2) (.string t456)) (fun _ hk => hk.2) (.slice Ao135 t457.length co135)) (fun _ h_ => h_.1)))); (case side2 => exact (Kd.R_reads' HO451.out).2.1); (case side3 => refine (Kd.R_reads' (e := 49) (base := w.heap.size) (ok := fun k_ => (((True ∧ some k_ ≠ (.slice Ao118 t434.length co118 : Value).ownBlock) ∧ some k_ ≠ (.slice Ao119 t441.length co119 : Value).ownBlock) ∧ some k_ ≠ (.slice Ao127 t449.length co127 : Value).ownBlock)) (n := t457.length) (c := co135) ?_).2.2; exact (by (with_reducible repeat (first | apply Kd.R_alloc | apply Kd.R_drewN | apply Kd.R_drew)); exact (Kd.R_mono (Kd.R_far (p := ⟨gb460, 4, none⟩) (Kd.R_far (p := ⟨gb460, 3, none⟩) (Kd.R_far (p := ⟨gb460, 2, none⟩) (Kd.R_far (p := ⟨gb460, 1, none⟩) (Kd.R_far (p := ⟨gb460, 0, none⟩) (Kd.R_types HO459.out BK460.out (by decide)) (fun _ hk => hk.2) (.int .i64 t453)) (fun _ hk => hk.2) (.int .i64 t454)) (fun _ hk => hk.2) (.int .i64 t455)) (fun _ hk => hk.2) (.string t456)) (fun _ hk => hk.2) (.slice Ao135 t457.length co135)) (fun _ h_ => h_.1)))); (case side4 => exact (Kd.R_reads' HO459.out).2.1); rintro e w137 ⟨rfl, hb⟩; refine ⟨_, rfl, ?_⟩; replace HO436 := Aside0.mk (Kd.R_below (by (with_reducible repeat (first | apply Kd.R_alloc | apply Kd.R_drewN | apply Kd.R_drew)); exact (Kd.R_mono (Kd.R_far (p := ⟨gb460, 4, none⟩) (Kd.R_far (p := ⟨gb460, 3, none⟩) (Kd.R_far (p := ⟨gb460, 2, none⟩) (Kd.R_far (p := ⟨gb460, 1, none⟩) (Kd.R_far (p := ⟨gb460, 0, none⟩) (Kd.R_types HO436.out BK460.out (by decide)) (fun _ hk => hk.2) (.int .i64 t453)) (fun _ hk => hk.2) (.int .i64 t454)) (fun _ hk => hk.2) (.int .i64 t455)) (fun _ hk => hk.2) (.string t456)) (fun _ hk => hk.2) (.slice Ao135 t457.length co135)) (fun _ h_ => h_.1))) hb); replace HO443 := Aside0.mk (Kd.R_below (by (with_reducible repeat (first | apply Kd.R_alloc | apply Kd.R_drewN | apply Kd.R_drew)); exact (Kd.R_mono (Kd.R_far (p := ⟨gb460, 4, none⟩) (Kd.R_far (p := ⟨gb460, 3, none⟩) (Kd.R_far (p := ⟨gb460, 2, none⟩) (Kd.R_far (p := ⟨gb460, 1, none⟩) (Kd.R_far (p := ⟨gb460, 0, none⟩) (Kd.R_types HO443.out BK460.out (by decide)) (fun _ hk => hk.2) (.int .i64 t453)) (fun _ hk => hk.2) (.int .i64 t454)) (fun _ hk => hk.2) (.int .i64 t455)) (fun _ hk => hk.2) (.string t456)) (fun _ hk => hk.2) (.slice Ao135 t457.length co135)) (fun _ h_ => h_.1))) hb); replace HO451 := Aside0.mk (Kd.R_below (by (with_reducible repeat (first | apply Kd.R_alloc | apply Kd.R_drewN | apply Kd.R_drew)); exact (Kd.R_mono (Kd.R_far (p := ⟨gb460, 4, none⟩) (Kd.R_far (p := ⟨gb460, 3, none⟩) (Kd.R_far (p := ⟨gb460, 2, none⟩) (Kd.R_far (p := ⟨gb460, 1, none⟩) (Kd.R_far (p := ⟨gb460, 0, none⟩) (Kd.R_types HO451.out BK460.out (by decide)) (fun _ hk => hk.2) (.int .i64 t453)) (fun _ hk => hk.2) (.int .i64 t454)) (fun _ hk => hk.2) (.int .i64 t455)) (fun _ hk => hk.2) (.string t456)) (fun _ hk => hk.2) (.slice Ao135 t457.length co135)) (fun _ h_ => h_.1))) hb); replace HO459 := Aside0.mk (Kd.R_below (by (with_reducible repeat (first | apply Kd.R_alloc | apply Kd.R_drewN | apply Kd.R_drew)); exact (Kd.R_mono (Kd.R_far (p := ⟨gb460, 4, none⟩) (Kd.R_far (p := ⟨gb460, 3, none⟩) (Kd.R_far (p := ⟨gb460, 2, none⟩) (Kd.R_far (p := ⟨gb460, 1, none⟩) (Kd.R_far (p := ⟨gb460, 0, none⟩) (Kd.R_types HO459.out BK460.out (by decide)) (fun _ hk => hk.2) (.int .i64 t453)) (fun _ hk => hk.2) (.int .i64 t454)) (fun _ hk => hk.2) (.int .i64 t455)) (fun _ hk => hk.2) (.string t456)) (fun _ hk => hk.2) (.slice Ao135 t457.length co135)) (fun _ h_ => h_.1))) hb); replace BK426 := Aside0.mk (blk_below (g := gb426) (o := .cells #[.int .i64 a0_0, .int .i64 a0_1, .int .i64 a0_2, .string a0_3, .slice A0_4 l0_4.length c0_4] 73 (0, 0)) (by (with_reducible repeat (first | refine blk_drewN ?_ _ | refine blk_drew ?_ | refine blk_alloc ?_ _)); refine blk_far ?_ NB426_460.out _; (with_reducible repeat (first | refine blk_drewN ?_ _ | refine blk_drew ?_ | refine blk_alloc ?_ _)); refine blk_far ?_ NB426_460.out _; (with_reducible repeat (first | refine blk_drewN ?_ _ | refine blk_drew ?_ | refine blk_alloc ?_ _)); refine blk_far ?_ NB426_460.out _; (with_reducible repeat (first | refine blk_drewN ?_ _ | refine blk_drew ?_ | refine blk_alloc ?_ _)); refine blk_far ?_ NB426_460.out _; (with_reducible repeat (first | refine blk_drewN ?_ _ | refine blk_drew ?_ | refine blk_alloc ?_ _)); refine blk_far ?_ NB426_460.out _; (with_reducible repeat (first | refine blk_drewN ?_ _ | refine blk_drew ?_ | refine blk_alloc ?_ _)); exact BK426.out) hb); replace BK427 := Aside0.mk (blk_below (g := gb427) (o := .cells #[.int .i64 a1_0, .int .i64 a1_1, .int .i64 a1_2, .string a1_3, .slice A1_4 l1_4.length c1_4] 73 (0, 0)) (by (with_reducible repeat (first | refine blk_drewN ?_ _ | refine blk_drew ?_ | refine blk_alloc ?_ _)); refine blk_far ?_ NB427_460.out _; (with_reducible repeat (first | refine blk_drewN ?_ _ | refine blk_drew ?_ | refine blk_alloc ?_ _)); refine blk_far ?_ NB427_460.out _; (with_reducible repeat (first | refine blk_drewN ?_ _ | refine blk_drew ?_ | refine blk_alloc ?_ _)); refine blk_far ?_ NB427_460.out _; (with_reducible repeat (first | refine blk_drewN ?_ _ | refine blk_drew ?_ | refine blk_alloc ?_ _)); refine blk_far ?_ NB427_460.out _; (with_reducible repeat (first | refine blk_drewN ?_ _ | refine blk_drew ?_ | refine blk_alloc ?_ _)); refine blk_far ?_ NB427_460.out _; (with_reducible repeat (first | refine blk_drewN ?_ _ | refine blk_drew ?_ | refine blk_alloc ?_ _)); exact BK427.out) hb); replace BK452 := Aside0.mk (blk_below (g := gb452) (o := .cells #[.int .i64 t445, .int .i64 t446, .int .i64 t447, .string t448, .slice Ao127 t449.length co127] 77 (0, 0)) (by (with_reducible repeat (first | refine blk_drewN ?_ _ | refine blk_drew ?_ | refine blk_alloc ?_ _)); refine blk_far ?_ NB452_460.out _; (with_reducible repeat (first | refine blk_drewN ?_ _ | refine blk_drew ?_ | refine blk_alloc ?_ _)); refine blk_far ?_ NB452_460.out _; (with_reducible repeat (first | refine blk_drewN ?_ _ | refine blk_drew ?_ | refine blk_alloc ?_ _)); refine blk_far ?_ NB452_460.out _; (with_reducible repeat (first | refine blk_drewN ?_ _ | refine blk_drew ?_ | refine blk_alloc ?_ _)); refine blk_far ?_ NB452_460.out _; (with_reducible repeat (first | refine blk_drewN ?_ _ | refine blk_drew ?_ | refine blk_alloc ?_ _)); refine blk_far ?_ NB452_460.out _; (with_reducible repeat (first | refine blk_drewN ?_ _ | refine blk_drew ?_ | refine blk_alloc ?_ _)); exact BK452.out) hb); replace BK460 := Aside0.mk (blk_below (g := gb460) (o := .cells #[.int .i64 t453, .int .i64 t454, .int .i64 t455, .string t456, .slice Ao135 t457.length co135] 77 (0, 0)) (by (with_reducible repeat (first | refine blk_drewN ?_ _ | refine blk_drew ?_ | refine blk_alloc ?_ _)); refine blk_put (cs := #[.int .i64 t453, .int .i64 t454, .int .i64 t455, .string t456, .slice none 0 0]) ?_ 4 _ rfl; (with_reducible repeat (first | refine blk_drewN ?_ _ | refine blk_drew ?_ | refine blk_alloc ?_ _)); refine blk_put (cs := #[.int .i64 t453, .int .i64 t454, .int .i64 t455, .string (⟨#[]⟩ : ByteArray), .slice none 0 0]) ?_ 3 _ rfl; (with_reducible repeat (first | refine blk_drewN ?_ _ | refine blk_drew ?_ | refine blk_alloc ?_ _)); refine blk_put (cs := #[.int .i64 t453, .int .i64 t454, .int .i64 0, .string (⟨#[]⟩ : ByteArray), .slice none 0 0]) ?_ 2 _ rfl; (with_reducible repeat (first | refine blk_drewN ?_ _ | refine blk_drew ?_ | refine blk_alloc ?_ _)); refine blk_put (cs := #[.int .i64 t453, .int .i64 0, .int .i64 0, .string (⟨#[]⟩ : ByteArray), .slice none 0 0]) ?_ 1 _ rfl; (with_reducible repeat (first | refine blk_drewN ?_ _ | refine blk_drew ?_ | refine blk_alloc ?_ _)); refine blk_put (cs := #[.int .i64 0, .int .i64 0, .int .i64 0, .string (⟨#[]⟩ : ByteArray), .slice none 0 0]) ?_ 0 _ rfl; (with_reducible repeat (first | refine blk_drewN ?_ _ | refine blk_drew ?_ | refine blk_alloc ?_ _)); exact BK460.out) hb); replace HB := Aside0.mk (below_step Hd.b_ hb); (try clear hb); (try clear hb2); (try clear hk); (try clear hi)))
     replace HO436 := Aside0.mk (Kd.R_drew HO436.out)
     replace HO443 := Aside0.mk (Kd.R_drew HO443.out)
     replace HO451 := Aside0.mk (Kd.R_drew HO451.out)
     replace HO459 := Aside0.mk (Kd.R_drew HO459.out)
     replace BK426 := Aside0.mk (blk_drew BK426.out)
     replace BK427 := Aside0.mk (blk_drew BK427.out)
     replace BK452 := Aside0.mk (blk_drew BK452.out)
     replace BK460 := Aside0.mk (blk_drew BK460.out)
     replace HB := Aside0.mk (below_drew1 HB.out)
     refine start_ (n := 5) (S := fun w' => w'.cell? ⟨gb452, 0, none⟩ = some (.int .i64 t445) ∧ w'.cell? ⟨gb452, 1, none⟩ = some (.int .i64 t446) ∧ w'.cell? ⟨gb452, 2, none⟩ = some (.int .i64 t447) ∧ w'.cell? ⟨gb452, 3, none⟩ = some (.string t448) ∧ w'.cell? ⟨gb452, 4, none⟩ = some (.slice Ao127 t449.length co127) ∧ w'.cell? ⟨gb426, 0, none⟩ = some (.int .i64 a0_0) ∧ w'.cell? ⟨gb426, 1, none⟩ = some (.int .i64 a0_1) ∧ w'.cell? ⟨gb426, 2, none⟩ = some (.int .i64 a0_2) ∧ w'.cell? ⟨gb426, 3, none⟩ = some (.string a0_3) ∧ w'.cell? ⟨gb426, 4, none⟩ = some (.slice A0_4 l0_4.length c0_4)) (ds := []) #[false, false, false, false, false] (by kernel_rfl) rfl rfl ⟨(blk_cell BK452.out 0).trans rfl, (blk_cell BK452.out 1).trans rfl, (blk_cell BK452.out 2).trans rfl, (blk_cell BK452.out 3).trans rfl, (blk_cell BK452.out 4).trans rfl, (blk_cell BK426.out 0).trans rfl, (blk_cell BK426.out 1).trans rfl, (blk_cell BK426.out 2).trans rfl, (blk_cell BK426.out 3).trans rfl, (blk_cell BK426.out 4).trans rfl⟩ (fun hHeld => ?_)
     generalize w137.drew = w138 at HO436 HO443 HO451 HO459 BK426 BK427 BK452 BK460 HB hHeld ⊢
     refine take_ (i := 0) (N := some 35) (v := ?_) (a' := ?_) #[true, false, false, false, false] rfl rfl (by kernel_rfl) (fun _ _ _ h => h) (Or.inl ⟨by rfl, ?_⟩) hHeld ?_ ?_
     rotate_left
     ·
      rintro w' ⟨s0, s1, s2, s3, s4, s5, s6, s7, s8, s9⟩
      go_simp
      with_reducible rfl
     rotate_left
     ·
      simp only [Act.put, List.setIfInBounds_toArray, List.set_cons_zero, List.set_cons_succ, i64_w, i32_w]
      rfl
     refine take_ (i := 1) (N := some 36) (v := ?_) (a' := ?_) #[true, true, false, false, false] rfl rfl (by kernel_rfl) (fun _ _ _ h => h) (Or.inl ⟨by rfl, ?_⟩) hHeld ?_ ?_
     rotate_left
     ·
      rintro w' ⟨s0, s1, s2, s3, s4, s5, s6, s7, s8, s9⟩
      go_simp
      with_reducible rfl
     rotate_left
     ·
      simp only [Act.put, List.setIfInBounds_toArray, List.set_cons_zero, List.set_cons_succ, i64_w, i32_w]
      rfl
     refine one_ (i := 2) (N := some 37) #[true, true, true, false, false] rfl rfl (by kernel_rfl) (by decide) (fun K hK => ?_)
     refine goes_ Try.func60 (by kernel_rfl) rfl #[.agg #[.int .i64 a0_0, .int .i64 a0_1, .int .i64 a0_2, .string a0_3, .slice A0_4 l0_4.length c0_4]] (by rfl) rfl rfl Hd.m_ ?_
     with_reducible refine (laws_toFeature.calls k a0_0 a0_1 a0_2 a0_3 _ _ l0_4 t462 t463 t464 t465 t466 _ ?side1 ?side2 A26.out).mono ?_
     (case side1 => repeat (first | exact (Kd.C_below HR0_4.out HB.out) | (with_reducible refine Kd.C_alloc ?_ _) | (with_reducible refine Kd.C_drewN ?_ _) | (with_reducible refine Kd.C_drew ?_)))
     (case side2 => exact HC0_4.out)
     rintro e w139 ⟨v467, rfl, ho0, hb⟩
     refine ⟨_, rfl, ?_⟩
     have HO468 := Aside0.mk (Kd.R_lower (Kd.R_new' (Kd.R_new' (Kd.R_new' (Kd.R_new' ho0 (Kd.R_lt (Hd.r_ HO436))) (Kd.R_lt (Hd.r_ HO443))) (Kd.R_lt (Hd.r_ HO451))) (Kd.R_lt (Hd.r_ HO459))) (below_size Hd.b_))
     replace HO436 := Aside0.mk (Kd.R_elder' (Hd.r_ HO436) (Kd.R_base ho0) hb)
     replace HO443 := Aside0.mk (Kd.R_elder' (Hd.r_ HO443) (Kd.R_base ho0) hb)
     replace HO451 := Aside0.mk (Kd.R_elder' (Hd.r_ HO451) (Kd.R_base ho0) hb)
     replace HO459 := Aside0.mk (Kd.R_elder' (Hd.r_ HO459) (Kd.R_base ho0) hb)
     replace BK426 := Aside0.mk (Hd.kb_ BK426 hb)
     replace BK427 := Aside0.mk (Hd.kb_ BK427 hb)
     replace BK452 := Aside0.mk (Hd.kb_ BK452 hb)
     replace BK460 := Aside0.mk (Hd.kb_ BK460 hb)
     replace HB := Aside0.mk (below_step Hd.b_ hb)
     (try clear hb)
     (try clear hb2)
     (try clear hk)
     (try clear hi)
     (try clear ho0)
     obtain ⟨Ao140, co140, eo140⟩ := Kd.R_slice HO468.out
     (first | subst eo140 | (injection eo140 with f1_ f2_ f3_; have f4_ := f1_.symm; have f5_ := f3_.symm; clear f1_ f2_ f3_; subst f4_; subst f5_))
     refine hK.out _ _ ⟨(blk_cell BK452.out 0).trans rfl, (blk_cell BK452.out 1).trans rfl, (blk_cell BK452.out 2).trans rfl, (blk_cell BK452.out 3).trans rfl, (blk_cell BK452.out 4).trans rfl, (blk_cell BK426.out 0).trans rfl, (blk_cell BK426.out 1).trans rfl, (blk_cell BK426.out 2).trans rfl, (blk_cell BK426.out 3).trans rfl, (blk_cell BK426.out 4).trans rfl⟩ (fun hHeld => ?_)
     clear hK K
     refine Hd.n_ (some 37) ?_
     refine one_ (i := 3) (N := some 38) #[true, true, true, true, false] rfl rfl (by kernel_rfl) (by decide) (fun K hK => ?_)
     refine goes_ Try.func62 (by kernel_rfl) rfl #[.agg #[.int .i64 t445, .int .i64 t446, .int .i64 t447, .string t448, .slice Ao127 t449.length co127], .agg #[.int .i64 t462, .int .i64 t463, .int .i64 t464, .string t465, .slice Ao140 t466.length co140]] (by rfl) rfl rfl Hd.m_ ?_
     with_reducible refine (laws_eqFeature.calls k t445 t446 t447 t448 _ _ t449 t462 t463 t464 t465 _ _ t466 false _ ?side1 ?side2 ?side3 ?side4 A27.out).mono ?_
     (case side1 => repeat (first | exact (Kd.R_reads' HO451.out).2.2 | (with_reducible refine Kd.C_alloc ?_ _) | (with_reducible refine Kd.C_drewN ?_ _) | (with_reducible refine Kd.C_drew ?_)))
     (case side2 => exact (Kd.R_reads' HO451.out).2.1)
     (case side3 => repeat (first | exact (Kd.R_reads' HO468.out).2.2 | (with_reducible refine Kd.C_alloc ?_ _) | (with_reducible refine Kd.C_drewN ?_ _) | (with_reducible refine Kd.C_drew ?_)))
     (case side4 => exact (Kd.R_reads' HO468.out).2.1)
     rintro e w141 ⟨rfl, hb⟩
     refine ⟨_, rfl, ?_⟩
     replace HO436 := Aside0.mk (Kd.R_below (Hd.r_ HO436) hb)
     replace HO443 := Aside0.mk (Kd.R_below (Hd.r_ HO443) hb)
     replace HO451 := Aside0.mk (Kd.R_below (Hd.r_ HO451) hb)
     replace HO459 := Aside0.mk (Kd.R_below (Hd.r_ HO459) hb)
     replace HO468 := Aside0.mk (Kd.R_below (Hd.r_ HO468) hb)
     replace BK426 := Aside0.mk (Hd.kb_ BK426 hb)
     replace BK427 := Aside0.mk (Hd.kb_ BK427 hb)
     replace BK452 := Aside0.mk (Hd.kb_ BK452 hb)
     replace BK460 := Aside0.mk (Hd.kb_ BK460 hb)
     replace HB := Aside0.mk (below_step Hd.b_ hb)
     (try clear hb)
     (try clear hb2)
     (try clear hk)
     (try clear hi)
     refine hK.out _ _ ⟨(blk_cell BK452.out 0).trans rfl, (blk_cell BK452.out 1).trans rfl, (blk_cell BK452.out 2).trans rfl, (blk_cell BK452.out 3).trans rfl, (blk_cell BK452.out 4).trans rfl, (blk_cell BK426.out 0).trans rfl, (blk_cell BK426.out 1).trans rfl, (blk_cell BK426.out 2).trans rfl, (blk_cell BK426.out 3).trans rfl, (blk_cell BK426.out 4).trans rfl⟩ (fun hHeld => ?_)
     clear hK K
     refine Hd.n_ (some 38) ?_
     refine pure_ (i := 4) (N := some 39) (v := ?_) (a' := ?_) #[true, true, true, true, true] rfl rfl (by kernel_rfl) (fun _ _ _ h => h) (Or.inl ⟨by rfl, ?_⟩) ?_ ?_
     rotate_left
     ·
      intro w'
      go_simp
      with_reducible rfl
     rotate_left
     ·
      simp only [Act.put, List.setIfInBounds_toArray, List.set_cons_zero, List.set_cons_succ, i64_w, i32_w]
      rfl
     refine done_ (by kernel_rfl) ?_
     try go_wp2
     go_ret
     exact ⟨Hd.e_, Hd.b_⟩
   ·
    rw [if_neg c25] at H
    have c25b0 : (t461 == t444) = false := beq_eq_false_iff_ne.mpr c25
    have c25b1 : (t461 != t444) = true := bne_iff_ne.mpr c25
    obtain rfl := Option.some.inj H
    go_enter Try.func12, Try.ntmps12
    try go_wp2_with (first | ((with_reducible refine gate_dst (N := 2) rfl ?_); refine Hd.box_ 2 (#[.int .i64 a0_0, .int .i64 a0_1, .int .i64 a0_2, .string a0_3, .slice A0_4 l0_4.length c0_4]) 73 ?_; intro gb426 hg w142 hbox hb; have BK426 := Aside0.mk (hbox); have GW426 := Aside0.mk ((Hd.g_ hg Hd.b_ : w.heap.size ≤ gb426)); have GE426 := Aside0.mk ((Hd.g_ hg Hd.b_ : w.heap.size ≤ gb426)); replace HB := Aside0.mk (below_step Hd.b_ hb); clear hb hbox hg) | ((with_reducible refine gate_dst (N := 3) rfl ?_); refine Hd.box_ 3 (#[.int .i64 a1_0, .int .i64 a1_1, .int .i64 a1_2, .string a1_3, .slice A1_4 l1_4.length c1_4]) 73 ?_; intro gb427 hg w143 hbox hb; have BK427 := Aside0.mk (hbox); have GW427 := Aside0.mk ((Hd.g_ hg Hd.b_ : w.heap.size ≤ gb427)); have GE427 := Aside0.mk ((Hd.g_ hg Hd.b_ : w.heap.size ≤ gb427)); replace HB := Aside0.mk (below_step Hd.b_ hb); have NB426_427 := Aside0.mk ((Hd.lt_ BK426 hg)); have NB427_426 := Aside0.mk ((Hd.gt_ BK426 hg)); replace BK426 := Aside0.mk (Hd.kb_ BK426 hb); clear hb hbox hg; have hnb144 := NB426_427.out; have hnc144 := NB427_426.out; obtain ⟨hcz145_0, hcz145_1, hcz145_2, hcz145_3, hcz145_4⟩ := Hd.c5_ BK426.out; obtain ⟨hfz145_0, hfz145_1, hfz145_2, hfz145_3, hfz145_4⟩ := Hd.f5_ BK426.out) | ((with_reducible refine gate_callee (f := 58) rfl ?_); refine goesL_ (some 12) rfl rfl Try.func58 (by kernel_rfl) rfl #[.agg #[.int .i64 a0_0, .int .i64 a0_1, .int .i64 a0_2, .string a0_3, .slice A0_4 l0_4.length c0_4], .int .i64 1048576] rfl Hd.m_ ?_; (with_reducible refine (laws_szFeature.calls a0_0 a0_1 a0_2 a0_3 _ _ l0_4 1048576 t428 _ ?side1 ?side2 A3.out).mono ?_); (case side1 => repeat (first | exact (Kd.C_below HR0_4.out HB.out) | (with_reducible refine Kd.C_alloc ?_ _) | (with_reducible refine Kd.C_drewN ?_ _) | (with_reducible refine Kd.C_drew ?_))); (case side2 => exact HC0_4.out); rintro e w146 ⟨rfl, hb⟩; refine ⟨_, rfl, ?_⟩; replace BK426 := Aside0.mk (Hd.kb_ BK426 hb); replace BK427 := Aside0.mk (Hd.kb_ BK427 hb); replace HB := Aside0.mk (below_step Hd.b_ hb); (try clear hb); (try clear hb2); (try clear hk); (try clear hi); obtain ⟨hcz147_0, hcz147_1, hcz147_2, hcz147_3, hcz147_4⟩ := Hd.c5_ BK427.out; obtain ⟨hfz147_0, hfz147_1, hfz147_2, hfz147_3, hfz147_4⟩ := Hd.f5_ BK427.out) | ((with_reducible refine gate_callee (f := 58) rfl ?_); refine goesL_ (some 17) rfl rfl Try.func58 (by kernel_rfl) rfl #[.agg #[.int .i64 a1_0, .int .i64 a1_1, .int .i64 a1_2, .string a1_3, .slice A1_4 l1_4.length c1_4], .int .i64 t428] rfl Hd.m_ ?_; (with_reducible refine (laws_szFeature.calls a1_0 a1_1 a1_2 a1_3 _ _ l1_4 t428 t429 _ ?side1 ?side2 A10.out).mono ?_); (case side1 => repeat (first | exact (Kd.C_below HR1_4.out HB.out) | (with_reducible refine Kd.C_alloc ?_ _) | (with_reducible refine Kd.C_drewN ?_ _) | (with_reducible refine Kd.C_drew ?_))); (case side2 => exact HC1_4.out); rintro e w148 ⟨rfl, hb⟩; refine ⟨_, rfl, ?_⟩; replace BK426 := Aside0.mk (Hd.kb_ BK426 hb); replace BK427 := Aside0.mk (Hd.kb_ BK427 hb); replace HB := Aside0.mk (below_step Hd.b_ hb); (try clear hb); (try clear hb2); (try clear hk); (try clear hi)))
    replace BK426 := Aside0.mk (blk_drew BK426.out)
    replace BK427 := Aside0.mk (blk_drew BK427.out)
    replace HB := Aside0.mk (below_drew1 HB.out)
    refine start_ (n := 6) (S := fun w' => w'.cell? ⟨gb426, 0, none⟩ = some (.int .i64 a0_0) ∧ w'.cell? ⟨gb426, 1, none⟩ = some (.int .i64 a0_1) ∧ w'.cell? ⟨gb426, 2, none⟩ = some (.int .i64 a0_2) ∧ w'.cell? ⟨gb426, 3, none⟩ = some (.string a0_3) ∧ w'.cell? ⟨gb426, 4, none⟩ = some (.slice A0_4 l0_4.length c0_4) ∧ w'.cell? ⟨gb427, 0, none⟩ = some (.int .i64 a1_0) ∧ w'.cell? ⟨gb427, 1, none⟩ = some (.int .i64 a1_1) ∧ w'.cell? ⟨gb427, 2, none⟩ = some (.int .i64 a1_2) ∧ w'.cell? ⟨gb427, 3, none⟩ = some (.string a1_3) ∧ w'.cell? ⟨gb427, 4, none⟩ = some (.slice A1_4 l1_4.length c1_4)) (ds := []) #[false, false, false, false, false, false] (by kernel_rfl) rfl rfl ⟨(blk_cell BK426.out 0).trans rfl, (blk_cell BK426.out 1).trans rfl, (blk_cell BK426.out 2).trans rfl, (blk_cell BK426.out 3).trans rfl, (blk_cell BK426.out 4).trans rfl, (blk_cell BK427.out 0).trans rfl, (blk_cell BK427.out 1).trans rfl, (blk_cell BK427.out 2).trans rfl, (blk_cell BK427.out 3).trans rfl, (blk_cell BK427.out 4).trans rfl⟩ (fun hHeld => ?_)
    generalize w148.drew = w149 at BK426 BK427 HB hHeld ⊢
    refine take_ (i := 0) (N := some 20) (v := ?_) (a' := ?_) #[true, false, false, false, false, false] rfl rfl (by kernel_rfl) (fun _ _ _ h => h) (Or.inl ⟨by rfl, ?_⟩) hHeld ?_ ?_
    rotate_left
    ·
     rintro w' ⟨s0, s1, s2, s3, s4, s5, s6, s7, s8, s9⟩
     go_simp
     with_reducible rfl
    rotate_left
    ·
     simp only [Act.put, List.setIfInBounds_toArray, List.set_cons_zero, List.set_cons_succ, i64_w, i32_w]
     rfl
    refine take_ (i := 2) (N := some 22) (v := ?_) (a' := ?_) #[true, false, true, false, false, false] rfl rfl (by kernel_rfl) (fun _ _ _ h => h) (Or.inl ⟨by rfl, ?_⟩) hHeld ?_ ?_
    rotate_left
    ·
     rintro w' ⟨s0, s1, s2, s3, s4, s5, s6, s7, s8, s9⟩
     go_simp
     with_reducible rfl
    rotate_left
    ·
     simp only [Act.put, List.setIfInBounds_toArray, List.set_cons_zero, List.set_cons_succ, i64_w, i32_w]
     rfl
    refine one_ (i := 1) (N := some 21) #[true, true, true, false, false, false] rfl rfl (by kernel_rfl) (by decide) (fun K hK => ?_)
    refine goes_ Try.func60 (by kernel_rfl) rfl #[.agg #[.int .i64 a0_0, .int .i64 a0_1, .int .i64 a0_2, .string a0_3, .slice A0_4 l0_4.length c0_4]] (by rfl) rfl rfl Hd.m_ ?_
    with_reducible refine (laws_toFeature.calls k a0_0 a0_1 a0_2 a0_3 _ _ l0_4 t430 t431 t432 t433 t434 _ ?side1 ?side2 A19.out).mono ?_
    (case side1 => repeat (first | exact (Kd.C_below HR0_4.out HB.out) | (with_reducible refine Kd.C_alloc ?_ _) | (with_reducible refine Kd.C_drewN ?_ _) | (with_reducible refine Kd.C_drew ?_)))
    (case side2 => exact HC0_4.out)
    rintro e w150 ⟨v435, rfl, ho0, hb⟩
    refine ⟨_, rfl, ?_⟩
    have HO436 := Aside0.mk (Kd.R_lower ho0 (below_size Hd.b_))
    replace BK426 := Aside0.mk (Hd.kb_ BK426 hb)
    replace BK427 := Aside0.mk (Hd.kb_ BK427 hb)
    replace HB := Aside0.mk (below_step Hd.b_ hb)
    (try clear hb)
    (try clear hb2)
    (try clear hk)
    (try clear hi)
    (try clear ho0)
    refine hK.out _ _ ⟨(blk_cell BK426.out 0).trans rfl, (blk_cell BK426.out 1).trans rfl, (blk_cell BK426.out 2).trans rfl, (blk_cell BK426.out 3).trans rfl, (blk_cell BK426.out 4).trans rfl, (blk_cell BK427.out 0).trans rfl, (blk_cell BK427.out 1).trans rfl, (blk_cell BK427.out 2).trans rfl, (blk_cell BK427.out 3).trans rfl, (blk_cell BK427.out 4).trans rfl⟩ (fun hHeld => ?_)
    clear hK K
    refine Hd.n_ (some 21) ?_
    refine one_ (i := 3) (N := some 23) #[true, true, true, true, false, false] rfl rfl (by kernel_rfl) (by decide) (fun K hK => ?_)
    refine goes_ Try.func60 (by kernel_rfl) rfl #[.agg #[.int .i64 a1_0, .int .i64 a1_1, .int .i64 a1_2, .string a1_3, .slice A1_4 l1_4.length c1_4]] (by rfl) rfl rfl Hd.m_ ?_
    with_reducible refine (laws_toFeature.calls k a1_0 a1_1 a1_2 a1_3 _ _ l1_4 t437 t438 t439 t440 t441 _ ?side1 ?side2 A20.out).mono ?_
    (case side1 => repeat (first | exact (Kd.C_below HR1_4.out HB.out) | (with_reducible refine Kd.C_alloc ?_ _) | (with_reducible refine Kd.C_drewN ?_ _) | (with_reducible refine Kd.C_drew ?_)))
    (case side2 => exact HC1_4.out)
    rintro e w151 ⟨v442, rfl, ho0, hb⟩
    refine ⟨_, rfl, ?_⟩
    have HO443 := Aside0.mk (Kd.R_lower (Kd.R_new' ho0 (Kd.R_lt (Hd.r_ HO436))) (below_size Hd.b_))
    replace HO436 := Aside0.mk (Kd.R_elder' (Hd.r_ HO436) (Kd.R_base ho0) hb)
    replace BK426 := Aside0.mk (Hd.kb_ BK426 hb)
    replace BK427 := Aside0.mk (Hd.kb_ BK427 hb)
    replace HB := Aside0.mk (below_step Hd.b_ hb)
    (try clear hb)
    (try clear hb2)
    (try clear hk)
    (try clear hi)
    (try clear ho0)
    obtain ⟨Ao152, co152, eo152⟩ := Kd.R_slice HO436.out
    (first | subst eo152 | (injection eo152 with f1_ f2_ f3_; have f4_ := f1_.symm; have f5_ := f3_.symm; clear f1_ f2_ f3_; subst f4_; subst f5_))
    obtain ⟨Ao153, co153, eo153⟩ := Kd.R_slice HO443.out
    (first | subst eo153 | (injection eo153 with f1_ f2_ f3_; have f4_ := f1_.symm; have f5_ := f3_.symm; clear f1_ f2_ f3_; subst f4_; subst f5_))
    refine hK.out _ _ ⟨(blk_cell BK426.out 0).trans rfl, (blk_cell BK426.out 1).trans rfl, (blk_cell BK426.out 2).trans rfl, (blk_cell BK426.out 3).trans rfl, (blk_cell BK426.out 4).trans rfl, (blk_cell BK427.out 0).trans rfl, (blk_cell BK427.out 1).trans rfl, (blk_cell BK427.out 2).trans rfl, (blk_cell BK427.out 3).trans rfl, (blk_cell BK427.out 4).trans rfl⟩ (fun hHeld => ?_)
    clear hK K
    refine Hd.n_ (some 23) ?_
    refine one_ (i := 4) (N := some 24) #[true, true, true, true, true, false] rfl rfl (by kernel_rfl) (by decide) (fun K hK => ?_)
    refine goes_ Try.func69 (by kernel_rfl) rfl #[.agg #[.int .i64 t430, .int .i64 t431, .int .i64 t432, .string t433, .slice Ao152 t434.length co152], .agg #[.int .i64 t437, .int .i64 t438, .int .i64 t439, .string t440, .slice Ao153 t441.length co153]] (by rfl) rfl rfl Hd.m_ ?_
    with_reducible refine (spec_FeaturesMeet.calls k t430 t431 t432 t433 _ _ t434 t437 t438 t439 t440 _ _ t441 t444 _ ?side1 ?side2 ?side3 ?side4 A21.out).mono ?_
    (case side1 => repeat (first | exact (Kd.R_reads' HO436.out).2.2 | (with_reducible refine Kd.C_alloc ?_ _) | (with_reducible refine Kd.C_drewN ?_ _) | (with_reducible refine Kd.C_drew ?_)))
    (case side2 => exact (Kd.R_reads' HO436.out).2.1)
    (case side3 => repeat (first | exact (Kd.R_reads' HO443.out).2.2 | (with_reducible refine Kd.C_alloc ?_ _) | (with_reducible refine Kd.C_drewN ?_ _) | (with_reducible refine Kd.C_drew ?_)))
    (case side4 => exact (Kd.R_reads' HO443.out).2.1)
    rintro e w154 ⟨rfl, hb⟩
    refine ⟨_, rfl, ?_⟩
    replace HO436 := Aside0.mk (Kd.R_below (Hd.r_ HO436) hb)
    replace HO443 := Aside0.mk (Kd.R_below (Hd.r_ HO443) hb)
    replace BK426 := Aside0.mk (Hd.kb_ BK426 hb)
    replace BK427 := Aside0.mk (Hd.kb_ BK427 hb)
    replace HB := Aside0.mk (below_step Hd.b_ hb)
    (try clear hb)
    (try clear hb2)
    (try clear hk)
    (try clear hi)
    refine hK.out _ _ ⟨(blk_cell BK426.out 0).trans rfl, (blk_cell BK426.out 1).trans rfl, (blk_cell BK426.out 2).trans rfl, (blk_cell BK426.out 3).trans rfl, (blk_cell BK426.out 4).trans rfl, (blk_cell BK427.out 0).trans rfl, (blk_cell BK427.out 1).trans rfl, (blk_cell BK427.out 2).trans rfl, (blk_cell BK427.out 3).trans rfl, (blk_cell BK427.out 4).trans rfl⟩ (fun hHeld => ?_)
    clear hK K
    refine Hd.n_ (some 24) ?_
    refine pure_ (i := 5) (N := some 6) (v := ?_) (a' := ?_) #[true, true, true, true, true, true] rfl rfl (by kernel_rfl) (fun _ _ _ h => h) (Or.inl ⟨by rfl, ?_⟩) ?_ ?_
    rotate_left
    ·
     intro w'
     go_simp
     with_reducible rfl
    rotate_left
    ·
     simp only [Act.put, List.setIfInBounds_toArray, List.set_cons_zero, List.set_cons_succ, i64_w, i32_w]
     rfl
    refine done_ (by kernel_rfl) ?_
    obtain ⟨hcz155_0, hcz155_1, hcz155_2, hcz155_3, hcz155_4⟩ := Hd.c5_ BK426.out
    obtain ⟨hfz155_0, hfz155_1, hfz155_2, hfz155_3, hfz155_4⟩ := Hd.f5_ BK426.out
    try go_wp2_with (first | ((with_reducible refine gate_callee (f := 60) rfl ?_); refine goesL_ (some 26) rfl rfl Try.func60 (by kernel_rfl) rfl #[.agg #[.int .i64 a0_0, .int .i64 a0_1, .int .i64 a0_2, .string a0_3, .slice A0_4 l0_4.length c0_4]] rfl Hd.m_ ?_; (with_reducible refine (laws_toFeature.calls k a0_0 a0_1 a0_2 a0_3 _ _ l0_4 t445 t446 t447 t448 t449 _ ?side1 ?side2 A22.out).mono ?_); (case side1 => repeat (first | exact (Kd.C_below HR0_4.out HB.out) | (with_reducible refine Kd.C_alloc ?_ _) | (with_reducible refine Kd.C_drewN ?_ _) | (with_reducible refine Kd.C_drew ?_))); (case side2 => exact HC0_4.out); rintro e w156 ⟨v450, rfl, ho0, hb⟩; refine ⟨_, rfl, ?_⟩; have HO451 := Aside0.mk (Kd.R_lower (Kd.R_new' (Kd.R_new' ho0 (Kd.R_lt (Hd.r_ HO436))) (Kd.R_lt (Hd.r_ HO443))) (below_size Hd.b_)); replace HO436 := Aside0.mk (Kd.R_elder' (Hd.r_ HO436) (Kd.R_base ho0) hb); replace HO443 := Aside0.mk (Kd.R_elder' (Hd.r_ HO443) (Kd.R_base ho0) hb); replace BK426 := Aside0.mk (Hd.kb_ BK426 hb); replace BK427 := Aside0.mk (Hd.kb_ BK427 hb); replace HB := Aside0.mk (below_step Hd.b_ hb); (try clear hb); (try clear hb2); (try clear hk); (try clear hi); (try clear ho0)) | ((with_reducible refine gate_dst (N := 7) rfl ?_); refine Hd.box_ 7 (#[.int .i64 0, .int .i64 0, .int .i64 0, .string (⟨#[]⟩ : ByteArray), .slice none 0 0]) 77 ?_; intro gb452 hg w157 hbox hb; replace HO436 := Aside0.mk (Kd.R_below (Hd.r_ HO436) hb); replace HO443 := Aside0.mk (Kd.R_below (Hd.r_ HO443) hb); replace HO451 := Aside0.mk (Kd.R_below (Hd.r_ HO451) hb); have BK452 := Aside0.mk (hbox); have GW452 := Aside0.mk ((Hd.g_ hg Hd.b_ : w.heap.size ≤ gb452)); have GE452 := Aside0.mk ((Hd.g_ hg Hd.b_ : w.heap.size ≤ gb452)); replace HB := Aside0.mk (below_step Hd.b_ hb); have NB426_452 := Aside0.mk ((Hd.lt_ BK426 hg)); have NB452_426 := Aside0.mk ((Hd.gt_ BK426 hg)); replace BK426 := Aside0.mk (Hd.kb_ BK426 hb); have NB427_452 := Aside0.mk ((Hd.lt_ BK427 hg)); have NB452_427 := Aside0.mk ((Hd.gt_ BK427 hg)); replace BK427 := Aside0.mk (Hd.kb_ BK427 hb); clear hb hbox hg; have hnb158 := NB452_426.out; have hnc158 := NB426_452.out; have hnb159 := NB452_427.out; have hnc159 := NB427_452.out; obtain ⟨hcz160_0, hcz160_1, hcz160_2, hcz160_3, hcz160_4⟩ := Hd.c5_ BK452.out; obtain ⟨hfz160_0, hfz160_1, hfz160_2, hfz160_3, hfz160_4⟩ := Hd.f5_ BK452.out; obtain ⟨Ao161, co161, eo161⟩ := Kd.R_slice HO451.out; subst eo161; obtain ⟨hcz162_0, hcz162_1, hcz162_2, hcz162_3, hcz162_4⟩ := Hd.c5_ BK427.out; obtain ⟨hfz162_0, hfz162_1, hfz162_2, hfz162_3, hfz162_4⟩ := Hd.f5_ BK427.out) | ((with_reducible refine gate_callee (f := 60) rfl ?_); refine goesL_ (some 28) rfl rfl Try.func60 (by kernel_rfl) rfl #[.agg #[.int .i64 a1_0, .int .i64 a1_1, .int .i64 a1_2, .string a1_3, .slice A1_4 l1_4.length c1_4]] rfl Hd.m_ ?_; (with_reducible refine (laws_toFeature.calls k a1_0 a1_1 a1_2 a1_3 _ _ l1_4 t453 t454 t455 t456 t457 _ ?side1 ?side2 A23.out).mono ?_); (case side1 => exact Kd.C_below HR1_4.out Hd.b_); (case side2 => exact HC1_4.out); rintro e w163 ⟨v458, rfl, ho0, hb⟩; refine ⟨_, rfl, ?_⟩; have HO459 := Aside0.mk (Kd.R_lower (Kd.R_new' (Kd.R_new' (Kd.R_new' ho0 (Kd.R_lt (by (with_reducible repeat (first | apply Kd.R_alloc | apply Kd.R_drewN | apply Kd.R_drew)); exact (Kd.R_mono (Kd.R_far (p := ⟨gb452, 4, none⟩) (Kd.R_far (p := ⟨gb452, 3, none⟩) (Kd.R_far (p := ⟨gb452, 2, none⟩) (Kd.R_far (p := ⟨gb452, 1, none⟩) (Kd.R_far (p := ⟨gb452, 0, none⟩) (Kd.R_types HO436.out BK452.out (by decide)) (fun _ hk => hk.2) (.int .i64 t445)) (fun _ hk => hk.2) (.int .i64 t446)) (fun _ hk => hk.2) (.int .i64 t447)) (fun _ hk => hk.2) (.string t448)) (fun _ hk => hk.2) (.slice Ao161 t449.length co161)) (fun _ h_ => h_.1))))) (Kd.R_lt (by (with_reducible repeat (first | apply Kd.R_alloc | apply Kd.R_drewN | apply Kd.R_drew)); exact (Kd.R_mono (Kd.R_far (p := ⟨gb452, 4, none⟩) (Kd.R_far (p := ⟨gb452, 3, none⟩) (Kd.R_far (p := ⟨gb452, 2, none⟩) (Kd.R_far (p := ⟨gb452, 1, none⟩) (Kd.R_far (p := ⟨gb452, 0, none⟩) (Kd.R_types HO443.out BK452.out (by decide)) (fun _ hk => hk.2) (.int .i64 t445)) (fun _ hk => hk.2) (.int .i64 t446)) (fun _ hk => hk.2) (.int .i64 t447)) (fun _ hk => hk.2) (.string t448)) (fun _ hk => hk.2) (.slice Ao161 t449.length co161)) (fun _ h_ => h_.1))))) (Kd.R_lt (by (with_reducible repeat (first | apply Kd.R_alloc | apply Kd.R_drewN | apply Kd.R_drew)); exact (Kd.R_mono (Kd.R_far (p := ⟨gb452, 4, none⟩) (Kd.R_far (p := ⟨gb452, 3, none⟩) (Kd.R_far (p := ⟨gb452, 2, none⟩) (Kd.R_far (p := ⟨gb452, 1, none⟩) (Kd.R_far (p := ⟨gb452, 0, none⟩) (Kd.R_types HO451.out BK452.out (by decide)) (fun _ hk => hk.2) (.int .i64 t445)) (fun _ hk => hk.2) (.int .i64 t446)) (fun _ hk => hk.2) (.int .i64 t447)) (fun _ hk => hk.2) (.string t448)) (fun _ hk => hk.2) (.slice Ao161 t449.length co161)) (fun _ h_ => h_.1))))) (below_size Hd.b_)); replace HO436 := Aside0.mk (Kd.R_elder' (by (with_reducible repeat (first | apply Kd.R_alloc | apply Kd.R_drewN | apply Kd.R_drew)); exact (Kd.R_mono (Kd.R_far (p := ⟨gb452, 4, none⟩) (Kd.R_far (p := ⟨gb452, 3, none⟩) (Kd.R_far (p := ⟨gb452, 2, none⟩) (Kd.R_far (p := ⟨gb452, 1, none⟩) (Kd.R_far (p := ⟨gb452, 0, none⟩) (Kd.R_types HO436.out BK452.out (by decide)) (fun _ hk => hk.2) (.int .i64 t445)) (fun _ hk => hk.2) (.int .i64 t446)) (fun _ hk => hk.2) (.int .i64 t447)) (fun _ hk => hk.2) (.string t448)) (fun _ hk => hk.2) (.slice Ao161 t449.length co161)) (fun _ h_ => h_.1))) (Kd.R_base ho0) hb); replace HO443 := Aside0.mk (Kd.R_elder' (by (with_reducible repeat (first | apply Kd.R_alloc | apply Kd.R_drewN | apply Kd.R_drew)); exact (Kd.R_mono (Kd.R_far (p := ⟨gb452, 4, none⟩) (Kd.R_far (p := ⟨gb452, 3, none⟩) (Kd.R_far (p := ⟨gb452, 2, none⟩) (Kd.R_far (p := ⟨gb452, 1, none⟩) (Kd.R_far (p := ⟨gb452, 0, none⟩) (Kd.R_types HO443.out BK452.out (by decide)) (fun _ hk => hk.2) (.int .i64 t445)) (fun _ hk => hk.2) (.int .i64 t446)) (fun _ hk => hk.2) (.int .i64 t447)) (fun _ hk => hk.2) (.string t448)) (fun _ hk => hk.2) (.slice Ao161 t449.length co161)) (fun _ h_ => h_.1))) (Kd.R_base ho0) hb); replace HO451 := Aside0.mk (Kd.R_elder' (by (with_reducible repeat (first | apply Kd.R_alloc | apply Kd.R_drewN | apply Kd.R_drew)); exact (Kd.R_mono (Kd.R_far (p := ⟨gb452, 4, none⟩) (Kd.R_far (p := ⟨gb452, 3, none⟩) (Kd.R_far (p := ⟨gb452, 2, none⟩) (Kd.R_far (p := ⟨gb452, 1, none⟩) (Kd.R_far (p := ⟨gb452, 0, none⟩) (Kd.R_types HO451.out BK452.out (by decide)) (fun _ hk => hk.2) (.int .i64 t445)) (fun _ hk => hk.2) (.int .i64 t446)) (fun _ hk => hk.2) (.int .i64 t447)) (fun _ hk => hk.2) (.string t448)) (fun _ hk => hk.2) (.slice Ao161 t449.length co161)) (fun _ h_ => h_.1))) (Kd.R_base ho0) hb); replace BK426 := Aside0.mk (blk_below (g := gb426) (o := .cells #[.int .i64 a0_0, .int .i64 a0_1, .int .i64 a0_2, .string a0_3, .slice A0_4 l0_4.length c0_4] 73 (0, 0)) (by (with_reducible repeat (first | refine blk_drewN ?_ _ | refine blk_drew ?_ | refine blk_alloc ?_ _)); refine blk_far ?_ NB426_452.out _; (with_reducible repeat (first | refine blk_drewN ?_ _ | refine blk_drew ?_ | refine blk_alloc ?_ _)); refine blk_far ?_ NB426_452.out _; (with_reducible repeat (first | refine blk_drewN ?_ _ | refine blk_drew ?_ | refine blk_alloc ?_ _)); refine blk_far ?_ NB426_452.out _; (with_reducible repeat (first | refine blk_drewN ?_ _ | refine blk_drew ?_ | refine blk_alloc ?_ _)); refine blk_far ?_ NB426_452.out _; (with_reducible repeat (first | refine blk_drewN ?_ _ | refine blk_drew ?_ | refine blk_alloc ?_ _)); refine blk_far ?_ NB426_452.out _; (with_reducible repeat (first | refine blk_drewN ?_ _ | refine blk_drew ?_ | refine blk_alloc ?_ _)); exact BK426.out) hb); replace BK427 := Aside0.mk (blk_below (g := gb427) (o := .cells #[.int .i64 a1_0, .int .i64 a1_1, .int .i64 a1_2, .string a1_3, .slice A1_4 l1_4.length c1_4] 73 (0, 0)) (by (with_reducible repeat (first | refine blk_drewN ?_ _ | refine blk_drew ?_ | refine blk_alloc ?_ _)); refine blk_far ?_ NB427_452.out _; (with_reducible repeat (first | refine blk_drewN ?_ _ | refine blk_drew ?_ | refine blk_alloc ?_ _)); refine blk_far ?_ NB427_452.out _; (with_reducible repeat (first | refine blk_drewN ?_ _ | refine blk_drew ?_ | refine blk_alloc ?_ _)); refine blk_far ?_ NB427_452.out _; (with_reducible repeat (first | refine blk_drewN ?_ _ | refine blk_drew ?_ | refine blk_alloc ?_ _)); refine blk_far ?_ NB427_452.out _; (with_reducible repeat (first | refine blk_drewN ?_ _ | refine blk_drew ?_ | refine blk_alloc ?_ _)); refine blk_far ?_ NB427_452.out _; (with_reducible repeat (first | refine blk_drewN ?_ _ | refine blk_drew ?_ | refine blk_alloc ?_ _)); exact BK427.out) hb); replace BK452 := Aside0.mk (blk_below (g := gb452) (o := .cells #[.int .i64 t445, .int .i64 t446, .int .i64 t447, .string t448, .slice Ao161 t449.length co161] 77 (0, 0)) (by (with_reducible repeat (first | refine blk_drewN ?_ _ | refine blk_drew ?_ | refine blk_alloc ?_ _)); refine blk_put (cs := #[.int .i64 t445, .int .i64 t446, .int .i64 t447, .string t448, .slice none 0 0]) ?_ 4 _ rfl; (with_reducible repeat (first | refine blk_drewN ?_ _ | refine blk_drew ?_ | refine blk_alloc ?_ _)); refine blk_put (cs := #[.int .i64 t445, .int .i64 t446, .int .i64 t447, .string (⟨#[]⟩ : ByteArray), .slice none 0 0]) ?_ 3 _ rfl; (with_reducible repeat (first | refine blk_drewN ?_ _ | refine blk_drew ?_ | refine blk_alloc ?_ _)); refine blk_put (cs := #[.int .i64 t445, .int .i64 t446, .int .i64 0, .string (⟨#[]⟩ : ByteArray), .slice none 0 0]) ?_ 2 _ rfl; (with_reducible repeat (first | refine blk_drewN ?_ _ | refine blk_drew ?_ | refine blk_alloc ?_ _)); refine blk_put (cs := #[.int .i64 t445, .int .i64 0, .int .i64 0, .string (⟨#[]⟩ : ByteArray), .slice none 0 0]) ?_ 1 _ rfl; (with_reducible repeat (first | refine blk_drewN ?_ _ | refine blk_drew ?_ | refine blk_alloc ?_ _)); refine blk_put (cs := #[.int .i64 0, .int .i64 0, .int .i64 0, .string (⟨#[]⟩ : ByteArray), .slice none 0 0]) ?_ 0 _ rfl; (with_reducible repeat (first | refine blk_drewN ?_ _ | refine blk_drew ?_ | refine blk_alloc ?_ _)); exact BK452.out) hb); replace HB := Aside0.mk (below_step Hd.b_ hb); (try clear hb); (try clear hb2); (try clear hk); (try clear hi); (try clear ho0)) | ((with_reducible refine gate_dst (N := 8) rfl ?_); refine Hd.box_ 8 (#[.int .i64 0, .int .i64 0, .int .i64 0, .string (⟨#[]⟩ : ByteArray), .slice none 0 0]) 77 ?_; intro gb460 hg w164 hbox hb; replace HO436 := Aside0.mk (Kd.R_below (Hd.r_ HO436) hb); replace HO443 := Aside0.mk (Kd.R_below (Hd.r_ HO443) hb); replace HO451 := Aside0.mk (Kd.R_below (Hd.r_ HO451) hb); replace HO459 := Aside0.mk (Kd.R_below (Hd.r_ HO459) hb); have BK460 := Aside0.mk (hbox); have GW460 := Aside0.mk ((Hd.g_ hg Hd.b_ : w.heap.size ≤ gb460)); have GE460 := Aside0.mk ((Hd.g_ hg Hd.b_ : w.heap.size ≤ gb460)); replace HB := Aside0.mk (below_step Hd.b_ hb); have NB426_460 := Aside0.mk ((Hd.lt_ BK426 hg)); have NB460_426 := Aside0.mk ((Hd.gt_ BK426 hg)); replace BK426 := Aside0.mk (Hd.kb_ BK426 hb); have NB427_460 := Aside0.mk ((Hd.lt_ BK427 hg)); have NB460_427 := Aside0.mk ((Hd.gt_ BK427 hg)); replace BK427 := Aside0.mk (Hd.kb_ BK427 hb); have NB452_460 := Aside0.mk ((Hd.lt_ BK452 hg)); have NB460_452 := Aside0.mk ((Hd.gt_ BK452 hg)); replace BK452 := Aside0.mk (Hd.kb_ BK452 hb); clear hb hbox hg; have hnb165 := NB460_426.out; have hnc165 := NB426_460.out; have hnb166 := NB460_427.out; have hnc166 := NB427_460.out; have hnb167 := NB460_452.out; have hnc167 := NB452_460.out; obtain ⟨hcz168_0, hcz168_1, hcz168_2, hcz168_3, hcz168_4⟩ := Hd.c5_ BK460.out; obtain ⟨hfz168_0, hfz168_1, hfz168_2, hfz168_3, hfz168_4⟩ := Hd.f5_ BK460.out; obtain ⟨Ao169, co169, eo169⟩ := Kd.R_slice HO459.out; subst eo169; obtain ⟨hcz170_0, hcz170_1, hcz170_2, hcz170_3, hcz170_4⟩ := Hd.c5_ BK452.out; obtain ⟨hfz170_0, hfz170_1, hfz170_2, hfz170_3, hfz170_4⟩ := Hd.f5_ BK452.out) | ((with_reducible refine gate_callee (f := 70) rfl ?_); refine goesL_ (some 31) rfl rfl Try.func70 (by kernel_rfl) rfl #[.agg #[.int .i64 t445, .int .i64 t446, .int .i64 t447, .string t448, .slice Ao161 t449.length co161], .agg #[.int .i64 t453, .int .i64 t454, .int .i64 t455, .string t456, .slice Ao169 t457.length co169]] rfl Hd.m_ ?_; (with_reducible refine (impl_FeaturesMeet.calls k t445 t446 t447 t448 _ _ t449 t453 t454 t455 t456 _ _ t457 t461 _ ?side1 ?side2 ?side3 ?side4 A24.out).mono ?_); (case side1 => refine (Kd.R_reads' (e := 49) (base := w.heap.size) (ok := fun k_ => (((True ∧ some k_ ≠ (.slice Ao152 t434.length co152 : Value).ownBlock) ∧ some k_ ≠ (.slice Ao153 t441.length co153 : Value).ownBlock) ∧ some k_ ≠ (.slice Ao169 t457.length co169 : Value).ownBlock)) (n := t449.length) (c := co161) ?_).2.2; exact (by (with_reducible repeat (first | apply Kd.R_alloc | apply Kd.R_drewN | apply Kd.R_drew)); exact (Kd.R_mono (Kd.R_far (p := ⟨gb460, 4, none⟩) (Kd.R_far (p := ⟨gb460, 3, none⟩) (Kd.R_far (p := ⟨gb460, 2, none⟩) (Kd.R_far (p := ⟨gb460, 1, none⟩) (Kd.R_far (p := ⟨gb460, 0, none⟩) (Kd.R_types HO451.out BK460.out (by decide)) (fun _ hk => hk.2) (.int .i64 t453)) (fun _ hk => hk.2) (.int .i64 t454)) (fun _ hk => hk.2) (.int .i64 t455)) (fun _ hk => hk.2) (.string t456)) (fun _ hk => hk.2) (.slice Ao169 t457.length co169)) (fun _ h_ => h_.1)))); (case side2 => exact (Kd.R_reads' HO451.out).2.1); (case side3 => refine (Kd.R_reads' (e := 49) (base := w.heap.size) (ok := fun k_ => (((True ∧ some k_ ≠ (.slice Ao152 t434.length co152 : Value).ownBlock) ∧ some k_ ≠ (.slice Ao153 t441.length co153 : Value).ownBlock) ∧ some k_ ≠ (.slice Ao161 t449.length co161 : Value).ownBlock)) (n := t457.length) (c := co169) ?_).2.2; exact (by (with_reducible repeat (first | apply Kd.R_alloc | apply Kd.R_drewN | apply Kd.R_drew)); exact (Kd.R_mono (Kd.R_far (p := ⟨gb460, 4, none⟩) (Kd.R_far (p := ⟨gb460, 3, none⟩) (Kd.R_far (p := ⟨gb460, 2, none⟩) (Kd.R_far (p := ⟨gb460, 1, none⟩) (Kd.R_far (p := ⟨gb460, 0, none⟩) (Kd.R_types HO459.out BK460.out (by decide)) (fun _ hk => hk.2) (.int .i64 t453)) (fun _ hk => hk.2) (.int .i64 t454)) (fun _ hk => hk.2) (.int .i64 t455)) (fun _ hk => hk.2) (.string t456)) (fun _ hk => hk.2) (.slice Ao169 t457.length co169)) (fun _ h_ => h_.1)))); (case side4 => exact (Kd.R_reads' HO459.out).2.1); rintro e w171 ⟨rfl, hb⟩; refine ⟨_, rfl, ?_⟩; replace HO436 := Aside0.mk (Kd.R_below (by (with_reducible repeat (first | apply Kd.R_alloc | apply Kd.R_drewN | apply Kd.R_drew)); exact (Kd.R_mono (Kd.R_far (p := ⟨gb460, 4, none⟩) (Kd.R_far (p := ⟨gb460, 3, none⟩) (Kd.R_far (p := ⟨gb460, 2, none⟩) (Kd.R_far (p := ⟨gb460, 1, none⟩) (Kd.R_far (p := ⟨gb460, 0, none⟩) (Kd.R_types HO436.out BK460.out (by decide)) (fun _ hk => hk.2) (.int .i64 t453)) (fun _ hk => hk.2) (.int .i64 t454)) (fun _ hk => hk.2) (.int .i64 t455)) (fun _ hk => hk.2) (.string t456)) (fun _ hk => hk.2) (.slice Ao169 t457.length co169)) (fun _ h_ => h_.1))) hb); replace HO443 := Aside0.mk (Kd.R_below (by (with_reducible repeat (first | apply Kd.R_alloc | apply Kd.R_drewN | apply Kd.R_drew)); exact (Kd.R_mono (Kd.R_far (p := ⟨gb460, 4, none⟩) (Kd.R_far (p := ⟨gb460, 3, none⟩) (Kd.R_far (p := ⟨gb460, 2, none⟩) (Kd.R_far (p := ⟨gb460, 1, none⟩) (Kd.R_far (p := ⟨gb460, 0, none⟩) (Kd.R_types HO443.out BK460.out (by decide)) (fun _ hk => hk.2) (.int .i64 t453)) (fun _ hk => hk.2) (.int .i64 t454)) (fun _ hk => hk.2) (.int .i64 t455)) (fun _ hk => hk.2) (.string t456)) (fun _ hk => hk.2) (.slice Ao169 t457.length co169)) (fun _ h_ => h_.1))) hb); replace HO451 := Aside0.mk (Kd.R_below (by (with_reducible repeat (first | apply Kd.R_alloc | apply Kd.R_drewN | apply Kd.R_drew)); exact (Kd.R_mono (Kd.R_far (p := ⟨gb460, 4, none⟩) (Kd.R_far (p := ⟨gb460, 3, none⟩) (Kd.R_far (p := ⟨gb460, 2, none⟩) (Kd.R_far (p := ⟨gb460, 1, none⟩) (Kd.R_far (p := ⟨gb460, 0, none⟩) (Kd.R_types HO451.out BK460.out (by decide)) (fun _ hk => hk.2) (.int .i64 t453)) (fun _ hk => hk.2) (.int .i64 t454)) (fun _ hk => hk.2) (.int .i64 t455)) (fun _ hk => hk.2) (.string t456)) (fun _ hk => hk.2) (.slice Ao169 t457.length co169)) (fun _ h_ => h_.1))) hb); replace HO459 := Aside0.mk (Kd.R_below (by (with_reducible repeat (first | apply Kd.R_alloc | apply Kd.R_drewN | apply Kd.R_drew)); exact (Kd.R_mono (Kd.R_far (p := ⟨gb460, 4, none⟩) (Kd.R_far (p := ⟨gb460, 3, none⟩) (Kd.R_far (p := ⟨gb460, 2, none⟩) (Kd.R_far (p := ⟨gb460, 1, none⟩) (Kd.R_far (p := ⟨gb460, 0, none⟩) (Kd.R_types HO459.out BK460.out (by decide)) (fun _ hk => hk.2) (.int .i64 t453)) (fun _ hk => hk.2) (.int .i64 t454)) (fun _ hk => hk.2) (.int .i64 t455)) (fun _ hk => hk.2) (.string t456)) (fun _ hk => hk.2) (.slice Ao169 t457.length co169)) (fun _ h_ => h_.1))) hb); replace BK426 := Aside0.mk (blk_below (g := gb426) (o := .cells #[.int .i64 a0_0, .int .i64 a0_1, .int .i64 a0_2, .string a0_3, .slice A0_4 l0_4.length c0_4] 73 (0, 0)) (by (with_reducible repeat (first | refine blk_drewN ?_ _ | refine blk_drew ?_ | refine blk_alloc ?_ _)); refine blk_far ?_ NB426_460.out _; (with_reducible repeat (first | refine blk_drewN ?_ _ | refine blk_drew ?_ | refine blk_alloc ?_ _)); refine blk_far ?_ NB426_460.out _; (with_reducible repeat (first | refine blk_drewN ?_ _ | refine blk_drew ?_ | refine blk_alloc ?_ _)); refine blk_far ?_ NB426_460.out _; (with_reducible repeat (first | refine blk_drewN ?_ _ | refine blk_drew ?_ | refine blk_alloc ?_ _)); refine blk_far ?_ NB426_460.out _; (with_reducible repeat (first | refine blk_drewN ?_ _ | refine blk_drew ?_ | refine blk_alloc ?_ _)); refine blk_far ?_ NB426_460.out _; (with_reducible repeat (first | refine blk_drewN ?_ _ | refine blk_drew ?_ | refine blk_alloc ?_ _)); exact BK426.out) hb); replace BK427 := Aside0.mk (blk_below (g := gb427) (o := .cells #[.int .i64 a1_0, .int .i64 a1_1, .int .i64 a1_2, .string a1_3, .slice A1_4 l1_4.length c1_4] 73 (0, 0)) (by (with_reducible repeat (first | refine blk_drewN ?_ _ | refine blk_drew ?_ | refine blk_alloc ?_ _)); refine blk_far ?_ NB427_460.out _; (with_reducible repeat (first | refine blk_drewN ?_ _ | refine blk_drew ?_ | refine blk_alloc ?_ _)); refine blk_far ?_ NB427_460.out _; (with_reducible repeat (first | refine blk_drewN ?_ _ | refine blk_drew ?_ | refine blk_alloc ?_ _)); refine blk_far ?_ NB427_460.out _; (with_reducible repeat (first | refine blk_drewN ?_ _ | refine blk_drew ?_ | refine blk_alloc ?_ _)); refine blk_far ?_ NB427_460.out _; (with_reducible repeat (first | refine blk_drewN ?_ _ | refine blk_drew ?_ | refine blk_alloc ?_ _)); refine blk_far ?_ NB427_460.out _; (with_reducible repeat (first | refine blk_drewN ?_ _ | refine blk_drew ?_ | refine blk_alloc ?_ _)); exact BK427.out) hb); replace BK452 := Aside0.mk (blk_below (g := gb452) (o := .cells #[.int .i64 t445, .int .i64 t446, .int .i64 t447, .string t448, .slice Ao161 t449.length co161] 77 (0, 0)) (by (with_reducible repeat (first | refine blk_drewN ?_ _ | refine blk_drew ?_ | refine blk_alloc ?_ _)); refine blk_far ?_ NB452_460.out _; (with_reducible repeat (first | refine blk_drewN ?_ _ | refine blk_drew ?_ | refine blk_alloc ?_ _)); refine blk_far ?_ NB452_460.out _; (with_reducible repeat (first | refine blk_drewN ?_ _ | refine blk_drew ?_ | refine blk_alloc ?_ _)); refine blk_far ?_ NB452_460.out _; (with_reducible repeat (first | refine blk_drewN ?_ _ | refine blk_drew ?_ | refine blk_alloc ?_ _)); refine blk_far ?_ NB452_460.out _; (with_reducible repeat (first | refine blk_drewN ?_ _ | refine blk_drew ?_ | refine blk_alloc ?_ _)); refine blk_far ?_ NB452_460.out _; (with_reducible repeat (first | refine blk_drewN ?_ _ | refine blk_drew ?_ | refine blk_alloc ?_ _)); exact BK452.out) hb); replace BK460 := Aside0.mk (blk_below (g := gb460) (o := .cells #[.int .i64 t453, .int .i64 t454, .int .i64 t455, .string t456, .slice Ao169 t457.length co169] 77 (0, 0)) (by (with_reducible repeat (first | refine blk_drewN ?_ _ | refine blk_drew ?_ | refine blk_alloc ?_ _)); refine blk_put (cs := #[.int .i64 t453, .int .i64 t454, .int .i64 t455, .string t456, .slice none 0 0]) ?_ 4 _ rfl; (with_reducible repeat (first | refine blk_drewN ?_ _ | refine blk_drew ?_ | refine blk_alloc ?_ _)); refine blk_put (cs := #[.int .i64 t453, .int .i64 t454, .int .i64 t455, .string (⟨#[]⟩ : ByteArray), .slice none 0 0]) ?_ 3 _ rfl; (with_reducible repeat (first | refine blk_drewN ?_ _ | refine blk_drew ?_ | refine blk_alloc ?_ _)); refine blk_put (cs := #[.int .i64 t453, .int .i64 t454, .int .i64 0, .string (⟨#[]⟩ : ByteArray), .slice none 0 0]) ?_ 2 _ rfl; (with_reducible repeat (first | refine blk_drewN ?_ _ | refine blk_drew ?_ | refine blk_alloc ?_ _)); refine blk_put (cs := #[.int .i64 t453, .int .i64 0, .int .i64 0, .string (⟨#[]⟩ : ByteArray), .slice none 0 0]) ?_ 1 _ rfl; (with_reducible repeat (first | refine blk_drewN ?_ _ | refine blk_drew ?_ | refine blk_alloc ?_ _)); refine blk_put (cs := #[.int .i64 0, .int .i64 0, .int .i64 0, .string (⟨#[]⟩ : ByteArray), .slice none 0 0]) ?_ 0 _ rfl; (with_reducible repeat (first | refine blk_drewN ?_ _ | refine blk_drew ?_ | refine blk_alloc ?_ _)); exact BK460.out) hb); replace HB := Aside0.mk (below_step Hd.b_ hb); (try clear hb); (try clear hb2); (try clear hk); (try clear hi)))
    go_ret
    exact ⟨Hd.e_, Hd.b_⟩
end Go.Proofs.Ytchmbcembbbplac.MFnExactFeaturesMeet
