-- Laid by this session's program pp.py, after the kit's print and texts of the session's own. Not trusted: Lean checks it.
import Derived.Test.YtchmbcembbbplaaZJoinBoxesMx0
namespace Go.Proofs.Ytchmbcembbbplaa.MFnExactJoinBoxes
open Go.RowKit Go.Proofs.YtchmbcembbbplaaW.PrintWords Go.Proofs.YtchmbcembbbplaaW.PrintLast Go.Proofs.YtchmbcembbbplaaW.PrintMore
attribute [local go_sem] max2_int min2_int max_two min_two max_three min_three max_four min_four   -- for this text's walks alone
set_option linter.unusedVariables false
set_option linter.unusedSimpArgs false
def spec_l1In.f (a0 : Int) (a1 : Int) (a2 : Int) : Option (Bool) := if a0 ≥ a1 then (some (decide (a0 ≤ a2))) else (some false)
set_option maxHeartbeats 8000000 in
set_option maxRecDepth 100000 in
theorem spec_l1In.calls (a0 : Int) (a1 : Int) (a2 : Int) (r : Bool) (w : World) (h : spec_l1In.f a0 a1 a2 = some r) :
  Calls Try.prog 88 #[.int .i64 a0, .int .i64 a1, .int .i64 a2] w fun e w' => e = .returned (.bool r) ∧ Drawn0 w w' := by
 have H : (if a0 ≥ a1 then (some (decide (a0 ≤ a2))) else (some false)) = some r := h
 clear h
 by_cases c4 : a0 ≥ a1
 ·
  rw [if_pos c4] at H
  have c4b0 : decide (a1 ≤ a0) = true := decide_eq_true c4
  clear c4
  obtain rfl := Option.some.inj H
  go_enter Try.func88, Try.ntmps88
  go_wp2
  go_ret
  exact ⟨by first | rfl | (simp; done) | (simp [*]; done), by repeat (first | exact Drawn0.refl _ | apply Drawn0.step)⟩
 ·
  rw [if_neg c4] at H
  have c4b0 : decide (a1 ≤ a0) = false := decide_eq_false c4
  clear c4
  obtain rfl := Option.some.inj H
  go_enter Try.func88, Try.ntmps88
  go_wp2
  go_ret
  exact ⟨by first | rfl | (simp; done) | (simp [*]; done), by repeat (first | exact Drawn0.refl _ | apply Drawn0.step)⟩
def spec_IsPoint.f (a0_0 : Int) (a0_1 : Int) : Option (Bool) := (spec_l1In.f a0_0 0 200).bind fun t102 => (if t102 = true then ((spec_l1In.f a0_1 0 200).bind fun t103 => (some t103)) else (some false))
set_option maxHeartbeats 8000000 in
set_option maxRecDepth 100000 in
theorem spec_IsPoint.calls (a0_0 : Int) (a0_1 : Int) (r : Bool) (w : World) (h : spec_IsPoint.f a0_0 a0_1 = some r) :
  Calls Try.prog 87 #[.agg #[.int .i64 a0_0, .int .i64 a0_1]] w fun e w' => e = .returned (.bool r) ∧ Below w.heap.size w w' := by
 have hu44 := Try.underlying44
 have HB := Aside0.mk (Below.refl w.heap.size w)
 have H : ((spec_l1In.f a0_0 0 200).bind fun t102 => (if t102 = true then ((spec_l1In.f a0_1 0 200).bind fun t103 => (some t103)) else (some false))) = some r := h
 clear h
 replace H := Option.bind_eq_some_iff.mp H
 obtain ⟨t102, A20, H⟩ := H
 replace H : (if t102 = true then ((spec_l1In.f a0_1 0 200).bind fun t103 => (some t103)) else (some false)) = some r := H
 have A2 := Aside0.mk A20
 clear A20
 by_cases c3 : t102 = true
 ·
  subst c3
  have H1 : ((spec_l1In.f a0_1 0 200).bind fun t103 => (some t103)) = some r := by rw [if_pos rfl] at H; exact H
  clear H
  have H := H1
  clear H1
  replace H := Option.bind_eq_some_iff.mp H
  obtain ⟨t103, A40, H⟩ := H
  replace H : (some t103) = some r := H
  have A4 := Aside0.mk A40
  clear A40
  obtain rfl := Option.some.inj H
  go_enter Try.func87, Try.ntmps87
  go_wp2_with (first | ((with_reducible refine gate_dst (N := 1) rfl ?_); refine Hd.box_ 1 (#[.int .i64 a0_0, .int .i64 a0_1]) 44 ?_; intro gb101 hg w5 hbox hb; have BK101 := Aside0.mk (hbox); have GW101 := Aside0.mk ((Hd.g_ hg Hd.b_ : w.heap.size ≤ gb101)); have GE101 := Aside0.mk ((Hd.g_ hg Hd.b_ : w.heap.size ≤ gb101)); replace HB := Aside0.mk (below_step Hd.b_ hb); clear hb hbox hg; obtain ⟨hcz6_0, hcz6_1⟩ := Hd.c2_ BK101.out; obtain ⟨hfz6_0, hfz6_1⟩ := Hd.f2_ BK101.out) | ((with_reducible refine gate_callee (f := 88) rfl ?_); refine goesL_ (some 5) rfl rfl Try.func88 (by kernel_rfl) rfl #[.int .i64 a0_0, .int .i64 0, .int .i64 200] rfl Hd.m_ ?_; (with_reducible refine (spec_l1In.calls a0_0 0 200 true _ A2.out).mono ?_); rintro e w' ⟨rfl, ⟨nd, rfl⟩⟩; refine ⟨_, rfl, ?_⟩) | (go_at_call 88; (with_reducible refine (spec_l1In.calls a0_1 0 200 t103 _ A4.out).mono ?_); rintro e w' ⟨rfl, ⟨nd, rfl⟩⟩))
  go_ret
  exact ⟨Hd.e_, Hd.b_⟩
 ·
  replace c3 := Bool.eq_false_iff.mpr c3
  subst c3
  have H1 : (some false) = some r := by rw [if_neg (show ¬ (false = true) by decide)] at H; exact H
  clear H
  have H := H1
  clear H1
  obtain rfl := Option.some.inj H
  go_enter Try.func87, Try.ntmps87
  go_wp2_with (first | ((with_reducible refine gate_dst (N := 1) rfl ?_); refine Hd.box_ 1 (#[.int .i64 a0_0, .int .i64 a0_1]) 44 ?_; intro gb101 hg w7 hbox hb; have BK101 := Aside0.mk (hbox); have GW101 := Aside0.mk ((Hd.g_ hg Hd.b_ : w.heap.size ≤ gb101)); have GE101 := Aside0.mk ((Hd.g_ hg Hd.b_ : w.heap.size ≤ gb101)); replace HB := Aside0.mk (below_step Hd.b_ hb); clear hb hbox hg; obtain ⟨hcz8_0, hcz8_1⟩ := Hd.c2_ BK101.out; obtain ⟨hfz8_0, hfz8_1⟩ := Hd.f2_ BK101.out) | ((with_reducible refine gate_callee (f := 88) rfl ?_); refine goesL_ (some 5) rfl rfl Try.func88 (by kernel_rfl) rfl #[.int .i64 a0_0, .int .i64 0, .int .i64 200] rfl Hd.m_ ?_; (with_reducible refine (spec_l1In.calls a0_0 0 200 false _ A2.out).mono ?_); rintro e w' ⟨rfl, ⟨nd, rfl⟩⟩; refine ⟨_, rfl, ?_⟩))
  go_ret
  exact ⟨Hd.e_, Hd.b_⟩
def spec_Max.f (a0 : Int) (a1 : Int) : Option (Int) := if a1 > a0 then (some a1) else (some a0)
set_option maxHeartbeats 8000000 in
set_option maxRecDepth 100000 in
theorem spec_Max.calls (a0 : Int) (a1 : Int) (r : Int) (w : World) (h : spec_Max.f a0 a1 = some r) :
  Calls Try.prog 98 #[.int .i64 a0, .int .i64 a1] w fun e w' => e = .returned (.int .i64 r) ∧ Drawn0 w w' := by
 have H : (if a1 > a0 then (some a1) else (some a0)) = some r := h
 clear h
 by_cases c3 : a1 > a0
 ·
  rw [if_pos c3] at H
  have c3b0 : decide (a0 < a1) = true := decide_eq_true c3
  clear c3
  obtain rfl := Option.some.inj H
  go_enter Try.func98, Try.ntmps98
  go_wp2
  go_ret
  exact ⟨by first | rfl | (simp; done) | (simp [*]; done), by repeat (first | exact Drawn0.refl _ | apply Drawn0.step)⟩
 ·
  rw [if_neg c3] at H
  have c3b0 : decide (a0 < a1) = false := decide_eq_false c3
  clear c3
  obtain rfl := Option.some.inj H
  go_enter Try.func98, Try.ntmps98
  go_wp2
  go_ret
  exact ⟨by first | rfl | (simp; done) | (simp [*]; done), by repeat (first | exact Drawn0.refl _ | apply Drawn0.step)⟩
def spec_Min.f (a0 : Int) (a1 : Int) : Option (Int) := if a1 < a0 then (some a1) else (some a0)
set_option maxHeartbeats 8000000 in
set_option maxRecDepth 100000 in
theorem spec_Min.calls (a0 : Int) (a1 : Int) (r : Int) (w : World) (h : spec_Min.f a0 a1 = some r) :
  Calls Try.prog 104 #[.int .i64 a0, .int .i64 a1] w fun e w' => e = .returned (.int .i64 r) ∧ Drawn0 w w' := by
 have H : (if a1 < a0 then (some a1) else (some a0)) = some r := h
 clear h
 by_cases c3 : a1 < a0
 ·
  rw [if_pos c3] at H
  have c3b0 : decide (a1 < a0) = true := decide_eq_true c3
  clear c3
  obtain rfl := Option.some.inj H
  go_enter Try.func104, Try.ntmps104
  go_wp2
  go_ret
  exact ⟨by first | rfl | (simp; done) | (simp [*]; done), by repeat (first | exact Drawn0.refl _ | apply Drawn0.step)⟩
 ·
  rw [if_neg c3] at H
  have c3b0 : decide (a1 < a0) = false := decide_eq_false c3
  clear c3
  obtain rfl := Option.some.inj H
  go_enter Try.func104, Try.ntmps104
  go_wp2
  go_ret
  exact ⟨by first | rfl | (simp; done) | (simp [*]; done), by repeat (first | exact Drawn0.refl _ | apply Drawn0.step)⟩
def spec_BoxOf.l0 : Nat → List (S44) → Int → Int → Int → Int → Int → Option (Int × Int × Int × Int × Bool)
 | 0, _, _, _, _, _, _ => none
 | k + 1, x0, x5, x108000, x108001, x108002, x108003 => if x5 < (x0.length : Int) then (if 0 ≤ x5 then ((spec_IsPoint.f ((rd_T44 x0 x5).f0) ((rd_T44 x0 x5).f1)).bind fun t109 => (if t109 = true then ((spec_Min.f x108000 ((rd_T44 x0 x5).f0)).bind fun t111 => ((spec_Min.f x108001 ((rd_T44 x0 x5).f1)).bind fun t113 => ((spec_Max.f x108002 ((rd_T44 x0 x5).f0)).bind fun t115 => ((spec_Max.f x108003 ((rd_T44 x0 x5).f1)).bind fun t117 => (spec_BoxOf.l0 k x0 (wrap64 (x5 + 1)) t111 t113 t115 t117))))) else (some (0, 0, 0, 0, false)))) else (none)) else (some (x108000, x108001, x108002, x108003, true))
def spec_BoxOf.f (k : Nat) (l0 : List (S44)) : Option (Int × Int × Int × Int × Bool) := if (l0.length : Int) = 0 then (some (0, 0, 0, 0, false)) else (if 0 < (l0.length : Int) then (spec_BoxOf.l0 k l0 0 ((rd_T44 l0 0).f0) ((rd_T44 l0 0).f1) ((rd_T44 l0 0).f0) ((rd_T44 l0 0).f1)) else (none))
def spec_BoxOf.T3 : Bool × List (List Nat × List Nat) := (true, [([], []), ([0], [0]), ([1], [1]), ([], []), ([3], [3]), ([4], [4]), ([2, 5], [2, 5]), ([], []), ([7, 6, 0, 1, 2, 3, 4, 5, 6, 7], [6, 7])])
def spec_BoxOf.B3 : List Nat := [0, 1, 3, 0, 8, 24, 63, 0, 255]
theorem spec_BoxOf.tab3 : rtab .any (opsOf Try.f42 3) = spec_BoxOf.T3 := by kernel_rfl
theorem spec_BoxOf.bits3 : waitsOk spec_BoxOf.T3.2 spec_BoxOf.B3 = true := by kernel_rfl
def spec_BoxOf.T9 : Bool × List (List Nat × List Nat) := (true, [([], []), ([0], [0]), ([1], [1]), ([], []), ([], []), ([3, 4], [3, 4]), ([5], [5]), ([6], [6]), ([2, 7], [2, 7]), ([0, 1, 2, 3, 4, 5, 6, 7, 8], []), ([9, 0, 1, 2, 3, 4, 5, 6, 7, 8], [9]), ([10, 8, 8, 0, 1, 2, 3, 4, 5, 6, 7, 8], [8, 10])])
def spec_BoxOf.B9 : List Nat := [0, 1, 3, 0, 0, 24, 56, 120, 255, 511, 1023, 2047]
theorem spec_BoxOf.tab9 : rtab .any (opsOf Try.f42 9) = spec_BoxOf.T9 := by kernel_rfl
theorem spec_BoxOf.bits9 : waitsOk spec_BoxOf.T9.2 spec_BoxOf.B9 = true := by kernel_rfl
def spec_BoxOf.T10 : Bool × List (List Nat × List Nat) := (true, [([], []), ([0], [0]), ([1], [1]), ([], []), ([], []), ([3, 4], [3, 4]), ([5], [5]), ([6], [6]), ([2, 7], [2, 7]), ([0, 1, 2, 3, 4, 5, 6, 7, 8], []), ([9, 0, 1, 2, 3, 4, 5, 6, 7, 8], [9]), ([10, 8, 8, 0, 1, 2, 3, 4, 5, 6, 7, 8], [8, 10])])
def spec_BoxOf.B10 : List Nat := [0, 1, 3, 0, 0, 24, 56, 120, 255, 511, 1023, 2047]
theorem spec_BoxOf.tab10 : rtab .any (opsOf Try.f42 10) = spec_BoxOf.T10 := by kernel_rfl
theorem spec_BoxOf.bits10 : waitsOk spec_BoxOf.T10.2 spec_BoxOf.B10 = true := by kernel_rfl
def spec_BoxOf.T11 : Bool × List (List Nat × List Nat) := (true, [([], []), ([0], [0]), ([1], [1]), ([], []), ([], []), ([3, 4], [3, 4]), ([5], [5]), ([6], [6]), ([2, 7], [2, 7]), ([0, 1, 2, 3, 4, 5, 6, 7, 8], []), ([9, 0, 1, 2, 3, 4, 5, 6, 7, 8], [9]), ([10, 8, 8, 0, 1, 2, 3, 4, 5, 6, 7, 8], [8, 10])])
def spec_BoxOf.B11 : List Nat := [0, 1, 3, 0, 0, 24, 56, 120, 255, 511, 1023, 2047]
theorem spec_BoxOf.tab11 : rtab .any (opsOf Try.f42 11) = spec_BoxOf.T11 := by kernel_rfl
theorem spec_BoxOf.bits11 : waitsOk spec_BoxOf.T11.2 spec_BoxOf.B11 = true := by kernel_rfl
def spec_BoxOf.T12 : Bool × List (List Nat × List Nat) := (true, [([], []), ([0], [0]), ([1], [1]), ([], []), ([], []), ([3, 4], [3, 4]), ([5], [5]), ([6], [6]), ([2, 7], [2, 7]), ([0, 1, 2, 3, 4, 5, 6, 7, 8], []), ([9, 0, 1, 2, 3, 4, 5, 6, 7, 8], [9]), ([10, 8, 8, 0, 1, 2, 3, 4, 5, 6, 7, 8], [8, 10])])
def spec_BoxOf.B12 : List Nat := [0, 1, 3, 0, 0, 24, 56, 120, 255, 511, 1023, 2047]
theorem spec_BoxOf.tab12 : rtab .any (opsOf Try.f42 12) = spec_BoxOf.T12 := by kernel_rfl
theorem spec_BoxOf.bits12 : waitsOk spec_BoxOf.T12.2 spec_BoxOf.B12 = true := by kernel_rfl
set_option maxHeartbeats 8000000 in
set_option maxRecDepth 100000 in
theorem spec_BoxOf.calls (k : Nat) (A0 : Option Addr) (c0 : Nat) (l0 : List (S44)) (r1 : Int) (r2 : Int) (r3 : Int) (r4 : Int) (r5 : Bool) (w : World) (hr0 : Kd.C k44 w A0 l0.length l0) (hc0 : l0.length ≤ c0) (h : spec_BoxOf.f k l0 = some (r1, r2, r3, r4, r5)) :
  Calls Try.prog 42 #[.slice A0 l0.length c0] w fun e w' => e = .returned (.tuple #[.agg #[.int .i64 r1, .int .i64 r2, .int .i64 r3, .int .i64 r4], .bool r5]) ∧ Below w.heap.size w w' := by
 have hu66 := Try.underlying66
 have hu44 := Try.underlying44
 have HR0 := Aside0.mk hr0
 have HC0 := Aside0.mk hc0
 clear hr0 hc0
 have HB := Aside0.mk (Below.refl w.heap.size w)
 have H : (if (l0.length : Int) = 0 then (some (0, 0, 0, 0, false)) else (if 0 < (l0.length : Int) then (spec_BoxOf.l0 k l0 0 ((rd_T44 l0 0).f0) ((rd_T44 l0 0).f1) ((rd_T44 l0 0).f0) ((rd_T44 l0 0).f1)) else (none))) = some (r1, r2, r3, r4, r5) := h
 clear h
 by_cases c2 : (l0.length : Int) = 0
 ·
  rw [if_pos c2] at H
  have c2b0 : ((l0.length : Int) == 0) = true := beq_iff_eq.mpr c2
  have c2b1 : ((l0.length : Int) != 0) = false := bne_eq_false_iff_eq.mpr c2
  clear c2
  simp only [Option.some.injEq, Prod.mk.injEq] at H
  obtain ⟨rfl, rfl, rfl, rfl, rfl⟩ := H
  go_enter Try.func42, Try.ntmps42
  go_wp2_with (first | ((with_reducible refine gate_dst (N := 2) rfl ?_); refine Hd.box_ 2 (#[.int .i64 0, .int .i64 0, .int .i64 0, .int .i64 0]) 66 ?_; intro gb104 hg w3 hbox hb; have BK104 := Aside0.mk (hbox); have GW104 := Aside0.mk ((Hd.g_ hg Hd.b_ : w.heap.size ≤ gb104)); have GE104 := Aside0.mk ((Hd.g_ hg Hd.b_ : w.heap.size ≤ gb104)); replace HB := Aside0.mk (below_step Hd.b_ hb); clear hb hbox hg; obtain ⟨hcz4_0, hcz4_1, hcz4_2, hcz4_3⟩ := Hd.c4_ BK104.out; obtain ⟨hfz4_0, hfz4_1, hfz4_2, hfz4_3⟩ := Hd.f4_ BK104.out))
  refine bodyPost_ret (results_ct rfl _ _ gb104 66 #[.int .i64 0, .int .i64 0, .int .i64 0, .int .i64 0] (0, 0) _ rfl (by (with_reducible repeat (first | refine blk_drewN ?_ _ | refine blk_drew ?_ | refine blk_alloc ?_ _)); refine blk_put (cs := #[.int .i64 0, .int .i64 0, .int .i64 0, .int .i64 0]) ?_ 3 _ rfl; (with_reducible repeat (first | refine blk_drewN ?_ _ | refine blk_drew ?_ | refine blk_alloc ?_ _)); refine blk_put (cs := #[.int .i64 0, .int .i64 0, .int .i64 0, .int .i64 0]) ?_ 2 _ rfl; (with_reducible repeat (first | refine blk_drewN ?_ _ | refine blk_drew ?_ | refine blk_alloc ?_ _)); refine blk_put (cs := #[.int .i64 0, .int .i64 0, .int .i64 0, .int .i64 0]) ?_ 1 _ rfl; (with_reducible repeat (first | refine blk_drewN ?_ _ | refine blk_drew ?_ | refine blk_alloc ?_ _)); refine blk_put (cs := #[.int .i64 0, .int .i64 0, .int .i64 0, .int .i64 0]) ?_ 0 _ rfl; (with_reducible repeat (first | refine blk_drewN ?_ _ | refine blk_drew ?_ | refine blk_alloc ?_ _)); exact BK104.out) Try.underlying66 rfl (by kernel_rfl)) rfl ?_
  exact ⟨Hd.e_, Hd.b_⟩
 ·
  rw [if_neg c2] at H
  have c2b0 : ((l0.length : Int) == 0) = false := beq_eq_false_iff_ne.mpr c2
  have c2b1 : ((l0.length : Int) != 0) = true := bne_iff_ne.mpr c2
  have c2b2 : ¬ (l0 = []) := fun h_ => c2 (by rw [h_]; rfl)
  by_cases c5 : 0 < (l0.length : Int)
  ·
   rw [if_pos c5] at H
   have c5b0 : decide (0 < (l0.length : Int)) = true := decide_eq_true c5
   have c5b1 : decide (0 < l0.length) = true := decide_eq_true (by omega)
   clear c5
   have H' := Aside0.mk H
   clear H
   go_enter Try.func42, Try.ntmps42
   try go_wp2_with (first | ((with_reducible refine gate_dst (N := 2) rfl ?_); refine Hd.box_ 2 (#[.int .i64 0, .int .i64 0, .int .i64 0, .int .i64 0]) 66 ?_; intro gb104 hg w6 hbox hb; have BK104 := Aside0.mk (hbox); have GW104 := Aside0.mk ((Hd.g_ hg Hd.b_ : w.heap.size ≤ gb104)); have GE104 := Aside0.mk ((Hd.g_ hg Hd.b_ : w.heap.size ≤ gb104)); replace HB := Aside0.mk (below_step Hd.b_ hb); clear hb hbox hg))
   replace BK104 := Aside0.mk (blk_drew BK104.out)
   replace HB := Aside0.mk (below_drew1 HB.out)
   have p105 : 0 ≤ (0 : Int) := (by omega)
   have q105 : 0 < (l0.length : Int) := of_decide_eq_true Hd.a_
   obtain ⟨ad105, e105, hx105_0, hx105_1⟩ := at_T44 HR0.out 0 p105 q105
   have hw105_1 := hx105_1
   (try rw [show ((0 : Int)).toNat = 0 from rfl] at hw105_1)
   (try rw [show 0 * 2 = 0 from rfl] at hw105_1)
   (try rw [Addr.add_zero'] at hw105_1)
   have hw105_0 := hx105_0
   (try rw [show ((0 : Int)).toNat = 0 from rfl] at hw105_0)
   (try rw [show 0 * 2 = 0 from rfl] at hw105_0)
   (try rw [Addr.add_zero'] at hw105_0)
   cases e105
   have qi105 : (0 < l0.length) = True := eq_true (by omega)
   (try rw [show ((0 : Int)).toNat = 0 from rfl] at hx105_0)
   (try rw [show 0 * 2 = 0 from rfl] at hx105_0)
   (try rw [Addr.add_zero'] at hx105_0)
   (try rw [show ((0 : Int)).toNat = 0 from rfl] at hx105_1)
   (try rw [show 0 * 2 = 0 from rfl] at hx105_1)
   (try rw [Addr.add_zero'] at hx105_1)
   replace hx105_0 := (HB.out.cell (World.block_lt_of_cell? w _ hx105_0)).trans hx105_0
   replace hx105_1 := (HB.out.cell (World.block_lt_of_cell? w _ hx105_1)).trans hx105_1
   replace p105 := eq_true p105
   replace q105 := eq_true q105
   have p106 : 0 ≤ (0 : Int) := (by omega)
   have q106 : 0 < (l0.length : Int) := of_decide_eq_true Hd.a_
   obtain ⟨ad106, e106, hx106_0, hx106_1⟩ := at_T44 HR0.out 0 p106 q106
   have hw106_1 := hx106_1
   (try rw [show ((0 : Int)).toNat = 0 from rfl] at hw106_1)
   (try rw [show 0 * 2 = 0 from rfl] at hw106_1)
   (try rw [Addr.add_zero'] at hw106_1)
   have hw106_0 := hx106_0
   (try rw [show ((0 : Int)).toNat = 0 from rfl] at hw106_0)
   (try rw [show 0 * 2 = 0 from rfl] at hw106_0)
   (try rw [Addr.add_zero'] at hw106_0)
   obtain rfl : ad105 = ad106 := (by injection e106)
   have qi106 : (0 < l0.length) = True := eq_true (by omega)
   (try rw [show ((0 : Int)).toNat = 0 from rfl] at hx106_0)
   (try rw [show 0 * 2 = 0 from rfl] at hx106_0)
   (try rw [Addr.add_zero'] at hx106_0)
   (try rw [show ((0 : Int)).toNat = 0 from rfl] at hx106_1)
   (try rw [show 0 * 2 = 0 from rfl] at hx106_1)
   (try rw [Addr.add_zero'] at hx106_1)
   replace hx106_0 := (HB.out.cell (World.block_lt_of_cell? w _ hx106_0)).trans hx106_0
   replace hx106_1 := (HB.out.cell (World.block_lt_of_cell? w _ hx106_1)).trans hx106_1
   replace p106 := eq_true p106
   replace q106 := eq_true q106
   refine start_ (n := 9) (S := fun w' => w'.cell? ad105 = some (.int .i64 ((rd_T44 l0 0).f0)) ∧ w'.cell? ⟨ad105.block, ad105.off + 1, none⟩ = some (.int .i64 ((rd_T44 l0 0).f1)) ∧ w'.cell? ad105 = some (.int .i64 ((rd_T44 l0 0).f0)) ∧ w'.cell? ⟨ad105.block, ad105.off + 1, none⟩ = some (.int .i64 ((rd_T44 l0 0).f1))) (ds := []) #[false, false, false, false, false, false, false, false, false] (by kernel_rfl) rfl rfl ⟨((HB.out.cell (World.block_lt_of_cell? w _ hw105_0)).trans hw105_0), ((HB.out.cell (World.block_lt_of_cell? w _ hw105_1)).trans hw105_1), ((HB.out.cell (World.block_lt_of_cell? w _ hw106_0)).trans hw106_0), ((HB.out.cell (World.block_lt_of_cell? w _ hw106_1)).trans hw106_1)⟩ (fun hHeld => ?_); refine with_tabW spec_BoxOf.tab3 spec_BoxOf.bits3 (fun HT_ HW_ => ?_)
   generalize w6.drew = w7 at BK104 HB hx105_0 hx105_1 hx106_0 hx106_1 hHeld ⊢
   refine Hd.p_ HT_ 0 (some 10) #[true, false, false, false, false, false, false, false, false] ?_
   refine Hd.p_ HT_ 1 (some 11) #[true, true, false, false, false, false, false, false, false] ?_
   refine Hd.p_ HT_ 3 (some 13) #[true, true, false, true, false, false, false, false, false] ?_
   refine Hd.p_ HT_ 4 (some 14) #[true, true, false, true, true, false, false, false, false] ?_
   refine Hd.t_ HT_ HW_ hHeld 2 (some 12) #[true, true, true, true, true, false, false, false, false] ?_
   refine Hd.t_ HT_ HW_ hHeld 5 (some 15) #[true, true, true, true, true, true, false, false, false] ?_
   refine Hd.p_ HT_ 6 (some 16) #[true, true, true, true, true, true, true, false, false] ?_
   refine Hd.o_ HT_ 7 (some 4) #[true, true, true, true, true, true, true, true, false] (fun K hK => ?_)
   refine box_step ?hg (N := 4) ?hd (cs := #[.int .i64 0, .int .i64 0, .int .i64 0, .int .i64 0]) (t := 66) ?hr ?_; (case hd => rfl); (case hg => rfl); (case hr => first | (go_simp; done) | (go_simp; rfl))
   intro gb107 hg w8 hbox hb
   have BK107 := Aside0.mk (hbox)
   have GW107 := Aside0.mk ((Hd.g_ hg Hd.b_ : w.heap.size ≤ gb107))
   have GE107 := Aside0.mk ((Hd.g_ hg Hd.b_ : w.heap.size ≤ gb107))
   replace HB := Aside0.mk (below_step Hd.b_ hb)
   have NB104_107 := Aside0.mk ((Hd.lt_ BK104 hg))
   have NB107_104 := Aside0.mk ((Hd.gt_ BK104 hg))
   replace BK104 := Aside0.mk (Hd.kb_ BK104 hb)
   clear hb hbox hg
   refine hK.out _ _ ⟨((HB.out.cell (World.block_lt_of_cell? w _ hw105_0)).trans hw105_0), ((HB.out.cell (World.block_lt_of_cell? w _ hw105_1)).trans hw105_1), ((HB.out.cell (World.block_lt_of_cell? w _ hw106_0)).trans hw106_0), ((HB.out.cell (World.block_lt_of_cell? w _ hw106_1)).trans hw106_1)⟩ (fun hHeld => ?_)
   clear hK K
   refine Hd.n_ (some 4) ?_
   refine Hd.o_ HT_ 8 (none) #[true, true, true, true, true, true, true, true, true] (fun K hK => ?_)
   have hs9 : w8.cell? ⟨gb107, 0, none⟩ = some (.int .i64 0) := (blk_cell BK107.out 0).trans rfl
   have hfs9 := blk_frozen BK107.out 0
   have hns9_0 := NB104_107.out
   have hms9_0 := NB107_104.out
   have hs10 : w8.cell? ⟨gb107, 1, none⟩ = some (.int .i64 0) := (blk_cell BK107.out 1).trans rfl
   have hfs10 := blk_frozen BK107.out 1
   have hns10_0 := NB104_107.out
   have hms10_0 := NB107_104.out
   have hs11 : w8.cell? ⟨gb107, 2, none⟩ = some (.int .i64 0) := (blk_cell BK107.out 2).trans rfl
   have hfs11 := blk_frozen BK107.out 2
   have hns11_0 := NB104_107.out
   have hms11_0 := NB107_104.out
   have hs12 : w8.cell? ⟨gb107, 3, none⟩ = some (.int .i64 0) := (blk_cell BK107.out 3).trans rfl
   have hfs12 := blk_frozen BK107.out 3
   have hns12_0 := NB104_107.out
   have hms12_0 := NB107_104.out
   refine skip_ (w1 := ?_) (by rfl) rfl ?_ ?_
   rotate_left
   ·
    go_simp
    rfl
   refine hK.out _ _ ⟨((cell_far (p := ⟨gb107, _, none⟩) (by first | exact Nat.ne_of_lt (Nat.lt_of_lt_of_le (by have := World.block_lt_of_cell? _ _ hw105_0; first | rwa [add_block] at this | exact this) GW107.out) | (rw [add_block]; exact Nat.ne_of_lt (Nat.lt_of_lt_of_le (by have := World.block_lt_of_cell? _ _ hw105_0; first | rwa [add_block] at this | exact this) GW107.out)) | (show (Addr.add _ _).block ≠ _; rw [add_block]; exact Nat.ne_of_lt (Nat.lt_of_lt_of_le (by have := World.block_lt_of_cell? _ _ hw105_0; first | rwa [add_block] at this | exact this) GW107.out)) | (dsimp only; exact Nat.ne_of_lt (Nat.lt_of_lt_of_le (by have := World.block_lt_of_cell? _ _ hw105_0; first | rwa [add_block] at this | exact this) GW107.out))) _).trans (((cell_far (p := ⟨gb107, _, none⟩) (by first | exact Nat.ne_of_lt (Nat.lt_of_lt_of_le (by have := World.block_lt_of_cell? _ _ hw105_0; first | rwa [add_block] at this | exact this) GW107.out) | (rw [add_block]; exact Nat.ne_of_lt (Nat.lt_of_lt_of_le (by have := World.block_lt_of_cell? _ _ hw105_0; first | rwa [add_block] at this | exact this) GW107.out)) | (show (Addr.add _ _).block ≠ _; rw [add_block]; exact Nat.ne_of_lt (Nat.lt_of_lt_of_le (by have := World.block_lt_of_cell? _ _ hw105_0; first | rwa [add_block] at this | exact this) GW107.out)) | (dsimp only; exact Nat.ne_of_lt (Nat.lt_of_lt_of_le (by have := World.block_lt_of_cell? _ _ hw105_0; first | rwa [add_block] at this | exact this) GW107.out))) _).trans (((cell_far (p := ⟨gb107, _, none⟩) (by first | exact Nat.ne_of_lt (Nat.lt_of_lt_of_le (by have := World.block_lt_of_cell? _ _ hw105_0; first | rwa [add_block] at this | exact this) GW107.out) | (rw [add_block]; exact Nat.ne_of_lt (Nat.lt_of_lt_of_le (by have := World.block_lt_of_cell? _ _ hw105_0; first | rwa [add_block] at this | exact this) GW107.out)) | (show (Addr.add _ _).block ≠ _; rw [add_block]; exact Nat.ne_of_lt (Nat.lt_of_lt_of_le (by have := World.block_lt_of_cell? _ _ hw105_0; first | rwa [add_block] at this | exact this) GW107.out)) | (dsimp only; exact Nat.ne_of_lt (Nat.lt_of_lt_of_le (by have := World.block_lt_of_cell? _ _ hw105_0; first | rwa [add_block] at this | exact this) GW107.out))) _).trans (((cell_far (p := ⟨gb107, _, none⟩) (by first | exact Nat.ne_of_lt (Nat.lt_of_lt_of_le (by have := World.block_lt_of_cell? _ _ hw105_0; first | rwa [add_block] at this | exact this) GW107.out) | (rw [add_block]; exact Nat.ne_of_lt (Nat.lt_of_lt_of_le (by have := World.block_lt_of_cell? _ _ hw105_0; first | rwa [add_block] at this | exact this) GW107.out)) | (show (Addr.add _ _).block ≠ _; rw [add_block]; exact Nat.ne_of_lt (Nat.lt_of_lt_of_le (by have := World.block_lt_of_cell? _ _ hw105_0; first | rwa [add_block] at this | exact this) GW107.out)) | (dsimp only; exact Nat.ne_of_lt (Nat.lt_of_lt_of_le (by have := World.block_lt_of_cell? _ _ hw105_0; first | rwa [add_block] at this | exact this) GW107.out))) _).trans (hHeld.1)))))))), ((cell_far (p := ⟨gb107, _, none⟩) (by first | exact Nat.ne_of_lt (Nat.lt_of_lt_of_le (by have := World.block_lt_of_cell? _ _ hw105_1; first | rwa [add_block] at this | exact this) GW107.out) | (rw [add_block]; exact Nat.ne_of_lt (Nat.lt_of_lt_of_le (by have := World.block_lt_of_cell? _ _ hw105_1; first | rwa [add_block] at this | exact this) GW107.out)) | (show (Addr.add _ _).block ≠ _; rw [add_block]; exact Nat.ne_of_lt (Nat.lt_of_lt_of_le (by have := World.block_lt_of_cell? _ _ hw105_1; first | rwa [add_block] at this | exact this) GW107.out)) | (dsimp only; exact Nat.ne_of_lt (Nat.lt_of_lt_of_le (by have := World.block_lt_of_cell? _ _ hw105_1; first | rwa [add_block] at this | exact this) GW107.out))) _).trans (((cell_far (p := ⟨gb107, _, none⟩) (by first | exact Nat.ne_of_lt (Nat.lt_of_lt_of_le (by have := World.block_lt_of_cell? _ _ hw105_1; first | rwa [add_block] at this | exact this) GW107.out) | (rw [add_block]; exact Nat.ne_of_lt (Nat.lt_of_lt_of_le (by have := World.block_lt_of_cell? _ _ hw105_1; first | rwa [add_block] at this | exact this) GW107.out)) | (show (Addr.add _ _).block ≠ _; rw [add_block]; exact Nat.ne_of_lt (Nat.lt_of_lt_of_le (by have := World.block_lt_of_cell? _ _ hw105_1; first | rwa [add_block] at this | exact this) GW107.out)) | (dsimp only; exact Nat.ne_of_lt (Nat.lt_of_lt_of_le (by have := World.block_lt_of_cell? _ _ hw105_1; first | rwa [add_block] at this | exact this) GW107.out))) _).trans (((cell_far (p := ⟨gb107, _, none⟩) (by first | exact Nat.ne_of_lt (Nat.lt_of_lt_of_le (by have := World.block_lt_of_cell? _ _ hw105_1; first | rwa [add_block] at this | exact this) GW107.out) | (rw [add_block]; exact Nat.ne_of_lt (Nat.lt_of_lt_of_le (by have := World.block_lt_of_cell? _ _ hw105_1; first | rwa [add_block] at this | exact this) GW107.out)) | (show (Addr.add _ _).block ≠ _; rw [add_block]; exact Nat.ne_of_lt (Nat.lt_of_lt_of_le (by have := World.block_lt_of_cell? _ _ hw105_1; first | rwa [add_block] at this | exact this) GW107.out)) | (dsimp only; exact Nat.ne_of_lt (Nat.lt_of_lt_of_le (by have := World.block_lt_of_cell? _ _ hw105_1; first | rwa [add_block] at this | exact this) GW107.out))) _).trans (((cell_far (p := ⟨gb107, _, none⟩) (by first | exact Nat.ne_of_lt (Nat.lt_of_lt_of_le (by have := World.block_lt_of_cell? _ _ hw105_1; first | rwa [add_block] at this | exact this) GW107.out) | (rw [add_block]; exact Nat.ne_of_lt (Nat.lt_of_lt_of_le (by have := World.block_lt_of_cell? _ _ hw105_1; first | rwa [add_block] at this | exact this) GW107.out)) | (show (Addr.add _ _).block ≠ _; rw [add_block]; exact Nat.ne_of_lt (Nat.lt_of_lt_of_le (by have := World.block_lt_of_cell? _ _ hw105_1; first | rwa [add_block] at this | exact this) GW107.out)) | (dsimp only; exact Nat.ne_of_lt (Nat.lt_of_lt_of_le (by have := World.block_lt_of_cell? _ _ hw105_1; first | rwa [add_block] at this | exact this) GW107.out))) _).trans (hHeld.2.1)))))))), ((cell_far (p := ⟨gb107, _, none⟩) (by first | exact Nat.ne_of_lt (Nat.lt_of_lt_of_le (by have := World.block_lt_of_cell? _ _ hw106_0; first | rwa [add_block] at this | exact this) GW107.out) | (rw [add_block]; exact Nat.ne_of_lt (Nat.lt_of_lt_of_le (by have := World.block_lt_of_cell? _ _ hw106_0; first | rwa [add_block] at this | exact this) GW107.out)) | (show (Addr.add _ _).block ≠ _; rw [add_block]; exact Nat.ne_of_lt (Nat.lt_of_lt_of_le (by have := World.block_lt_of_cell? _ _ hw106_0; first | rwa [add_block] at this | exact this) GW107.out)) | (dsimp only; exact Nat.ne_of_lt (Nat.lt_of_lt_of_le (by have := World.block_lt_of_cell? _ _ hw106_0; first | rwa [add_block] at this | exact this) GW107.out))) _).trans (((cell_far (p := ⟨gb107, _, none⟩) (by first | exact Nat.ne_of_lt (Nat.lt_of_lt_of_le (by have := World.block_lt_of_cell? _ _ hw106_0; first | rwa [add_block] at this | exact this) GW107.out) | (rw [add_block]; exact Nat.ne_of_lt (Nat.lt_of_lt_of_le (by have := World.block_lt_of_cell? _ _ hw106_0; first | rwa [add_block] at this | exact this) GW107.out)) | (show (Addr.add _ _).block ≠ _; rw [add_block]; exact Nat.ne_of_lt (Nat.lt_of_lt_of_le (by have := World.block_lt_of_cell? _ _ hw106_0; first | rwa [add_block] at this | exact this) GW107.out)) | (dsimp only; exact Nat.ne_of_lt (Nat.lt_of_lt_of_le (by have := World.block_lt_of_cell? _ _ hw106_0; first | rwa [add_block] at this | exact this) GW107.out))) _).trans (((cell_far (p := ⟨gb107, _, none⟩) (by first | exact Nat.ne_of_lt (Nat.lt_of_lt_of_le (by have := World.block_lt_of_cell? _ _ hw106_0; first | rwa [add_block] at this | exact this) GW107.out) | (rw [add_block]; exact Nat.ne_of_lt (Nat.lt_of_lt_of_le (by have := World.block_lt_of_cell? _ _ hw106_0; first | rwa [add_block] at this | exact this) GW107.out)) | (show (Addr.add _ _).block ≠ _; rw [add_block]; exact Nat.ne_of_lt (Nat.lt_of_lt_of_le (by have := World.block_lt_of_cell? _ _ hw106_0; first | rwa [add_block] at this | exact this) GW107.out)) | (dsimp only; exact Nat.ne_of_lt (Nat.lt_of_lt_of_le (by have := World.block_lt_of_cell? _ _ hw106_0; first | rwa [add_block] at this | exact this) GW107.out))) _).trans (((cell_far (p := ⟨gb107, _, none⟩) (by first | exact Nat.ne_of_lt (Nat.lt_of_lt_of_le (by have := World.block_lt_of_cell? _ _ hw106_0; first | rwa [add_block] at this | exact this) GW107.out) | (rw [add_block]; exact Nat.ne_of_lt (Nat.lt_of_lt_of_le (by have := World.block_lt_of_cell? _ _ hw106_0; first | rwa [add_block] at this | exact this) GW107.out)) | (show (Addr.add _ _).block ≠ _; rw [add_block]; exact Nat.ne_of_lt (Nat.lt_of_lt_of_le (by have := World.block_lt_of_cell? _ _ hw106_0; first | rwa [add_block] at this | exact this) GW107.out)) | (dsimp only; exact Nat.ne_of_lt (Nat.lt_of_lt_of_le (by have := World.block_lt_of_cell? _ _ hw106_0; first | rwa [add_block] at this | exact this) GW107.out))) _).trans (hHeld.2.2.1)))))))), ((cell_far (p := ⟨gb107, _, none⟩) (by first | exact Nat.ne_of_lt (Nat.lt_of_lt_of_le (by have := World.block_lt_of_cell? _ _ hw106_1; first | rwa [add_block] at this | exact this) GW107.out) | (rw [add_block]; exact Nat.ne_of_lt (Nat.lt_of_lt_of_le (by have := World.block_lt_of_cell? _ _ hw106_1; first | rwa [add_block] at this | exact this) GW107.out)) | (show (Addr.add _ _).block ≠ _; rw [add_block]; exact Nat.ne_of_lt (Nat.lt_of_lt_of_le (by have := World.block_lt_of_cell? _ _ hw106_1; first | rwa [add_block] at this | exact this) GW107.out)) | (dsimp only; exact Nat.ne_of_lt (Nat.lt_of_lt_of_le (by have := World.block_lt_of_cell? _ _ hw106_1; first | rwa [add_block] at this | exact this) GW107.out))) _).trans (((cell_far (p := ⟨gb107, _, none⟩) (by first | exact Nat.ne_of_lt (Nat.lt_of_lt_of_le (by have := World.block_lt_of_cell? _ _ hw106_1; first | rwa [add_block] at this | exact this) GW107.out) | (rw [add_block]; exact Nat.ne_of_lt (Nat.lt_of_lt_of_le (by have := World.block_lt_of_cell? _ _ hw106_1; first | rwa [add_block] at this | exact this) GW107.out)) | (show (Addr.add _ _).block ≠ _; rw [add_block]; exact Nat.ne_of_lt (Nat.lt_of_lt_of_le (by have := World.block_lt_of_cell? _ _ hw106_1; first | rwa [add_block] at this | exact this) GW107.out)) | (dsimp only; exact Nat.ne_of_lt (Nat.lt_of_lt_of_le (by have := World.block_lt_of_cell? _ _ hw106_1; first | rwa [add_block] at this | exact this) GW107.out))) _).trans (((cell_far (p := ⟨gb107, _, none⟩) (by first | exact Nat.ne_of_lt (Nat.lt_of_lt_of_le (by have := World.block_lt_of_cell? _ _ hw106_1; first | rwa [add_block] at this | exact this) GW107.out) | (rw [add_block]; exact Nat.ne_of_lt (Nat.lt_of_lt_of_le (by have := World.block_lt_of_cell? _ _ hw106_1; first | rwa [add_block] at this | exact this) GW107.out)) | (show (Addr.add _ _).block ≠ _; rw [add_block]; exact Nat.ne_of_lt (Nat.lt_of_lt_of_le (by have := World.block_lt_of_cell? _ _ hw106_1; first | rwa [add_block] at this | exact this) GW107.out)) | (dsimp only; exact Nat.ne_of_lt (Nat.lt_of_lt_of_le (by have := World.block_lt_of_cell? _ _ hw106_1; first | rwa [add_block] at this | exact this) GW107.out))) _).trans (((cell_far (p := ⟨gb107, _, none⟩) (by first | exact Nat.ne_of_lt (Nat.lt_of_lt_of_le (by have := World.block_lt_of_cell? _ _ hw106_1; first | rwa [add_block] at this | exact this) GW107.out) | (rw [add_block]; exact Nat.ne_of_lt (Nat.lt_of_lt_of_le (by have := World.block_lt_of_cell? _ _ hw106_1; first | rwa [add_block] at this | exact this) GW107.out)) | (show (Addr.add _ _).block ≠ _; rw [add_block]; exact Nat.ne_of_lt (Nat.lt_of_lt_of_le (by have := World.block_lt_of_cell? _ _ hw106_1; first | rwa [add_block] at this | exact this) GW107.out)) | (dsimp only; exact Nat.ne_of_lt (Nat.lt_of_lt_of_le (by have := World.block_lt_of_cell? _ _ hw106_1; first | rwa [add_block] at this | exact this) GW107.out))) _).trans (hHeld.2.2.2))))))))⟩ (fun hHeld => ?_)
   clear hK K
   refine done_ (done_of HT_.out (by kernel_rfl)) ?_
   try go_wp2
   go_loopg [5] k (fun kq v5 w' => ∃ (x5_1 : Int) (x105000_1 : Int) (x105001_1 : Int) (x105002_1 : Int) (x105003_1 : Int) (x108000_1 : Int) (x108001_1 : Int) (x108002_1 : Int) (x108003_1 : Int), v5 = .int .i64 x5_1 ∧ Aside0 (spec_BoxOf.l0 kq l0 x5_1 x108000_1 x108001_1 x108002_1 x108003_1 = some (r1, r2, r3, r4, r5)) ∧ Aside0 (kq ≤ k) ∧ Aside0 (w'.heap[gb104]? = some (.cells #[.int .i64 x105000_1, .int .i64 x105001_1, .int .i64 x105002_1, .int .i64 x105003_1] 66 (0, 0))) ∧ Aside0 (w'.heap[gb107]? = some (.cells #[.int .i64 x108000_1, .int .i64 x108001_1, .int .i64 x108002_1, .int .i64 x108003_1] 66 (0, 0))) ∧ Aside0 (Below w.heap.size w w'))
   case atStart => exact ⟨(0), (0), (0), (0), (0), ((rd_T44 l0 0).f0), ((rd_T44 l0 0).f1), ((rd_T44 l0 0).f0), ((rd_T44 l0 0).f1), (by first | rfl | (simp; done) | (simp [*]; done)), H', ⟨Nat.le_refl _⟩, ⟨by (with_reducible repeat (first | refine blk_drewN ?_ _ | refine blk_drew ?_ | refine blk_alloc ?_ _)); refine blk_far ?_ NB104_107.out _; (with_reducible repeat (first | refine blk_drewN ?_ _ | refine blk_drew ?_ | refine blk_alloc ?_ _)); refine blk_far ?_ NB104_107.out _; (with_reducible repeat (first | refine blk_drewN ?_ _ | refine blk_drew ?_ | refine blk_alloc ?_ _)); refine blk_far ?_ NB104_107.out _; (with_reducible repeat (first | refine blk_drewN ?_ _ | refine blk_drew ?_ | refine blk_alloc ?_ _)); refine blk_far ?_ NB104_107.out _; (with_reducible repeat (first | refine blk_drewN ?_ _ | refine blk_drew ?_ | refine blk_alloc ?_ _)); exact BK104.out⟩, ⟨by (with_reducible repeat (first | refine blk_drewN ?_ _ | refine blk_drew ?_ | refine blk_alloc ?_ _)); refine blk_put (cs := #[.int .i64 ((rd_T44 l0 0).f0), .int .i64 ((rd_T44 l0 0).f1), .int .i64 ((rd_T44 l0 0).f0), .int .i64 0]) ?_ 3 _ rfl; (with_reducible repeat (first | refine blk_drewN ?_ _ | refine blk_drew ?_ | refine blk_alloc ?_ _)); refine blk_put (cs := #[.int .i64 ((rd_T44 l0 0).f0), .int .i64 ((rd_T44 l0 0).f1), .int .i64 0, .int .i64 0]) ?_ 2 _ rfl; (with_reducible repeat (first | refine blk_drewN ?_ _ | refine blk_drew ?_ | refine blk_alloc ?_ _)); refine blk_put (cs := #[.int .i64 ((rd_T44 l0 0).f0), .int .i64 0, .int .i64 0, .int .i64 0]) ?_ 1 _ rfl; (with_reducible repeat (first | refine blk_drewN ?_ _ | refine blk_drew ?_ | refine blk_alloc ?_ _)); refine blk_put (cs := #[.int .i64 0, .int .i64 0, .int .i64 0, .int .i64 0]) ?_ 0 _ rfl; (with_reducible repeat (first | refine blk_drewN ?_ _ | refine blk_drew ?_ | refine blk_alloc ?_ _)); exact BK107.out⟩, ⟨Hd.b_⟩⟩
   case round =>
    clear H'
    try clear p1
    try clear q1
    try clear hx1
    try clear qi1
    try clear c2
    try clear c2b0
    try clear c2b1
    try clear c2b2
    try clear p2
    try clear c4
    try clear c5
    try clear c5b0
    try clear c5b1
    try clear p10
    try clear q10
    try clear hx10
    try clear qi10
    try clear hcz4_0
    try clear hcz4_1
    try clear hcz4_2
    try clear hcz4_3
    try clear hfz4_0
    try clear hfz4_1
    try clear hfz4_2
    try clear hfz4_3
    try clear hx105_0
    try clear hx105_1
    try clear hx106_0
    try clear hx106_1
    try clear p105
    try clear p106
    try clear q105
    try clear q106
    obtain ⟨x5_1, x105000_1, x105001_1, x105002_1, x105003_1, x108000_1, x108001_1, x108002_1, x108003_1, rfl, HA, HK1, BK104, BK107, HB⟩ := hrel
    cases gk with
    | zero => exact absurd HA.out (by simp [spec_BoxOf.l0])
    | succ k1 =>
     have H := HA.out
     clear HA
     simp only [spec_BoxOf.l0] at H
     by_cases c13 : x5_1 < (l0.length : Int)
     ·
      rw [if_pos c13] at H
      have c13b0 : decide (x5_1 < (l0.length : Int)) = true := decide_eq_true c13
      clear c13
      by_cases c14 : 0 ≤ x5_1
      ·
       rw [if_pos c14] at H
       have c14b0 : decide (0 ≤ x5_1) = true := decide_eq_true c14
       clear c14
       replace H := Option.bind_eq_some_iff.mp H
       obtain ⟨t109, A150, H⟩ := H
       replace H : (if t109 = true then ((spec_Min.f x108000_1 ((rd_T44 l0 x5_1).f0)).bind fun t111 => ((spec_Min.f x108001_1 ((rd_T44 l0 x5_1).f1)).bind fun t113 => ((spec_Max.f x108002_1 ((rd_T44 l0 x5_1).f0)).bind fun t115 => ((spec_Max.f x108003_1 ((rd_T44 l0 x5_1).f1)).bind fun t117 => (spec_BoxOf.l0 k1 l0 (wrap64 (x5_1 + 1)) t111 t113 t115 t117))))) else (some (0, 0, 0, 0, false))) = some (r1, r2, r3, r4, r5) := H
       have A15 := Aside0.mk A150
       clear A150
       by_cases c16 : t109 = true
       ·
        subst c16
        have H1 : ((spec_Min.f x108000_1 ((rd_T44 l0 x5_1).f0)).bind fun t111 => ((spec_Min.f x108001_1 ((rd_T44 l0 x5_1).f1)).bind fun t113 => ((spec_Max.f x108002_1 ((rd_T44 l0 x5_1).f0)).bind fun t115 => ((spec_Max.f x108003_1 ((rd_T44 l0 x5_1).f1)).bind fun t117 => (spec_BoxOf.l0 k1 l0 (wrap64 (x5_1 + 1)) t111 t113 t115 t117))))) = some (r1, r2, r3, r4, r5) := by rw [if_pos rfl] at H; exact H
        clear H
        have H := H1
        clear H1
        replace H := Option.bind_eq_some_iff.mp H
        obtain ⟨t111, A170, H⟩ := H
        replace H : ((spec_Min.f x108001_1 ((rd_T44 l0 x5_1).f1)).bind fun t113 => ((spec_Max.f x108002_1 ((rd_T44 l0 x5_1).f0)).bind fun t115 => ((spec_Max.f x108003_1 ((rd_T44 l0 x5_1).f1)).bind fun t117 => (spec_BoxOf.l0 k1 l0 (wrap64 (x5_1 + 1)) t111 t113 t115 t117)))) = some (r1, r2, r3, r4, r5) := H
        have A17 := Aside0.mk A170
        clear A170
        replace H := Option.bind_eq_some_iff.mp H
        obtain ⟨t113, A180, H⟩ := H
        replace H : ((spec_Max.f x108002_1 ((rd_T44 l0 x5_1).f0)).bind fun t115 => ((spec_Max.f x108003_1 ((rd_T44 l0 x5_1).f1)).bind fun t117 => (spec_BoxOf.l0 k1 l0 (wrap64 (x5_1 + 1)) t111 t113 t115 t117))) = some (r1, r2, r3, r4, r5) := H
        have A18 := Aside0.mk A180
        clear A180
        replace H := Option.bind_eq_some_iff.mp H
        obtain ⟨t115, A190, H⟩ := H
        replace H : ((spec_Max.f x108003_1 ((rd_T44 l0 x5_1).f1)).bind fun t117 => (spec_BoxOf.l0 k1 l0 (wrap64 (x5_1 + 1)) t111 t113 t115 t117)) = some (r1, r2, r3, r4, r5) := H
        have A19 := Aside0.mk A190
        clear A190
        replace H := Option.bind_eq_some_iff.mp H
        obtain ⟨t117, A200, H⟩ := H
        replace H : (spec_BoxOf.l0 k1 l0 (wrap64 (x5_1 + 1)) t111 t113 t115 t117) = some (r1, r2, r3, r4, r5) := H
        have A20 := Aside0.mk A200
        clear A200
        have H' := Aside0.mk H
        clear H
        have p108 : 0 ≤ (x5_1 : Int) := of_decide_eq_true Hd.a_
        have q108 : x5_1 < (l0.length : Int) := of_decide_eq_true Hd.a_
        obtain ⟨ad108, e108, hx108_0, hx108_1⟩ := at_T44 HR0.out x5_1 p108 q108
        obtain rfl : ad105 = ad108 := (by injection e108)
        replace hx108_0 := (HB.out.cell (World.block_lt_of_cell? w _ hx108_0)).trans hx108_0
        replace hx108_1 := (HB.out.cell (World.block_lt_of_cell? w _ hx108_1)).trans hx108_1
        replace p108 := eq_true p108
        replace q108 := eq_true q108
        try go_wp2_with (first | ((with_reducible refine gate_callee (f := 87) rfl ?_); refine goesL_ (some 27) rfl rfl Try.func87 (by kernel_rfl) rfl #[.agg #[.int .i64 ((rd_T44 l0 x5_1).f0), .int .i64 ((rd_T44 l0 x5_1).f1)]] rfl Hd.m_ ?_; (with_reducible refine (spec_IsPoint.calls ((rd_T44 l0 x5_1).f0) ((rd_T44 l0 x5_1).f1) true _ A15.out).mono ?_); rintro e w21 ⟨rfl, hb⟩; refine ⟨_, rfl, ?_⟩; replace BK104 := Aside0.mk (Hd.kb_ BK104 hb); replace BK107 := Aside0.mk (Hd.kb_ BK107 hb); replace HB := Aside0.mk (below_step Hd.b_ hb); (try clear hb); (try clear hb2); (try clear hk); (try clear hi)))
        replace BK104 := Aside0.mk (blk_drew BK104.out)
        replace BK107 := Aside0.mk (blk_drew BK107.out)
        replace HB := Aside0.mk (below_drew1 HB.out)
        have p110 : 0 ≤ (x5_1 : Int) := of_decide_eq_true Hd.a_
        have q110 : x5_1 < (l0.length : Int) := of_decide_eq_true Hd.a_
        obtain ⟨ad110, e110, hx110_0, hx110_1⟩ := at_T44 HR0.out x5_1 p110 q110
        have hw110_1 := hx110_1
        have hw110_0 := hx110_0
        obtain rfl : ad105 = ad110 := (by injection e110)
        replace hx110_0 := (HB.out.cell (World.block_lt_of_cell? w _ hx110_0)).trans hx110_0
        replace hx110_1 := (HB.out.cell (World.block_lt_of_cell? w _ hx110_1)).trans hx110_1
        replace p110 := eq_true p110
        replace q110 := eq_true q110
        refine start_ (n := 12) (S := fun w' => w'.cell? ⟨gb107, 0, none⟩ = some (.int .i64 x108000_1) ∧ w'.cell? ⟨gb107, 1, none⟩ = some (.int .i64 x108001_1) ∧ w'.cell? ⟨gb107, 2, none⟩ = some (.int .i64 x108002_1) ∧ w'.cell? ⟨gb107, 3, none⟩ = some (.int .i64 x108003_1) ∧ w'.cell? (ad105.add ((x5_1).toNat * 2)) = some (.int .i64 ((rd_T44 l0 x5_1).f0)) ∧ w'.cell? ⟨(ad105.add ((x5_1).toNat * 2)).block, (ad105.add ((x5_1).toNat * 2)).off + 1, none⟩ = some (.int .i64 ((rd_T44 l0 x5_1).f1))) (ds := [11]) #[false, false, false, false, false, false, false, false, false, false, false, false] (by kernel_rfl) rfl rfl ⟨(blk_cell BK107.out 0).trans rfl, (blk_cell BK107.out 1).trans rfl, (blk_cell BK107.out 2).trans rfl, (blk_cell BK107.out 3).trans rfl, ((HB.out.cell (World.block_lt_of_cell? w _ hw110_0)).trans hw110_0), ((HB.out.cell (World.block_lt_of_cell? w _ hw110_1)).trans hw110_1)⟩ (fun hHeld => ?_); refine with_tabW spec_BoxOf.tab9 spec_BoxOf.bits9 (fun HT_ HW_ => ?_)
        generalize w21.drew = w22 at BK104 BK107 HB hx110_0 hx110_1 hHeld ⊢
        refine Hd.p_ HT_ 0 (some 30) #[true, false, false, false, false, false, false, false, false, false, false, false] ?_
        refine Hd.p_ HT_ 1 (some 31) #[true, true, false, false, false, false, false, false, false, false, false, false] ?_
        refine Hd.p_ HT_ 3 (some 33) #[true, true, false, true, false, false, false, false, false, false, false, false] ?_
        refine Hd.p_ HT_ 4 (some 34) #[true, true, false, true, true, false, false, false, false, false, false, false] ?_
        refine Hd.p_ HT_ 5 (some 35) #[true, true, false, true, true, true, false, false, false, false, false, false] ?_
        refine Hd.p_ HT_ 6 (some 36) #[true, true, false, true, true, true, true, false, false, false, false, false] ?_
        refine Hd.t_ HT_ HW_ hHeld 2 (some 32) #[true, true, true, true, true, true, true, false, false, false, false, false] ?_
        refine Hd.t_ HT_ HW_ hHeld 7 (some 37) #[true, true, true, true, true, true, true, true, false, false, false, false] ?_
        refine Hd.o_ HT_ 8 (some 38) #[true, true, true, true, true, true, true, true, true, false, false, false] (fun K hK => ?_)
        refine goes_ Try.func104 (by kernel_rfl) rfl #[.int .i64 x108000_1, .int .i64 ((rd_T44 l0 x5_1).f0)] (by rfl) rfl rfl Hd.m_ ?_
        with_reducible refine (spec_Min.calls x108000_1 ((rd_T44 l0 x5_1).f0) t111 _ A17.out).mono ?_
        rintro e w' ⟨rfl, ⟨nd, rfl⟩⟩
        refine ⟨_, rfl, ?_⟩
        replace BK104 := Aside0.mk (blk_drewN BK104.out nd)
        replace BK107 := Aside0.mk (blk_drewN BK107.out nd)
        replace HB := Aside0.mk (pw_below_drewN HB.out nd)
        generalize w22.drewN nd = w22 at BK104 BK107 HB ⊢
        refine hK.out _ _ ⟨(blk_cell BK107.out 0).trans rfl, (blk_cell BK107.out 1).trans rfl, (blk_cell BK107.out 2).trans rfl, (blk_cell BK107.out 3).trans rfl, ((HB.out.cell (World.block_lt_of_cell? w _ hw110_0)).trans hw110_0), ((HB.out.cell (World.block_lt_of_cell? w _ hw110_1)).trans hw110_1)⟩ (fun hHeld => ?_)
        clear hK K
        refine Hd.n_ (some 38) ?_
        refine Hd.p_ HT_ 9 (some 39) #[true, true, true, true, true, true, true, true, true, true, false, false] ?_
        refine Hd.p_ HT_ 10 (some 40) #[true, true, true, true, true, true, true, true, true, true, true, false] ?_
        refine last_ (i := 11) (N := none) #[true, true, true, true, true, true, true, true, true, true, true, true] rfl rfl (one_of HT_.out (by kernel_rfl)) (by decide) (fun K hK => ?_)
        have hs23 : w22.cell? ⟨gb107, 0, none⟩ = some (.int .i64 x108000_1) := (blk_cell BK107.out 0).trans rfl
        have hfs23 := blk_frozen BK107.out 0
        have hns23_0 := NB104_107.out
        have hms23_0 := NB107_104.out
        refine skip_ (w1 := ?_) (by rfl) rfl ?_ ?_
        rotate_left
        ·
         go_simp
         rfl
        refine hK.out _ _ ?_
        clear hK K
        refine done_ (done_of HT_.out (by kernel_rfl)) ?_
        try go_wp2
        have n0_ : Aside0 ((w22.setCell ⟨gb107, 0, none⟩ (.int .i64 t111)).heap[gb104]? = some (.cells #[.int .i64 x105000_1, .int .i64 x105001_1, .int .i64 x105002_1, .int .i64 x105003_1] 66 (0, 0))) := ⟨by (with_reducible repeat (first | refine blk_drewN ?_ _ | refine blk_drew ?_ | refine blk_alloc ?_ _)); refine blk_far ?_ NB104_107.out _; (with_reducible repeat (first | refine blk_drewN ?_ _ | refine blk_drew ?_ | refine blk_alloc ?_ _)); exact BK104.out⟩
        have n1_ : Aside0 ((w22.setCell ⟨gb107, 0, none⟩ (.int .i64 t111)).heap[gb107]? = some (.cells #[.int .i64 t111, .int .i64 x108001_1, .int .i64 x108002_1, .int .i64 x108003_1] 66 (0, 0))) := ⟨by (with_reducible repeat (first | refine blk_drewN ?_ _ | refine blk_drew ?_ | refine blk_alloc ?_ _)); refine blk_put (cs := #[.int .i64 x108000_1, .int .i64 x108001_1, .int .i64 x108002_1, .int .i64 x108003_1]) ?_ 0 _ rfl; (with_reducible repeat (first | refine blk_drewN ?_ _ | refine blk_drew ?_ | refine blk_alloc ?_ _)); exact BK107.out⟩
        have n2_ : Aside0 (Below w.heap.size w (w22.setCell ⟨gb107, 0, none⟩ (.int .i64 t111))) := ⟨Hd.b_⟩
        (try clear BK104)
        (try clear BK107)
        (try clear HB)
        generalize (w22.setCell ⟨gb107, 0, none⟩ (.int .i64 t111)) = w24 at n0_ n1_ n2_ ⊢
        have BK104 := n0_
        have BK107 := n1_
        have HB := n2_
        clear n0_ n1_ n2_
        (try (rw [drewN_self w24]; generalize hq_ : World.drewN w24 _ = w24; have n0_ : Aside0 (w24.heap[gb104]? = some (.cells #[.int .i64 x105000_1, .int .i64 x105001_1, .int .i64 x105002_1, .int .i64 x105003_1] 66 (0, 0))) := ⟨by rw [← hq_]; exact (Hd.k_ BK104)⟩; have n1_ : Aside0 (w24.heap[gb107]? = some (.cells #[.int .i64 t111, .int .i64 x108001_1, .int .i64 x108002_1, .int .i64 x108003_1] 66 (0, 0))) := ⟨by rw [← hq_]; exact (Hd.k_ BK107)⟩; have n2_ : Aside0 (Below w.heap.size w w24) := ⟨by rw [← hq_]; exact Hd.b_⟩; clear BK104 BK107 HB hq_; have BK104 := n0_; have BK107 := n1_; have HB := n2_; clear n0_ n1_ n2_))
        replace BK104 := Aside0.mk (blk_drew BK104.out)
        replace BK107 := Aside0.mk (blk_drew BK107.out)
        replace HB := Aside0.mk (below_drew1 HB.out)
        have p112 : 0 ≤ (x5_1 : Int) := of_decide_eq_true Hd.a_
        have q112 : x5_1 < (l0.length : Int) := of_decide_eq_true Hd.a_
        obtain ⟨ad112, e112, hx112_0, hx112_1⟩ := at_T44 HR0.out x5_1 p112 q112
        have hw112_1 := hx112_1
        have hw112_0 := hx112_0
        obtain rfl : ad105 = ad112 := (by injection e112)
        replace hx112_0 := (HB.out.cell (World.block_lt_of_cell? w _ hx112_0)).trans hx112_0
        replace hx112_1 := (HB.out.cell (World.block_lt_of_cell? w _ hx112_1)).trans hx112_1
        replace p112 := eq_true p112
        replace q112 := eq_true q112
        refine start_ (n := 12) (S := fun w' => w'.cell? ⟨gb107, 0, none⟩ = some (.int .i64 t111) ∧ w'.cell? ⟨gb107, 1, none⟩ = some (.int .i64 x108001_1) ∧ w'.cell? ⟨gb107, 2, none⟩ = some (.int .i64 x108002_1) ∧ w'.cell? ⟨gb107, 3, none⟩ = some (.int .i64 x108003_1) ∧ w'.cell? (ad105.add ((x5_1).toNat * 2)) = some (.int .i64 ((rd_T44 l0 x5_1).f0)) ∧ w'.cell? ⟨(ad105.add ((x5_1).toNat * 2)).block, (ad105.add ((x5_1).toNat * 2)).off + 1, none⟩ = some (.int .i64 ((rd_T44 l0 x5_1).f1))) (ds := [11]) #[false, false, false, false, false, false, false, false, false, false, false, false] (by kernel_rfl) rfl rfl ⟨(blk_cell BK107.out 0).trans rfl, (blk_cell BK107.out 1).trans rfl, (blk_cell BK107.out 2).trans rfl, (blk_cell BK107.out 3).trans rfl, ((HB.out.cell (World.block_lt_of_cell? w _ hw112_0)).trans hw112_0), ((HB.out.cell (World.block_lt_of_cell? w _ hw112_1)).trans hw112_1)⟩ (fun hHeld => ?_); refine with_tabW spec_BoxOf.tab10 spec_BoxOf.bits10 (fun HT_ HW_ => ?_)
        generalize w24.drew = w25 at BK104 BK107 HB hx112_0 hx112_1 hHeld ⊢
        refine Hd.p_ HT_ 0 (some 41) #[true, false, false, false, false, false, false, false, false, false, false, false] ?_
        refine Hd.p_ HT_ 1 (some 42) #[true, true, false, false, false, false, false, false, false, false, false, false] ?_
        refine Hd.p_ HT_ 3 (some 44) #[true, true, false, true, false, false, false, false, false, false, false, false] ?_
        refine Hd.p_ HT_ 4 (some 45) #[true, true, false, true, true, false, false, false, false, false, false, false] ?_
        refine Hd.p_ HT_ 5 (some 46) #[true, true, false, true, true, true, false, false, false, false, false, false] ?_
        refine Hd.p_ HT_ 6 (some 47) #[true, true, false, true, true, true, true, false, false, false, false, false] ?_
        refine Hd.t_ HT_ HW_ hHeld 2 (some 43) #[true, true, true, true, true, true, true, false, false, false, false, false] ?_
        refine Hd.t_ HT_ HW_ hHeld 7 (some 48) #[true, true, true, true, true, true, true, true, false, false, false, false] ?_
        refine Hd.o_ HT_ 8 (some 49) #[true, true, true, true, true, true, true, true, true, false, false, false] (fun K hK => ?_)
        refine goes_ Try.func104 (by kernel_rfl) rfl #[.int .i64 x108001_1, .int .i64 ((rd_T44 l0 x5_1).f1)] (by rfl) rfl rfl Hd.m_ ?_
        with_reducible refine (spec_Min.calls x108001_1 ((rd_T44 l0 x5_1).f1) t113 _ A18.out).mono ?_
        rintro e w' ⟨rfl, ⟨nd, rfl⟩⟩
        refine ⟨_, rfl, ?_⟩
        replace BK104 := Aside0.mk (blk_drewN BK104.out nd)
        replace BK107 := Aside0.mk (blk_drewN BK107.out nd)
        replace HB := Aside0.mk (pw_below_drewN HB.out nd)
        generalize w25.drewN nd = w25 at BK104 BK107 HB ⊢
        refine hK.out _ _ ⟨(blk_cell BK107.out 0).trans rfl, (blk_cell BK107.out 1).trans rfl, (blk_cell BK107.out 2).trans rfl, (blk_cell BK107.out 3).trans rfl, ((HB.out.cell (World.block_lt_of_cell? w _ hw112_0)).trans hw112_0), ((HB.out.cell (World.block_lt_of_cell? w _ hw112_1)).trans hw112_1)⟩ (fun hHeld => ?_)
        clear hK K
        refine Hd.n_ (some 49) ?_
        refine Hd.p_ HT_ 9 (some 50) #[true, true, true, true, true, true, true, true, true, true, false, false] ?_
        refine Hd.p_ HT_ 10 (some 51) #[true, true, true, true, true, true, true, true, true, true, true, false] ?_
        refine last_ (i := 11) (N := none) #[true, true, true, true, true, true, true, true, true, true, true, true] rfl rfl (one_of HT_.out (by kernel_rfl)) (by decide) (fun K hK => ?_)
        have hs26 : w25.cell? ⟨gb107, 1, none⟩ = some (.int .i64 x108001_1) := (blk_cell BK107.out 1).trans rfl
        have hfs26 := blk_frozen BK107.out 1
        have hns26_0 := NB104_107.out
        have hms26_0 := NB107_104.out
        refine skip_ (w1 := ?_) (by rfl) rfl ?_ ?_
        rotate_left
        ·
         go_simp
         rfl
        refine hK.out _ _ ?_
        clear hK K
        refine done_ (done_of HT_.out (by kernel_rfl)) ?_
        try go_wp2
        have n0_ : Aside0 ((w25.setCell ⟨gb107, 1, none⟩ (.int .i64 t113)).heap[gb104]? = some (.cells #[.int .i64 x105000_1, .int .i64 x105001_1, .int .i64 x105002_1, .int .i64 x105003_1] 66 (0, 0))) := ⟨by (with_reducible repeat (first | refine blk_drewN ?_ _ | refine blk_drew ?_ | refine blk_alloc ?_ _)); refine blk_far ?_ NB104_107.out _; (with_reducible repeat (first | refine blk_drewN ?_ _ | refine blk_drew ?_ | refine blk_alloc ?_ _)); exact BK104.out⟩
        have n1_ : Aside0 ((w25.setCell ⟨gb107, 1, none⟩ (.int .i64 t113)).heap[gb107]? = some (.cells #[.int .i64 t111, .int .i64 t113, .int .i64 x108002_1, .int .i64 x108003_1] 66 (0, 0))) := ⟨by (with_reducible repeat (first | refine blk_drewN ?_ _ | refine blk_drew ?_ | refine blk_alloc ?_ _)); refine blk_put (cs := #[.int .i64 t111, .int .i64 x108001_1, .int .i64 x108002_1, .int .i64 x108003_1]) ?_ 1 _ rfl; (with_reducible repeat (first | refine blk_drewN ?_ _ | refine blk_drew ?_ | refine blk_alloc ?_ _)); exact BK107.out⟩
        have n2_ : Aside0 (Below w.heap.size w (w25.setCell ⟨gb107, 1, none⟩ (.int .i64 t113))) := ⟨Hd.b_⟩
        (try clear BK104)
        (try clear BK107)
        (try clear HB)
        generalize (w25.setCell ⟨gb107, 1, none⟩ (.int .i64 t113)) = w27 at n0_ n1_ n2_ ⊢
        have BK104 := n0_
        have BK107 := n1_
        have HB := n2_
        clear n0_ n1_ n2_
        (try (rw [drewN_self w27]; generalize hq_ : World.drewN w27 _ = w27; have n0_ : Aside0 (w27.heap[gb104]? = some (.cells #[.int .i64 x105000_1, .int .i64 x105001_1, .int .i64 x105002_1, .int .i64 x105003_1] 66 (0, 0))) := ⟨by rw [← hq_]; exact (Hd.k_ BK104)⟩; have n1_ : Aside0 (w27.heap[gb107]? = some (.cells #[.int .i64 t111, .int .i64 t113, .int .i64 x108002_1, .int .i64 x108003_1] 66 (0, 0))) := ⟨by rw [← hq_]; exact (Hd.k_ BK107)⟩; have n2_ : Aside0 (Below w.heap.size w w27) := ⟨by rw [← hq_]; exact Hd.b_⟩; clear BK104 BK107 HB hq_; have BK104 := n0_; have BK107 := n1_; have HB := n2_; clear n0_ n1_ n2_))
        replace BK104 := Aside0.mk (blk_drew BK104.out)
        replace BK107 := Aside0.mk (blk_drew BK107.out)
        replace HB := Aside0.mk (below_drew1 HB.out)
        have p114 : 0 ≤ (x5_1 : Int) := of_decide_eq_true Hd.a_
        have q114 : x5_1 < (l0.length : Int) := of_decide_eq_true Hd.a_
        obtain ⟨ad114, e114, hx114_0, hx114_1⟩ := at_T44 HR0.out x5_1 p114 q114
        have hw114_1 := hx114_1
        have hw114_0 := hx114_0
        obtain rfl : ad105 = ad114 := (by injection e114)
        replace hx114_0 := (HB.out.cell (World.block_lt_of_cell? w _ hx114_0)).trans hx114_0
        replace hx114_1 := (HB.out.cell (World.block_lt_of_cell? w _ hx114_1)).trans hx114_1
        replace p114 := eq_true p114
        replace q114 := eq_true q114
        refine start_ (n := 12) (S := fun w' => w'.cell? ⟨gb107, 0, none⟩ = some (.int .i64 t111) ∧ w'.cell? ⟨gb107, 1, none⟩ = some (.int .i64 t113) ∧ w'.cell? ⟨gb107, 2, none⟩ = some (.int .i64 x108002_1) ∧ w'.cell? ⟨gb107, 3, none⟩ = some (.int .i64 x108003_1) ∧ w'.cell? (ad105.add ((x5_1).toNat * 2)) = some (.int .i64 ((rd_T44 l0 x5_1).f0)) ∧ w'.cell? ⟨(ad105.add ((x5_1).toNat * 2)).block, (ad105.add ((x5_1).toNat * 2)).off + 1, none⟩ = some (.int .i64 ((rd_T44 l0 x5_1).f1))) (ds := [11]) #[false, false, false, false, false, false, false, false, false, false, false, false] (by kernel_rfl) rfl rfl ⟨(blk_cell BK107.out 0).trans rfl, (blk_cell BK107.out 1).trans rfl, (blk_cell BK107.out 2).trans rfl, (blk_cell BK107.out 3).trans rfl, ((HB.out.cell (World.block_lt_of_cell? w _ hw114_0)).trans hw114_0), ((HB.out.cell (World.block_lt_of_cell? w _ hw114_1)).trans hw114_1)⟩ (fun hHeld => ?_); refine with_tabW spec_BoxOf.tab11 spec_BoxOf.bits11 (fun HT_ HW_ => ?_)
        generalize w27.drew = w28 at BK104 BK107 HB hx114_0 hx114_1 hHeld ⊢
        refine Hd.p_ HT_ 0 (some 52) #[true, false, false, false, false, false, false, false, false, false, false, false] ?_
        refine Hd.p_ HT_ 1 (some 53) #[true, true, false, false, false, false, false, false, false, false, false, false] ?_
        refine Hd.p_ HT_ 3 (some 55) #[true, true, false, true, false, false, false, false, false, false, false, false] ?_
        refine Hd.p_ HT_ 4 (some 56) #[true, true, false, true, true, false, false, false, false, false, false, false] ?_
        refine Hd.p_ HT_ 5 (some 57) #[true, true, false, true, true, true, false, false, false, false, false, false] ?_
        refine Hd.p_ HT_ 6 (some 58) #[true, true, false, true, true, true, true, false, false, false, false, false] ?_
        refine Hd.t_ HT_ HW_ hHeld 2 (some 54) #[true, true, true, true, true, true, true, false, false, false, false, false] ?_
        refine Hd.t_ HT_ HW_ hHeld 7 (some 59) #[true, true, true, true, true, true, true, true, false, false, false, false] ?_
        refine Hd.o_ HT_ 8 (some 60) #[true, true, true, true, true, true, true, true, true, false, false, false] (fun K hK => ?_)
        refine goes_ Try.func98 (by kernel_rfl) rfl #[.int .i64 x108002_1, .int .i64 ((rd_T44 l0 x5_1).f0)] (by rfl) rfl rfl Hd.m_ ?_
        with_reducible refine (spec_Max.calls x108002_1 ((rd_T44 l0 x5_1).f0) t115 _ A19.out).mono ?_
        rintro e w' ⟨rfl, ⟨nd, rfl⟩⟩
        refine ⟨_, rfl, ?_⟩
        replace BK104 := Aside0.mk (blk_drewN BK104.out nd)
        replace BK107 := Aside0.mk (blk_drewN BK107.out nd)
        replace HB := Aside0.mk (pw_below_drewN HB.out nd)
        generalize w28.drewN nd = w28 at BK104 BK107 HB ⊢
        refine hK.out _ _ ⟨(blk_cell BK107.out 0).trans rfl, (blk_cell BK107.out 1).trans rfl, (blk_cell BK107.out 2).trans rfl, (blk_cell BK107.out 3).trans rfl, ((HB.out.cell (World.block_lt_of_cell? w _ hw114_0)).trans hw114_0), ((HB.out.cell (World.block_lt_of_cell? w _ hw114_1)).trans hw114_1)⟩ (fun hHeld => ?_)
        clear hK K
        refine Hd.n_ (some 60) ?_
        refine Hd.p_ HT_ 9 (some 61) #[true, true, true, true, true, true, true, true, true, true, false, false] ?_
        refine Hd.p_ HT_ 10 (some 62) #[true, true, true, true, true, true, true, true, true, true, true, false] ?_
        refine last_ (i := 11) (N := none) #[true, true, true, true, true, true, true, true, true, true, true, true] rfl rfl (one_of HT_.out (by kernel_rfl)) (by decide) (fun K hK => ?_)
        have hs29 : w28.cell? ⟨gb107, 2, none⟩ = some (.int .i64 x108002_1) := (blk_cell BK107.out 2).trans rfl
        have hfs29 := blk_frozen BK107.out 2
        have hns29_0 := NB104_107.out
        have hms29_0 := NB107_104.out
        refine skip_ (w1 := ?_) (by rfl) rfl ?_ ?_
        rotate_left
        ·
         go_simp
         rfl
        refine hK.out _ _ ?_
        clear hK K
        refine done_ (done_of HT_.out (by kernel_rfl)) ?_
        try go_wp2
        have n0_ : Aside0 ((w28.setCell ⟨gb107, 2, none⟩ (.int .i64 t115)).heap[gb104]? = some (.cells #[.int .i64 x105000_1, .int .i64 x105001_1, .int .i64 x105002_1, .int .i64 x105003_1] 66 (0, 0))) := ⟨by (with_reducible repeat (first | refine blk_drewN ?_ _ | refine blk_drew ?_ | refine blk_alloc ?_ _)); refine blk_far ?_ NB104_107.out _; (with_reducible repeat (first | refine blk_drewN ?_ _ | refine blk_drew ?_ | refine blk_alloc ?_ _)); exact BK104.out⟩
        have n1_ : Aside0 ((w28.setCell ⟨gb107, 2, none⟩ (.int .i64 t115)).heap[gb107]? = some (.cells #[.int .i64 t111, .int .i64 t113, .int .i64 t115, .int .i64 x108003_1] 66 (0, 0))) := ⟨by (with_reducible repeat (first | refine blk_drewN ?_ _ | refine blk_drew ?_ | refine blk_alloc ?_ _)); refine blk_put (cs := #[.int .i64 t111, .int .i64 t113, .int .i64 x108002_1, .int .i64 x108003_1]) ?_ 2 _ rfl; (with_reducible repeat (first | refine blk_drewN ?_ _ | refine blk_drew ?_ | refine blk_alloc ?_ _)); exact BK107.out⟩
        have n2_ : Aside0 (Below w.heap.size w (w28.setCell ⟨gb107, 2, none⟩ (.int .i64 t115))) := ⟨Hd.b_⟩
        (try clear BK104)
        (try clear BK107)
        (try clear HB)
        generalize (w28.setCell ⟨gb107, 2, none⟩ (.int .i64 t115)) = w30 at n0_ n1_ n2_ ⊢
        have BK104 := n0_
        have BK107 := n1_
        have HB := n2_
        clear n0_ n1_ n2_
        (try (rw [drewN_self w30]; generalize hq_ : World.drewN w30 _ = w30; have n0_ : Aside0 (w30.heap[gb104]? = some (.cells #[.int .i64 x105000_1, .int .i64 x105001_1, .int .i64 x105002_1, .int .i64 x105003_1] 66 (0, 0))) := ⟨by rw [← hq_]; exact (Hd.k_ BK104)⟩; have n1_ : Aside0 (w30.heap[gb107]? = some (.cells #[.int .i64 t111, .int .i64 t113, .int .i64 t115, .int .i64 x108003_1] 66 (0, 0))) := ⟨by rw [← hq_]; exact (Hd.k_ BK107)⟩; have n2_ : Aside0 (Below w.heap.size w w30) := ⟨by rw [← hq_]; exact Hd.b_⟩; clear BK104 BK107 HB hq_; have BK104 := n0_; have BK107 := n1_; have HB := n2_; clear n0_ n1_ n2_))
        replace BK104 := Aside0.mk (blk_drew BK104.out)
        replace BK107 := Aside0.mk (blk_drew BK107.out)
        replace HB := Aside0.mk (below_drew1 HB.out)
        have p116 : 0 ≤ (x5_1 : Int) := of_decide_eq_true Hd.a_
        have q116 : x5_1 < (l0.length : Int) := of_decide_eq_true Hd.a_
        obtain ⟨ad116, e116, hx116_0, hx116_1⟩ := at_T44 HR0.out x5_1 p116 q116
        have hw116_1 := hx116_1
        have hw116_0 := hx116_0
        obtain rfl : ad105 = ad116 := (by injection e116)
        replace hx116_0 := (HB.out.cell (World.block_lt_of_cell? w _ hx116_0)).trans hx116_0
        replace hx116_1 := (HB.out.cell (World.block_lt_of_cell? w _ hx116_1)).trans hx116_1
        replace p116 := eq_true p116
        replace q116 := eq_true q116
        refine start_ (n := 12) (S := fun w' => w'.cell? ⟨gb107, 0, none⟩ = some (.int .i64 t111) ∧ w'.cell? ⟨gb107, 1, none⟩ = some (.int .i64 t113) ∧ w'.cell? ⟨gb107, 2, none⟩ = some (.int .i64 t115) ∧ w'.cell? ⟨gb107, 3, none⟩ = some (.int .i64 x108003_1) ∧ w'.cell? (ad105.add ((x5_1).toNat * 2)) = some (.int .i64 ((rd_T44 l0 x5_1).f0)) ∧ w'.cell? ⟨(ad105.add ((x5_1).toNat * 2)).block, (ad105.add ((x5_1).toNat * 2)).off + 1, none⟩ = some (.int .i64 ((rd_T44 l0 x5_1).f1))) (ds := [11]) #[false, false, false, false, false, false, false, false, false, false, false, false] (by kernel_rfl) rfl rfl ⟨(blk_cell BK107.out 0).trans rfl, (blk_cell BK107.out 1).trans rfl, (blk_cell BK107.out 2).trans rfl, (blk_cell BK107.out 3).trans rfl, ((HB.out.cell (World.block_lt_of_cell? w _ hw116_0)).trans hw116_0), ((HB.out.cell (World.block_lt_of_cell? w _ hw116_1)).trans hw116_1)⟩ (fun hHeld => ?_); refine with_tabW spec_BoxOf.tab12 spec_BoxOf.bits12 (fun HT_ HW_ => ?_)
        generalize w30.drew = w31 at BK104 BK107 HB hx116_0 hx116_1 hHeld ⊢
        refine Hd.p_ HT_ 0 (some 63) #[true, false, false, false, false, false, false, false, false, false, false, false] ?_
        refine Hd.p_ HT_ 1 (some 64) #[true, true, false, false, false, false, false, false, false, false, false, false] ?_
        refine Hd.p_ HT_ 3 (some 66) #[true, true, false, true, false, false, false, false, false, false, false, false] ?_
        refine Hd.p_ HT_ 4 (some 67) #[true, true, false, true, true, false, false, false, false, false, false, false] ?_
        refine Hd.p_ HT_ 5 (some 68) #[true, true, false, true, true, true, false, false, false, false, false, false] ?_
        refine Hd.p_ HT_ 6 (some 69) #[true, true, false, true, true, true, true, false, false, false, false, false] ?_
        refine Hd.t_ HT_ HW_ hHeld 2 (some 65) #[true, true, true, true, true, true, true, false, false, false, false, false] ?_
        refine Hd.t_ HT_ HW_ hHeld 7 (some 70) #[true, true, true, true, true, true, true, true, false, false, false, false] ?_
        refine Hd.o_ HT_ 8 (some 71) #[true, true, true, true, true, true, true, true, true, false, false, false] (fun K hK => ?_)
        refine goes_ Try.func98 (by kernel_rfl) rfl #[.int .i64 x108003_1, .int .i64 ((rd_T44 l0 x5_1).f1)] (by rfl) rfl rfl Hd.m_ ?_
        with_reducible refine (spec_Max.calls x108003_1 ((rd_T44 l0 x5_1).f1) t117 _ A20.out).mono ?_
        rintro e w' ⟨rfl, ⟨nd, rfl⟩⟩
        refine ⟨_, rfl, ?_⟩
        replace BK104 := Aside0.mk (blk_drewN BK104.out nd)
        replace BK107 := Aside0.mk (blk_drewN BK107.out nd)
        replace HB := Aside0.mk (pw_below_drewN HB.out nd)
        generalize w31.drewN nd = w31 at BK104 BK107 HB ⊢
        refine hK.out _ _ ⟨(blk_cell BK107.out 0).trans rfl, (blk_cell BK107.out 1).trans rfl, (blk_cell BK107.out 2).trans rfl, (blk_cell BK107.out 3).trans rfl, ((HB.out.cell (World.block_lt_of_cell? w _ hw116_0)).trans hw116_0), ((HB.out.cell (World.block_lt_of_cell? w _ hw116_1)).trans hw116_1)⟩ (fun hHeld => ?_)
        clear hK K
        refine Hd.n_ (some 71) ?_
        refine Hd.p_ HT_ 9 (some 72) #[true, true, true, true, true, true, true, true, true, true, false, false] ?_
        refine Hd.p_ HT_ 10 (some 73) #[true, true, true, true, true, true, true, true, true, true, true, false] ?_
        refine last_ (i := 11) (N := none) #[true, true, true, true, true, true, true, true, true, true, true, true] rfl rfl (one_of HT_.out (by kernel_rfl)) (by decide) (fun K hK => ?_)
        have hs32 : w31.cell? ⟨gb107, 3, none⟩ = some (.int .i64 x108003_1) := (blk_cell BK107.out 3).trans rfl
        have hfs32 := blk_frozen BK107.out 3
        have hns32_0 := NB104_107.out
        have hms32_0 := NB107_104.out
        refine skip_ (w1 := ?_) (by rfl) rfl ?_ ?_
        rotate_left
        ·
         go_simp
         rfl
        refine hK.out _ _ ?_
        clear hK K
        refine done_ (done_of HT_.out (by kernel_rfl)) ?_
        try go_wp2
        go_roundg k1
        case measure => have := HK1.out; omega
        case rel => exact ⟨(wrap64 (x5_1 + 1)), (x105000_1), (x105001_1), (x105002_1), (x105003_1), (t111), (t113), (t115), (t117), (by first | rfl | (simp; done) | (simp [*]; done)), H', ⟨by have := HK1.out; omega⟩, ⟨by (with_reducible repeat (first | refine blk_drewN ?_ _ | refine blk_drew ?_ | refine blk_alloc ?_ _)); refine blk_far ?_ NB104_107.out _; (with_reducible repeat (first | refine blk_drewN ?_ _ | refine blk_drew ?_ | refine blk_alloc ?_ _)); exact BK104.out⟩, ⟨by (with_reducible repeat (first | refine blk_drewN ?_ _ | refine blk_drew ?_ | refine blk_alloc ?_ _)); refine blk_put (cs := #[.int .i64 t111, .int .i64 t113, .int .i64 t115, .int .i64 x108003_1]) ?_ 3 _ rfl; (with_reducible repeat (first | refine blk_drewN ?_ _ | refine blk_drew ?_ | refine blk_alloc ?_ _)); exact BK107.out⟩, ⟨Hd.b_⟩⟩
       ·
        replace c16 := Bool.eq_false_iff.mpr c16
        subst c16
        have H1 : (some (0, 0, 0, 0, false)) = some (r1, r2, r3, r4, r5) := by rw [if_neg (show ¬ (false = true) by decide)] at H; exact H
        clear H
        have H := H1
        clear H1
        simp only [Option.some.injEq, Prod.mk.injEq] at H
        obtain ⟨rfl, rfl, rfl, rfl, rfl⟩ := H
        have p108 : 0 ≤ (x5_1 : Int) := of_decide_eq_true Hd.a_
        have q108 : x5_1 < (l0.length : Int) := of_decide_eq_true Hd.a_
        obtain ⟨ad108, e108, hx108_0, hx108_1⟩ := at_T44 HR0.out x5_1 p108 q108
        obtain rfl : ad105 = ad108 := (by injection e108)
        replace hx108_0 := (HB.out.cell (World.block_lt_of_cell? w _ hx108_0)).trans hx108_0
        replace hx108_1 := (HB.out.cell (World.block_lt_of_cell? w _ hx108_1)).trans hx108_1
        replace p108 := eq_true p108
        replace q108 := eq_true q108
        go_wp2_with (first | ((with_reducible refine gate_callee (f := 87) rfl ?_); refine goesL_ (some 27) rfl rfl Try.func87 (by kernel_rfl) rfl #[.agg #[.int .i64 ((rd_T44 l0 x5_1).f0), .int .i64 ((rd_T44 l0 x5_1).f1)]] rfl Hd.m_ ?_; (with_reducible refine (spec_IsPoint.calls ((rd_T44 l0 x5_1).f0) ((rd_T44 l0 x5_1).f1) false _ A15.out).mono ?_); rintro e w33 ⟨rfl, hb⟩; refine ⟨_, rfl, ?_⟩; replace BK104 := Aside0.mk (Hd.kb_ BK104 hb); replace BK107 := Aside0.mk (Hd.kb_ BK107 hb); replace HB := Aside0.mk (below_step Hd.b_ hb); (try clear hb); (try clear hb2); (try clear hk); (try clear hi); have hnb34 := NB104_107.out; have hnc34 := NB107_104.out; obtain ⟨hcz35_0, hcz35_1, hcz35_2, hcz35_3⟩ := Hd.c4_ BK104.out; obtain ⟨hfz35_0, hfz35_1, hfz35_2, hfz35_3⟩ := Hd.f4_ BK104.out))
        refine bodyPost_ret (results_ct rfl _ _ gb104 66 #[.int .i64 0, .int .i64 0, .int .i64 0, .int .i64 0] (0, 0) _ rfl (by (with_reducible repeat (first | refine blk_drewN ?_ _ | refine blk_drew ?_ | refine blk_alloc ?_ _)); refine blk_put (cs := #[.int .i64 0, .int .i64 0, .int .i64 0, .int .i64 x105003_1]) ?_ 3 _ rfl; (with_reducible repeat (first | refine blk_drewN ?_ _ | refine blk_drew ?_ | refine blk_alloc ?_ _)); refine blk_put (cs := #[.int .i64 0, .int .i64 0, .int .i64 x105002_1, .int .i64 x105003_1]) ?_ 2 _ rfl; (with_reducible repeat (first | refine blk_drewN ?_ _ | refine blk_drew ?_ | refine blk_alloc ?_ _)); refine blk_put (cs := #[.int .i64 0, .int .i64 x105001_1, .int .i64 x105002_1, .int .i64 x105003_1]) ?_ 1 _ rfl; (with_reducible repeat (first | refine blk_drewN ?_ _ | refine blk_drew ?_ | refine blk_alloc ?_ _)); refine blk_put (cs := #[.int .i64 x105000_1, .int .i64 x105001_1, .int .i64 x105002_1, .int .i64 x105003_1]) ?_ 0 _ rfl; (with_reducible repeat (first | refine blk_drewN ?_ _ | refine blk_drew ?_ | refine blk_alloc ?_ _)); exact BK104.out) Try.underlying66 rfl (by kernel_rfl)) rfl ?_
        exact ⟨Hd.e_, Hd.b_⟩
      ·
       rw [if_neg c14] at H
       exact absurd H (by simp)
     ·
      rw [if_neg c13] at H
      have c13b0 : decide (x5_1 < (l0.length : Int)) = false := decide_eq_false c13
      clear c13
      simp only [Option.some.injEq, Prod.mk.injEq] at H
      obtain ⟨rfl, rfl, rfl, rfl, rfl⟩ := H
      have hnb36 := NB107_104.out
      have hnc36 := NB104_107.out
      obtain ⟨hcz37_0, hcz37_1, hcz37_2, hcz37_3⟩ := Hd.c4_ BK107.out
      obtain ⟨hfz37_0, hfz37_1, hfz37_2, hfz37_3⟩ := Hd.f4_ BK107.out
      obtain ⟨hcz38_0, hcz38_1, hcz38_2, hcz38_3⟩ := Hd.c4_ BK104.out
      obtain ⟨hfz38_0, hfz38_1, hfz38_2, hfz38_3⟩ := Hd.f4_ BK104.out
      go_wp2
      refine bodyPost_ret (results_ct rfl _ _ gb104 66 #[.int .i64 x108000_1, .int .i64 x108001_1, .int .i64 x108002_1, .int .i64 x108003_1] (0, 0) _ rfl (by (with_reducible repeat (first | refine blk_drewN ?_ _ | refine blk_drew ?_ | refine blk_alloc ?_ _)); refine blk_put (cs := #[.int .i64 x108000_1, .int .i64 x108001_1, .int .i64 x108002_1, .int .i64 x105003_1]) ?_ 3 _ rfl; (with_reducible repeat (first | refine blk_drewN ?_ _ | refine blk_drew ?_ | refine blk_alloc ?_ _)); refine blk_put (cs := #[.int .i64 x108000_1, .int .i64 x108001_1, .int .i64 x105002_1, .int .i64 x105003_1]) ?_ 2 _ rfl; (with_reducible repeat (first | refine blk_drewN ?_ _ | refine blk_drew ?_ | refine blk_alloc ?_ _)); refine blk_put (cs := #[.int .i64 x108000_1, .int .i64 x105001_1, .int .i64 x105002_1, .int .i64 x105003_1]) ?_ 1 _ rfl; (with_reducible repeat (first | refine blk_drewN ?_ _ | refine blk_drew ?_ | refine blk_alloc ?_ _)); refine blk_put (cs := #[.int .i64 x105000_1, .int .i64 x105001_1, .int .i64 x105002_1, .int .i64 x105003_1]) ?_ 0 _ rfl; (with_reducible repeat (first | refine blk_drewN ?_ _ | refine blk_drew ?_ | refine blk_alloc ?_ _)); exact BK104.out) Try.underlying66 rfl (by kernel_rfl)) rfl ?_
      exact ⟨Hd.e_, Hd.b_⟩
  ·
   rw [if_neg c5] at H
   exact absurd H (by simp)
def spec_IsBox.f (a0_0 : Int) (a0_1 : Int) (a0_2 : Int) (a0_3 : Int) : Option (Bool) := (spec_IsPoint.f a0_0 a0_1).bind fun t119 => (if t119 = true then ((spec_IsPoint.f a0_2 a0_3).bind fun t120 => (if t120 = true then (if a0_0 ≤ a0_2 then (some (decide (a0_1 ≤ a0_3))) else (some false)) else (some false))) else (some false))
set_option maxHeartbeats 8000000 in
set_option maxRecDepth 100000 in
theorem spec_IsBox.calls (a0_0 : Int) (a0_1 : Int) (a0_2 : Int) (a0_3 : Int) (r : Bool) (w : World) (h : spec_IsBox.f a0_0 a0_1 a0_2 a0_3 = some r) :
  Calls Try.prog 102 #[.agg #[.int .i64 a0_0, .int .i64 a0_1, .int .i64 a0_2, .int .i64 a0_3]] w fun e w' => e = .returned (.bool r) ∧ Below w.heap.size w w' := by
 have hu66 := Try.underlying66
 have hu44 := Try.underlying44
 have HB := Aside0.mk (Below.refl w.heap.size w)
 have H : ((spec_IsPoint.f a0_0 a0_1).bind fun t119 => (if t119 = true then ((spec_IsPoint.f a0_2 a0_3).bind fun t120 => (if t120 = true then (if a0_0 ≤ a0_2 then (some (decide (a0_1 ≤ a0_3))) else (some false)) else (some false))) else (some false))) = some r := h
 clear h
 replace H := Option.bind_eq_some_iff.mp H
 obtain ⟨t119, A20, H⟩ := H
 replace H : (if t119 = true then ((spec_IsPoint.f a0_2 a0_3).bind fun t120 => (if t120 = true then (if a0_0 ≤ a0_2 then (some (decide (a0_1 ≤ a0_3))) else (some false)) else (some false))) else (some false)) = some r := H
 have A2 := Aside0.mk A20
 clear A20
 by_cases c3 : t119 = true
 ·
  subst c3
  have H1 : ((spec_IsPoint.f a0_2 a0_3).bind fun t120 => (if t120 = true then (if a0_0 ≤ a0_2 then (some (decide (a0_1 ≤ a0_3))) else (some false)) else (some false))) = some r := by rw [if_pos rfl] at H; exact H
  clear H
  have H := H1
  clear H1
  replace H := Option.bind_eq_some_iff.mp H
  obtain ⟨t120, A40, H⟩ := H
  replace H : (if t120 = true then (if a0_0 ≤ a0_2 then (some (decide (a0_1 ≤ a0_3))) else (some false)) else (some false)) = some r := H
  have A4 := Aside0.mk A40
  clear A40
  by_cases c5 : t120 = true
  ·
   subst c5
   have H1 : (if a0_0 ≤ a0_2 then (some (decide (a0_1 ≤ a0_3))) else (some false)) = some r := by rw [if_pos rfl] at H; exact H
   clear H
   have H := H1
   clear H1
   by_cases c6 : a0_0 ≤ a0_2
   ·
    rw [if_pos c6] at H
    have c6b0 : decide (a0_0 ≤ a0_2) = true := decide_eq_true c6
    clear c6
    obtain rfl := Option.some.inj H
    go_enter Try.func102, Try.ntmps102
    go_wp2_with (first | ((with_reducible refine gate_dst (N := 1) rfl ?_); refine Hd.box_ 1 (#[.int .i64 a0_0, .int .i64 a0_1, .int .i64 a0_2, .int .i64 a0_3]) 66 ?_; intro gb118 hg w7 hbox hb; have BK118 := Aside0.mk (hbox); have GW118 := Aside0.mk ((Hd.g_ hg Hd.b_ : w.heap.size ≤ gb118)); have GE118 := Aside0.mk ((Hd.g_ hg Hd.b_ : w.heap.size ≤ gb118)); replace HB := Aside0.mk (below_step Hd.b_ hb); clear hb hbox hg; obtain ⟨hcz8_0, hcz8_1, hcz8_2, hcz8_3⟩ := Hd.c4_ BK118.out; obtain ⟨hfz8_0, hfz8_1, hfz8_2, hfz8_3⟩ := Hd.f4_ BK118.out) | ((with_reducible refine gate_callee (f := 87) rfl ?_); refine goesL_ (some 5) rfl rfl Try.func87 (by kernel_rfl) rfl #[.agg #[.int .i64 a0_0, .int .i64 a0_1]] rfl Hd.m_ ?_; (with_reducible refine (spec_IsPoint.calls a0_0 a0_1 true _ A2.out).mono ?_); rintro e w9 ⟨rfl, hb⟩; refine ⟨_, rfl, ?_⟩; replace BK118 := Aside0.mk (Hd.kb_ BK118 hb); replace HB := Aside0.mk (below_step Hd.b_ hb); (try clear hb); (try clear hb2); (try clear hk); (try clear hi); obtain ⟨hcz10_0, hcz10_1, hcz10_2, hcz10_3⟩ := Hd.c4_ BK118.out; obtain ⟨hfz10_0, hfz10_1, hfz10_2, hfz10_3⟩ := Hd.f4_ BK118.out) | (go_at_call 87; (with_reducible refine (spec_IsPoint.calls a0_2 a0_3 true _ A4.out).mono ?_); rintro e w11 ⟨rfl, hb⟩; replace BK118 := Aside0.mk (Hd.kb_ BK118 hb); replace HB := Aside0.mk (below_step Hd.b_ hb); (try clear hb); (try clear hb2); (try clear hk); (try clear hi); obtain ⟨hcz12_0, hcz12_1, hcz12_2, hcz12_3⟩ := Hd.c4_ BK118.out; obtain ⟨hfz12_0, hfz12_1, hfz12_2, hfz12_3⟩ := Hd.f4_ BK118.out))
    go_ret
    exact ⟨Hd.e_, Hd.b_⟩
   ·
    rw [if_neg c6] at H
    have c6b0 : decide (a0_0 ≤ a0_2) = false := decide_eq_false c6
    clear c6
    obtain rfl := Option.some.inj H
    go_enter Try.func102, Try.ntmps102
    go_wp2_with (first | ((with_reducible refine gate_dst (N := 1) rfl ?_); refine Hd.box_ 1 (#[.int .i64 a0_0, .int .i64 a0_1, .int .i64 a0_2, .int .i64 a0_3]) 66 ?_; intro gb118 hg w13 hbox hb; have BK118 := Aside0.mk (hbox); have GW118 := Aside0.mk ((Hd.g_ hg Hd.b_ : w.heap.size ≤ gb118)); have GE118 := Aside0.mk ((Hd.g_ hg Hd.b_ : w.heap.size ≤ gb118)); replace HB := Aside0.mk (below_step Hd.b_ hb); clear hb hbox hg; obtain ⟨hcz14_0, hcz14_1, hcz14_2, hcz14_3⟩ := Hd.c4_ BK118.out; obtain ⟨hfz14_0, hfz14_1, hfz14_2, hfz14_3⟩ := Hd.f4_ BK118.out) | ((with_reducible refine gate_callee (f := 87) rfl ?_); refine goesL_ (some 5) rfl rfl Try.func87 (by kernel_rfl) rfl #[.agg #[.int .i64 a0_0, .int .i64 a0_1]] rfl Hd.m_ ?_; (with_reducible refine (spec_IsPoint.calls a0_0 a0_1 true _ A2.out).mono ?_); rintro e w15 ⟨rfl, hb⟩; refine ⟨_, rfl, ?_⟩; replace BK118 := Aside0.mk (Hd.kb_ BK118 hb); replace HB := Aside0.mk (below_step Hd.b_ hb); (try clear hb); (try clear hb2); (try clear hk); (try clear hi); obtain ⟨hcz16_0, hcz16_1, hcz16_2, hcz16_3⟩ := Hd.c4_ BK118.out; obtain ⟨hfz16_0, hfz16_1, hfz16_2, hfz16_3⟩ := Hd.f4_ BK118.out) | (go_at_call 87; (with_reducible refine (spec_IsPoint.calls a0_2 a0_3 true _ A4.out).mono ?_); rintro e w17 ⟨rfl, hb⟩; replace BK118 := Aside0.mk (Hd.kb_ BK118 hb); replace HB := Aside0.mk (below_step Hd.b_ hb); (try clear hb); (try clear hb2); (try clear hk); (try clear hi); obtain ⟨hcz18_0, hcz18_1, hcz18_2, hcz18_3⟩ := Hd.c4_ BK118.out; obtain ⟨hfz18_0, hfz18_1, hfz18_2, hfz18_3⟩ := Hd.f4_ BK118.out))
    go_ret
    exact ⟨Hd.e_, Hd.b_⟩
  ·
   replace c5 := Bool.eq_false_iff.mpr c5
   subst c5
   have H1 : (some false) = some r := by rw [if_neg (show ¬ (false = true) by decide)] at H; exact H
   clear H
   have H := H1
   clear H1
   obtain rfl := Option.some.inj H
   go_enter Try.func102, Try.ntmps102
   go_wp2_with (first | ((with_reducible refine gate_dst (N := 1) rfl ?_); refine Hd.box_ 1 (#[.int .i64 a0_0, .int .i64 a0_1, .int .i64 a0_2, .int .i64 a0_3]) 66 ?_; intro gb118 hg w19 hbox hb; have BK118 := Aside0.mk (hbox); have GW118 := Aside0.mk ((Hd.g_ hg Hd.b_ : w.heap.size ≤ gb118)); have GE118 := Aside0.mk ((Hd.g_ hg Hd.b_ : w.heap.size ≤ gb118)); replace HB := Aside0.mk (below_step Hd.b_ hb); clear hb hbox hg; obtain ⟨hcz20_0, hcz20_1, hcz20_2, hcz20_3⟩ := Hd.c4_ BK118.out; obtain ⟨hfz20_0, hfz20_1, hfz20_2, hfz20_3⟩ := Hd.f4_ BK118.out) | ((with_reducible refine gate_callee (f := 87) rfl ?_); refine goesL_ (some 5) rfl rfl Try.func87 (by kernel_rfl) rfl #[.agg #[.int .i64 a0_0, .int .i64 a0_1]] rfl Hd.m_ ?_; (with_reducible refine (spec_IsPoint.calls a0_0 a0_1 true _ A2.out).mono ?_); rintro e w21 ⟨rfl, hb⟩; refine ⟨_, rfl, ?_⟩; replace BK118 := Aside0.mk (Hd.kb_ BK118 hb); replace HB := Aside0.mk (below_step Hd.b_ hb); (try clear hb); (try clear hb2); (try clear hk); (try clear hi); obtain ⟨hcz22_0, hcz22_1, hcz22_2, hcz22_3⟩ := Hd.c4_ BK118.out; obtain ⟨hfz22_0, hfz22_1, hfz22_2, hfz22_3⟩ := Hd.f4_ BK118.out) | (go_at_call 87; (with_reducible refine (spec_IsPoint.calls a0_2 a0_3 false _ A4.out).mono ?_); rintro e w23 ⟨rfl, hb⟩; replace BK118 := Aside0.mk (Hd.kb_ BK118 hb); replace HB := Aside0.mk (below_step Hd.b_ hb); (try clear hb); (try clear hb2); (try clear hk); (try clear hi)))
   go_ret
   exact ⟨Hd.e_, Hd.b_⟩
 ·
  replace c3 := Bool.eq_false_iff.mpr c3
  subst c3
  have H1 : (some false) = some r := by rw [if_neg (show ¬ (false = true) by decide)] at H; exact H
  clear H
  have H := H1
  clear H1
  obtain rfl := Option.some.inj H
  go_enter Try.func102, Try.ntmps102
  go_wp2_with (first | ((with_reducible refine gate_dst (N := 1) rfl ?_); refine Hd.box_ 1 (#[.int .i64 a0_0, .int .i64 a0_1, .int .i64 a0_2, .int .i64 a0_3]) 66 ?_; intro gb118 hg w24 hbox hb; have BK118 := Aside0.mk (hbox); have GW118 := Aside0.mk ((Hd.g_ hg Hd.b_ : w.heap.size ≤ gb118)); have GE118 := Aside0.mk ((Hd.g_ hg Hd.b_ : w.heap.size ≤ gb118)); replace HB := Aside0.mk (below_step Hd.b_ hb); clear hb hbox hg; obtain ⟨hcz25_0, hcz25_1, hcz25_2, hcz25_3⟩ := Hd.c4_ BK118.out; obtain ⟨hfz25_0, hfz25_1, hfz25_2, hfz25_3⟩ := Hd.f4_ BK118.out) | ((with_reducible refine gate_callee (f := 87) rfl ?_); refine goesL_ (some 5) rfl rfl Try.func87 (by kernel_rfl) rfl #[.agg #[.int .i64 a0_0, .int .i64 a0_1]] rfl Hd.m_ ?_; (with_reducible refine (spec_IsPoint.calls a0_0 a0_1 false _ A2.out).mono ?_); rintro e w26 ⟨rfl, hb⟩; refine ⟨_, rfl, ?_⟩; replace BK118 := Aside0.mk (Hd.kb_ BK118 hb); replace HB := Aside0.mk (below_step Hd.b_ hb); (try clear hb); (try clear hb2); (try clear hk); (try clear hi)))
  go_ret
  exact ⟨Hd.e_, Hd.b_⟩
def spec_JoinBoxes.f (k : Nat) (a0_0 : Int) (a0_1 : Int) (a0_2 : Int) (a0_3 : Int) (a1_0 : Int) (a1_1 : Int) (a1_2 : Int) (a1_3 : Int) : Option (Int × Int × Int × Int × Bool) := (spec_IsBox.f a0_0 a0_1 a0_2 a0_3).bind fun t124 => (if t124 = true then ((spec_IsBox.f a1_0 a1_1 a1_2 a1_3).bind fun t125 => (if t125 = true then ((spec_BoxOf.f k (([(⟨a0_0, a0_1⟩ : S44), (⟨a0_2, a0_3⟩ : S44), (⟨a1_0, a1_1⟩ : S44), (⟨a1_2, a1_3⟩ : S44)] : List (S44)))).bind fun bt129 => (some (bt129.1, bt129.2.1, bt129.2.2.1, bt129.2.2.2.1, bt129.2.2.2.2))) else (some (0, 0, 0, 0, false)))) else (some (0, 0, 0, 0, false)))
set_option maxHeartbeats 8000000 in
set_option maxRecDepth 100000 in
theorem spec_JoinBoxes.calls (k : Nat) (a0_0 : Int) (a0_1 : Int) (a0_2 : Int) (a0_3 : Int) (a1_0 : Int) (a1_1 : Int) (a1_2 : Int) (a1_3 : Int) (r1 : Int) (r2 : Int) (r3 : Int) (r4 : Int) (r5 : Bool) (w : World) (h : spec_JoinBoxes.f k a0_0 a0_1 a0_2 a0_3 a1_0 a1_1 a1_2 a1_3 = some (r1, r2, r3, r4, r5)) :
  Calls Try.prog 38 #[.agg #[.int .i64 a0_0, .int .i64 a0_1, .int .i64 a0_2, .int .i64 a0_3], .agg #[.int .i64 a1_0, .int .i64 a1_1, .int .i64 a1_2, .int .i64 a1_3]] w fun e w' => e = .returned (.tuple #[.agg #[.int .i64 r1, .int .i64 r2, .int .i64 r3, .int .i64 r4], .bool r5]) ∧ Below w.heap.size w w' := by
 have hu66 := Try.underlying66
 have hu44 := Try.underlying44
 have HB := Aside0.mk (Below.refl w.heap.size w)
 have H : ((spec_IsBox.f a0_0 a0_1 a0_2 a0_3).bind fun t124 => (if t124 = true then ((spec_IsBox.f a1_0 a1_1 a1_2 a1_3).bind fun t125 => (if t125 = true then ((spec_BoxOf.f k (([(⟨a0_0, a0_1⟩ : S44), (⟨a0_2, a0_3⟩ : S44), (⟨a1_0, a1_1⟩ : S44), (⟨a1_2, a1_3⟩ : S44)] : List (S44)))).bind fun bt129 => (some (bt129.1, bt129.2.1, bt129.2.2.1, bt129.2.2.2.1, bt129.2.2.2.2))) else (some (0, 0, 0, 0, false)))) else (some (0, 0, 0, 0, false)))) = some (r1, r2, r3, r4, r5) := h
 clear h
 replace H := Option.bind_eq_some_iff.mp H
 obtain ⟨t124, A30, H⟩ := H
 replace H : (if t124 = true then ((spec_IsBox.f a1_0 a1_1 a1_2 a1_3).bind fun t125 => (if t125 = true then ((spec_BoxOf.f k (([(⟨a0_0, a0_1⟩ : S44), (⟨a0_2, a0_3⟩ : S44), (⟨a1_0, a1_1⟩ : S44), (⟨a1_2, a1_3⟩ : S44)] : List (S44)))).bind fun bt129 => (some (bt129.1, bt129.2.1, bt129.2.2.1, bt129.2.2.2.1, bt129.2.2.2.2))) else (some (0, 0, 0, 0, false)))) else (some (0, 0, 0, 0, false))) = some (r1, r2, r3, r4, r5) := H
 have A3 := Aside0.mk A30
 clear A30
 by_cases c4 : t124 = true
 ·
  subst c4
  have H1 : ((spec_IsBox.f a1_0 a1_1 a1_2 a1_3).bind fun t125 => (if t125 = true then ((spec_BoxOf.f k (([(⟨a0_0, a0_1⟩ : S44), (⟨a0_2, a0_3⟩ : S44), (⟨a1_0, a1_1⟩ : S44), (⟨a1_2, a1_3⟩ : S44)] : List (S44)))).bind fun bt129 => (some (bt129.1, bt129.2.1, bt129.2.2.1, bt129.2.2.2.1, bt129.2.2.2.2))) else (some (0, 0, 0, 0, false)))) = some (r1, r2, r3, r4, r5) := by rw [if_pos rfl] at H; exact H
  clear H
  have H := H1
  clear H1
  replace H := Option.bind_eq_some_iff.mp H
  obtain ⟨t125, A50, H⟩ := H
  replace H : (if t125 = true then ((spec_BoxOf.f k (([(⟨a0_0, a0_1⟩ : S44), (⟨a0_2, a0_3⟩ : S44), (⟨a1_0, a1_1⟩ : S44), (⟨a1_2, a1_3⟩ : S44)] : List (S44)))).bind fun bt129 => (some (bt129.1, bt129.2.1, bt129.2.2.1, bt129.2.2.2.1, bt129.2.2.2.2))) else (some (0, 0, 0, 0, false))) = some (r1, r2, r3, r4, r5) := H
  have A5 := Aside0.mk A50
  clear A50
  by_cases c6 : t125 = true
  ·
   subst c6
   have H1 : ((spec_BoxOf.f k (([(⟨a0_0, a0_1⟩ : S44), (⟨a0_2, a0_3⟩ : S44), (⟨a1_0, a1_1⟩ : S44), (⟨a1_2, a1_3⟩ : S44)] : List (S44)))).bind fun bt129 => (some (bt129.1, bt129.2.1, bt129.2.2.1, bt129.2.2.2.1, bt129.2.2.2.2))) = some (r1, r2, r3, r4, r5) := by rw [if_pos rfl] at H; exact H
   clear H
   have H := H1
   clear H1
   obtain ⟨y126, hy126⟩ : ∃ y_ : List (S44), y_ = (([(⟨a0_0, a0_1⟩ : S44), (⟨a0_2, a0_3⟩ : S44), (⟨a1_0, a1_1⟩ : S44), (⟨a1_2, a1_3⟩ : S44)] : List (S44))) := ⟨_, rfl⟩
   replace H : ((spec_BoxOf.f k y126).bind fun bt129 => (some (bt129.1, bt129.2.1, bt129.2.2.1, bt129.2.2.2.1, bt129.2.2.2.2))) = some (r1, r2, r3, r4, r5) := by first | (rw [hy126]; with_reducible exact H) | (have H2_ := (Option.bind_some _ _).symm.trans H; rw [hy126]; with_reducible exact H2_) | (have H2_ := (Option.bind_some _ _).symm.trans H; with_reducible exact H2_) | with_reducible exact H | (rw [hy126]; exact H) | exact H
   have Ny126 := Aside0.mk hy126
   clear hy126
   replace H := Option.bind_eq_some_iff.mp H
   obtain ⟨⟨t129, t130, t131, t132, t133⟩, A70, H⟩ := H
   replace H : (some (t129, t130, t131, t132, t133)) = some (r1, r2, r3, r4, r5) := H
   have A7 := Aside0.mk A70
   clear A70
   simp only [Option.some.injEq, Prod.mk.injEq] at H
   obtain ⟨rfl, rfl, rfl, rfl, rfl⟩ := H
   go_enter Try.func38, Try.ntmps38
   go_wp2_with (first | ((with_reducible refine gate_dst (N := 2) rfl ?_); refine Hd.box_ 2 (#[.int .i64 a0_0, .int .i64 a0_1, .int .i64 a0_2, .int .i64 a0_3]) 66 ?_; intro gb121 hg w8 hbox hb; have BK121 := Aside0.mk (hbox); have GW121 := Aside0.mk ((Hd.g_ hg Hd.b_ : w.heap.size ≤ gb121)); have GE121 := Aside0.mk ((Hd.g_ hg Hd.b_ : w.heap.size ≤ gb121)); replace HB := Aside0.mk (below_step Hd.b_ hb); clear hb hbox hg) | ((with_reducible refine gate_dst (N := 3) rfl ?_); refine Hd.box_ 3 (#[.int .i64 a1_0, .int .i64 a1_1, .int .i64 a1_2, .int .i64 a1_3]) 66 ?_; intro gb122 hg w9 hbox hb; have BK122 := Aside0.mk (hbox); have GW122 := Aside0.mk ((Hd.g_ hg Hd.b_ : w.heap.size ≤ gb122)); have GE122 := Aside0.mk ((Hd.g_ hg Hd.b_ : w.heap.size ≤ gb122)); replace HB := Aside0.mk (below_step Hd.b_ hb); have NB121_122 := Aside0.mk ((Hd.lt_ BK121 hg)); have NB122_121 := Aside0.mk ((Hd.gt_ BK121 hg)); replace BK121 := Aside0.mk (Hd.kb_ BK121 hb); clear hb hbox hg) | ((with_reducible refine gate_dst (N := 4) rfl ?_); refine Hd.box_ 4 (#[.int .i64 0, .int .i64 0, .int .i64 0, .int .i64 0]) 66 ?_; intro gb123 hg w10 hbox hb; have BK123 := Aside0.mk (hbox); have GW123 := Aside0.mk ((Hd.g_ hg Hd.b_ : w.heap.size ≤ gb123)); have GE123 := Aside0.mk ((Hd.g_ hg Hd.b_ : w.heap.size ≤ gb123)); replace HB := Aside0.mk (below_step Hd.b_ hb); have NB121_123 := Aside0.mk ((Hd.lt_ BK121 hg)); have NB123_121 := Aside0.mk ((Hd.gt_ BK121 hg)); replace BK121 := Aside0.mk (Hd.kb_ BK121 hb); have NB122_123 := Aside0.mk ((Hd.lt_ BK122 hg)); have NB123_122 := Aside0.mk ((Hd.gt_ BK122 hg)); replace BK122 := Aside0.mk (Hd.kb_ BK122 hb); clear hb hbox hg; have hnb11 := NB121_122.out; have hnc11 := NB122_121.out; have hnb12 := NB121_123.out; have hnc12 := NB123_121.out; obtain ⟨hcz13_0, hcz13_1, hcz13_2, hcz13_3⟩ := Hd.c4_ BK121.out; obtain ⟨hfz13_0, hfz13_1, hfz13_2, hfz13_3⟩ := Hd.f4_ BK121.out) | ((with_reducible refine gate_callee (f := 102) rfl ?_); refine goesL_ (some 7) rfl rfl Try.func102 (by kernel_rfl) rfl #[.agg #[.int .i64 a0_0, .int .i64 a0_1, .int .i64 a0_2, .int .i64 a0_3]] rfl Hd.m_ ?_; (with_reducible refine (spec_IsBox.calls a0_0 a0_1 a0_2 a0_3 true _ A3.out).mono ?_); rintro e w14 ⟨rfl, hb⟩; refine ⟨_, rfl, ?_⟩; replace BK121 := Aside0.mk (Hd.kb_ BK121 hb); replace BK122 := Aside0.mk (Hd.kb_ BK122 hb); replace BK123 := Aside0.mk (Hd.kb_ BK123 hb); replace HB := Aside0.mk (below_step Hd.b_ hb); (try clear hb); (try clear hb2); (try clear hk); (try clear hi); have hnb15 := NB122_123.out; have hnc15 := NB123_122.out; obtain ⟨hcz16_0, hcz16_1, hcz16_2, hcz16_3⟩ := Hd.c4_ BK122.out; obtain ⟨hfz16_0, hfz16_1, hfz16_2, hfz16_3⟩ := Hd.f4_ BK122.out) | (go_at_call 102; (with_reducible refine (spec_IsBox.calls a1_0 a1_1 a1_2 a1_3 true _ A5.out).mono ?_); rintro e w17 ⟨rfl, hb⟩; replace BK121 := Aside0.mk (Hd.kb_ BK121 hb); replace BK122 := Aside0.mk (Hd.kb_ BK122 hb); replace BK123 := Aside0.mk (Hd.kb_ BK123 hb); replace HB := Aside0.mk (below_step Hd.b_ hb); (try clear hb); (try clear hb2); (try clear hk); (try clear hi); obtain ⟨hcz18_0, hcz18_1, hcz18_2, hcz18_3⟩ := Hd.c4_ BK121.out; obtain ⟨hfz18_0, hfz18_1, hfz18_2, hfz18_3⟩ := Hd.f4_ BK121.out; obtain ⟨hcz19_0, hcz19_1, hcz19_2, hcz19_3⟩ := Hd.c4_ BK122.out; obtain ⟨hfz19_0, hfz19_1, hfz19_2, hfz19_3⟩ := Hd.f4_ BK122.out) | ((with_reducible refine gate_dst (N := 23) rfl ?_); refine Kd.R_lit k44 _ 44 ?hg (N := 23) ?hd (xs := ([(⟨a0_0, a0_1⟩ : S44), (⟨a0_2, a0_3⟩ : S44), (⟨a1_0, a1_1⟩ : S44), (⟨a1_2, a1_3⟩ : S44)] : List (S44))) (inner := [.int .i64 a0_0, .int .i64 a0_1, .int .i64 a0_2, .int .i64 a0_3, .int .i64 a1_0, .int .i64 a1_1, .int .i64 a1_2, .int .i64 a1_3]) (ok := fun _ => True) (okp := fun _ => True) ?hr ?hp (fun _ hk => hk) trivial (Below.refl _ _) (Nat.le_refl _) (by simp) ?_; (case hd => rfl); (case hg => rfl); (case hr => first | (go_simp; done) | (go_simp; rfl)); (case hp => exact (Reps.c2 (show Kd.M k44 _ _ _ (⟨a0_0, a0_1⟩ : S44) [.int .i64 a0_0, .int .i64 a0_1] from (k44_mkM _ _ _ (⟨a0_0, a0_1⟩ : S44) )) (Reps.c2 (show Kd.M k44 _ _ _ (⟨a0_2, a0_3⟩ : S44) [.int .i64 a0_2, .int .i64 a0_3] from (k44_mkM _ _ _ (⟨a0_2, a0_3⟩ : S44) )) (Reps.c2 (show Kd.M k44 _ _ _ (⟨a1_0, a1_1⟩ : S44) [.int .i64 a1_0, .int .i64 a1_1] from (k44_mkM _ _ _ (⟨a1_0, a1_1⟩ : S44) )) (Reps.c2 (show Kd.M k44 _ _ _ (⟨a1_2, a1_3⟩ : S44) [.int .i64 a1_2, .int .i64 a1_3] from (k44_mkM _ _ _ (⟨a1_2, a1_3⟩ : S44) )) (Reps.none _ _)))))); intro v127 w20 ho21 hb hg_ hnew_; clear hg_ hnew_; (first | rw [← Ny126.out] at ho21 | (simp only [Int.reduceToNat] at ho21; rw [← Ny126.out] at ho21)); have HO128 := Aside0.mk (Kd.R_lower ho21 (below_size Hd.b_)); replace BK121 := Aside0.mk (Hd.kb_ BK121 hb); replace BK122 := Aside0.mk (Hd.kb_ BK122 hb); replace BK123 := Aside0.mk (Hd.kb_ BK123 hb); replace HB := Aside0.mk (below_step Hd.b_ hb); clear hb ho21; obtain ⟨Ao22, co22, eo22⟩ := Kd.R_slice HO128.out; subst eo22) | ((with_reducible refine gate_callee (f := 42) rfl ?_); refine goesL_ (some 24) rfl rfl Try.func42 (by kernel_rfl) rfl #[.slice Ao22 y126.length co22] rfl Hd.m_ ?_; (with_reducible refine (spec_BoxOf.calls k _ _ y126 t129 t130 t131 t132 t133 _ ?side1 ?side2 A7.out).mono ?_); (case side1 => repeat (first | exact (Kd.R_reads' HO128.out).2.2 | (with_reducible refine Kd.C_alloc ?_ _) | (with_reducible refine Kd.C_drewN ?_ _) | (with_reducible refine Kd.C_drew ?_))); (case side2 => exact (Kd.R_reads' HO128.out).2.1); rintro e w23 ⟨rfl, hb⟩; refine ⟨_, rfl, ?_⟩; replace HO128 := Aside0.mk (Kd.R_below (Hd.r_ HO128) hb); replace BK121 := Aside0.mk (Hd.kb_ BK121 hb); replace BK122 := Aside0.mk (Hd.kb_ BK122 hb); replace BK123 := Aside0.mk (Hd.kb_ BK123 hb); replace HB := Aside0.mk (below_step Hd.b_ hb); (try clear hb); (try clear hb2); (try clear hk); (try clear hi); obtain ⟨hcz24_0, hcz24_1, hcz24_2, hcz24_3⟩ := Hd.c4_ BK123.out; obtain ⟨hfz24_0, hfz24_1, hfz24_2, hfz24_3⟩ := Hd.f4_ BK123.out))
   refine bodyPost_ret (results_ct rfl _ _ gb123 66 #[.int .i64 t129, .int .i64 t130, .int .i64 t131, .int .i64 t132] (0, 0) _ rfl (by (with_reducible repeat (first | refine blk_drewN ?_ _ | refine blk_drew ?_ | refine blk_alloc ?_ _)); refine blk_put (cs := #[.int .i64 t129, .int .i64 t130, .int .i64 t131, .int .i64 0]) ?_ 3 _ rfl; (with_reducible repeat (first | refine blk_drewN ?_ _ | refine blk_drew ?_ | refine blk_alloc ?_ _)); refine blk_put (cs := #[.int .i64 t129, .int .i64 t130, .int .i64 0, .int .i64 0]) ?_ 2 _ rfl; (with_reducible repeat (first | refine blk_drewN ?_ _ | refine blk_drew ?_ | refine blk_alloc ?_ _)); refine blk_put (cs := #[.int .i64 t129, .int .i64 0, .int .i64 0, .int .i64 0]) ?_ 1 _ rfl; (with_reducible repeat (first | refine blk_drewN ?_ _ | refine blk_drew ?_ | refine blk_alloc ?_ _)); refine blk_put (cs := #[.int .i64 0, .int .i64 0, .int .i64 0, .int .i64 0]) ?_ 0 _ rfl; (with_reducible repeat (first | refine blk_drewN ?_ _ | refine blk_drew ?_ | refine blk_alloc ?_ _)); exact BK123.out) Try.underlying66 rfl (by kernel_rfl)) rfl ?_
   exact ⟨Hd.e_, Hd.b_⟩
  ·
   replace c6 := Bool.eq_false_iff.mpr c6
   subst c6
   have H1 : (some (0, 0, 0, 0, false)) = some (r1, r2, r3, r4, r5) := by rw [if_neg (show ¬ (false = true) by decide)] at H; exact H
   clear H
   have H := H1
   clear H1
   simp only [Option.some.injEq, Prod.mk.injEq] at H
   obtain ⟨rfl, rfl, rfl, rfl, rfl⟩ := H
   go_enter Try.func38, Try.ntmps38
   go_wp2_with (first | ((with_reducible refine gate_dst (N := 2) rfl ?_); refine Hd.box_ 2 (#[.int .i64 a0_0, .int .i64 a0_1, .int .i64 a0_2, .int .i64 a0_3]) 66 ?_; intro gb121 hg w25 hbox hb; have BK121 := Aside0.mk (hbox); have GW121 := Aside0.mk ((Hd.g_ hg Hd.b_ : w.heap.size ≤ gb121)); have GE121 := Aside0.mk ((Hd.g_ hg Hd.b_ : w.heap.size ≤ gb121)); replace HB := Aside0.mk (below_step Hd.b_ hb); clear hb hbox hg) | ((with_reducible refine gate_dst (N := 3) rfl ?_); refine Hd.box_ 3 (#[.int .i64 a1_0, .int .i64 a1_1, .int .i64 a1_2, .int .i64 a1_3]) 66 ?_; intro gb122 hg w26 hbox hb; have BK122 := Aside0.mk (hbox); have GW122 := Aside0.mk ((Hd.g_ hg Hd.b_ : w.heap.size ≤ gb122)); have GE122 := Aside0.mk ((Hd.g_ hg Hd.b_ : w.heap.size ≤ gb122)); replace HB := Aside0.mk (below_step Hd.b_ hb); have NB121_122 := Aside0.mk ((Hd.lt_ BK121 hg)); have NB122_121 := Aside0.mk ((Hd.gt_ BK121 hg)); replace BK121 := Aside0.mk (Hd.kb_ BK121 hb); clear hb hbox hg) | ((with_reducible refine gate_dst (N := 4) rfl ?_); refine Hd.box_ 4 (#[.int .i64 0, .int .i64 0, .int .i64 0, .int .i64 0]) 66 ?_; intro gb123 hg w27 hbox hb; have BK123 := Aside0.mk (hbox); have GW123 := Aside0.mk ((Hd.g_ hg Hd.b_ : w.heap.size ≤ gb123)); have GE123 := Aside0.mk ((Hd.g_ hg Hd.b_ : w.heap.size ≤ gb123)); replace HB := Aside0.mk (below_step Hd.b_ hb); have NB121_123 := Aside0.mk ((Hd.lt_ BK121 hg)); have NB123_121 := Aside0.mk ((Hd.gt_ BK121 hg)); replace BK121 := Aside0.mk (Hd.kb_ BK121 hb); have NB122_123 := Aside0.mk ((Hd.lt_ BK122 hg)); have NB123_122 := Aside0.mk ((Hd.gt_ BK122 hg)); replace BK122 := Aside0.mk (Hd.kb_ BK122 hb); clear hb hbox hg; have hnb28 := NB121_122.out; have hnc28 := NB122_121.out; have hnb29 := NB121_123.out; have hnc29 := NB123_121.out; obtain ⟨hcz30_0, hcz30_1, hcz30_2, hcz30_3⟩ := Hd.c4_ BK121.out; obtain ⟨hfz30_0, hfz30_1, hfz30_2, hfz30_3⟩ := Hd.f4_ BK121.out) | ((with_reducible refine gate_callee (f := 102) rfl ?_); refine goesL_ (some 7) rfl rfl Try.func102 (by kernel_rfl) rfl #[.agg #[.int .i64 a0_0, .int .i64 a0_1, .int .i64 a0_2, .int .i64 a0_3]] rfl Hd.m_ ?_; (with_reducible refine (spec_IsBox.calls a0_0 a0_1 a0_2 a0_3 true _ A3.out).mono ?_); rintro e w31 ⟨rfl, hb⟩; refine ⟨_, rfl, ?_⟩; replace BK121 := Aside0.mk (Hd.kb_ BK121 hb); replace BK122 := Aside0.mk (Hd.kb_ BK122 hb); replace BK123 := Aside0.mk (Hd.kb_ BK123 hb); replace HB := Aside0.mk (below_step Hd.b_ hb); (try clear hb); (try clear hb2); (try clear hk); (try clear hi); have hnb32 := NB122_123.out; have hnc32 := NB123_122.out; obtain ⟨hcz33_0, hcz33_1, hcz33_2, hcz33_3⟩ := Hd.c4_ BK122.out; obtain ⟨hfz33_0, hfz33_1, hfz33_2, hfz33_3⟩ := Hd.f4_ BK122.out) | (go_at_call 102; (with_reducible refine (spec_IsBox.calls a1_0 a1_1 a1_2 a1_3 false _ A5.out).mono ?_); rintro e w34 ⟨rfl, hb⟩; replace BK121 := Aside0.mk (Hd.kb_ BK121 hb); replace BK122 := Aside0.mk (Hd.kb_ BK122 hb); replace BK123 := Aside0.mk (Hd.kb_ BK123 hb); replace HB := Aside0.mk (below_step Hd.b_ hb); (try clear hb); (try clear hb2); (try clear hk); (try clear hi); obtain ⟨hcz35_0, hcz35_1, hcz35_2, hcz35_3⟩ := Hd.c4_ BK123.out; obtain ⟨hfz35_0, hfz35_1, hfz35_2, hfz35_3⟩ := Hd.f4_ BK123.out))
   refine bodyPost_ret (results_ct rfl _ _ gb123 66 #[.int .i64 0, .int .i64 0, .int .i64 0, .int .i64 0] (0, 0) _ rfl (by (with_reducible repeat (first | refine blk_drewN ?_ _ | refine blk_drew ?_ | refine blk_alloc ?_ _)); refine blk_put (cs := #[.int .i64 0, .int .i64 0, .int .i64 0, .int .i64 0]) ?_ 3 _ rfl; (with_reducible repeat (first | refine blk_drewN ?_ _ | refine blk_drew ?_ | refine blk_alloc ?_ _)); refine blk_put (cs := #[.int .i64 0, .int .i64 0, .int .i64 0, .int .i64 0]) ?_ 2 _ rfl; (with_reducible repeat (first | refine blk_drewN ?_ _ | refine blk_drew ?_ | refine blk_alloc ?_ _)); refine blk_put (cs := #[.int .i64 0, .int .i64 0, .int .i64 0, .int .i64 0]) ?_ 1 _ rfl; (with_reducible repeat (first | refine blk_drewN ?_ _ | refine blk_drew ?_ | refine blk_alloc ?_ _)); refine blk_put (cs := #[.int .i64 0, .int .i64 0, .int .i64 0, .int .i64 0]) ?_ 0 _ rfl; (with_reducible repeat (first | refine blk_drewN ?_ _ | refine blk_drew ?_ | refine blk_alloc ?_ _)); exact BK123.out) Try.underlying66 rfl (by kernel_rfl)) rfl ?_
   exact ⟨Hd.e_, Hd.b_⟩
 ·
  replace c4 := Bool.eq_false_iff.mpr c4
  subst c4
  have H1 : (some (0, 0, 0, 0, false)) = some (r1, r2, r3, r4, r5) := by rw [if_neg (show ¬ (false = true) by decide)] at H; exact H
  clear H
  have H := H1
  clear H1
  simp only [Option.some.injEq, Prod.mk.injEq] at H
  obtain ⟨rfl, rfl, rfl, rfl, rfl⟩ := H
  go_enter Try.func38, Try.ntmps38
  go_wp2_with (first | ((with_reducible refine gate_dst (N := 2) rfl ?_); refine Hd.box_ 2 (#[.int .i64 a0_0, .int .i64 a0_1, .int .i64 a0_2, .int .i64 a0_3]) 66 ?_; intro gb121 hg w36 hbox hb; have BK121 := Aside0.mk (hbox); have GW121 := Aside0.mk ((Hd.g_ hg Hd.b_ : w.heap.size ≤ gb121)); have GE121 := Aside0.mk ((Hd.g_ hg Hd.b_ : w.heap.size ≤ gb121)); replace HB := Aside0.mk (below_step Hd.b_ hb); clear hb hbox hg) | ((with_reducible refine gate_dst (N := 3) rfl ?_); refine Hd.box_ 3 (#[.int .i64 a1_0, .int .i64 a1_1, .int .i64 a1_2, .int .i64 a1_3]) 66 ?_; intro gb122 hg w37 hbox hb; have BK122 := Aside0.mk (hbox); have GW122 := Aside0.mk ((Hd.g_ hg Hd.b_ : w.heap.size ≤ gb122)); have GE122 := Aside0.mk ((Hd.g_ hg Hd.b_ : w.heap.size ≤ gb122)); replace HB := Aside0.mk (below_step Hd.b_ hb); have NB121_122 := Aside0.mk ((Hd.lt_ BK121 hg)); have NB122_121 := Aside0.mk ((Hd.gt_ BK121 hg)); replace BK121 := Aside0.mk (Hd.kb_ BK121 hb); clear hb hbox hg) | ((with_reducible refine gate_dst (N := 4) rfl ?_); refine Hd.box_ 4 (#[.int .i64 0, .int .i64 0, .int .i64 0, .int .i64 0]) 66 ?_; intro gb123 hg w38 hbox hb; have BK123 := Aside0.mk (hbox); have GW123 := Aside0.mk ((Hd.g_ hg Hd.b_ : w.heap.size ≤ gb123)); have GE123 := Aside0.mk ((Hd.g_ hg Hd.b_ : w.heap.size ≤ gb123)); replace HB := Aside0.mk (below_step Hd.b_ hb); have NB121_123 := Aside0.mk ((Hd.lt_ BK121 hg)); have NB123_121 := Aside0.mk ((Hd.gt_ BK121 hg)); replace BK121 := Aside0.mk (Hd.kb_ BK121 hb); have NB122_123 := Aside0.mk ((Hd.lt_ BK122 hg)); have NB123_122 := Aside0.mk ((Hd.gt_ BK122 hg)); replace BK122 := Aside0.mk (Hd.kb_ BK122 hb); clear hb hbox hg; have hnb39 := NB121_122.out; have hnc39 := NB122_121.out; have hnb40 := NB121_123.out; have hnc40 := NB123_121.out; obtain ⟨hcz41_0, hcz41_1, hcz41_2, hcz41_3⟩ := Hd.c4_ BK121.out; obtain ⟨hfz41_0, hfz41_1, hfz41_2, hfz41_3⟩ := Hd.f4_ BK121.out) | ((with_reducible refine gate_callee (f := 102) rfl ?_); refine goesL_ (some 7) rfl rfl Try.func102 (by kernel_rfl) rfl #[.agg #[.int .i64 a0_0, .int .i64 a0_1, .int .i64 a0_2, .int .i64 a0_3]] rfl Hd.m_ ?_; (with_reducible refine (spec_IsBox.calls a0_0 a0_1 a0_2 a0_3 false _ A3.out).mono ?_); rintro e w42 ⟨rfl, hb⟩; refine ⟨_, rfl, ?_⟩; replace BK121 := Aside0.mk (Hd.kb_ BK121 hb); replace BK122 := Aside0.mk (Hd.kb_ BK122 hb); replace BK123 := Aside0.mk (Hd.kb_ BK123 hb); replace HB := Aside0.mk (below_step Hd.b_ hb); (try clear hb); (try clear hb2); (try clear hk); (try clear hi); have hnb43 := NB123_122.out; have hnc43 := NB122_123.out; obtain ⟨hcz44_0, hcz44_1, hcz44_2, hcz44_3⟩ := Hd.c4_ BK123.out; obtain ⟨hfz44_0, hfz44_1, hfz44_2, hfz44_3⟩ := Hd.f4_ BK123.out))
  refine bodyPost_ret (results_ct rfl _ _ gb123 66 #[.int .i64 0, .int .i64 0, .int .i64 0, .int .i64 0] (0, 0) _ rfl (by (with_reducible repeat (first | refine blk_drewN ?_ _ | refine blk_drew ?_ | refine blk_alloc ?_ _)); refine blk_put (cs := #[.int .i64 0, .int .i64 0, .int .i64 0, .int .i64 0]) ?_ 3 _ rfl; (with_reducible repeat (first | refine blk_drewN ?_ _ | refine blk_drew ?_ | refine blk_alloc ?_ _)); refine blk_put (cs := #[.int .i64 0, .int .i64 0, .int .i64 0, .int .i64 0]) ?_ 2 _ rfl; (with_reducible repeat (first | refine blk_drewN ?_ _ | refine blk_drew ?_ | refine blk_alloc ?_ _)); refine blk_put (cs := #[.int .i64 0, .int .i64 0, .int .i64 0, .int .i64 0]) ?_ 1 _ rfl; (with_reducible repeat (first | refine blk_drewN ?_ _ | refine blk_drew ?_ | refine blk_alloc ?_ _)); refine blk_put (cs := #[.int .i64 0, .int .i64 0, .int .i64 0, .int .i64 0]) ?_ 0 _ rfl; (with_reducible repeat (first | refine blk_drewN ?_ _ | refine blk_drew ?_ | refine blk_alloc ?_ _)); exact BK123.out) Try.underlying66 rfl (by kernel_rfl)) rfl ?_
  exact ⟨Hd.e_, Hd.b_⟩
def laws_toPoint.f (a0_0 : Int) (a0_1 : Int) : Option (Int × Int) := some (a0_0, a0_1)
set_option maxHeartbeats 8000000 in
set_option maxRecDepth 100000 in
theorem laws_toPoint.calls (a0_0 : Int) (a0_1 : Int) (r1 : Int) (r2 : Int) (w : World) (h : laws_toPoint.f a0_0 a0_1 = some (r1, r2)) :
  Calls Try.prog 26 #[.agg #[.int .i64 a0_0, .int .i64 a0_1]] w fun e w' => e = .returned (.agg #[.int .i64 r1, .int .i64 r2]) ∧ Below w.heap.size w w' := by
 have hu40 := Try.underlying40
 have hu44 := Try.underlying44
 have HB := Aside0.mk (Below.refl w.heap.size w)
 have H : (some (a0_0, a0_1)) = some (r1, r2) := h
 clear h
 simp only [Option.some.injEq, Prod.mk.injEq] at H
 obtain ⟨rfl, rfl⟩ := H
 go_enter Try.func26, Try.ntmps26
 go_wp2_with (first | ((with_reducible refine gate_dst (N := 1) rfl ?_); refine Hd.box_ 1 (#[.int .i64 a0_0, .int .i64 a0_1]) 40 ?_; intro gb134 hg w2 hbox hb; have BK134 := Aside0.mk (hbox); have GW134 := Aside0.mk ((Hd.g_ hg Hd.b_ : w.heap.size ≤ gb134)); have GE134 := Aside0.mk ((Hd.g_ hg Hd.b_ : w.heap.size ≤ gb134)); replace HB := Aside0.mk (below_step Hd.b_ hb); clear hb hbox hg) | ((with_reducible refine gate_dst (N := 2) rfl ?_); refine Hd.box_ 2 (#[.int .i64 0, .int .i64 0]) 44 ?_; intro gb135 hg w3 hbox hb; have BK135 := Aside0.mk (hbox); have GW135 := Aside0.mk ((Hd.g_ hg Hd.b_ : w.heap.size ≤ gb135)); have GE135 := Aside0.mk ((Hd.g_ hg Hd.b_ : w.heap.size ≤ gb135)); replace HB := Aside0.mk (below_step Hd.b_ hb); have NB134_135 := Aside0.mk ((Hd.lt_ BK134 hg)); have NB135_134 := Aside0.mk ((Hd.gt_ BK134 hg)); replace BK134 := Aside0.mk (Hd.kb_ BK134 hb); clear hb hbox hg) | ((with_reducible refine gate_dst (N := 3) rfl ?_); refine Hd.box_ 3 (#[.int .i64 0, .int .i64 0]) 44 ?_; intro gb136 hg w4 hbox hb; have BK136 := Aside0.mk (hbox); have GW136 := Aside0.mk ((Hd.g_ hg Hd.b_ : w.heap.size ≤ gb136)); have GE136 := Aside0.mk ((Hd.g_ hg Hd.b_ : w.heap.size ≤ gb136)); replace HB := Aside0.mk (below_step Hd.b_ hb); have NB134_136 := Aside0.mk ((Hd.lt_ BK134 hg)); have NB136_134 := Aside0.mk ((Hd.gt_ BK134 hg)); replace BK134 := Aside0.mk (Hd.kb_ BK134 hb); have NB135_136 := Aside0.mk ((Hd.lt_ BK135 hg)); have NB136_135 := Aside0.mk ((Hd.gt_ BK135 hg)); replace BK135 := Aside0.mk (Hd.kb_ BK135 hb); clear hb hbox hg; have hnb5 := NB134_135.out; have hnc5 := NB135_134.out; have hnb6 := NB134_136.out; have hnc6 := NB136_134.out; obtain ⟨hcz7_0, hcz7_1⟩ := Hd.c2_ BK134.out; obtain ⟨hfz7_0, hfz7_1⟩ := Hd.f2_ BK134.out; have hnb8 := NB136_135.out; have hnc8 := NB135_136.out; obtain ⟨hcz9_0, hcz9_1⟩ := Hd.c2_ BK136.out; obtain ⟨hfz9_0, hfz9_1⟩ := Hd.f2_ BK136.out; obtain ⟨hcz10_0, hcz10_1⟩ := Hd.c2_ BK135.out; obtain ⟨hfz10_0, hfz10_1⟩ := Hd.f2_ BK135.out))
 refine bodyPost_ret (results_cell_row rfl _ _ gb135 44 #[.int .i64 a0_0, .int .i64 a0_1] (0, 0) _ rfl (by (with_reducible repeat (first | refine blk_drewN ?_ _ | refine blk_drew ?_ | refine blk_alloc ?_ _)); refine blk_put (cs := #[.int .i64 a0_0, .int .i64 0]) ?_ 1 _ rfl; (with_reducible repeat (first | refine blk_drewN ?_ _ | refine blk_drew ?_ | refine blk_alloc ?_ _)); refine blk_put (cs := #[.int .i64 0, .int .i64 0]) ?_ 0 _ rfl; (with_reducible repeat (first | refine blk_drewN ?_ _ | refine blk_drew ?_ | refine blk_alloc ?_ _)); refine blk_far ?_ NB135_136.out _; (with_reducible repeat (first | refine blk_drewN ?_ _ | refine blk_drew ?_ | refine blk_alloc ?_ _)); refine blk_far ?_ NB135_136.out _; (with_reducible repeat (first | refine blk_drewN ?_ _ | refine blk_drew ?_ | refine blk_alloc ?_ _)); exact BK135.out) Try.underlying44 rfl (by kernel_rfl)) rfl ?_
 exact ⟨Hd.e_, Hd.b_⟩
def laws_toBox.f (a0_0 : Int) (a0_1 : Int) (a0_2 : Int) (a0_3 : Int) : Option (Int × Int × Int × Int) := (laws_toPoint.f a0_0 a0_1).bind fun bt140 => ((laws_toPoint.f a0_2 a0_3).bind fun bt142 => (some (bt140.1, bt140.2, bt142.1, bt142.2)))
set_option maxHeartbeats 8000000 in
set_option maxRecDepth 100000 in
theorem laws_toBox.calls (a0_0 : Int) (a0_1 : Int) (a0_2 : Int) (a0_3 : Int) (r1 : Int) (r2 : Int) (r3 : Int) (r4 : Int) (w : World) (h : laws_toBox.f a0_0 a0_1 a0_2 a0_3 = some (r1, r2, r3, r4)) :
  Calls Try.prog 39 #[.agg #[.int .i64 a0_0, .int .i64 a0_1, .int .i64 a0_2, .int .i64 a0_3]] w fun e w' => e = .returned (.agg #[.int .i64 r1, .int .i64 r2, .int .i64 r3, .int .i64 r4]) ∧ Below w.heap.size w w' := by
 have hu64 := Try.underlying64
 have hu66 := Try.underlying66
 have hu40 := Try.underlying40
 have hu44 := Try.underlying44
 have HB := Aside0.mk (Below.refl w.heap.size w)
 have H : ((laws_toPoint.f a0_0 a0_1).bind fun bt140 => ((laws_toPoint.f a0_2 a0_3).bind fun bt142 => (some (bt140.1, bt140.2, bt142.1, bt142.2)))) = some (r1, r2, r3, r4) := h
 clear h
 replace H := Option.bind_eq_some_iff.mp H
 obtain ⟨⟨t140, t141⟩, A20, H⟩ := H
 replace H : ((laws_toPoint.f a0_2 a0_3).bind fun bt142 => (some (t140, t141, bt142.1, bt142.2))) = some (r1, r2, r3, r4) := H
 have A2 := Aside0.mk A20
 clear A20
 replace H := Option.bind_eq_some_iff.mp H
 obtain ⟨⟨t142, t143⟩, A30, H⟩ := H
 replace H : (some (t140, t141, t142, t143)) = some (r1, r2, r3, r4) := H
 have A3 := Aside0.mk A30
 clear A30
 simp only [Option.some.injEq, Prod.mk.injEq] at H
 obtain ⟨rfl, rfl, rfl, rfl⟩ := H
 go_enter Try.func39, Try.ntmps39
 go_wp2_with (first | ((with_reducible refine gate_dst (N := 1) rfl ?_); refine Hd.box_ 1 (#[.int .i64 a0_0, .int .i64 a0_1, .int .i64 a0_2, .int .i64 a0_3]) 64 ?_; intro gb137 hg w4 hbox hb; have BK137 := Aside0.mk (hbox); have GW137 := Aside0.mk ((Hd.g_ hg Hd.b_ : w.heap.size ≤ gb137)); have GE137 := Aside0.mk ((Hd.g_ hg Hd.b_ : w.heap.size ≤ gb137)); replace HB := Aside0.mk (below_step Hd.b_ hb); clear hb hbox hg) | ((with_reducible refine gate_dst (N := 2) rfl ?_); refine Hd.box_ 2 (#[.int .i64 0, .int .i64 0, .int .i64 0, .int .i64 0]) 66 ?_; intro gb138 hg w5 hbox hb; have BK138 := Aside0.mk (hbox); have GW138 := Aside0.mk ((Hd.g_ hg Hd.b_ : w.heap.size ≤ gb138)); have GE138 := Aside0.mk ((Hd.g_ hg Hd.b_ : w.heap.size ≤ gb138)); replace HB := Aside0.mk (below_step Hd.b_ hb); have NB137_138 := Aside0.mk ((Hd.lt_ BK137 hg)); have NB138_137 := Aside0.mk ((Hd.gt_ BK137 hg)); replace BK137 := Aside0.mk (Hd.kb_ BK137 hb); clear hb hbox hg) | ((with_reducible refine gate_dst (N := 3) rfl ?_); refine Hd.box_ 3 (#[.int .i64 0, .int .i64 0, .int .i64 0, .int .i64 0]) 66 ?_; intro gb139 hg w6 hbox hb; have BK139 := Aside0.mk (hbox); have GW139 := Aside0.mk ((Hd.g_ hg Hd.b_ : w.heap.size ≤ gb139)); have GE139 := Aside0.mk ((Hd.g_ hg Hd.b_ : w.heap.size ≤ gb139)); replace HB := Aside0.mk (below_step Hd.b_ hb); have NB137_139 := Aside0.mk ((Hd.lt_ BK137 hg)); have NB139_137 := Aside0.mk ((Hd.gt_ BK137 hg)); replace BK137 := Aside0.mk (Hd.kb_ BK137 hb); have NB138_139 := Aside0.mk ((Hd.lt_ BK138 hg)); have NB139_138 := Aside0.mk ((Hd.gt_ BK138 hg)); replace BK138 := Aside0.mk (Hd.kb_ BK138 hb); clear hb hbox hg; have hnb7 := NB137_138.out; have hnc7 := NB138_137.out; have hnb8 := NB137_139.out; have hnc8 := NB139_137.out; obtain ⟨hcz9_0, hcz9_1, hcz9_2, hcz9_3⟩ := Hd.c4_ BK137.out; obtain ⟨hfz9_0, hfz9_1, hfz9_2, hfz9_3⟩ := Hd.f4_ BK137.out) | ((with_reducible refine gate_callee (f := 26) rfl ?_); refine goesL_ (some 6) rfl rfl Try.func26 (by kernel_rfl) rfl #[.agg #[.int .i64 a0_0, .int .i64 a0_1]] rfl Hd.m_ ?_; (with_reducible refine (laws_toPoint.calls a0_0 a0_1 t140 t141 _ A2.out).mono ?_); rintro e w10 ⟨rfl, hb⟩; refine ⟨_, rfl, ?_⟩; replace BK137 := Aside0.mk (Hd.kb_ BK137 hb); replace BK138 := Aside0.mk (Hd.kb_ BK138 hb); replace BK139 := Aside0.mk (Hd.kb_ BK139 hb); replace HB := Aside0.mk (below_step Hd.b_ hb); (try clear hb); (try clear hb2); (try clear hk); (try clear hi); have hnb11 := NB139_138.out; have hnc11 := NB138_139.out; obtain ⟨hcz12_0, hcz12_1, hcz12_2, hcz12_3⟩ := Hd.c4_ BK139.out; obtain ⟨hfz12_0, hfz12_1, hfz12_2, hfz12_3⟩ := Hd.f4_ BK139.out; obtain ⟨hcz13_0, hcz13_1, hcz13_2, hcz13_3⟩ := Hd.c4_ BK137.out; obtain ⟨hfz13_0, hfz13_1, hfz13_2, hfz13_3⟩ := Hd.f4_ BK137.out) | ((with_reducible refine gate_callee (f := 26) rfl ?_); refine goesL_ (some 10) rfl rfl Try.func26 (by kernel_rfl) rfl #[.agg #[.int .i64 a0_2, .int .i64 a0_3]] rfl Hd.m_ ?_; (with_reducible refine (laws_toPoint.calls a0_2 a0_3 t142 t143 _ A3.out).mono ?_); rintro e w14 ⟨rfl, hb⟩; refine ⟨_, rfl, ?_⟩; replace BK137 := Aside0.mk (blk_below (g := gb137) (o := .cells #[.int .i64 a0_0, .int .i64 a0_1, .int .i64 a0_2, .int .i64 a0_3] 64 (0, 0)) (by (with_reducible repeat (first | refine blk_drewN ?_ _ | refine blk_drew ?_ | refine blk_alloc ?_ _)); refine blk_far ?_ NB137_139.out _; (with_reducible repeat (first | refine blk_drewN ?_ _ | refine blk_drew ?_ | refine blk_alloc ?_ _)); refine blk_far ?_ NB137_139.out _; (with_reducible repeat (first | refine blk_drewN ?_ _ | refine blk_drew ?_ | refine blk_alloc ?_ _)); exact BK137.out) hb); replace BK138 := Aside0.mk (blk_below (g := gb138) (o := .cells #[.int .i64 0, .int .i64 0, .int .i64 0, .int .i64 0] 66 (0, 0)) (by (with_reducible repeat (first | refine blk_drewN ?_ _ | refine blk_drew ?_ | refine blk_alloc ?_ _)); refine blk_far ?_ NB138_139.out _; (with_reducible repeat (first | refine blk_drewN ?_ _ | refine blk_drew ?_ | refine blk_alloc ?_ _)); refine blk_far ?_ NB138_139.out _; (with_reducible repeat (first | refine blk_drewN ?_ _ | refine blk_drew ?_ | refine blk_alloc ?_ _)); exact BK138.out) hb); replace BK139 := Aside0.mk (blk_below (g := gb139) (o := .cells #[.int .i64 t140, .int .i64 t141, .int .i64 0, .int .i64 0] 66 (0, 0)) (by (with_reducible repeat (first | refine blk_drewN ?_ _ | refine blk_drew ?_ | refine blk_alloc ?_ _)); refine blk_put (cs := #[.int .i64 t140, .int .i64 0, .int .i64 0, .int .i64 0]) ?_ 1 _ rfl; (with_reducible repeat (first | refine blk_drewN ?_ _ | refine blk_drew ?_ | refine blk_alloc ?_ _)); refine blk_put (cs := #[.int .i64 0, .int .i64 0, .int .i64 0, .int .i64 0]) ?_ 0 _ rfl; (with_reducible repeat (first | refine blk_drewN ?_ _ | refine blk_drew ?_ | refine blk_alloc ?_ _)); exact BK139.out) hb); replace HB := Aside0.mk (below_step Hd.b_ hb); (try clear hb); (try clear hb2); (try clear hk); (try clear hi); obtain ⟨hcz15_0, hcz15_1, hcz15_2, hcz15_3⟩ := Hd.c4_ BK139.out; obtain ⟨hfz15_0, hfz15_1, hfz15_2, hfz15_3⟩ := Hd.f4_ BK139.out; obtain ⟨hcz16_0, hcz16_1, hcz16_2, hcz16_3⟩ := Hd.c4_ BK138.out; obtain ⟨hfz16_0, hfz16_1, hfz16_2, hfz16_3⟩ := Hd.f4_ BK138.out))
 refine bodyPost_ret (results_cell_row rfl _ _ gb138 66 #[.int .i64 t140, .int .i64 t141, .int .i64 t142, .int .i64 t143] (0, 0) _ rfl (by (with_reducible repeat (first | refine blk_drewN ?_ _ | refine blk_drew ?_ | refine blk_alloc ?_ _)); refine blk_put (cs := #[.int .i64 t140, .int .i64 t141, .int .i64 t142, .int .i64 0]) ?_ 3 _ rfl; (with_reducible repeat (first | refine blk_drewN ?_ _ | refine blk_drew ?_ | refine blk_alloc ?_ _)); refine blk_put (cs := #[.int .i64 t140, .int .i64 t141, .int .i64 0, .int .i64 0]) ?_ 2 _ rfl; (with_reducible repeat (first | refine blk_drewN ?_ _ | refine blk_drew ?_ | refine blk_alloc ?_ _)); refine blk_put (cs := #[.int .i64 t140, .int .i64 0, .int .i64 0, .int .i64 0]) ?_ 1 _ rfl; (with_reducible repeat (first | refine blk_drewN ?_ _ | refine blk_drew ?_ | refine blk_alloc ?_ _)); refine blk_put (cs := #[.int .i64 0, .int .i64 0, .int .i64 0, .int .i64 0]) ?_ 0 _ rfl; (with_reducible repeat (first | refine blk_drewN ?_ _ | refine blk_drew ?_ | refine blk_alloc ?_ _)); refine blk_far ?_ NB138_139.out _; (with_reducible repeat (first | refine blk_drewN ?_ _ | refine blk_drew ?_ | refine blk_alloc ?_ _)); refine blk_far ?_ NB138_139.out _; (with_reducible repeat (first | refine blk_drewN ?_ _ | refine blk_drew ?_ | refine blk_alloc ?_ _)); exact BK138.out) Try.underlying66 rfl (by kernel_rfl)) rfl ?_
 exact ⟨Hd.e_, Hd.b_⟩
def impl_InRange.f (a0 : Int) (a1 : Int) (a2 : Int) : Option (Bool) := if a1 ≤ a0 then (some (decide (a0 ≤ a2))) else (some false)
set_option maxHeartbeats 8000000 in
set_option maxRecDepth 100000 in
theorem impl_InRange.calls (a0 : Int) (a1 : Int) (a2 : Int) (r : Bool) (w : World) (h : impl_InRange.f a0 a1 a2 = some r) :
  Calls Try.prog 92 #[.int .i64 a0, .int .i64 a1, .int .i64 a2] w fun e w' => e = .returned (.bool r) ∧ Drawn0 w w' := by
 have H : (if a1 ≤ a0 then (some (decide (a0 ≤ a2))) else (some false)) = some r := h
 clear h
 by_cases c4 : a1 ≤ a0
 ·
  rw [if_pos c4] at H
  have c4b0 : decide (a1 ≤ a0) = true := decide_eq_true c4
  clear c4
  obtain rfl := Option.some.inj H
  go_enter Try.func92, Try.ntmps92
  go_wp2
  go_ret
  exact ⟨by first | rfl | (simp; done) | (simp [*]; done), by repeat (first | exact Drawn0.refl _ | apply Drawn0.step)⟩
 ·
  rw [if_neg c4] at H
  have c4b0 : decide (a1 ≤ a0) = false := decide_eq_false c4
  clear c4
  obtain rfl := Option.some.inj H
  go_enter Try.func92, Try.ntmps92
  go_wp2
  go_ret
  exact ⟨by first | rfl | (simp; done) | (simp [*]; done), by repeat (first | exact Drawn0.refl _ | apply Drawn0.step)⟩
end Go.Proofs.Ytchmbcembbbplaa.MFnExactJoinBoxes
