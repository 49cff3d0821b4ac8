-- Laid by this session's program pp.py, after the kit's print and texts of the session's own. Not trusted: Lean checks it.
import Derived.Test.YtchmbcembbbplacZDropCornerMx0
import Derived.Test.YtchmbcembbbplacZDropCornerMx1
import Derived.Test.YtchmbcembbbplacZDropCornerMx2
import Derived.Test.YtchmbcembbbplacZDropCornerMx5
namespace Go.Proofs.Ytchmbcembbbplac.MFnExactDropCorner
open Go.RowKit Go.Proofs.YtchmbcembbbplacW.PrintWords Go.Proofs.YtchmbcembbbplacW.PrintLast Go.Proofs.YtchmbcembbbplacW.PrintMore
attribute [local go_sem] max2_int min2_int max_two min_two max_three min_three max_four min_four   -- for this text's walks alone
set_option linter.unusedVariables false
set_option linter.unusedSimpArgs false
attribute [local go_sem high] eqA49
def spec_SameTurn.f (k : Nat) (l0 : List (S49)) (l1 : List (S49)) : Option (Bool) := (spec_TwiceArea.f k l0).bind fun t210 => ((spec_TwiceArea.f k l1).bind fun t211 => (if t210 > 0 then (if t211 > 0 then (some true) else (if t210 < 0 then (some (decide (t211 < 0))) else (some false))) else (if t210 < 0 then (some (decide (t211 < 0))) else (some false))))
set_option maxHeartbeats 8000000 in
set_option maxRecDepth 100000 in
theorem spec_SameTurn.calls (k : Nat) (A0 : Option Addr) (c0 : Nat) (l0 : List (S49)) (A1 : Option Addr) (c1 : Nat) (l1 : List (S49)) (r : Bool) (w : World) (hr0 : Kd.C k49 w A0 l0.length l0) (hc0 : l0.length ≤ c0) (hr1 : Kd.C k49 w A1 l1.length l1) (hc1 : l1.length ≤ c1) (h : spec_SameTurn.f k l0 l1 = some r) :
  Calls Try.prog 84 #[.slice A0 l0.length c0, .slice A1 l1.length c1] w fun e w' => e = .returned (.bool r) ∧ Below w.heap.size w w' := by
 have HR0 := Aside0.mk hr0
 have HC0 := Aside0.mk hc0
 clear hr0 hc0
 have HR1 := Aside0.mk hr1
 have HC1 := Aside0.mk hc1
 clear hr1 hc1
 have HB := Aside0.mk (Below.refl w.heap.size w)
 have H : ((spec_TwiceArea.f k l0).bind fun t210 => ((spec_TwiceArea.f k l1).bind fun t211 => (if t210 > 0 then (if t211 > 0 then (some true) else (if t210 < 0 then (some (decide (t211 < 0))) else (some false))) else (if t210 < 0 then (some (decide (t211 < 0))) else (some false))))) = some r := h
 clear h
 replace H := Option.bind_eq_some_iff.mp H
 obtain ⟨t210, A30, H⟩ := H
 replace H : ((spec_TwiceArea.f k l1).bind fun t211 => (if t210 > 0 then (if t211 > 0 then (some true) else (if t210 < 0 then (some (decide (t211 < 0))) else (some false))) else (if t210 < 0 then (some (decide (t211 < 0))) else (some false)))) = some r := H
 have A3 := Aside0.mk A30
 clear A30
 replace H := Option.bind_eq_some_iff.mp H
 obtain ⟨t211, A40, H⟩ := H
 replace H : (if t210 > 0 then (if t211 > 0 then (some true) else (if t210 < 0 then (some (decide (t211 < 0))) else (some false))) else (if t210 < 0 then (some (decide (t211 < 0))) else (some false))) = some r := H
 have A4 := Aside0.mk A40
 clear A40
 by_cases c5 : t210 > 0
 ·
  rw [if_pos c5] at H
  have c5b0 : decide (0 < t210) = true := decide_eq_true c5
  clear c5
  by_cases c6 : t211 > 0
  ·
   rw [if_pos c6] at H
   have c6b0 : decide (0 < t211) = true := decide_eq_true c6
   clear c6
   obtain rfl := Option.some.inj H
   go_enter Try.func84, Try.ntmps84
   go_wp2_with (first | ((with_reducible refine gate_callee (f := 138) rfl ?_); refine goesL_ (some 8) rfl rfl Try.func138 (by kernel_rfl) rfl #[.slice A0 l0.length c0] rfl Hd.m_ ?_; (with_reducible refine (spec_TwiceArea.calls k _ _ l0 t210 _ ?side1 ?side2 A3.out).mono ?_); (case side1 => repeat (first | exact HR0.out | (with_reducible refine Kd.C_alloc ?_ _) | (with_reducible refine Kd.C_drewN ?_ _) | (with_reducible refine Kd.C_drew ?_))); (case side2 => exact HC0.out); rintro e w7 ⟨rfl, hb⟩; refine ⟨_, rfl, ?_⟩; replace HB := Aside0.mk (below_step Hd.b_ hb); (try clear hb); (try clear hb2); (try clear hk); (try clear hi)) | ((with_reducible refine gate_callee (f := 138) rfl ?_); refine goesL_ (some 10) rfl rfl Try.func138 (by kernel_rfl) rfl #[.slice A1 l1.length c1] rfl Hd.m_ ?_; (with_reducible refine (spec_TwiceArea.calls k _ _ l1 t211 _ ?side1 ?side2 A4.out).mono ?_); (case side1 => repeat (first | exact (Kd.C_below HR1.out HB.out) | (with_reducible refine Kd.C_alloc ?_ _) | (with_reducible refine Kd.C_drewN ?_ _) | (with_reducible refine Kd.C_drew ?_))); (case side2 => exact HC1.out); rintro e w8 ⟨rfl, hb⟩; refine ⟨_, rfl, ?_⟩; replace HB := Aside0.mk (below_step Hd.b_ hb); (try clear hb); (try clear hb2); (try clear hk); (try clear hi)))
   go_ret
   exact ⟨Hd.e_, Hd.b_⟩
  ·
   rw [if_neg c6] at H
   have c6b0 : decide (0 < t211) = false := decide_eq_false c6
   clear c6
   by_cases c9 : t210 < 0
   ·
    rw [if_pos c9] at H
    have c9b0 : decide (t210 < 0) = true := decide_eq_true c9
    clear c9
    obtain rfl := Option.some.inj H
    go_enter Try.func84, Try.ntmps84
    go_wp2_with (first | ((with_reducible refine gate_callee (f := 138) rfl ?_); refine goesL_ (some 8) rfl rfl Try.func138 (by kernel_rfl) rfl #[.slice A0 l0.length c0] rfl Hd.m_ ?_; (with_reducible refine (spec_TwiceArea.calls k _ _ l0 t210 _ ?side1 ?side2 A3.out).mono ?_); (case side1 => repeat (first | exact HR0.out | (with_reducible refine Kd.C_alloc ?_ _) | (with_reducible refine Kd.C_drewN ?_ _) | (with_reducible refine Kd.C_drew ?_))); (case side2 => exact HC0.out); rintro e w10 ⟨rfl, hb⟩; refine ⟨_, rfl, ?_⟩; replace HB := Aside0.mk (below_step Hd.b_ hb); (try clear hb); (try clear hb2); (try clear hk); (try clear hi)) | ((with_reducible refine gate_callee (f := 138) rfl ?_); refine goesL_ (some 10) rfl rfl Try.func138 (by kernel_rfl) rfl #[.slice A1 l1.length c1] rfl Hd.m_ ?_; (with_reducible refine (spec_TwiceArea.calls k _ _ l1 t211 _ ?side1 ?side2 A4.out).mono ?_); (case side1 => repeat (first | exact (Kd.C_below HR1.out HB.out) | (with_reducible refine Kd.C_alloc ?_ _) | (with_reducible refine Kd.C_drewN ?_ _) | (with_reducible refine Kd.C_drew ?_))); (case side2 => exact HC1.out); rintro e w11 ⟨rfl, hb⟩; refine ⟨_, rfl, ?_⟩; replace HB := Aside0.mk (below_step Hd.b_ hb); (try clear hb); (try clear hb2); (try clear hk); (try clear hi)))
    go_ret
    exact ⟨Hd.e_, Hd.b_⟩
   ·
    rw [if_neg c9] at H
    have c9b0 : decide (t210 < 0) = false := decide_eq_false c9
    clear c9
    obtain rfl := Option.some.inj H
    go_enter Try.func84, Try.ntmps84
    go_wp2_with (first | ((with_reducible refine gate_callee (f := 138) rfl ?_); refine goesL_ (some 8) rfl rfl Try.func138 (by kernel_rfl) rfl #[.slice A0 l0.length c0] rfl Hd.m_ ?_; (with_reducible refine (spec_TwiceArea.calls k _ _ l0 t210 _ ?side1 ?side2 A3.out).mono ?_); (case side1 => repeat (first | exact HR0.out | (with_reducible refine Kd.C_alloc ?_ _) | (with_reducible refine Kd.C_drewN ?_ _) | (with_reducible refine Kd.C_drew ?_))); (case side2 => exact HC0.out); rintro e w12 ⟨rfl, hb⟩; refine ⟨_, rfl, ?_⟩; replace HB := Aside0.mk (below_step Hd.b_ hb); (try clear hb); (try clear hb2); (try clear hk); (try clear hi)) | ((with_reducible refine gate_callee (f := 138) rfl ?_); refine goesL_ (some 10) rfl rfl Try.func138 (by kernel_rfl) rfl #[.slice A1 l1.length c1] rfl Hd.m_ ?_; (with_reducible refine (spec_TwiceArea.calls k _ _ l1 t211 _ ?side1 ?side2 A4.out).mono ?_); (case side1 => repeat (first | exact (Kd.C_below HR1.out HB.out) | (with_reducible refine Kd.C_alloc ?_ _) | (with_reducible refine Kd.C_drewN ?_ _) | (with_reducible refine Kd.C_drew ?_))); (case side2 => exact HC1.out); rintro e w13 ⟨rfl, hb⟩; refine ⟨_, rfl, ?_⟩; replace HB := Aside0.mk (below_step Hd.b_ hb); (try clear hb); (try clear hb2); (try clear hk); (try clear hi)))
    go_ret
    exact ⟨Hd.e_, Hd.b_⟩
 ·
  rw [if_neg c5] at H
  have c5b0 : decide (0 < t210) = false := decide_eq_false c5
  clear c5
  by_cases c14 : t210 < 0
  ·
   rw [if_pos c14] at H
   have c14b0 : decide (t210 < 0) = true := decide_eq_true c14
   clear c14
   obtain rfl := Option.some.inj H
   go_enter Try.func84, Try.ntmps84
   go_wp2_with (first | ((with_reducible refine gate_callee (f := 138) rfl ?_); refine goesL_ (some 8) rfl rfl Try.func138 (by kernel_rfl) rfl #[.slice A0 l0.length c0] rfl Hd.m_ ?_; (with_reducible refine (spec_TwiceArea.calls k _ _ l0 t210 _ ?side1 ?side2 A3.out).mono ?_); (case side1 => repeat (first | exact HR0.out | (with_reducible refine Kd.C_alloc ?_ _) | (with_reducible refine Kd.C_drewN ?_ _) | (with_reducible refine Kd.C_drew ?_))); (case side2 => exact HC0.out); rintro e w15 ⟨rfl, hb⟩; refine ⟨_, rfl, ?_⟩; replace HB := Aside0.mk (below_step Hd.b_ hb); (try clear hb); (try clear hb2); (try clear hk); (try clear hi)) | ((with_reducible refine gate_callee (f := 138) rfl ?_); refine goesL_ (some 10) rfl rfl Try.func138 (by kernel_rfl) rfl #[.slice A1 l1.length c1] rfl Hd.m_ ?_; (with_reducible refine (spec_TwiceArea.calls k _ _ l1 t211 _ ?side1 ?side2 A4.out).mono ?_); (case side1 => repeat (first | exact (Kd.C_below HR1.out HB.out) | (with_reducible refine Kd.C_alloc ?_ _) | (with_reducible refine Kd.C_drewN ?_ _) | (with_reducible refine Kd.C_drew ?_))); (case side2 => exact HC1.out); rintro e w16 ⟨rfl, hb⟩; refine ⟨_, rfl, ?_⟩; replace HB := Aside0.mk (below_step Hd.b_ hb); (try clear hb); (try clear hb2); (try clear hk); (try clear hi)))
   go_ret
   exact ⟨Hd.e_, Hd.b_⟩
  ·
   rw [if_neg c14] at H
   have c14b0 : decide (t210 < 0) = false := decide_eq_false c14
   clear c14
   obtain rfl := Option.some.inj H
   go_enter Try.func84, Try.ntmps84
   go_wp2_with (first | ((with_reducible refine gate_callee (f := 138) rfl ?_); refine goesL_ (some 8) rfl rfl Try.func138 (by kernel_rfl) rfl #[.slice A0 l0.length c0] rfl Hd.m_ ?_; (with_reducible refine (spec_TwiceArea.calls k _ _ l0 t210 _ ?side1 ?side2 A3.out).mono ?_); (case side1 => repeat (first | exact HR0.out | (with_reducible refine Kd.C_alloc ?_ _) | (with_reducible refine Kd.C_drewN ?_ _) | (with_reducible refine Kd.C_drew ?_))); (case side2 => exact HC0.out); rintro e w17 ⟨rfl, hb⟩; refine ⟨_, rfl, ?_⟩; replace HB := Aside0.mk (below_step Hd.b_ hb); (try clear hb); (try clear hb2); (try clear hk); (try clear hi)) | ((with_reducible refine gate_callee (f := 138) rfl ?_); refine goesL_ (some 10) rfl rfl Try.func138 (by kernel_rfl) rfl #[.slice A1 l1.length c1] rfl Hd.m_ ?_; (with_reducible refine (spec_TwiceArea.calls k _ _ l1 t211 _ ?side1 ?side2 A4.out).mono ?_); (case side1 => repeat (first | exact (Kd.C_below HR1.out HB.out) | (with_reducible refine Kd.C_alloc ?_ _) | (with_reducible refine Kd.C_drewN ?_ _) | (with_reducible refine Kd.C_drew ?_))); (case side2 => exact HC1.out); rintro e w18 ⟨rfl, hb⟩; refine ⟨_, rfl, ?_⟩; replace HB := Aside0.mk (below_step Hd.b_ hb); (try clear hb); (try clear hb2); (try clear hk); (try clear hi)))
   go_ret
   exact ⟨Hd.e_, Hd.b_⟩
def spec_DropCorner.j0 : Nat → List (S49) → Int → Bool → Option ((List (S49)) × Bool)
 | 0, _, _, _ => none
 | k + 1, x0, x1, x17 => if x17 = true then ((some (([] : List (S49)) : List (S49))).bind fun y214 => (if y214.length + x0.length < 8796093022208 then (some ((y214 ++ x0), false)) else (none))) else ((some (([] : List (S49)) : List (S49))).bind fun y220 => (if 0 ≤ x1 then (if x1 ≤ (x0.length : Int) then ((some (x0.take (x1 : Int).toNat : List (S49))).bind fun y223 => (if y220.length + y223.length < 8796093022208 then ((some (y220 ++ y223 : List (S49))).bind fun y227 => (if 0 ≤ (wrap64 (x1 + 1)) then (if (wrap64 (x1 + 1)) ≤ (x0.length : Int) then ((some (x0.drop ((wrap64 (x1 + 1)) : Int).toNat : List (S49))).bind fun y230 => (if y227.length + y230.length < 8796093022208 then ((some (y227 ++ y230 : List (S49))).bind fun y234 => ((spec_IsRing.f k y234).bind fun t237 => (if t237 = true then ((spec_SameTurn.f k x0 y234).bind fun t238 => (if t238 = true then (some (y234, true)) else ((some (([] : List (S49)) : List (S49))).bind fun y239 => (if y239.length + x0.length < 8796093022208 then (some ((y239 ++ x0), false)) else (none))))) else ((some (([] : List (S49)) : List (S49))).bind fun y245 => (if y245.length + x0.length < 8796093022208 then (some ((y245 ++ x0), false)) else (none)))))) else (none))) else (none)) else (none))) else (none))) else (none)) else (none)))
def spec_DropCorner.f (k : Nat) (l0 : List (S49)) (a1 : Int) : Option ((List (S49)) × Bool) := (spec_IsRing.f k l0).bind fun t212 => (if t212 = true then ((spec_l1In.f a1 0 (wrap64 ((l0.length : Int) - 1))).bind fun t213 => (spec_DropCorner.j0 k l0 a1 (!t213))) else (spec_DropCorner.j0 k l0 a1 true))
def spec_DropCorner.T3 : Bool × List (List Nat × List Nat) := (true, [([], []), ([], []), ([], []), ([1, 2], [1, 2]), ([0, 3], [0, 3]), ([], []), ([], []), ([6], [6]), ([5, 7], [5, 7]), ([4, 8, 4], [4, 8]), ([9, 9, 0, 1, 2, 3, 4, 5, 6, 7, 8, 9], [9])])
def spec_DropCorner.B3 : List Nat := [0, 0, 0, 6, 15, 0, 0, 64, 224, 511, 1023]
theorem spec_DropCorner.tab3 : rtab .any (opsOf Try.f28 3) = spec_DropCorner.T3 := by kernel_rfl
theorem spec_DropCorner.bits3 : waitsOk spec_DropCorner.T3.2 spec_DropCorner.B3 = true := by kernel_rfl
set_option maxHeartbeats 8000000 in
set_option maxRecDepth 100000 in
theorem spec_DropCorner.calls (k : Nat) (A0 : Option Addr) (c0 : Nat) (l0 : List (S49)) (a1 : Int) (r1 : List (S49)) (r2 : Bool) (w : World) (hr0 : Kd.C k49 w A0 l0.length l0) (hc0 : l0.length ≤ c0) (h : spec_DropCorner.f k l0 a1 = some (r1, r2)) :
  Calls Try.prog 28 #[.slice A0 l0.length c0, .int .i64 a1] w fun e w' => ∃ v0_ : Value, e = .returned (.tuple #[v0_, .bool r2]) ∧ Kd.R k49 49 w' w.heap.size (fun _ => True) v0_ r1 ∧ Below w.heap.size w w' := by
 have HR0 := Aside0.mk hr0
 have HC0 := Aside0.mk hc0
 clear hr0 hc0
 have HB := Aside0.mk (Below.refl w.heap.size w)
 have H : ((spec_IsRing.f k l0).bind fun t212 => (if t212 = true then ((spec_l1In.f a1 0 (wrap64 ((l0.length : Int) - 1))).bind fun t213 => (spec_DropCorner.j0 k l0 a1 (!t213))) else (spec_DropCorner.j0 k l0 a1 true))) = some (r1, r2) := h
 clear h
 have HC3 := Aside0.mk H
 clear H
 go_enter Try.func28, Try.ntmps28
 go_upto_region 1 with (fail)
 go_cut [17] (fun v17 wc => ∃ (kq : Nat) (x17_2 : Bool), v17 = .bool x17_2 ∧ Aside0 (spec_DropCorner.j0 kq l0 a1 x17_2 = some (r1, r2)) ∧ Aside0 (kq ≤ k) ∧ Aside0 (Below w.heap.size w wc))
 case first =>
  have H := HC3.out
  clear HC3
  replace H := Option.bind_eq_some_iff.mp H
  obtain ⟨t212, A40, H⟩ := H
  replace H : (if t212 = true then ((spec_l1In.f a1 0 (wrap64 ((l0.length : Int) - 1))).bind fun t213 => (spec_DropCorner.j0 k l0 a1 (!t213))) else (spec_DropCorner.j0 k l0 a1 true)) = some (r1, r2) := H
  have A4 := Aside0.mk A40
  clear A40
  by_cases c5 : t212 = true
  ·
   subst c5
   have H1 : ((spec_l1In.f a1 0 (wrap64 ((l0.length : Int) - 1))).bind fun t213 => (spec_DropCorner.j0 k l0 a1 (!t213))) = some (r1, r2) := by rw [if_pos rfl] at H; exact H
   clear H
   have H := H1
   clear H1
   replace H := Option.bind_eq_some_iff.mp H
   obtain ⟨t213, A60, H⟩ := H
   replace H : (spec_DropCorner.j0 k l0 a1 (!t213)) = some (r1, r2) := H
   have A6 := Aside0.mk A60
   clear A60
   have H' := Aside0.mk H
   clear H
   go_wp2_with (first | ((with_reducible refine gate_callee (f := 82) rfl ?_); refine goesL_ (some 8) rfl rfl Try.func82 (by kernel_rfl) rfl #[.slice A0 l0.length c0] rfl Hd.m_ ?_; (with_reducible refine (spec_IsRing.calls k _ _ l0 true _ ?side1 ?side2 A4.out).mono ?_); (case side1 => repeat (first | exact (Kd.C_below HR0.out HB.out) | (with_reducible refine Kd.C_alloc ?_ _) | (with_reducible refine Kd.C_drewN ?_ _) | (with_reducible refine Kd.C_drew ?_))); (case side2 => exact HC0.out); rintro e w7 ⟨rfl, hb⟩; refine ⟨_, rfl, ?_⟩; replace HB := Aside0.mk (below_step Hd.b_ hb); (try clear hb); (try clear hb2); (try clear hk); (try clear hi)) | (go_at_call 83; (with_reducible refine (spec_l1In.calls a1 0 (wrap64 ((l0.length : Int) - 1)) t213 _ A6.out).mono ?_); rintro e w' ⟨rfl, ⟨nd, rfl⟩⟩))
   go_meet
   case rel => exact ⟨_, (!t213), (by first | rfl | (simp; done) | (simp [*]; done)), H', ⟨by first | omega | exact Nat.le_refl _⟩, ⟨Hd.b_⟩⟩
  ·
   replace c5 := Bool.eq_false_iff.mpr c5
   subst c5
   have H1 : (spec_DropCorner.j0 k l0 a1 true) = some (r1, r2) := by rw [if_neg (show ¬ (false = true) by decide)] at H; exact H
   clear H
   have H := H1
   clear H1
   have H' := Aside0.mk H
   clear H
   go_wp2_with (first | ((with_reducible refine gate_callee (f := 82) rfl ?_); refine goesL_ (some 8) rfl rfl Try.func82 (by kernel_rfl) rfl #[.slice A0 l0.length c0] rfl Hd.m_ ?_; (with_reducible refine (spec_IsRing.calls k _ _ l0 false _ ?side1 ?side2 A4.out).mono ?_); (case side1 => repeat (first | exact (Kd.C_below HR0.out HB.out) | (with_reducible refine Kd.C_alloc ?_ _) | (with_reducible refine Kd.C_drewN ?_ _) | (with_reducible refine Kd.C_drew ?_))); (case side2 => exact HC0.out); rintro e w8 ⟨rfl, hb⟩; refine ⟨_, rfl, ?_⟩; replace HB := Aside0.mk (below_step Hd.b_ hb); (try clear hb); (try clear hb2); (try clear hk); (try clear hi)))
   go_meet
   case rel => exact ⟨_, (true), (by first | rfl | (simp; done) | (simp [*]; done)), H', ⟨by first | omega | exact Nat.le_refl _⟩, ⟨Hd.b_⟩⟩
 case rest =>
  clear HC3
  try clear c2
  try clear p2
  try clear c5
  try clear p6
  try clear c8
  obtain ⟨kq, x17_2, rfl, HA, HJ2, HB⟩ := hcut
  cases kq with
  | zero => exact absurd HA.out (by simp [spec_DropCorner.j0])
  | succ kj2 =>
   have H := HA.out
   clear HA
   simp only [spec_DropCorner.j0] at H
   by_cases c9 : x17_2 = true
   ·
    subst c9
    have H1 : ((some (([] : List (S49)) : List (S49))).bind fun y214 => (if y214.length + l0.length < 8796093022208 then (some ((y214 ++ l0), false)) else (none))) = some (r1, r2) := by rw [if_pos rfl] at H; exact H
    clear H
    have H := H1
    clear H1
    obtain ⟨y214, hy214⟩ : ∃ y_ : List (S49), y_ = (([] : List (S49))) := ⟨_, rfl⟩
    replace H : (if y214.length + l0.length < 8796093022208 then (some ((y214 ++ l0), false)) else (none)) = some (r1, r2) := by first | (rw [hy214]; with_reducible exact H) | (have H2_ := (Option.bind_some _ _).symm.trans H; rw [hy214]; with_reducible exact H2_) | (have H2_ := (Option.bind_some _ _).symm.trans H; with_reducible exact H2_) | with_reducible exact H | (rw [hy214]; exact H) | exact H
    have Ny214 := Aside0.mk hy214
    clear hy214
    by_cases c10 : y214.length + l0.length < 8796093022208
    ·
     rw [if_pos c10] at H
     have LMc10 := Aside0.mk c10
     clear c10
     obtain ⟨y217, hy217⟩ : ∃ y_ : List (S49), y_ = (y214 ++ l0) := ⟨_, rfl⟩
     replace H : (some (y217, false)) = some (r1, r2) := by first | (rw [hy217]; with_reducible exact H) | (have H2_ := (Option.bind_some _ _).symm.trans H; rw [hy217]; with_reducible exact H2_) | (have H2_ := (Option.bind_some _ _).symm.trans H; with_reducible exact H2_) | with_reducible exact H | (rw [hy217]; exact H) | exact H
     have Ny217 := Aside0.mk hy217
     clear hy217
     simp only [Option.some.injEq, Prod.mk.injEq] at H
     obtain ⟨rfl, rfl⟩ := H
     go_wp2_with (first | ((with_reducible refine gate_dst (N := 18) rfl ?_); (try (refine gate_guard (by rfl) ?_; dsimp only)); refine Kd.R_lit k49 _ 49 ?hg (N := 18) ?hd (xs := ([] : List (S49))) (inner := []) (ok := fun _ => True) (okp := fun _ => True) ?hr ?hp (fun _ hk => hk) trivial (Below.refl _ _) (Nat.le_refl _) (by simp) ?_; (case hd => rfl); (case hg => rfl); (case hr => first | (go_simp; done) | (go_simp; rfl)); (case hp => exact (Reps.none _ _)); intro v215 w11 ho12 hb hg_ hnew_; clear hg_ hnew_; (first | rw [← Ny214.out] at ho12 | (simp only [Int.reduceToNat] at ho12; rw [← Ny214.out] at ho12)); have HO216 := Aside0.mk (Kd.R_lower ho12 (below_size Hd.b_)); replace HB := Aside0.mk (below_step Hd.b_ hb); clear hb ho12) | ((with_reducible refine gate_builtin (b := .append) (xs := #[.tmp 18, .tmp 19]) rfl ?_); (try (refine gate_guard (by rfl) ?_; dsimp only)); at_builtin; refine Kd.R_append_rows k49 (w0 := w) w.heap.size rfl (.tmp 18) (.tmp 19) 28 49 (.agg #[(.int .i64 0), (.int .i64 0)]) 16 rfl Try.underlying28 info49 rfl (by decide) (by omega) v215 y214 l0 _ _ _ (fun _ => True) (fun _ => False) rfl rfl ?aO ?aR (fun _ _ h => h) (fun _ h => h.elim) ?aF ?aB ?aS ?aL ?_; (case aR => repeat (first | exact (Kd.C_below HR0.out HB.out) | (with_reducible refine Kd.C_alloc ?_ _) | (with_reducible refine Kd.C_drewN ?_ _) | (with_reducible refine Kd.C_drew ?_))); (case aB => exact Hd.b_); (case aF => exact (fun _ _ => trivial)); (case aO => exact (Hd.r_ HO216)); (case aS => exact (below_size Hd.b_)); (case aL => have := LMc10.out; omega); intro v218 w13 ho hb hg hat; rw [← Ny217.out] at ho; have n0_ := Aside0.mk (hb); have n1_ := Aside0.mk (ho); clear HB; clear HO216; have HB := n0_; have HO219 := n1_; clear n0_ n1_; clear ho hb hg hat))
     go_ret2
     exact ⟨_, Hd.e_, by (with_reducible repeat (first | apply Kd.R_alloc | apply Kd.R_drewN | apply Kd.R_drew)); exact HO219.out, Hd.b_⟩
    ·
     rw [if_neg c10] at H
     exact absurd H (by simp)
   ·
    replace c9 := Bool.eq_false_iff.mpr c9
    subst c9
    have H1 : ((some (([] : List (S49)) : List (S49))).bind fun y220 => (if 0 ≤ a1 then (if a1 ≤ (l0.length : Int) then ((some (l0.take (a1 : Int).toNat : List (S49))).bind fun y223 => (if y220.length + y223.length < 8796093022208 then ((some (y220 ++ y223 : List (S49))).bind fun y227 => (if 0 ≤ (wrap64 (a1 + 1)) then (if (wrap64 (a1 + 1)) ≤ (l0.length : Int) then ((some (l0.drop ((wrap64 (a1 + 1)) : Int).toNat : List (S49))).bind fun y230 => (if y227.length + y230.length < 8796093022208 then ((some (y227 ++ y230 : List (S49))).bind fun y234 => ((spec_IsRing.f kj2 y234).bind fun t237 => (if t237 = true then ((spec_SameTurn.f kj2 l0 y234).bind fun t238 => (if t238 = true then (some (y234, true)) else ((some (([] : List (S49)) : List (S49))).bind fun y239 => (if y239.length + l0.length < 8796093022208 then (some ((y239 ++ l0), false)) else (none))))) else ((some (([] : List (S49)) : List (S49))).bind fun y245 => (if y245.length + l0.length < 8796093022208 then (some ((y245 ++ l0), false)) else (none)))))) else (none))) else (none)) else (none))) else (none))) else (none)) else (none))) = some (r1, r2) := by rw [if_neg (show ¬ (false = true) by decide)] at H; exact H
    clear H
    have H := H1
    clear H1
    obtain ⟨y220, hy220⟩ : ∃ y_ : List (S49), y_ = (([] : List (S49))) := ⟨_, rfl⟩
    replace H : (if 0 ≤ a1 then (if a1 ≤ (l0.length : Int) then ((some (l0.take (a1 : Int).toNat : List (S49))).bind fun y223 => (if y220.length + y223.length < 8796093022208 then ((some (y220 ++ y223 : List (S49))).bind fun y227 => (if 0 ≤ (wrap64 (a1 + 1)) then (if (wrap64 (a1 + 1)) ≤ (l0.length : Int) then ((some (l0.drop ((wrap64 (a1 + 1)) : Int).toNat : List (S49))).bind fun y230 => (if y227.length + y230.length < 8796093022208 then ((some (y227 ++ y230 : List (S49))).bind fun y234 => ((spec_IsRing.f kj2 y234).bind fun t237 => (if t237 = true then ((spec_SameTurn.f kj2 l0 y234).bind fun t238 => (if t238 = true then (some (y234, true)) else ((some (([] : List (S49)) : List (S49))).bind fun y239 => (if y239.length + l0.length < 8796093022208 then (some ((y239 ++ l0), false)) else (none))))) else ((some (([] : List (S49)) : List (S49))).bind fun y245 => (if y245.length + l0.length < 8796093022208 then (some ((y245 ++ l0), false)) else (none)))))) else (none))) else (none)) else (none))) else (none))) else (none)) else (none)) = some (r1, r2) := by first | (rw [hy220]; with_reducible exact H) | (have H2_ := (Option.bind_some _ _).symm.trans H; rw [hy220]; with_reducible exact H2_) | (have H2_ := (Option.bind_some _ _).symm.trans H; with_reducible exact H2_) | with_reducible exact H | (rw [hy220]; exact H) | exact H
    have Ny220 := Aside0.mk hy220
    clear hy220
    by_cases c14 : 0 ≤ a1
    ·
     rw [if_pos c14] at H
     have c14b0 := eq_true c14
     have c14b1 : decide (0 ≤ a1) = true := decide_eq_true c14
     clear c14
     by_cases c15 : a1 ≤ (l0.length : Int)
     ·
      rw [if_pos c15] at H
      have c15b0 := eq_true c15
      have c15b1 : decide (a1 ≤ (l0.length : Int)) = true := decide_eq_true c15
      clear c15
      obtain ⟨y223, hy223⟩ : ∃ y_ : List (S49), y_ = (l0.take (a1 : Int).toNat) := ⟨_, rfl⟩
      replace H : (if y220.length + y223.length < 8796093022208 then ((some (y220 ++ y223 : List (S49))).bind fun y227 => (if 0 ≤ (wrap64 (a1 + 1)) then (if (wrap64 (a1 + 1)) ≤ (l0.length : Int) then ((some (l0.drop ((wrap64 (a1 + 1)) : Int).toNat : List (S49))).bind fun y230 => (if y227.length + y230.length < 8796093022208 then ((some (y227 ++ y230 : List (S49))).bind fun y234 => ((spec_IsRing.f kj2 y234).bind fun t237 => (if t237 = true then ((spec_SameTurn.f kj2 l0 y234).bind fun t238 => (if t238 = true then (some (y234, true)) else ((some (([] : List (S49)) : List (S49))).bind fun y239 => (if y239.length + l0.length < 8796093022208 then (some ((y239 ++ l0), false)) else (none))))) else ((some (([] : List (S49)) : List (S49))).bind fun y245 => (if y245.length + l0.length < 8796093022208 then (some ((y245 ++ l0), false)) else (none)))))) else (none))) else (none)) else (none))) else (none)) = some (r1, r2) := by first | (rw [hy223]; with_reducible exact H) | (have H2_ := (Option.bind_some _ _).symm.trans H; rw [hy223]; with_reducible exact H2_) | (have H2_ := (Option.bind_some _ _).symm.trans H; with_reducible exact H2_) | with_reducible exact H | (rw [hy223]; exact H) | exact H
      have Ny223 := Aside0.mk hy223
      clear hy223
      by_cases c16 : y220.length + y223.length < 8796093022208
      ·
       rw [if_pos c16] at H
       have LMc16 := Aside0.mk c16
       clear c16
       obtain ⟨y227, hy227⟩ : ∃ y_ : List (S49), y_ = (y220 ++ y223) := ⟨_, rfl⟩
       replace H : (if 0 ≤ (wrap64 (a1 + 1)) then (if (wrap64 (a1 + 1)) ≤ (l0.length : Int) then ((some (l0.drop ((wrap64 (a1 + 1)) : Int).toNat : List (S49))).bind fun y230 => (if y227.length + y230.length < 8796093022208 then ((some (y227 ++ y230 : List (S49))).bind fun y234 => ((spec_IsRing.f kj2 y234).bind fun t237 => (if t237 = true then ((spec_SameTurn.f kj2 l0 y234).bind fun t238 => (if t238 = true then (some (y234, true)) else ((some (([] : List (S49)) : List (S49))).bind fun y239 => (if y239.length + l0.length < 8796093022208 then (some ((y239 ++ l0), false)) else (none))))) else ((some (([] : List (S49)) : List (S49))).bind fun y245 => (if y245.length + l0.length < 8796093022208 then (some ((y245 ++ l0), false)) else (none)))))) else (none))) else (none)) else (none)) = some (r1, r2) := by first | (rw [hy227]; with_reducible exact H) | (have H2_ := (Option.bind_some _ _).symm.trans H; rw [hy227]; with_reducible exact H2_) | (have H2_ := (Option.bind_some _ _).symm.trans H; with_reducible exact H2_) | with_reducible exact H | (rw [hy227]; exact H) | exact H
       have Ny227 := Aside0.mk hy227
       clear hy227
       obtain ⟨ji17, hji17⟩ : ∃ j_ : Int, (wrap64 (a1 + 1)) = j_ := ⟨_, rfl⟩
       replace H : (if 0 ≤ (ji17) then (if (ji17) ≤ (l0.length : Int) then ((some (l0.drop ((ji17) : Int).toNat : List (S49))).bind fun y230 => (if y227.length + y230.length < 8796093022208 then ((some (y227 ++ y230 : List (S49))).bind fun y234 => ((spec_IsRing.f kj2 y234).bind fun t237 => (if t237 = true then ((spec_SameTurn.f kj2 l0 y234).bind fun t238 => (if t238 = true then (some (y234, true)) else ((some (([] : List (S49)) : List (S49))).bind fun y239 => (if y239.length + l0.length < 8796093022208 then (some ((y239 ++ l0), false)) else (none))))) else ((some (([] : List (S49)) : List (S49))).bind fun y245 => (if y245.length + l0.length < 8796093022208 then (some ((y245 ++ l0), false)) else (none)))))) else (none))) else (none)) else (none)) = some (r1, r2) := by first | (rw [hji17] at H; exact H) | (simp only [hji17] at H ⊢; exact H)
       have hji17w : (IntKind.i64.wrap (a1 + 1)) = ji17 := (i64_w _).trans hji17
       by_cases c18 : 0 ≤ (ji17)
       ·
        rw [if_pos c18] at H
        have c18b0 := eq_true c18
        have c18b1 : decide (0 ≤ (ji17)) = true := decide_eq_true c18
        clear c18
        by_cases c19 : (ji17) ≤ (l0.length : Int)
        ·
         rw [if_pos c19] at H
         have c19b0 := eq_true c19
         have c19b1 : decide ((ji17) ≤ (l0.length : Int)) = true := decide_eq_true c19
         clear c19
         obtain ⟨y230, hy230⟩ : ∃ y_ : List (S49), y_ = (l0.drop ((ji17) : Int).toNat) := ⟨_, rfl⟩
         replace H : (if y227.length + y230.length < 8796093022208 then ((some (y227 ++ y230 : List (S49))).bind fun y234 => ((spec_IsRing.f kj2 y234).bind fun t237 => (if t237 = true then ((spec_SameTurn.f kj2 l0 y234).bind fun t238 => (if t238 = true then (some (y234, true)) else ((some (([] : List (S49)) : List (S49))).bind fun y239 => (if y239.length + l0.length < 8796093022208 then (some ((y239 ++ l0), false)) else (none))))) else ((some (([] : List (S49)) : List (S49))).bind fun y245 => (if y245.length + l0.length < 8796093022208 then (some ((y245 ++ l0), false)) else (none)))))) else (none)) = some (r1, r2) := by first | (rw [hy230]; with_reducible exact H) | (have H2_ := (Option.bind_some _ _).symm.trans H; rw [hy230]; with_reducible exact H2_) | (have H2_ := (Option.bind_some _ _).symm.trans H; with_reducible exact H2_) | with_reducible exact H | (rw [hy230]; exact H) | exact H
         have Ny230 := Aside0.mk hy230
         clear hy230
         by_cases c20 : y227.length + y230.length < 8796093022208
         ·
          rw [if_pos c20] at H
          have LMc20 := Aside0.mk c20
          clear c20
          obtain ⟨y234, hy234⟩ : ∃ y_ : List (S49), y_ = (y227 ++ y230) := ⟨_, rfl⟩
          replace H : ((spec_IsRing.f kj2 y234).bind fun t237 => (if t237 = true then ((spec_SameTurn.f kj2 l0 y234).bind fun t238 => (if t238 = true then (some (y234, true)) else ((some (([] : List (S49)) : List (S49))).bind fun y239 => (if y239.length + l0.length < 8796093022208 then (some ((y239 ++ l0), false)) else (none))))) else ((some (([] : List (S49)) : List (S49))).bind fun y245 => (if y245.length + l0.length < 8796093022208 then (some ((y245 ++ l0), false)) else (none))))) = some (r1, r2) := by first | (rw [hy234]; with_reducible exact H) | (have H2_ := (Option.bind_some _ _).symm.trans H; rw [hy234]; with_reducible exact H2_) | (have H2_ := (Option.bind_some _ _).symm.trans H; with_reducible exact H2_) | with_reducible exact H | (rw [hy234]; exact H) | exact H
          have Ny234 := Aside0.mk hy234
          clear hy234
          replace H := Option.bind_eq_some_iff.mp H
          obtain ⟨t237, A210, H⟩ := H
          replace H : (if t237 = true then ((spec_SameTurn.f kj2 l0 y234).bind fun t238 => (if t238 = true then (some (y234, true)) else ((some (([] : List (S49)) : List (S49))).bind fun y239 => (if y239.length + l0.length < 8796093022208 then (some ((y239 ++ l0), false)) else (none))))) else ((some (([] : List (S49)) : List (S49))).bind fun y245 => (if y245.length + l0.length < 8796093022208 then (some ((y245 ++ l0), false)) else (none)))) = some (r1, r2) := H
          have A21 := Aside0.mk A210
          clear A210
          by_cases c22 : t237 = true
          ·
           subst c22
           have H1 : ((spec_SameTurn.f kj2 l0 y234).bind fun t238 => (if t238 = true then (some (y234, true)) else ((some (([] : List (S49)) : List (S49))).bind fun y239 => (if y239.length + l0.length < 8796093022208 then (some ((y239 ++ l0), false)) else (none))))) = some (r1, r2) := by rw [if_pos rfl] at H; exact H
           clear H
           have H := H1
           clear H1
           replace H := Option.bind_eq_some_iff.mp H
           obtain ⟨t238, A230, H⟩ := H
           replace H : (if t238 = true then (some (y234, true)) else ((some (([] : List (S49)) : List (S49))).bind fun y239 => (if y239.length + l0.length < 8796093022208 then (some ((y239 ++ l0), false)) else (none)))) = some (r1, r2) := H
           have A23 := Aside0.mk A230
           clear A230
           by_cases c24 : t238 = true
           ·
            subst c24
            have H1 : (some (y234, true)) = some (r1, r2) := by rw [if_pos rfl] at H; exact H
            clear H
            have H := H1
            clear H1
            simp only [Option.some.injEq, Prod.mk.injEq] at H
            obtain ⟨rfl, rfl⟩ := H
            try go_wp2
            replace HB := Aside0.mk (below_drew1 HB.out)
            have q26 : (a1 : Int) ≤ ((l0.length : Int) : Int) := of_decide_eq_true Hd.a_
            obtain ⟨i026, hi026, _, hsz26, _⟩ := info_parts info49
            have hroom26 : l0.length ≤ c0 := HC0.out
            have hC26 : Kd.C k49 _ A0 l0.length l0 := HR0.out
            have hcut26 := cut_to (P := Try.prog) 28 49 .i64 Try.underlying28 hi026 A0 l0.length c0 a1 (of_decide_eq_true Hd.a_) q26 hroom26
            have hr26 := Kd.C_take (m := (a1 : Int).toNat) hC26 (by omega)
            have hy26 : y223.length = (a1 : Int).toNat := (by rw [Ny223.out, List.length_take]; omega)
            rw [← Ny223.out] at hr26
            rw [← hy26] at hcut26
            have HR226 := Aside0.mk hr26
            have HC226 := Aside0.mk (show y223.length ≤ c0 from by omega)
            clear hr26 hC26 hroom26 hi026 hsz26
            have KY26 := Aside0.mk hy26
            clear hy26
            replace q26 := eq_true q26
            have q27 : ((ji17) : Int) ≤ ((l0.length : Int) : Int) := of_decide_eq_true Hd.a_
            obtain ⟨i027, hi027, _, hsz27, _⟩ := info_parts info49
            have hroom27 : l0.length ≤ c0 := HC0.out
            have hC27 : Kd.C k49 _ A0 l0.length l0 := HR0.out
            have q027 : (0 : Int) ≤ ((ji17) : Int) := of_decide_eq_true Hd.a_
            have hcut27 := cut_from (P := Try.prog) 28 49 .i64 Try.underlying28 hi027 2 hsz27 A0 l0.length c0 (ji17) q027 q27
            have hr27 := Kd.C_drop (m := ((ji17) : Int).toNat) (c := c0) hC27 (by omega) hroom27
            obtain ⟨A27, hA27⟩ : ∃ A1, A1 = (if c0 = ((ji17) : Int).toNat then A0 else (A0 : Option Addr).map (·.add (((ji17) : Int).toNat * 2))) := ⟨_, rfl⟩
            obtain ⟨c27, hc27⟩ : ∃ c1, c1 = c0 - ((ji17) : Int).toNat := ⟨_, rfl⟩
            have hy27 : y230.length = l0.length - ((ji17) : Int).toNat := (by rw [Ny230.out, List.length_drop] <;> omega)
            rw [show (l0).drop ((ji17) : Int).toNat = y230 from Ny230.out.symm] at hr27
            replace hr27 : Kd.C k49 _ A27 y230.length y230 := (by rw [hA27]; exact hr27)
            rw [← hy27, ← hA27, ← hc27] at hcut27
            have HR233 := Aside0.mk hr27
            have HC233 := Aside0.mk (show y230.length ≤ c27 from by rw [hy27, hc27]; exact Nat.sub_le_sub_right hroom27 _)
            clear hr27 hC27 hroom27 hi027 hsz27 hc27
            have KY27 := Aside0.mk hy27
            have KA27 := Aside0.mk hA27
            clear hy27 hA27
            replace q27 := eq_true q27
            refine start_ (n := 11) (S := fun w' => True) (ds := []) #[false, false, false, false, false, false, false, false, false, false, false] (by kernel_rfl) rfl rfl trivial (fun hHeld => ?_); refine with_tabW spec_DropCorner.tab3 spec_DropCorner.bits3 (fun HT_ HW_ => ?_)
            generalize wc.drew = w25 at HB HR226 HR233 hHeld ⊢
            refine Hd.p_ HT_ 1 (some 22) #[false, true, false, false, false, false, false, false, false, false, false] ?_
            refine Hd.p_ HT_ 2 (some 23) #[false, true, true, false, false, false, false, false, false, false, false] ?_
            refine Hd.p_ HT_ 3 (some 24) #[false, true, true, true, false, false, false, false, false, false, false] ?_
            refine Hd.p_ HT_ 5 (some 26) #[false, true, true, true, false, true, false, false, false, false, false] ?_
            refine Hd.p_ HT_ 6 (some 27) #[false, true, true, true, false, true, true, false, false, false, false] ?_
            refine Hd.p_ HT_ 7 (some 28) #[false, true, true, true, false, true, true, true, false, false, false] ?_
            refine Hd.p_ HT_ 8 (some 29) #[false, true, true, true, false, true, true, true, true, false, false] ?_
            refine Hd.o_ HT_ 0 (some 21) #[true, true, true, true, false, true, true, true, true, false, false] (fun K hK => ?_)
            refine Kd.R_lit_step k49 _ 49 ?hg (N := 21) ?hd (xs := ([] : List (S49))) (inner := []) (ok := fun _ => True) (okp := fun _ => True) ?hr ?hp (fun _ hk => hk) trivial (Below.refl _ _) (Nat.le_refl _) (by simp) ?_; (case hd => rfl); (case hg => rfl); (case hr => first | (go_simp; done) | (go_simp; rfl)); (case hp => exact (Reps.none _ _))
            intro v221 w28 ho29 hb hg_ hnew_
            clear hg_ hnew_
            (first | rw [← Ny220.out] at ho29 | (simp only [Int.reduceToNat] at ho29; rw [← Ny220.out] at ho29))
            have HO222 := Aside0.mk (Kd.R_lower ho29 (below_size Hd.b_))
            replace HB := Aside0.mk (below_step Hd.b_ hb)
            clear hb ho29
            refine hK.out _ _ trivial (fun hHeld => ?_)
            clear hK K
            refine Hd.n_ (some 21) ?_
            refine Hd.o_ HT_ 4 (some 25) #[true, true, true, true, true, true, true, true, true, false, false] (fun K hK => ?_)
            refine Kd.R_append_rows_step k49 (w0 := w) w.heap.size (by rfl) (.tmp 21) (.tmp 24) 28 49 (.agg #[(.int .i64 0), (.int .i64 0)]) 16 rfl Try.underlying28 info49 rfl (by decide) (by omega) v221 y220 y223 _ _ _ (fun _ => True) (fun _ => False) rfl rfl ?aO ?aR (fun _ _ h => h) (fun _ h => h.elim) ?aF ?aB ?aS ?aL ?_
            (case aR => repeat (first | exact (Kd.C_below HR226.out HB.out) | (with_reducible refine Kd.C_alloc ?_ _) | (with_reducible refine Kd.C_drewN ?_ _) | (with_reducible refine Kd.C_drew ?_)))
            (case aB => exact Hd.b_)
            (case aF => exact (fun _ _ => trivial))
            (case aO => exact (Hd.r_ HO222))
            (case aS => exact (below_size Hd.b_))
            (case aL => have := LMc16.out; omega)
            intro v228 w30 ho hb hg hat
            rw [← Ny227.out] at ho
            have n0_ := Aside0.mk (hb)
            have n1_ := Aside0.mk (ho)
            clear HB
            clear HO222
            have HB := n0_
            have HO229 := n1_
            clear n0_ n1_
            clear ho hb hg hat
            refine hK.out _ _ trivial (fun hHeld => ?_)
            clear hK K
            refine Hd.n_ (some 25) ?_
            refine Hd.o_ HT_ 9 (some 30) #[true, true, true, true, true, true, true, true, true, true, false] (fun K hK => ?_)
            refine Kd.R_append_rows_step k49 (w0 := w) w.heap.size (by rfl) (.tmp 25) (.tmp 29) 28 49 (.agg #[(.int .i64 0), (.int .i64 0)]) 16 rfl Try.underlying28 info49 rfl (by decide) (by omega) v228 y227 y230 _ _ _ (fun _ => True) (fun _ => False) rfl rfl ?aO ?aR (fun _ _ h => h) (fun _ h => h.elim) ?aF ?aB ?aS ?aL ?_
            (case aR => repeat (first | exact (Kd.C_below HR233.out HB.out) | (with_reducible refine Kd.C_alloc ?_ _) | (with_reducible refine Kd.C_drewN ?_ _) | (with_reducible refine Kd.C_drew ?_)))
            (case aB => exact Hd.b_)
            (case aF => exact (fun _ _ => trivial))
            (case aO => exact (Hd.r_ HO229))
            (case aS => exact (below_size Hd.b_))
            (case aL => have := LMc20.out; omega)
            intro v235 w31 ho hb hg hat
            rw [← Ny234.out] at ho
            have n0_ := Aside0.mk (hb)
            have n1_ := Aside0.mk (ho)
            clear HB
            clear HO229
            have HB := n0_
            have HO236 := n1_
            clear n0_ n1_
            clear ho hb hg hat
            refine hK.out _ _ trivial (fun hHeld => ?_)
            clear hK K
            refine Hd.n_ (some 30) ?_
            refine Hd.p_ HT_ 10 (some 6) #[true, true, true, true, true, true, true, true, true, true, true] ?_
            refine done_ (done_of HT_.out (by kernel_rfl)) ?_
            obtain ⟨Ao32, co32, eo32⟩ := Kd.R_slice HO236.out
            subst eo32
            try go_wp2_with (first | ((with_reducible refine gate_callee (f := 82) rfl ?_); refine goesL_ (some 32) rfl rfl Try.func82 (by kernel_rfl) rfl #[.slice Ao32 y234.length co32] rfl Hd.m_ ?_; (with_reducible refine (spec_IsRing.calls kj2 _ _ y234 true _ ?side1 ?side2 A21.out).mono ?_); (case side1 => repeat (first | exact (Kd.R_reads' HO236.out).2.2 | (with_reducible refine Kd.C_alloc ?_ _) | (with_reducible refine Kd.C_drewN ?_ _) | (with_reducible refine Kd.C_drew ?_))); (case side2 => exact (Kd.R_reads' HO236.out).2.1); rintro e w33 ⟨rfl, hb⟩; refine ⟨_, rfl, ?_⟩; replace HO236 := Aside0.mk (Kd.R_below (Hd.r_ HO236) hb); replace HB := Aside0.mk (below_step Hd.b_ hb); (try clear hb); (try clear hb2); (try clear hk); (try clear hi)) | (go_at_call 84; (with_reducible refine (spec_SameTurn.calls kj2 _ _ l0 _ _ y234 true _ ?side1 ?side2 ?side3 ?side4 A23.out).mono ?_); (case side1 => repeat (first | exact (Kd.C_below HR0.out HB.out) | (with_reducible refine Kd.C_alloc ?_ _) | (with_reducible refine Kd.C_drewN ?_ _) | (with_reducible refine Kd.C_drew ?_))); (case side2 => exact HC0.out); (case side3 => repeat (first | exact (Kd.R_reads' HO236.out).2.2 | (with_reducible refine Kd.C_alloc ?_ _) | (with_reducible refine Kd.C_drewN ?_ _) | (with_reducible refine Kd.C_drew ?_))); (case side4 => exact (Kd.R_reads' HO236.out).2.1); rintro e w34 ⟨rfl, hb⟩; replace HO236 := Aside0.mk (Kd.R_below (Hd.r_ HO236) hb); replace HB := Aside0.mk (below_step Hd.b_ hb); (try clear hb); (try clear hb2); (try clear hk); (try clear hi)))
            go_ret2
            exact ⟨_, by first | rfl | (simp [errW_none, errW_some] <;> rfl) | (simp only [← hji17]; first | rfl | (simp [errW_none, errW_some] <;> rfl)) | (simp [*, errW_none, errW_some] <;> rfl), by (with_reducible repeat (first | apply Kd.R_alloc | apply Kd.R_drewN | apply Kd.R_drew)); exact HO236.out, Hd.b_⟩
           ·
            replace c24 := Bool.eq_false_iff.mpr c24
            subst c24
            have H1 : ((some (([] : List (S49)) : List (S49))).bind fun y239 => (if y239.length + l0.length < 8796093022208 then (some ((y239 ++ l0), false)) else (none))) = some (r1, r2) := by rw [if_neg (show ¬ (false = true) by decide)] at H; exact H
            clear H
            have H := H1
            clear H1
            obtain ⟨y239, hy239⟩ : ∃ y_ : List (S49), y_ = (([] : List (S49))) := ⟨_, rfl⟩
            replace H : (if y239.length + l0.length < 8796093022208 then (some ((y239 ++ l0), false)) else (none)) = some (r1, r2) := by first | (rw [hy239]; with_reducible exact H) | (have H2_ := (Option.bind_some _ _).symm.trans H; rw [hy239]; with_reducible exact H2_) | (have H2_ := (Option.bind_some _ _).symm.trans H; with_reducible exact H2_) | with_reducible exact H | (rw [hy239]; exact H) | exact H
            have Ny239 := Aside0.mk hy239
            clear hy239
            by_cases c35 : y239.length + l0.length < 8796093022208
            ·
             rw [if_pos c35] at H
             have LMc35 := Aside0.mk c35
             clear c35
             obtain ⟨y242, hy242⟩ : ∃ y_ : List (S49), y_ = (y239 ++ l0) := ⟨_, rfl⟩
             replace H : (some (y242, false)) = some (r1, r2) := by first | (rw [hy242]; with_reducible exact H) | (have H2_ := (Option.bind_some _ _).symm.trans H; rw [hy242]; with_reducible exact H2_) | (have H2_ := (Option.bind_some _ _).symm.trans H; with_reducible exact H2_) | with_reducible exact H | (rw [hy242]; exact H) | exact H
             have Ny242 := Aside0.mk hy242
             clear hy242
             simp only [Option.some.injEq, Prod.mk.injEq] at H
             obtain ⟨rfl, rfl⟩ := H
             try go_wp2
             replace HB := Aside0.mk (below_drew1 HB.out)
             have q37 : (a1 : Int) ≤ ((l0.length : Int) : Int) := of_decide_eq_true Hd.a_
             obtain ⟨i037, hi037, _, hsz37, _⟩ := info_parts info49
             have hroom37 : l0.length ≤ c0 := HC0.out
             have hC37 : Kd.C k49 _ A0 l0.length l0 := HR0.out
             have hcut37 := cut_to (P := Try.prog) 28 49 .i64 Try.underlying28 hi037 A0 l0.length c0 a1 (of_decide_eq_true Hd.a_) q37 hroom37
             have hr37 := Kd.C_take (m := (a1 : Int).toNat) hC37 (by omega)
             have hy37 : y223.length = (a1 : Int).toNat := (by rw [Ny223.out, List.length_take]; omega)
             rw [← Ny223.out] at hr37
             rw [← hy37] at hcut37
             have HR226 := Aside0.mk hr37
             have HC226 := Aside0.mk (show y223.length ≤ c0 from by omega)
             clear hr37 hC37 hroom37 hi037 hsz37
             have KY37 := Aside0.mk hy37
             clear hy37
             replace q37 := eq_true q37
             have q38 : ((ji17) : Int) ≤ ((l0.length : Int) : Int) := of_decide_eq_true Hd.a_
             obtain ⟨i038, hi038, _, hsz38, _⟩ := info_parts info49
             have hroom38 : l0.length ≤ c0 := HC0.out
             have hC38 : Kd.C k49 _ A0 l0.length l0 := HR0.out
             have q038 : (0 : Int) ≤ ((ji17) : Int) := of_decide_eq_true Hd.a_
             have hcut38 := cut_from (P := Try.prog) 28 49 .i64 Try.underlying28 hi038 2 hsz38 A0 l0.length c0 (ji17) q038 q38
             have hr38 := Kd.C_drop (m := ((ji17) : Int).toNat) (c := c0) hC38 (by omega) hroom38
             obtain ⟨A38, hA38⟩ : ∃ A1, A1 = (if c0 = ((ji17) : Int).toNat then A0 else (A0 : Option Addr).map (·.add (((ji17) : Int).toNat * 2))) := ⟨_, rfl⟩
             obtain ⟨c38, hc38⟩ : ∃ c1, c1 = c0 - ((ji17) : Int).toNat := ⟨_, rfl⟩
             have hy38 : y230.length = l0.length - ((ji17) : Int).toNat := (by rw [Ny230.out, List.length_drop] <;> omega)
             rw [show (l0).drop ((ji17) : Int).toNat = y230 from Ny230.out.symm] at hr38
             replace hr38 : Kd.C k49 _ A38 y230.length y230 := (by rw [hA38]; exact hr38)
             rw [← hy38, ← hA38, ← hc38] at hcut38
             have HR233 := Aside0.mk hr38
             have HC233 := Aside0.mk (show y230.length ≤ c38 from by rw [hy38, hc38]; exact Nat.sub_le_sub_right hroom38 _)
             clear hr38 hC38 hroom38 hi038 hsz38 hc38
             have KY38 := Aside0.mk hy38
             have KA38 := Aside0.mk hA38
             clear hy38 hA38
             replace q38 := eq_true q38
             refine start_ (n := 11) (S := fun w' => True) (ds := []) #[false, false, false, false, false, false, false, false, false, false, false] (by kernel_rfl) rfl rfl trivial (fun hHeld => ?_); refine with_tabW spec_DropCorner.tab3 spec_DropCorner.bits3 (fun HT_ HW_ => ?_)
             generalize wc.drew = w36 at HB HR226 HR233 hHeld ⊢
             refine Hd.p_ HT_ 1 (some 22) #[false, true, false, false, false, false, false, false, false, false, false] ?_
             refine Hd.p_ HT_ 2 (some 23) #[false, true, true, false, false, false, false, false, false, false, false] ?_
             refine Hd.p_ HT_ 3 (some 24) #[false, true, true, true, false, false, false, false, false, false, false] ?_
             refine Hd.p_ HT_ 5 (some 26) #[false, true, true, true, false, true, false, false, false, false, false] ?_
             refine Hd.p_ HT_ 6 (some 27) #[false, true, true, true, false, true, true, false, false, false, false] ?_
             refine Hd.p_ HT_ 7 (some 28) #[false, true, true, true, false, true, true, true, false, false, false] ?_
             refine Hd.p_ HT_ 8 (some 29) #[false, true, true, true, false, true, true, true, true, false, false] ?_
             refine Hd.o_ HT_ 0 (some 21) #[true, true, true, true, false, true, true, true, true, false, false] (fun K hK => ?_)
             refine Kd.R_lit_step k49 _ 49 ?hg (N := 21) ?hd (xs := ([] : List (S49))) (inner := []) (ok := fun _ => True) (okp := fun _ => True) ?hr ?hp (fun _ hk => hk) trivial (Below.refl _ _) (Nat.le_refl _) (by simp) ?_; (case hd => rfl); (case hg => rfl); (case hr => first | (go_simp; done) | (go_simp; rfl)); (case hp => exact (Reps.none _ _))
             intro v221 w39 ho40 hb hg_ hnew_
             clear hg_ hnew_
             (first | rw [← Ny220.out] at ho40 | (simp only [Int.reduceToNat] at ho40; rw [← Ny220.out] at ho40))
             have HO222 := Aside0.mk (Kd.R_lower ho40 (below_size Hd.b_))
             replace HB := Aside0.mk (below_step Hd.b_ hb)
             clear hb ho40
             refine hK.out _ _ trivial (fun hHeld => ?_)
             clear hK K
             refine Hd.n_ (some 21) ?_
             refine Hd.o_ HT_ 4 (some 25) #[true, true, true, true, true, true, true, true, true, false, false] (fun K hK => ?_)
             refine Kd.R_append_rows_step k49 (w0 := w) w.heap.size (by rfl) (.tmp 21) (.tmp 24) 28 49 (.agg #[(.int .i64 0), (.int .i64 0)]) 16 rfl Try.underlying28 info49 rfl (by decide) (by omega) v221 y220 y223 _ _ _ (fun _ => True) (fun _ => False) rfl rfl ?aO ?aR (fun _ _ h => h) (fun _ h => h.elim) ?aF ?aB ?aS ?aL ?_
             (case aR => repeat (first | exact (Kd.C_below HR226.out HB.out) | (with_reducible refine Kd.C_alloc ?_ _) | (with_reducible refine Kd.C_drewN ?_ _) | (with_reducible refine Kd.C_drew ?_)))
             (case aB => exact Hd.b_)
             (case aF => exact (fun _ _ => trivial))
             (case aO => exact (Hd.r_ HO222))
             (case aS => exact (below_size Hd.b_))
             (case aL => have := LMc16.out; omega)
             intro v228 w41 ho hb hg hat
             rw [← Ny227.out] at ho
             have n0_ := Aside0.mk (hb)
             have n1_ := Aside0.mk (ho)
             clear HB
             clear HO222
             have HB := n0_
             have HO229 := n1_
             clear n0_ n1_
             clear ho hb hg hat
             refine hK.out _ _ trivial (fun hHeld => ?_)
             clear hK K
             refine Hd.n_ (some 25) ?_
             refine Hd.o_ HT_ 9 (some 30) #[true, true, true, true, true, true, true, true, true, true, false] (fun K hK => ?_)
             refine Kd.R_append_rows_step k49 (w0 := w) w.heap.size (by rfl) (.tmp 25) (.tmp 29) 28 49 (.agg #[(.int .i64 0), (.int .i64 0)]) 16 rfl Try.underlying28 info49 rfl (by decide) (by omega) v228 y227 y230 _ _ _ (fun _ => True) (fun _ => False) rfl rfl ?aO ?aR (fun _ _ h => h) (fun _ h => h.elim) ?aF ?aB ?aS ?aL ?_
             (case aR => repeat (first | exact (Kd.C_below HR233.out HB.out) | (with_reducible refine Kd.C_alloc ?_ _) | (with_reducible refine Kd.C_drewN ?_ _) | (with_reducible refine Kd.C_drew ?_)))
             (case aB => exact Hd.b_)
             (case aF => exact (fun _ _ => trivial))
             (case aO => exact (Hd.r_ HO229))
             (case aS => exact (below_size Hd.b_))
             (case aL => have := LMc20.out; omega)
             intro v235 w42 ho hb hg hat
             rw [← Ny234.out] at ho
             have n0_ := Aside0.mk (hb)
             have n1_ := Aside0.mk (ho)
             clear HB
             clear HO229
             have HB := n0_
             have HO236 := n1_
             clear n0_ n1_
             clear ho hb hg hat
             refine hK.out _ _ trivial (fun hHeld => ?_)
             clear hK K
             refine Hd.n_ (some 30) ?_
             refine Hd.p_ HT_ 10 (some 6) #[true, true, true, true, true, true, true, true, true, true, true] ?_
             refine done_ (done_of HT_.out (by kernel_rfl)) ?_
             obtain ⟨Ao43, co43, eo43⟩ := Kd.R_slice HO236.out
             subst eo43
             try go_wp2_with (first | ((with_reducible refine gate_callee (f := 82) rfl ?_); refine goesL_ (some 32) rfl rfl Try.func82 (by kernel_rfl) rfl #[.slice Ao43 y234.length co43] rfl Hd.m_ ?_; (with_reducible refine (spec_IsRing.calls kj2 _ _ y234 true _ ?side1 ?side2 A21.out).mono ?_); (case side1 => repeat (first | exact (Kd.R_reads' HO236.out).2.2 | (with_reducible refine Kd.C_alloc ?_ _) | (with_reducible refine Kd.C_drewN ?_ _) | (with_reducible refine Kd.C_drew ?_))); (case side2 => exact (Kd.R_reads' HO236.out).2.1); rintro e w44 ⟨rfl, hb⟩; refine ⟨_, rfl, ?_⟩; replace HO236 := Aside0.mk (Kd.R_below (Hd.r_ HO236) hb); replace HB := Aside0.mk (below_step Hd.b_ hb); (try clear hb); (try clear hb2); (try clear hk); (try clear hi)) | (go_at_call 84; (with_reducible refine (spec_SameTurn.calls kj2 _ _ l0 _ _ y234 false _ ?side1 ?side2 ?side3 ?side4 A23.out).mono ?_); (case side1 => repeat (first | exact (Kd.C_below HR0.out HB.out) | (with_reducible refine Kd.C_alloc ?_ _) | (with_reducible refine Kd.C_drewN ?_ _) | (with_reducible refine Kd.C_drew ?_))); (case side2 => exact HC0.out); (case side3 => repeat (first | exact (Kd.R_reads' HO236.out).2.2 | (with_reducible refine Kd.C_alloc ?_ _) | (with_reducible refine Kd.C_drewN ?_ _) | (with_reducible refine Kd.C_drew ?_))); (case side4 => exact (Kd.R_reads' HO236.out).2.1); rintro e w45 ⟨rfl, hb⟩; replace HO236 := Aside0.mk (Kd.R_below (Hd.r_ HO236) hb); replace HB := Aside0.mk (below_step Hd.b_ hb); (try clear hb); (try clear hb2); (try clear hk); (try clear hi)) | ((with_reducible refine gate_dst (N := 40) rfl ?_); (try (refine gate_guard (by rfl) ?_; dsimp only)); refine Kd.R_lit k49 _ 49 ?hg (N := 40) ?hd (xs := ([] : List (S49))) (inner := []) (ok := fun _ => True) (okp := fun _ => True) ?hr ?hp (fun _ hk => hk) trivial (Below.refl _ _) (Nat.le_refl _) (by simp) ?_; (case hd => rfl); (case hg => rfl); (case hr => first | (go_simp; done) | (go_simp; rfl)); (case hp => exact (Reps.none _ _)); intro v240 w46 ho47 hb hg_ hnew_; clear hg_ hnew_; (first | rw [← Ny239.out] at ho47 | (simp only [Int.reduceToNat] at ho47; rw [← Ny239.out] at ho47)); have HO241 := Aside0.mk (Kd.R_lower (Kd.R_new' ho47 (Kd.R_lt (Hd.r_ HO236))) (below_size Hd.b_)); replace HO236 := Aside0.mk (Kd.R_elder' (Hd.r_ HO236) (Kd.R_base ho47) hb); replace HB := Aside0.mk (below_step Hd.b_ hb); clear hb ho47) | ((with_reducible refine gate_builtin (b := .append) (xs := #[.tmp 40, .tmp 41]) rfl ?_); (try (refine gate_guard (by rfl) ?_; dsimp only)); at_builtin; refine Kd.R_append_rows k49 (w0 := w) w.heap.size rfl (.tmp 40) (.tmp 41) 28 49 (.agg #[(.int .i64 0), (.int .i64 0)]) 16 rfl Try.underlying28 info49 rfl (by decide) (by omega) v240 y239 l0 _ _ _ (fun k_ => some k_ ≠ (.slice Ao43 y234.length co43 : Value).ownBlock) (fun _ => False) rfl rfl ?aO ?aR (fun _ _ h => h) (fun _ h => h.elim) ?aF ?aB ?aS ?aL ?_; (case aR => repeat (first | exact (Kd.C_below HR0.out HB.out) | (with_reducible refine Kd.C_alloc ?_ _) | (with_reducible refine Kd.C_drewN ?_ _) | (with_reducible refine Kd.C_drew ?_))); (case aB => exact Hd.b_); (case aF => exact (fun k_ hk => Kd.fresh' (Kd.R_lt (Hd.r_ HO236)) k_ hk)); (case aO => exact (by (with_reducible repeat (first | apply Kd.R_alloc | apply Kd.R_drewN | apply Kd.R_drew)); exact Kd.R_mono HO241.out (fun _ hk => hk.2))); (case aS => exact (below_size Hd.b_)); (case aL => have := LMc35.out; omega); intro v243 w48 ho hb hg hat; rw [← Ny242.out] at ho; have n0_ := Aside0.mk (Kd.R_after (ok := (fun _ => True)) (Hd.r_ HO236) hg hat); have n1_ := Aside0.mk (hb); have n2_ := Aside0.mk (ho); clear HO236; clear HB; clear HO241; have HO236 := n0_; have HB := n1_; have HO244 := n2_; clear n0_ n1_ n2_; clear ho hb hg hat))
             go_ret2
             exact ⟨_, by first | rfl | (simp [errW_none, errW_some] <;> rfl) | (simp only [← hji17]; first | rfl | (simp [errW_none, errW_some] <;> rfl)) | (simp [*, errW_none, errW_some] <;> rfl), by (with_reducible repeat (first | apply Kd.R_alloc | apply Kd.R_drewN | apply Kd.R_drew)); exact Kd.R_mono HO244.out (fun _ hk => trivial), Hd.b_⟩
            ·
             rw [if_neg c35] at H
             exact absurd H (by simp)
          ·
           replace c22 := Bool.eq_false_iff.mpr c22
           subst c22
           have H1 : ((some (([] : List (S49)) : List (S49))).bind fun y245 => (if y245.length + l0.length < 8796093022208 then (some ((y245 ++ l0), false)) else (none))) = some (r1, r2) := by rw [if_neg (show ¬ (false = true) by decide)] at H; exact H
           clear H
           have H := H1
           clear H1
           obtain ⟨y245, hy245⟩ : ∃ y_ : List (S49), y_ = (([] : List (S49))) := ⟨_, rfl⟩
           replace H : (if y245.length + l0.length < 8796093022208 then (some ((y245 ++ l0), false)) else (none)) = some (r1, r2) := by first | (rw [hy245]; with_reducible exact H) | (have H2_ := (Option.bind_some _ _).symm.trans H; rw [hy245]; with_reducible exact H2_) | (have H2_ := (Option.bind_some _ _).symm.trans H; with_reducible exact H2_) | with_reducible exact H | (rw [hy245]; exact H) | exact H
           have Ny245 := Aside0.mk hy245
           clear hy245
           by_cases c49 : y245.length + l0.length < 8796093022208
           ·
            rw [if_pos c49] at H
            have LMc49 := Aside0.mk c49
            clear c49
            obtain ⟨y248, hy248⟩ : ∃ y_ : List (S49), y_ = (y245 ++ l0) := ⟨_, rfl⟩
            replace H : (some (y248, false)) = some (r1, r2) := by first | (rw [hy248]; with_reducible exact H) | (have H2_ := (Option.bind_some _ _).symm.trans H; rw [hy248]; with_reducible exact H2_) | (have H2_ := (Option.bind_some _ _).symm.trans H; with_reducible exact H2_) | with_reducible exact H | (rw [hy248]; exact H) | exact H
            have Ny248 := Aside0.mk hy248
            clear hy248
            simp only [Option.some.injEq, Prod.mk.injEq] at H
            obtain ⟨rfl, rfl⟩ := H
            try go_wp2
            replace HB := Aside0.mk (below_drew1 HB.out)
            have q51 : (a1 : Int) ≤ ((l0.length : Int) : Int) := of_decide_eq_true Hd.a_
            obtain ⟨i051, hi051, _, hsz51, _⟩ := info_parts info49
            have hroom51 : l0.length ≤ c0 := HC0.out
            have hC51 : Kd.C k49 _ A0 l0.length l0 := HR0.out
            have hcut51 := cut_to (P := Try.prog) 28 49 .i64 Try.underlying28 hi051 A0 l0.length c0 a1 (of_decide_eq_true Hd.a_) q51 hroom51
            have hr51 := Kd.C_take (m := (a1 : Int).toNat) hC51 (by omega)
            have hy51 : y223.length = (a1 : Int).toNat := (by rw [Ny223.out, List.length_take]; omega)
            rw [← Ny223.out] at hr51
            rw [← hy51] at hcut51
            have HR226 := Aside0.mk hr51
            have HC226 := Aside0.mk (show y223.length ≤ c0 from by omega)
            clear hr51 hC51 hroom51 hi051 hsz51
            have KY51 := Aside0.mk hy51
            clear hy51
            replace q51 := eq_true q51
            have q52 : ((ji17) : Int) ≤ ((l0.length : Int) : Int) := of_decide_eq_true Hd.a_
            obtain ⟨i052, hi052, _, hsz52, _⟩ := info_parts info49
            have hroom52 : l0.length ≤ c0 := HC0.out
            have hC52 : Kd.C k49 _ A0 l0.length l0 := HR0.out
            have q052 : (0 : Int) ≤ ((ji17) : Int) := of_decide_eq_true Hd.a_
            have hcut52 := cut_from (P := Try.prog) 28 49 .i64 Try.underlying28 hi052 2 hsz52 A0 l0.length c0 (ji17) q052 q52
            have hr52 := Kd.C_drop (m := ((ji17) : Int).toNat) (c := c0) hC52 (by omega) hroom52
            obtain ⟨A52, hA52⟩ : ∃ A1, A1 = (if c0 = ((ji17) : Int).toNat then A0 else (A0 : Option Addr).map (·.add (((ji17) : Int).toNat * 2))) := ⟨_, rfl⟩
            obtain ⟨c52, hc52⟩ : ∃ c1, c1 = c0 - ((ji17) : Int).toNat := ⟨_, rfl⟩
            have hy52 : y230.length = l0.length - ((ji17) : Int).toNat := (by rw [Ny230.out, List.length_drop] <;> omega)
            rw [show (l0).drop ((ji17) : Int).toNat = y230 from Ny230.out.symm] at hr52
            replace hr52 : Kd.C k49 _ A52 y230.length y230 := (by rw [hA52]; exact hr52)
            rw [← hy52, ← hA52, ← hc52] at hcut52
            have HR233 := Aside0.mk hr52
            have HC233 := Aside0.mk (show y230.length ≤ c52 from by rw [hy52, hc52]; exact Nat.sub_le_sub_right hroom52 _)
            clear hr52 hC52 hroom52 hi052 hsz52 hc52
            have KY52 := Aside0.mk hy52
            have KA52 := Aside0.mk hA52
            clear hy52 hA52
            replace q52 := eq_true q52
            refine start_ (n := 11) (S := fun w' => True) (ds := []) #[false, false, false, false, false, false, false, false, false, false, false] (by kernel_rfl) rfl rfl trivial (fun hHeld => ?_); refine with_tabW spec_DropCorner.tab3 spec_DropCorner.bits3 (fun HT_ HW_ => ?_)
            generalize wc.drew = w50 at HB HR226 HR233 hHeld ⊢
            refine Hd.p_ HT_ 1 (some 22) #[false, true, false, false, false, false, false, false, false, false, false] ?_
            refine Hd.p_ HT_ 2 (some 23) #[false, true, true, false, false, false, false, false, false, false, false] ?_
            refine Hd.p_ HT_ 3 (some 24) #[false, true, true, true, false, false, false, false, false, false, false] ?_
            refine Hd.p_ HT_ 5 (some 26) #[false, true, true, true, false, true, false, false, false, false, false] ?_
            refine Hd.p_ HT_ 6 (some 27) #[false, true, true, true, false, true, true, false, false, false, false] ?_
            refine Hd.p_ HT_ 7 (some 28) #[false, true, true, true, false, true, true, true, false, false, false] ?_
            refine Hd.p_ HT_ 8 (some 29) #[false, true, true, true, false, true, true, true, true, false, false] ?_
            refine Hd.o_ HT_ 0 (some 21) #[true, true, true, true, false, true, true, true, true, false, false] (fun K hK => ?_)
            refine Kd.R_lit_step k49 _ 49 ?hg (N := 21) ?hd (xs := ([] : List (S49))) (inner := []) (ok := fun _ => True) (okp := fun _ => True) ?hr ?hp (fun _ hk => hk) trivial (Below.refl _ _) (Nat.le_refl _) (by simp) ?_; (case hd => rfl); (case hg => rfl); (case hr => first | (go_simp; done) | (go_simp; rfl)); (case hp => exact (Reps.none _ _))
            intro v221 w53 ho54 hb hg_ hnew_
            clear hg_ hnew_
            (first | rw [← Ny220.out] at ho54 | (simp only [Int.reduceToNat] at ho54; rw [← Ny220.out] at ho54))
            have HO222 := Aside0.mk (Kd.R_lower ho54 (below_size Hd.b_))
            replace HB := Aside0.mk (below_step Hd.b_ hb)
            clear hb ho54
            refine hK.out _ _ trivial (fun hHeld => ?_)
            clear hK K
            refine Hd.n_ (some 21) ?_
            refine Hd.o_ HT_ 4 (some 25) #[true, true, true, true, true, true, true, true, true, false, false] (fun K hK => ?_)
            refine Kd.R_append_rows_step k49 (w0 := w) w.heap.size (by rfl) (.tmp 21) (.tmp 24) 28 49 (.agg #[(.int .i64 0), (.int .i64 0)]) 16 rfl Try.underlying28 info49 rfl (by decide) (by omega) v221 y220 y223 _ _ _ (fun _ => True) (fun _ => False) rfl rfl ?aO ?aR (fun _ _ h => h) (fun _ h => h.elim) ?aF ?aB ?aS ?aL ?_
            (case aR => repeat (first | exact (Kd.C_below HR226.out HB.out) | (with_reducible refine Kd.C_alloc ?_ _) | (with_reducible refine Kd.C_drewN ?_ _) | (with_reducible refine Kd.C_drew ?_)))
            (case aB => exact Hd.b_)
            (case aF => exact (fun _ _ => trivial))
            (case aO => exact (Hd.r_ HO222))
            (case aS => exact (below_size Hd.b_))
            (case aL => have := LMc16.out; omega)
            intro v228 w55 ho hb hg hat
            rw [← Ny227.out] at ho
            have n0_ := Aside0.mk (hb)
            have n1_ := Aside0.mk (ho)
            clear HB
            clear HO222
            have HB := n0_
            have HO229 := n1_
            clear n0_ n1_
            clear ho hb hg hat
            refine hK.out _ _ trivial (fun hHeld => ?_)
            clear hK K
            refine Hd.n_ (some 25) ?_
            refine Hd.o_ HT_ 9 (some 30) #[true, true, true, true, true, true, true, true, true, true, false] (fun K hK => ?_)
            refine Kd.R_append_rows_step k49 (w0 := w) w.heap.size (by rfl) (.tmp 25) (.tmp 29) 28 49 (.agg #[(.int .i64 0), (.int .i64 0)]) 16 rfl Try.underlying28 info49 rfl (by decide) (by omega) v228 y227 y230 _ _ _ (fun _ => True) (fun _ => False) rfl rfl ?aO ?aR (fun _ _ h => h) (fun _ h => h.elim) ?aF ?aB ?aS ?aL ?_
            (case aR => repeat (first | exact (Kd.C_below HR233.out HB.out) | (with_reducible refine Kd.C_alloc ?_ _) | (with_reducible refine Kd.C_drewN ?_ _) | (with_reducible refine Kd.C_drew ?_)))
            (case aB => exact Hd.b_)
            (case aF => exact (fun _ _ => trivial))
            (case aO => exact (Hd.r_ HO229))
            (case aS => exact (below_size Hd.b_))
            (case aL => have := LMc20.out; omega)
            intro v235 w56 ho hb hg hat
            rw [← Ny234.out] at ho
            have n0_ := Aside0.mk (hb)
            have n1_ := Aside0.mk (ho)
            clear HB
            clear HO229
            have HB := n0_
            have HO236 := n1_
            clear n0_ n1_
            clear ho hb hg hat
            refine hK.out _ _ trivial (fun hHeld => ?_)
            clear hK K
            refine Hd.n_ (some 30) ?_
            refine Hd.p_ HT_ 10 (some 6) #[true, true, true, true, true, true, true, true, true, true, true] ?_
            refine done_ (done_of HT_.out (by kernel_rfl)) ?_
            obtain ⟨Ao57, co57, eo57⟩ := Kd.R_slice HO236.out
            subst eo57
            try go_wp2_with (first | ((with_reducible refine gate_callee (f := 82) rfl ?_); refine goesL_ (some 32) rfl rfl Try.func82 (by kernel_rfl) rfl #[.slice Ao57 y234.length co57] rfl Hd.m_ ?_; (with_reducible refine (spec_IsRing.calls kj2 _ _ y234 false _ ?side1 ?side2 A21.out).mono ?_); (case side1 => repeat (first | exact (Kd.R_reads' HO236.out).2.2 | (with_reducible refine Kd.C_alloc ?_ _) | (with_reducible refine Kd.C_drewN ?_ _) | (with_reducible refine Kd.C_drew ?_))); (case side2 => exact (Kd.R_reads' HO236.out).2.1); rintro e w58 ⟨rfl, hb⟩; refine ⟨_, rfl, ?_⟩; replace HO236 := Aside0.mk (Kd.R_below (Hd.r_ HO236) hb); replace HB := Aside0.mk (below_step Hd.b_ hb); (try clear hb); (try clear hb2); (try clear hk); (try clear hi)) | ((with_reducible refine gate_dst (N := 40) rfl ?_); (try (refine gate_guard (by rfl) ?_; dsimp only)); refine Kd.R_lit k49 _ 49 ?hg (N := 40) ?hd (xs := ([] : List (S49))) (inner := []) (ok := fun _ => True) (okp := fun _ => True) ?hr ?hp (fun _ hk => hk) trivial (Below.refl _ _) (Nat.le_refl _) (by simp) ?_; (case hd => rfl); (case hg => rfl); (case hr => first | (go_simp; done) | (go_simp; rfl)); (case hp => exact (Reps.none _ _)); intro v246 w59 ho60 hb hg_ hnew_; clear hg_ hnew_; (first | rw [← Ny245.out] at ho60 | (simp only [Int.reduceToNat] at ho60; rw [← Ny245.out] at ho60)); have HO247 := Aside0.mk (Kd.R_lower (Kd.R_new' ho60 (Kd.R_lt (Hd.r_ HO236))) (below_size Hd.b_)); replace HO236 := Aside0.mk (Kd.R_elder' (Hd.r_ HO236) (Kd.R_base ho60) hb); replace HB := Aside0.mk (below_step Hd.b_ hb); clear hb ho60) | ((with_reducible refine gate_builtin (b := .append) (xs := #[.tmp 40, .tmp 41]) rfl ?_); (try (refine gate_guard (by rfl) ?_; dsimp only)); at_builtin; refine Kd.R_append_rows k49 (w0 := w) w.heap.size rfl (.tmp 40) (.tmp 41) 28 49 (.agg #[(.int .i64 0), (.int .i64 0)]) 16 rfl Try.underlying28 info49 rfl (by decide) (by omega) v246 y245 l0 _ _ _ (fun k_ => some k_ ≠ (.slice Ao57 y234.length co57 : Value).ownBlock) (fun _ => False) rfl rfl ?aO ?aR (fun _ _ h => h) (fun _ h => h.elim) ?aF ?aB ?aS ?aL ?_; (case aR => repeat (first | exact (Kd.C_below HR0.out HB.out) | (with_reducible refine Kd.C_alloc ?_ _) | (with_reducible refine Kd.C_drewN ?_ _) | (with_reducible refine Kd.C_drew ?_))); (case aB => exact Hd.b_); (case aF => exact (fun k_ hk => Kd.fresh' (Kd.R_lt (Hd.r_ HO236)) k_ hk)); (case aO => exact (by (with_reducible repeat (first | apply Kd.R_alloc | apply Kd.R_drewN | apply Kd.R_drew)); exact Kd.R_mono HO247.out (fun _ hk => hk.2))); (case aS => exact (below_size Hd.b_)); (case aL => have := LMc49.out; omega); intro v249 w61 ho hb hg hat; rw [← Ny248.out] at ho; have n0_ := Aside0.mk (Kd.R_after (ok := (fun _ => True)) (Hd.r_ HO236) hg hat); have n1_ := Aside0.mk (hb); have n2_ := Aside0.mk (ho); clear HO236; clear HB; clear HO247; have HO236 := n0_; have HB := n1_; have HO250 := n2_; clear n0_ n1_ n2_; clear ho hb hg hat))
            go_ret2
            exact ⟨_, by first | rfl | (simp [errW_none, errW_some] <;> rfl) | (simp only [← hji17]; first | rfl | (simp [errW_none, errW_some] <;> rfl)) | (simp [*, errW_none, errW_some] <;> rfl), by (with_reducible repeat (first | apply Kd.R_alloc | apply Kd.R_drewN | apply Kd.R_drew)); exact Kd.R_mono HO250.out (fun _ hk => trivial), Hd.b_⟩
           ·
            rw [if_neg c49] at H
            exact absurd H (by simp)
         ·
          rw [if_neg c20] at H
          exact absurd H (by simp)
        ·
         rw [if_neg c19] at H
         exact absurd H (by simp)
       ·
        rw [if_neg c18] at H
        exact absurd H (by simp)
      ·
       rw [if_neg c16] at H
       exact absurd H (by simp)
     ·
      rw [if_neg c15] at H
      exact absurd H (by simp)
    ·
     rw [if_neg c14] at H
     exact absurd H (by simp)
def impl_InRange.f (a0 : Int) (a1 : Int) (a2 : Int) : Option (Bool) := if a1 ≤ a0 then (some (decide (a0 ≤ a2))) else (some false)
set_option maxHeartbeats 8000000 in
set_option maxRecDepth 100000 in
theorem impl_InRange.calls (a0 : Int) (a1 : Int) (a2 : Int) (r : Bool) (w : World) (h : impl_InRange.f a0 a1 a2 = some r) :
  Calls Try.prog 85 #[.int .i64 a0, .int .i64 a1, .int .i64 a2] w fun e w' => e = .returned (.bool r) ∧ Drawn0 w w' := by
 have H : (if a1 ≤ a0 then (some (decide (a0 ≤ a2))) else (some false)) = some r := h
 clear h
 by_cases c4 : a1 ≤ a0
 ·
  rw [if_pos c4] at H
  have c4b0 : decide (a1 ≤ a0) = true := decide_eq_true c4
  clear c4
  obtain rfl := Option.some.inj H
  go_enter Try.func85, Try.ntmps85
  go_wp2
  go_ret
  exact ⟨by first | rfl | (simp; done) | (simp [*]; done), by repeat (first | exact Drawn0.refl _ | apply Drawn0.step)⟩
 ·
  rw [if_neg c4] at H
  have c4b0 : decide (a1 ≤ a0) = false := decide_eq_false c4
  clear c4
  obtain rfl := Option.some.inj H
  go_enter Try.func85, Try.ntmps85
  go_wp2
  go_ret
  exact ⟨by first | rfl | (simp; done) | (simp [*]; done), by repeat (first | exact Drawn0.refl _ | apply Drawn0.step)⟩
def impl_IsPoint.f (a0_0 : Int) (a0_1 : Int) : Option (Bool) := (impl_InRange.f a0_0 0 200).bind fun t252 => (if t252 = true then ((impl_InRange.f a0_1 0 200).bind fun t253 => (some t253)) else (some false))
set_option maxHeartbeats 8000000 in
set_option maxRecDepth 100000 in
theorem impl_IsPoint.calls (a0_0 : Int) (a0_1 : Int) (r : Bool) (w : World) (h : impl_IsPoint.f a0_0 a0_1 = some r) :
  Calls Try.prog 105 #[.agg #[.int .i64 a0_0, .int .i64 a0_1]] w fun e w' => e = .returned (.bool r) ∧ Below w.heap.size w w' := by
 have hu49 := Try.underlying49
 have HB := Aside0.mk (Below.refl w.heap.size w)
 have H : ((impl_InRange.f a0_0 0 200).bind fun t252 => (if t252 = true then ((impl_InRange.f a0_1 0 200).bind fun t253 => (some t253)) else (some false))) = some r := h
 clear h
 replace H := Option.bind_eq_some_iff.mp H
 obtain ⟨t252, A20, H⟩ := H
 replace H : (if t252 = true then ((impl_InRange.f a0_1 0 200).bind fun t253 => (some t253)) else (some false)) = some r := H
 have A2 := Aside0.mk A20
 clear A20
 by_cases c3 : t252 = true
 ·
  subst c3
  have H1 : ((impl_InRange.f a0_1 0 200).bind fun t253 => (some t253)) = some r := by rw [if_pos rfl] at H; exact H
  clear H
  have H := H1
  clear H1
  replace H := Option.bind_eq_some_iff.mp H
  obtain ⟨t253, A40, H⟩ := H
  replace H : (some t253) = some r := H
  have A4 := Aside0.mk A40
  clear A40
  obtain rfl := Option.some.inj H
  go_enter Try.func105, Try.ntmps105
  go_wp2_with (first | ((with_reducible refine gate_dst (N := 1) rfl ?_); refine Hd.box_ 1 (#[.int .i64 a0_0, .int .i64 a0_1]) 49 ?_; intro gb251 hg w5 hbox hb; have BK251 := Aside0.mk (hbox); have GW251 := Aside0.mk ((Hd.g_ hg Hd.b_ : w.heap.size ≤ gb251)); have GE251 := Aside0.mk ((Hd.g_ hg Hd.b_ : w.heap.size ≤ gb251)); replace HB := Aside0.mk (below_step Hd.b_ hb); clear hb hbox hg; obtain ⟨hcz6_0, hcz6_1⟩ := Hd.c2_ BK251.out; obtain ⟨hfz6_0, hfz6_1⟩ := Hd.f2_ BK251.out) | ((with_reducible refine gate_callee (f := 85) rfl ?_); refine goesL_ (some 5) rfl rfl Try.func85 (by kernel_rfl) rfl #[.int .i64 a0_0, .int .i64 0, .int .i64 200] rfl Hd.m_ ?_; (with_reducible refine (impl_InRange.calls a0_0 0 200 true _ A2.out).mono ?_); rintro e w' ⟨rfl, ⟨nd, rfl⟩⟩; refine ⟨_, rfl, ?_⟩) | (go_at_call 85; (with_reducible refine (impl_InRange.calls a0_1 0 200 t253 _ A4.out).mono ?_); rintro e w' ⟨rfl, ⟨nd, rfl⟩⟩))
  go_ret
  exact ⟨Hd.e_, Hd.b_⟩
 ·
  replace c3 := Bool.eq_false_iff.mpr c3
  subst c3
  have H1 : (some false) = some r := by rw [if_neg (show ¬ (false = true) by decide)] at H; exact H
  clear H
  have H := H1
  clear H1
  obtain rfl := Option.some.inj H
  go_enter Try.func105, Try.ntmps105
  go_wp2_with (first | ((with_reducible refine gate_dst (N := 1) rfl ?_); refine Hd.box_ 1 (#[.int .i64 a0_0, .int .i64 a0_1]) 49 ?_; intro gb251 hg w7 hbox hb; have BK251 := Aside0.mk (hbox); have GW251 := Aside0.mk ((Hd.g_ hg Hd.b_ : w.heap.size ≤ gb251)); have GE251 := Aside0.mk ((Hd.g_ hg Hd.b_ : w.heap.size ≤ gb251)); replace HB := Aside0.mk (below_step Hd.b_ hb); clear hb hbox hg; obtain ⟨hcz8_0, hcz8_1⟩ := Hd.c2_ BK251.out; obtain ⟨hfz8_0, hfz8_1⟩ := Hd.f2_ BK251.out) | ((with_reducible refine gate_callee (f := 85) rfl ?_); refine goesL_ (some 5) rfl rfl Try.func85 (by kernel_rfl) rfl #[.int .i64 a0_0, .int .i64 0, .int .i64 200] rfl Hd.m_ ?_; (with_reducible refine (impl_InRange.calls a0_0 0 200 false _ A2.out).mono ?_); rintro e w' ⟨rfl, ⟨nd, rfl⟩⟩; refine ⟨_, rfl, ?_⟩))
  go_ret
  exact ⟨Hd.e_, Hd.b_⟩
def impl_IsSegment.f (a0_0 : Int) (a0_1 : Int) (a0_2 : Int) (a0_3 : Int) : Option (Bool) := (impl_IsPoint.f a0_0 a0_1).bind fun t255 => (if t255 = true then ((impl_IsPoint.f a0_2 a0_3).bind fun t256 => (if t256 = true then (some (!(a0_0 == a0_2) || (!(a0_1 == a0_3)))) else (some false))) else (some false))
set_option maxHeartbeats 8000000 in
set_option maxRecDepth 100000 in
theorem impl_IsSegment.calls (a0_0 : Int) (a0_1 : Int) (a0_2 : Int) (a0_3 : Int) (r : Bool) (w : World) (h : impl_IsSegment.f a0_0 a0_1 a0_2 a0_3 = some r) :
  Calls Try.prog 102 #[.agg #[.int .i64 a0_0, .int .i64 a0_1, .int .i64 a0_2, .int .i64 a0_3]] w fun e w' => e = .returned (.bool r) ∧ Below w.heap.size w w' := by
 have hu111 := Try.underlying111
 have hu49 := Try.underlying49
 have HB := Aside0.mk (Below.refl w.heap.size w)
 have H : ((impl_IsPoint.f a0_0 a0_1).bind fun t255 => (if t255 = true then ((impl_IsPoint.f a0_2 a0_3).bind fun t256 => (if t256 = true then (some (!(a0_0 == a0_2) || (!(a0_1 == a0_3)))) else (some false))) else (some false))) = some r := h
 clear h
 replace H := Option.bind_eq_some_iff.mp H
 obtain ⟨t255, A20, H⟩ := H
 replace H : (if t255 = true then ((impl_IsPoint.f a0_2 a0_3).bind fun t256 => (if t256 = true then (some (!(a0_0 == a0_2) || (!(a0_1 == a0_3)))) else (some false))) else (some false)) = some r := H
 have A2 := Aside0.mk A20
 clear A20
 by_cases c3 : t255 = true
 ·
  subst c3
  have H1 : ((impl_IsPoint.f a0_2 a0_3).bind fun t256 => (if t256 = true then (some (!(a0_0 == a0_2) || (!(a0_1 == a0_3)))) else (some false))) = some r := by rw [if_pos rfl] at H; exact H
  clear H
  have H := H1
  clear H1
  replace H := Option.bind_eq_some_iff.mp H
  obtain ⟨t256, A40, H⟩ := H
  replace H : (if t256 = true then (some (!(a0_0 == a0_2) || (!(a0_1 == a0_3)))) else (some false)) = some r := H
  have A4 := Aside0.mk A40
  clear A40
  by_cases c5 : t256 = true
  ·
   subst c5
   have H1 : (some (!(a0_0 == a0_2) || (!(a0_1 == a0_3)))) = some r := by rw [if_pos rfl] at H; exact H
   clear H
   have H := H1
   clear H1
   obtain rfl := Option.some.inj H
   go_enter Try.func102, Try.ntmps102
   go_wp2_with (first | ((with_reducible refine gate_dst (N := 1) rfl ?_); refine Hd.box_ 1 (#[.int .i64 a0_0, .int .i64 a0_1, .int .i64 a0_2, .int .i64 a0_3]) 111 ?_; intro gb254 hg w6 hbox hb; have BK254 := Aside0.mk (hbox); have GW254 := Aside0.mk ((Hd.g_ hg Hd.b_ : w.heap.size ≤ gb254)); have GE254 := Aside0.mk ((Hd.g_ hg Hd.b_ : w.heap.size ≤ gb254)); replace HB := Aside0.mk (below_step Hd.b_ hb); clear hb hbox hg; obtain ⟨hcz7_0, hcz7_1, hcz7_2, hcz7_3⟩ := Hd.c4_ BK254.out; obtain ⟨hfz7_0, hfz7_1, hfz7_2, hfz7_3⟩ := Hd.f4_ BK254.out) | ((with_reducible refine gate_callee (f := 105) rfl ?_); refine goesL_ (some 5) rfl rfl Try.func105 (by kernel_rfl) rfl #[.agg #[.int .i64 a0_0, .int .i64 a0_1]] rfl Hd.m_ ?_; (with_reducible refine (impl_IsPoint.calls a0_0 a0_1 true _ A2.out).mono ?_); rintro e w8 ⟨rfl, hb⟩; refine ⟨_, rfl, ?_⟩; replace BK254 := Aside0.mk (Hd.kb_ BK254 hb); replace HB := Aside0.mk (below_step Hd.b_ hb); (try clear hb); (try clear hb2); (try clear hk); (try clear hi); obtain ⟨hcz9_0, hcz9_1, hcz9_2, hcz9_3⟩ := Hd.c4_ BK254.out; obtain ⟨hfz9_0, hfz9_1, hfz9_2, hfz9_3⟩ := Hd.f4_ BK254.out) | (go_at_call 105; (with_reducible refine (impl_IsPoint.calls a0_2 a0_3 true _ A4.out).mono ?_); rintro e w10 ⟨rfl, hb⟩; replace BK254 := Aside0.mk (Hd.kb_ BK254 hb); replace HB := Aside0.mk (below_step Hd.b_ hb); (try clear hb); (try clear hb2); (try clear hk); (try clear hi); obtain ⟨hcz11_0, hcz11_1, hcz11_2, hcz11_3⟩ := Hd.c4_ BK254.out; obtain ⟨hfz11_0, hfz11_1, hfz11_2, hfz11_3⟩ := Hd.f4_ BK254.out))
   go_ret
   exact ⟨Hd.e_, Hd.b_⟩
  ·
   replace c5 := Bool.eq_false_iff.mpr c5
   subst c5
   have H1 : (some false) = some r := by rw [if_neg (show ¬ (false = true) by decide)] at H; exact H
   clear H
   have H := H1
   clear H1
   obtain rfl := Option.some.inj H
   go_enter Try.func102, Try.ntmps102
   go_wp2_with (first | ((with_reducible refine gate_dst (N := 1) rfl ?_); refine Hd.box_ 1 (#[.int .i64 a0_0, .int .i64 a0_1, .int .i64 a0_2, .int .i64 a0_3]) 111 ?_; intro gb254 hg w12 hbox hb; have BK254 := Aside0.mk (hbox); have GW254 := Aside0.mk ((Hd.g_ hg Hd.b_ : w.heap.size ≤ gb254)); have GE254 := Aside0.mk ((Hd.g_ hg Hd.b_ : w.heap.size ≤ gb254)); replace HB := Aside0.mk (below_step Hd.b_ hb); clear hb hbox hg; obtain ⟨hcz13_0, hcz13_1, hcz13_2, hcz13_3⟩ := Hd.c4_ BK254.out; obtain ⟨hfz13_0, hfz13_1, hfz13_2, hfz13_3⟩ := Hd.f4_ BK254.out) | ((with_reducible refine gate_callee (f := 105) rfl ?_); refine goesL_ (some 5) rfl rfl Try.func105 (by kernel_rfl) rfl #[.agg #[.int .i64 a0_0, .int .i64 a0_1]] rfl Hd.m_ ?_; (with_reducible refine (impl_IsPoint.calls a0_0 a0_1 true _ A2.out).mono ?_); rintro e w14 ⟨rfl, hb⟩; refine ⟨_, rfl, ?_⟩; replace BK254 := Aside0.mk (Hd.kb_ BK254 hb); replace HB := Aside0.mk (below_step Hd.b_ hb); (try clear hb); (try clear hb2); (try clear hk); (try clear hi); obtain ⟨hcz15_0, hcz15_1, hcz15_2, hcz15_3⟩ := Hd.c4_ BK254.out; obtain ⟨hfz15_0, hfz15_1, hfz15_2, hfz15_3⟩ := Hd.f4_ BK254.out) | (go_at_call 105; (with_reducible refine (impl_IsPoint.calls a0_2 a0_3 false _ A4.out).mono ?_); rintro e w16 ⟨rfl, hb⟩; replace BK254 := Aside0.mk (Hd.kb_ BK254 hb); replace HB := Aside0.mk (below_step Hd.b_ hb); (try clear hb); (try clear hb2); (try clear hk); (try clear hi)))
   go_ret
   exact ⟨Hd.e_, Hd.b_⟩
 ·
  replace c3 := Bool.eq_false_iff.mpr c3
  subst c3
  have H1 : (some false) = some r := by rw [if_neg (show ¬ (false = true) by decide)] at H; exact H
  clear H
  have H := H1
  clear H1
  obtain rfl := Option.some.inj H
  go_enter Try.func102, Try.ntmps102
  go_wp2_with (first | ((with_reducible refine gate_dst (N := 1) rfl ?_); refine Hd.box_ 1 (#[.int .i64 a0_0, .int .i64 a0_1, .int .i64 a0_2, .int .i64 a0_3]) 111 ?_; intro gb254 hg w17 hbox hb; have BK254 := Aside0.mk (hbox); have GW254 := Aside0.mk ((Hd.g_ hg Hd.b_ : w.heap.size ≤ gb254)); have GE254 := Aside0.mk ((Hd.g_ hg Hd.b_ : w.heap.size ≤ gb254)); replace HB := Aside0.mk (below_step Hd.b_ hb); clear hb hbox hg; obtain ⟨hcz18_0, hcz18_1, hcz18_2, hcz18_3⟩ := Hd.c4_ BK254.out; obtain ⟨hfz18_0, hfz18_1, hfz18_2, hfz18_3⟩ := Hd.f4_ BK254.out) | ((with_reducible refine gate_callee (f := 105) rfl ?_); refine goesL_ (some 5) rfl rfl Try.func105 (by kernel_rfl) rfl #[.agg #[.int .i64 a0_0, .int .i64 a0_1]] rfl Hd.m_ ?_; (with_reducible refine (impl_IsPoint.calls a0_0 a0_1 false _ A2.out).mono ?_); rintro e w19 ⟨rfl, hb⟩; refine ⟨_, rfl, ?_⟩; replace BK254 := Aside0.mk (Hd.kb_ BK254 hb); replace HB := Aside0.mk (below_step Hd.b_ hb); (try clear hb); (try clear hb2); (try clear hk); (try clear hi)))
  go_ret
  exact ⟨Hd.e_, Hd.b_⟩
def cmp_isNaN_int.f (a0 : Int) : Option (Bool) := some (a0 != a0)
set_option maxHeartbeats 8000000 in
set_option maxRecDepth 100000 in
theorem cmp_isNaN_int.calls (a0 : Int) (r : Bool) (w : World) (h : cmp_isNaN_int.f a0 = some r) :
  Calls Try.prog 140 #[.int .i64 a0] w fun e w' => e = .returned (.bool r) ∧ Drawn0 w w' := by
 have H : (some (a0 != a0)) = some r := h
 clear h
 obtain rfl := Option.some.inj H
 go_enter Try.func140, Try.ntmps140
 go_wp2
 go_ret
 exact ⟨by first | rfl | (simp; done) | (simp [*]; done), by repeat (first | exact Drawn0.refl _ | apply Drawn0.step)⟩
end Go.Proofs.Ytchmbcembbbplac.MFnExactDropCorner
