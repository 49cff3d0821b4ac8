-- Laid by this session's program pp.py, after the kit's print and texts of the session's own. Not trusted: Lean checks it.
import Derived.Test.YtbackoeakepngaaZFnRingsMx0
import Derived.Test.YtbackoeakepngaaZFnRingsMx2
import Derived.Test.YtbackoeakepngaaZFnRingsMx3
import Derived.Test.YtbackoeakepngaaZFnRingsMx6
import Derived.Test.YtbackoeakepngaaZFnRingsMx7
namespace Go.Proofs.Ytbackoeakepngaa.MFnRings
open Go.RowKit Go.Proofs.YtbackoeakepngaaW.PrintWords Go.Proofs.YtbackoeakepngaaW.PrintLast Go.Proofs.YtbackoeakepngaaW.PrintMore
attribute [local go_sem] max2_int min2_int max_two min_two max_three min_three max_four min_four   -- for this text's walks alone
set_option linter.unusedVariables false
set_option linter.unusedSimpArgs false
mutual
def laws_FnRings.j0 : Nat → List Int → List (S27) → Bool → Option (Bool)
 | 0, _, _, _ => none
 | k + 1, x0, x3, x38 => if x38 = true then (some false) else ((spec_DrawRotateRing.f k x0).bind fun bt397 => ((impl_RotateRing.f bt397.1 bt397.2).bind fun t401 => ((impl_IsRing.f k bt397.1).bind fun t404 => ((impl_IsRing.f k t401).bind fun t405 => (if (t404 != t405) = true then (laws_FnRings.j1 k x0 x3 true) else ((impl_TwiceArea.f k bt397.1).bind fun t406 => ((impl_TwiceArea.f k t401).bind fun t407 => (if t406 = t407 then (laws_FnRings.j1 k x0 x3 ((t401.length : Int) != (bt397.1.length : Int))) else (laws_FnRings.j1 k x0 x3 true)))))))))
def laws_FnRings.j1 : Nat → List Int → List (S27) → Bool → Option (Bool)
 | 0, _, _, _ => none
 | k + 1, x0, x3, x65 => if x65 = true then (some false) else ((spec_DrawIsInside.f k x0).bind fun bt408 => ((impl_IsInside.f k bt408.1 bt408.2.1 bt408.2.2).bind fun t414 => ((impl_TurnRing.f bt408.1).bind fun t415 => ((impl_IsInside.f k t415 bt408.2.1 bt408.2.2).bind fun t418 => (if (t414 != t418) = true then (some false) else ((impl_IsInside.f k bt408.1 bt408.2.1 bt408.2.2).bind fun t419 => (if t419 = true then ((impl_IsPoint.f bt408.2.1 bt408.2.2).bind fun t420 => (laws_FnRings.j2 k x3 (!t420))) else (laws_FnRings.j2 k x3 false))))))))
def laws_FnRings.j2 : Nat → List (S27) → Bool → Option (Bool)
 | 0, _, _ => none
 | k + 1, x3, x86 => if x86 = true then (some false) else (laws_FnRings.l0 k x3 0)
def laws_FnRings.l0 : Nat → List (S27) → Int → Option (Bool)
 | 0, _, _ => none
 | k + 1, x3, x10 => if x10 < (x3.length : Int) then ((impl_IsRing.f k x3).bind fun t421 => (laws_FnRings.j4 k x3 x10 t421)) else (laws_FnRings.j4 k x3 x10 false)
def laws_FnRings.j4 : Nat → List (S27) → Int → Bool → Option (Bool)
 | 0, _, _, _ => none
 | k + 1, x3, x10, x94 => if x94 = true then (if 0 ≤ x10 then (if x10 < (x3.length : Int) then ((impl_IsInside.f k x3 ((rd_T27 x3 x10).f0) ((rd_T27 x3 x10).f1)).bind fun t423 => (if t423 = true then (laws_FnRings.l0 k x3 (wrap64 (x10 + 1))) else (some false))) else (none)) else (none)) else ((impl_RingSegments.f k x3).bind fun t424 => ((impl_IsRing.f k x3).bind fun t427 => (if (((t424.length : Int) == (x3.length : Int)) == t427) = true then (some true) else (some ((x3.length : Int) == 0)))))
end
def laws_FnRings.f (k : Nat) (l0 : List Int) : Option (Bool) := (laws_big.f l0).bind fun t384 => (if t384 = true then (some true) else ((spec_DrawIsRing.f k l0).bind fun t385 => ((impl_TurnRing.f t385).bind fun t388 => ((impl_IsRing.f k t385).bind fun t391 => ((impl_IsRing.f k t388).bind fun t392 => (if (t391 != t392) = true then (laws_FnRings.j0 k l0 t385 true) else ((impl_TwiceArea.f k t388).bind fun t393 => ((impl_TwiceArea.f k t385).bind fun t394 => (if t393 = (wrap64 (-t394)) then ((impl_IsRing.f k t385).bind fun t395 => (if t395 = true then ((impl_TwiceArea.f k t385).bind fun t396 => (laws_FnRings.j0 k l0 t385 (t396 == 0))) else (laws_FnRings.j0 k l0 t385 false))) else (laws_FnRings.j0 k l0 t385 true))))))))))
def laws_FnRings.T12 : Bool × List (List Nat × List Nat) := (true, [([], []), ([], []), ([0, 1], [0, 1]), ([], []), ([3, 2], [3]), ([], []), ([4, 5, 4], [4, 5]), ([2, 6], [2, 6])])
def laws_FnRings.B12 : List Nat := [0, 0, 3, 0, 15, 0, 63, 127]
theorem laws_FnRings.tab12 : rtab .any (opsOf Try.f7 12) = laws_FnRings.T12 := by kernel_rfl
theorem laws_FnRings.bits12 : waitsOk laws_FnRings.T12.2 laws_FnRings.B12 = true := by kernel_rfl
set_option maxHeartbeats 8000000 in
set_option maxRecDepth 100000 in
theorem laws_FnRings.calls (k : Nat) (A0 : Option Addr) (c0 : Nat) (l0 : List Int) (r : Bool) (w : World) (hr0 : Kd.C (Kd.int .u8) w A0 l0.length l0) (hc0 : l0.length ≤ c0) (h : laws_FnRings.f k l0 = some r) :
  Calls Try.prog 7 #[.slice A0 l0.length c0] w fun e w' => e = .returned (.bool r) ∧ Below w.heap.size w w' := by
 have hu27 := Try.underlying27
 have HR0 := Aside0.mk hr0
 have HC0 := Aside0.mk hc0
 clear hr0 hc0
 have HB := Aside0.mk (Below.refl w.heap.size w)
 have H : ((laws_big.f l0).bind fun t384 => (if t384 = true then (some true) else ((spec_DrawIsRing.f k l0).bind fun t385 => ((impl_TurnRing.f t385).bind fun t388 => ((impl_IsRing.f k t385).bind fun t391 => ((impl_IsRing.f k t388).bind fun t392 => (if (t391 != t392) = true then (laws_FnRings.j0 k l0 t385 true) else ((impl_TwiceArea.f k t388).bind fun t393 => ((impl_TwiceArea.f k t385).bind fun t394 => (if t393 = (wrap64 (-t394)) then ((impl_IsRing.f k t385).bind fun t395 => (if t395 = true then ((impl_TwiceArea.f k t385).bind fun t396 => (laws_FnRings.j0 k l0 t385 (t396 == 0))) else (laws_FnRings.j0 k l0 t385 false))) else (laws_FnRings.j0 k l0 t385 true))))))))))) = some r := h
 clear h
 replace H := Option.bind_eq_some_iff.mp H
 obtain ⟨t384, A20, H⟩ := H
 replace H : (if t384 = true then (some true) else ((spec_DrawIsRing.f k l0).bind fun t385 => ((impl_TurnRing.f t385).bind fun t388 => ((impl_IsRing.f k t385).bind fun t391 => ((impl_IsRing.f k t388).bind fun t392 => (if (t391 != t392) = true then (laws_FnRings.j0 k l0 t385 true) else ((impl_TwiceArea.f k t388).bind fun t393 => ((impl_TwiceArea.f k t385).bind fun t394 => (if t393 = (wrap64 (-t394)) then ((impl_IsRing.f k t385).bind fun t395 => (if t395 = true then ((impl_TwiceArea.f k t385).bind fun t396 => (laws_FnRings.j0 k l0 t385 (t396 == 0))) else (laws_FnRings.j0 k l0 t385 false))) else (laws_FnRings.j0 k l0 t385 true)))))))))) = some r := H
 have A2 := Aside0.mk A20
 clear A20
 by_cases c3 : t384 = true
 ·
  subst c3
  have H1 : (some true) = some r := by rw [if_pos rfl] at H; exact H
  clear H
  have H := H1
  clear H1
  obtain rfl := Option.some.inj H
  go_enter Try.func7, Try.ntmps7
  go_wp2_with (first | ((with_reducible refine gate_callee (f := 10) rfl ?_); refine goesL_ (some 12) rfl rfl Try.func10 (by kernel_rfl) rfl #[.slice A0 l0.length c0] rfl Hd.m_ ?_; (with_reducible refine (laws_big.calls _ _ l0 true _ ?side1 ?side2 A2.out).mono ?_); (case side1 => repeat (first | exact HR0.out | (with_reducible refine Kd.C_alloc ?_ _) | (with_reducible refine Kd.C_drewN ?_ _) | (with_reducible refine Kd.C_drew ?_))); (case side2 => exact HC0.out); rintro e w' ⟨rfl, ⟨nd, rfl⟩⟩; refine ⟨_, rfl, ?_⟩))
  go_ret
  exact ⟨Hd.e_, Hd.b_⟩
 ·
  replace c3 := Bool.eq_false_iff.mpr c3
  subst c3
  have H1 : ((spec_DrawIsRing.f k l0).bind fun t385 => ((impl_TurnRing.f t385).bind fun t388 => ((impl_IsRing.f k t385).bind fun t391 => ((impl_IsRing.f k t388).bind fun t392 => (if (t391 != t392) = true then (laws_FnRings.j0 k l0 t385 true) else ((impl_TwiceArea.f k t388).bind fun t393 => ((impl_TwiceArea.f k t385).bind fun t394 => (if t393 = (wrap64 (-t394)) then ((impl_IsRing.f k t385).bind fun t395 => (if t395 = true then ((impl_TwiceArea.f k t385).bind fun t396 => (laws_FnRings.j0 k l0 t385 (t396 == 0))) else (laws_FnRings.j0 k l0 t385 false))) else (laws_FnRings.j0 k l0 t385 true))))))))) = some r := by rw [if_neg (show ¬ (false = true) by decide)] at H; exact H
  clear H
  have H := H1
  clear H1
  replace H := Option.bind_eq_some_iff.mp H
  obtain ⟨t385, A40, H⟩ := H
  replace H : ((impl_TurnRing.f t385).bind fun t388 => ((impl_IsRing.f k t385).bind fun t391 => ((impl_IsRing.f k t388).bind fun t392 => (if (t391 != t392) = true then (laws_FnRings.j0 k l0 t385 true) else ((impl_TwiceArea.f k t388).bind fun t393 => ((impl_TwiceArea.f k t385).bind fun t394 => (if t393 = (wrap64 (-t394)) then ((impl_IsRing.f k t385).bind fun t395 => (if t395 = true then ((impl_TwiceArea.f k t385).bind fun t396 => (laws_FnRings.j0 k l0 t385 (t396 == 0))) else (laws_FnRings.j0 k l0 t385 false))) else (laws_FnRings.j0 k l0 t385 true)))))))) = some r := H
  have A4 := Aside0.mk A40
  clear A40
  replace H := Option.bind_eq_some_iff.mp H
  obtain ⟨t388, A50, H⟩ := H
  replace H : ((impl_IsRing.f k t385).bind fun t391 => ((impl_IsRing.f k t388).bind fun t392 => (if (t391 != t392) = true then (laws_FnRings.j0 k l0 t385 true) else ((impl_TwiceArea.f k t388).bind fun t393 => ((impl_TwiceArea.f k t385).bind fun t394 => (if t393 = (wrap64 (-t394)) then ((impl_IsRing.f k t385).bind fun t395 => (if t395 = true then ((impl_TwiceArea.f k t385).bind fun t396 => (laws_FnRings.j0 k l0 t385 (t396 == 0))) else (laws_FnRings.j0 k l0 t385 false))) else (laws_FnRings.j0 k l0 t385 true))))))) = some r := H
  have A5 := Aside0.mk A50
  clear A50
  have HC6 := Aside0.mk H
  clear H
  go_enter Try.func7, Try.ntmps7
  go_upto_region 5 with (first | ((with_reducible refine gate_callee (f := 10) rfl ?_); refine goesL_ (some 12) rfl rfl Try.func10 (by kernel_rfl) rfl #[.slice A0 l0.length c0] rfl Hd.m_ ?_; (with_reducible refine (laws_big.calls _ _ l0 false _ ?side1 ?side2 A2.out).mono ?_); (case side1 => repeat (first | exact HR0.out | (with_reducible refine Kd.C_alloc ?_ _) | (with_reducible refine Kd.C_drewN ?_ _) | (with_reducible refine Kd.C_drew ?_))); (case side2 => exact HC0.out); rintro e w' ⟨rfl, ⟨nd, rfl⟩⟩; refine ⟨_, rfl, ?_⟩) | ((with_reducible refine gate_callee (f := 37) rfl ?_); refine goesL_ (some 14) rfl rfl Try.func37 (by kernel_rfl) rfl #[.slice A0 l0.length c0] rfl Hd.m_ ?_; (with_reducible refine (spec_DrawIsRing.calls k _ _ l0 t385 _ ?side1 ?side2 A4.out).mono ?_); (case side1 => repeat (first | exact HR0.out | (with_reducible refine Kd.C_alloc ?_ _) | (with_reducible refine Kd.C_drewN ?_ _) | (with_reducible refine Kd.C_drew ?_))); (case side2 => exact HC0.out); rintro e w7 ⟨v386, rfl, ho0, hb⟩; refine ⟨_, rfl, ?_⟩; have HO387 := Aside0.mk (Kd.R_lower ho0 (below_size Hd.b_)); replace HB := Aside0.mk (below_step Hd.b_ hb); (try clear hb); (try clear hb2); (try clear hk); (try clear hi); (try clear ho0); obtain ⟨Ao8, co8, eo8⟩ := Kd.R_slice HO387.out; subst eo8) | ((with_reducible refine gate_callee (f := 38) rfl ?_); refine goesL_ (some 16) rfl rfl Try.func38 (by kernel_rfl) rfl #[.slice Ao8 t385.length co8] rfl Hd.m_ ?_; (with_reducible refine (impl_TurnRing.calls _ _ t385 t388 _ ?side1 ?side2 A5.out).mono ?_); (case side1 => repeat (first | exact (Kd.R_reads' HO387.out).2.2 | (with_reducible refine Kd.C_alloc ?_ _) | (with_reducible refine Kd.C_drewN ?_ _) | (with_reducible refine Kd.C_drew ?_))); (case side2 => exact (Kd.R_reads' HO387.out).2.1); rintro e w9 ⟨v389, rfl, ho0, hb⟩; refine ⟨_, rfl, ?_⟩; have HO390 := Aside0.mk (Kd.R_lower (Kd.R_new' ho0 (Kd.R_lt (Hd.r_ HO387))) (below_size Hd.b_)); replace HO387 := Aside0.mk (Kd.R_elder' (Hd.r_ HO387) (Kd.R_base ho0) hb); replace HB := Aside0.mk (below_step Hd.b_ hb); (try clear hb); (try clear hb2); (try clear hk); (try clear hi); (try clear ho0)))
  (try simp only [Act.put, List.setIfInBounds_toArray, List.set_cons_zero, List.set_cons_succ])
  go_cut [38] (fun v38 wc => ∃ (kq : Nat) (x38_5 : Bool), v38 = .bool x38_5 ∧ Aside0 (laws_FnRings.j0 kq l0 t385 x38_5 = some r) ∧ Aside0 (kq ≤ k) ∧ Aside0 (Kd.R k27 27 wc w.heap.size (fun _ => True) (.slice Ao8 t385.length co8) t385) ∧ Aside0 (Below w.heap.size w wc))
  case first =>
   have H := HC6.out
   clear HC6
   replace H := Option.bind_eq_some_iff.mp H
   obtain ⟨t391, A100, H⟩ := H
   replace H : ((impl_IsRing.f k t388).bind fun t392 => (if (t391 != t392) = true then (laws_FnRings.j0 k l0 t385 true) else ((impl_TwiceArea.f k t388).bind fun t393 => ((impl_TwiceArea.f k t385).bind fun t394 => (if t393 = (wrap64 (-t394)) then ((impl_IsRing.f k t385).bind fun t395 => (if t395 = true then ((impl_TwiceArea.f k t385).bind fun t396 => (laws_FnRings.j0 k l0 t385 (t396 == 0))) else (laws_FnRings.j0 k l0 t385 false))) else (laws_FnRings.j0 k l0 t385 true)))))) = some r := H
   have A10 := Aside0.mk A100
   clear A100
   replace H := Option.bind_eq_some_iff.mp H
   obtain ⟨t392, A110, H⟩ := H
   replace H : (if (t391 != t392) = true then (laws_FnRings.j0 k l0 t385 true) else ((impl_TwiceArea.f k t388).bind fun t393 => ((impl_TwiceArea.f k t385).bind fun t394 => (if t393 = (wrap64 (-t394)) then ((impl_IsRing.f k t385).bind fun t395 => (if t395 = true then ((impl_TwiceArea.f k t385).bind fun t396 => (laws_FnRings.j0 k l0 t385 (t396 == 0))) else (laws_FnRings.j0 k l0 t385 false))) else (laws_FnRings.j0 k l0 t385 true))))) = some r := H
   have A11 := Aside0.mk A110
   clear A110
   by_cases c12 : (t391 != t392) = true
   ·
    rw [if_pos c12] at H
    have c12b0 : (t391 != t392) = true := c12
    (try (have c12b1 : decide (t391 = t392) = false := by simpa using c12))
    (try (have c12b2 : (t391 == t392) = false := by simpa using c12))
    (try (have c12b3 : ¬ (t391 = t392) := by simpa using c12))
    clear c12
    (first | rw [c12b0] | (simp only [i64_w, i32_w]; rw [c12b0]) | skip)
    have H' := Aside0.mk H
    clear H
    go_wp2_with (first | ((with_reducible refine gate_callee (f := 39) rfl ?_); refine goesL_ (some 18) rfl rfl Try.func39 (by kernel_rfl) rfl #[.slice Ao8 t385.length co8] rfl Hd.m_ ?_; (with_reducible refine (impl_IsRing.calls k _ _ t385 t391 _ ?side1 ?side2 A10.out).mono ?_); (case side1 => repeat (first | exact (Kd.R_reads' HO387.out).2.2 | (with_reducible refine Kd.C_alloc ?_ _) | (with_reducible refine Kd.C_drewN ?_ _) | (with_reducible refine Kd.C_drew ?_))); (case side2 => exact (Kd.R_reads' HO387.out).2.1); rintro e w13 ⟨rfl, hb⟩; refine ⟨_, rfl, ?_⟩; replace HO387 := Aside0.mk (Kd.R_below (Hd.r_ HO387) hb); replace HO390 := Aside0.mk (Kd.R_below (Hd.r_ HO390) hb); replace HB := Aside0.mk (below_step Hd.b_ hb); (try clear hb); (try clear hb2); (try clear hk); (try clear hi); obtain ⟨Ao14, co14, eo14⟩ := Kd.R_slice HO390.out; subst eo14) | ((with_reducible refine gate_callee (f := 39) rfl ?_); refine goesL_ (some 20) rfl rfl Try.func39 (by kernel_rfl) rfl #[.slice Ao14 t388.length co14] rfl Hd.m_ ?_; (with_reducible refine (impl_IsRing.calls k _ _ t388 t392 _ ?side1 ?side2 A11.out).mono ?_); (case side1 => repeat (first | exact (Kd.R_reads' HO390.out).2.2 | (with_reducible refine Kd.C_alloc ?_ _) | (with_reducible refine Kd.C_drewN ?_ _) | (with_reducible refine Kd.C_drew ?_))); (case side2 => exact (Kd.R_reads' HO390.out).2.1); rintro e w15 ⟨rfl, hb⟩; refine ⟨_, rfl, ?_⟩; replace HO387 := Aside0.mk (Kd.R_below (Hd.r_ HO387) hb); replace HO390 := Aside0.mk (Kd.R_below (Hd.r_ HO390) hb); replace HB := Aside0.mk (below_step Hd.b_ hb); (try clear hb); (try clear hb2); (try clear hk); (try clear hi)))
    go_meet
    case rel => exact ⟨_, (true), (by first | rfl | (simp; done) | (simp [*]; done)), H', ⟨by first | omega | exact Nat.le_refl _⟩, ⟨by (with_reducible repeat (first | apply Kd.R_alloc | apply Kd.R_drewN | apply Kd.R_drew)); exact Kd.R_mono HO387.out (fun _ hk => trivial)⟩, ⟨Hd.b_⟩⟩
   ·
    rw [if_neg c12] at H
    have c12b0 : (t391 != t392) = false := by simpa using c12
    (try (have c12b1 : decide (t391 = t392) = true := by simpa using c12))
    (try (have c12b2 : (t391 == t392) = true := by simpa using c12))
    clear c12
    (first | rw [c12b0] | (simp only [i64_w, i32_w]; rw [c12b0]) | skip)
    replace H := Option.bind_eq_some_iff.mp H
    obtain ⟨t393, A160, H⟩ := H
    replace H : ((impl_TwiceArea.f k t385).bind fun t394 => (if t393 = (wrap64 (-t394)) then ((impl_IsRing.f k t385).bind fun t395 => (if t395 = true then ((impl_TwiceArea.f k t385).bind fun t396 => (laws_FnRings.j0 k l0 t385 (t396 == 0))) else (laws_FnRings.j0 k l0 t385 false))) else (laws_FnRings.j0 k l0 t385 true))) = some r := H
    have A16 := Aside0.mk A160
    clear A160
    replace H := Option.bind_eq_some_iff.mp H
    obtain ⟨t394, A170, H⟩ := H
    replace H : (if t393 = (wrap64 (-t394)) then ((impl_IsRing.f k t385).bind fun t395 => (if t395 = true then ((impl_TwiceArea.f k t385).bind fun t396 => (laws_FnRings.j0 k l0 t385 (t396 == 0))) else (laws_FnRings.j0 k l0 t385 false))) else (laws_FnRings.j0 k l0 t385 true)) = some r := H
    have A17 := Aside0.mk A170
    clear A170
    by_cases c18 : t393 = (wrap64 (-t394))
    ·
     rw [if_pos c18] at H
     have c18b0 : (t393 == (wrap64 (-t394))) = true := beq_iff_eq.mpr c18
     have c18b1 : (t393 != (wrap64 (-t394))) = false := bne_eq_false_iff_eq.mpr c18
     clear c18
     replace H := Option.bind_eq_some_iff.mp H
     obtain ⟨t395, A190, H⟩ := H
     replace H : (if t395 = true then ((impl_TwiceArea.f k t385).bind fun t396 => (laws_FnRings.j0 k l0 t385 (t396 == 0))) else (laws_FnRings.j0 k l0 t385 false)) = some r := H
     have A19 := Aside0.mk A190
     clear A190
     have Et395_ := Aside0.mk (show t395 = t391 from Option.some.inj (A19.out.symm.trans A10.out))
     by_cases c20 : t395 = true
     ·
      subst c20
      have H1 : ((impl_TwiceArea.f k t385).bind fun t396 => (laws_FnRings.j0 k l0 t385 (t396 == 0))) = some r := by rw [if_pos rfl] at H; exact H
      clear H
      have H := H1
      clear H1
      replace H := Option.bind_eq_some_iff.mp H
      obtain ⟨t396, A210, H⟩ := H
      replace H : (laws_FnRings.j0 k l0 t385 (t396 == 0)) = some r := H
      have A21 := Aside0.mk A210
      clear A210
      have Et396_ := Aside0.mk (show t396 = t394 from Option.some.inj (A21.out.symm.trans A17.out))
      have H' := Aside0.mk H
      clear H
      go_wp2_with (first | ((with_reducible refine gate_callee (f := 39) rfl ?_); refine goesL_ (some 18) rfl rfl Try.func39 (by kernel_rfl) rfl #[.slice Ao8 t385.length co8] rfl Hd.m_ ?_; (with_reducible refine (impl_IsRing.calls k _ _ t385 t391 _ ?side1 ?side2 A10.out).mono ?_); (case side1 => repeat (first | exact (Kd.R_reads' HO387.out).2.2 | (with_reducible refine Kd.C_alloc ?_ _) | (with_reducible refine Kd.C_drewN ?_ _) | (with_reducible refine Kd.C_drew ?_))); (case side2 => exact (Kd.R_reads' HO387.out).2.1); rintro e w22 ⟨rfl, hb⟩; refine ⟨_, rfl, ?_⟩; replace HO387 := Aside0.mk (Kd.R_below (Hd.r_ HO387) hb); replace HO390 := Aside0.mk (Kd.R_below (Hd.r_ HO390) hb); replace HB := Aside0.mk (below_step Hd.b_ hb); (try clear hb); (try clear hb2); (try clear hk); (try clear hi); obtain ⟨Ao23, co23, eo23⟩ := Kd.R_slice HO390.out; subst eo23) | ((with_reducible refine gate_callee (f := 39) rfl ?_); refine goesL_ (some 20) rfl rfl Try.func39 (by kernel_rfl) rfl #[.slice Ao23 t388.length co23] rfl Hd.m_ ?_; (with_reducible refine (impl_IsRing.calls k _ _ t388 t392 _ ?side1 ?side2 A11.out).mono ?_); (case side1 => repeat (first | exact (Kd.R_reads' HO390.out).2.2 | (with_reducible refine Kd.C_alloc ?_ _) | (with_reducible refine Kd.C_drewN ?_ _) | (with_reducible refine Kd.C_drew ?_))); (case side2 => exact (Kd.R_reads' HO390.out).2.1); rintro e w24 ⟨rfl, hb⟩; refine ⟨_, rfl, ?_⟩; replace HO387 := Aside0.mk (Kd.R_below (Hd.r_ HO387) hb); replace HO390 := Aside0.mk (Kd.R_below (Hd.r_ HO390) hb); replace HB := Aside0.mk (below_step Hd.b_ hb); (try clear hb); (try clear hb2); (try clear hk); (try clear hi)) | (go_at_call 40; (with_reducible refine (impl_TwiceArea.calls k _ _ t388 t393 _ ?side1 ?side2 A16.out).mono ?_); (case side1 => repeat (first | exact (Kd.R_reads' HO390.out).2.2 | (with_reducible refine Kd.C_alloc ?_ _) | (with_reducible refine Kd.C_drewN ?_ _) | (with_reducible refine Kd.C_drew ?_))); (case side2 => exact (Kd.R_reads' HO390.out).2.1); rintro e w25 ⟨rfl, hb⟩; replace HO387 := Aside0.mk (Kd.R_below (Hd.r_ HO387) hb); replace HO390 := Aside0.mk (Kd.R_below (Hd.r_ HO390) hb); replace HB := Aside0.mk (below_step Hd.b_ hb); (try clear hb); (try clear hb2); (try clear hk); (try clear hi)) | (go_at_call 40; (with_reducible refine (impl_TwiceArea.calls k _ _ t385 t394 _ ?side1 ?side2 A17.out).mono ?_); (case side1 => repeat (first | exact (Kd.R_reads' HO387.out).2.2 | (with_reducible refine Kd.C_alloc ?_ _) | (with_reducible refine Kd.C_drewN ?_ _) | (with_reducible refine Kd.C_drew ?_))); (case side2 => exact (Kd.R_reads' HO387.out).2.1); rintro e w26 ⟨rfl, hb⟩; replace HO387 := Aside0.mk (Kd.R_below (Hd.r_ HO387) hb); replace HO390 := Aside0.mk (Kd.R_below (Hd.r_ HO390) hb); replace HB := Aside0.mk (below_step Hd.b_ hb); (try clear hb); (try clear hb2); (try clear hk); (try clear hi)) | (go_at_call 39; (with_reducible refine (impl_IsRing.calls k _ _ t385 true _ ?side1 ?side2 A19.out).mono ?_); (case side1 => repeat (first | exact (Kd.R_reads' HO387.out).2.2 | (with_reducible refine Kd.C_alloc ?_ _) | (with_reducible refine Kd.C_drewN ?_ _) | (with_reducible refine Kd.C_drew ?_))); (case side2 => exact (Kd.R_reads' HO387.out).2.1); rintro e w27 ⟨rfl, hb⟩; replace HO387 := Aside0.mk (Kd.R_below (Hd.r_ HO387) hb); replace HO390 := Aside0.mk (Kd.R_below (Hd.r_ HO390) hb); replace HB := Aside0.mk (below_step Hd.b_ hb); (try clear hb); (try clear hb2); (try clear hk); (try clear hi)) | (go_at_call 40; (with_reducible refine (impl_TwiceArea.calls k _ _ t385 t396 _ ?side1 ?side2 A21.out).mono ?_); (case side1 => repeat (first | exact (Kd.R_reads' HO387.out).2.2 | (with_reducible refine Kd.C_alloc ?_ _) | (with_reducible refine Kd.C_drewN ?_ _) | (with_reducible refine Kd.C_drew ?_))); (case side2 => exact (Kd.R_reads' HO387.out).2.1); rintro e w28 ⟨rfl, hb⟩; replace HO387 := Aside0.mk (Kd.R_below (Hd.r_ HO387) hb); replace HO390 := Aside0.mk (Kd.R_below (Hd.r_ HO390) hb); replace HB := Aside0.mk (below_step Hd.b_ hb); (try clear hb); (try clear hb2); (try clear hk); (try clear hi)))
      go_meet
      case rel => exact ⟨_, ((t396 == 0)), (by first | rfl | (simp; done) | (simp [*]; done) | (simp [Et395_.out, Et396_.out]; done)), H', ⟨by first | omega | exact Nat.le_refl _⟩, ⟨by (with_reducible repeat (first | apply Kd.R_alloc | apply Kd.R_drewN | apply Kd.R_drew)); exact Kd.R_mono HO387.out (fun _ hk => trivial)⟩, ⟨Hd.b_⟩⟩
     ·
      replace c20 := Bool.eq_false_iff.mpr c20
      subst c20
      have H1 : (laws_FnRings.j0 k l0 t385 false) = some r := by rw [if_neg (show ¬ (false = true) by decide)] at H; exact H
      clear H
      have H := H1
      clear H1
      have H' := Aside0.mk H
      clear H
      go_wp2_with (first | ((with_reducible refine gate_callee (f := 39) rfl ?_); refine goesL_ (some 18) rfl rfl Try.func39 (by kernel_rfl) rfl #[.slice Ao8 t385.length co8] rfl Hd.m_ ?_; (with_reducible refine (impl_IsRing.calls k _ _ t385 t391 _ ?side1 ?side2 A10.out).mono ?_); (case side1 => repeat (first | exact (Kd.R_reads' HO387.out).2.2 | (with_reducible refine Kd.C_alloc ?_ _) | (with_reducible refine Kd.C_drewN ?_ _) | (with_reducible refine Kd.C_drew ?_))); (case side2 => exact (Kd.R_reads' HO387.out).2.1); rintro e w29 ⟨rfl, hb⟩; refine ⟨_, rfl, ?_⟩; replace HO387 := Aside0.mk (Kd.R_below (Hd.r_ HO387) hb); replace HO390 := Aside0.mk (Kd.R_below (Hd.r_ HO390) hb); replace HB := Aside0.mk (below_step Hd.b_ hb); (try clear hb); (try clear hb2); (try clear hk); (try clear hi); obtain ⟨Ao30, co30, eo30⟩ := Kd.R_slice HO390.out; subst eo30) | ((with_reducible refine gate_callee (f := 39) rfl ?_); refine goesL_ (some 20) rfl rfl Try.func39 (by kernel_rfl) rfl #[.slice Ao30 t388.length co30] rfl Hd.m_ ?_; (with_reducible refine (impl_IsRing.calls k _ _ t388 t392 _ ?side1 ?side2 A11.out).mono ?_); (case side1 => repeat (first | exact (Kd.R_reads' HO390.out).2.2 | (with_reducible refine Kd.C_alloc ?_ _) | (with_reducible refine Kd.C_drewN ?_ _) | (with_reducible refine Kd.C_drew ?_))); (case side2 => exact (Kd.R_reads' HO390.out).2.1); rintro e w31 ⟨rfl, hb⟩; refine ⟨_, rfl, ?_⟩; replace HO387 := Aside0.mk (Kd.R_below (Hd.r_ HO387) hb); replace HO390 := Aside0.mk (Kd.R_below (Hd.r_ HO390) hb); replace HB := Aside0.mk (below_step Hd.b_ hb); (try clear hb); (try clear hb2); (try clear hk); (try clear hi)) | (go_at_call 40; (with_reducible refine (impl_TwiceArea.calls k _ _ t388 t393 _ ?side1 ?side2 A16.out).mono ?_); (case side1 => repeat (first | exact (Kd.R_reads' HO390.out).2.2 | (with_reducible refine Kd.C_alloc ?_ _) | (with_reducible refine Kd.C_drewN ?_ _) | (with_reducible refine Kd.C_drew ?_))); (case side2 => exact (Kd.R_reads' HO390.out).2.1); rintro e w32 ⟨rfl, hb⟩; replace HO387 := Aside0.mk (Kd.R_below (Hd.r_ HO387) hb); replace HO390 := Aside0.mk (Kd.R_below (Hd.r_ HO390) hb); replace HB := Aside0.mk (below_step Hd.b_ hb); (try clear hb); (try clear hb2); (try clear hk); (try clear hi)) | (go_at_call 40; (with_reducible refine (impl_TwiceArea.calls k _ _ t385 t394 _ ?side1 ?side2 A17.out).mono ?_); (case side1 => repeat (first | exact (Kd.R_reads' HO387.out).2.2 | (with_reducible refine Kd.C_alloc ?_ _) | (with_reducible refine Kd.C_drewN ?_ _) | (with_reducible refine Kd.C_drew ?_))); (case side2 => exact (Kd.R_reads' HO387.out).2.1); rintro e w33 ⟨rfl, hb⟩; replace HO387 := Aside0.mk (Kd.R_below (Hd.r_ HO387) hb); replace HO390 := Aside0.mk (Kd.R_below (Hd.r_ HO390) hb); replace HB := Aside0.mk (below_step Hd.b_ hb); (try clear hb); (try clear hb2); (try clear hk); (try clear hi)) | (go_at_call 39; (with_reducible refine (impl_IsRing.calls k _ _ t385 false _ ?side1 ?side2 A19.out).mono ?_); (case side1 => repeat (first | exact (Kd.R_reads' HO387.out).2.2 | (with_reducible refine Kd.C_alloc ?_ _) | (with_reducible refine Kd.C_drewN ?_ _) | (with_reducible refine Kd.C_drew ?_))); (case side2 => exact (Kd.R_reads' HO387.out).2.1); rintro e w34 ⟨rfl, hb⟩; replace HO387 := Aside0.mk (Kd.R_below (Hd.r_ HO387) hb); replace HO390 := Aside0.mk (Kd.R_below (Hd.r_ HO390) hb); replace HB := Aside0.mk (below_step Hd.b_ hb); (try clear hb); (try clear hb2); (try clear hk); (try clear hi)))
      go_meet
      case rel => exact ⟨_, (false), (by first | rfl | (simp; done) | (simp [*]; done) | (simp [Et395_.out]; done)), H', ⟨by first | omega | exact Nat.le_refl _⟩, ⟨by (with_reducible repeat (first | apply Kd.R_alloc | apply Kd.R_drewN | apply Kd.R_drew)); exact Kd.R_mono HO387.out (fun _ hk => trivial)⟩, ⟨Hd.b_⟩⟩
    ·
     rw [if_neg c18] at H
     have c18b0 : (t393 == (wrap64 (-t394))) = false := beq_eq_false_iff_ne.mpr c18
     have c18b1 : (t393 != (wrap64 (-t394))) = true := bne_iff_ne.mpr c18
     have H' := Aside0.mk H
     clear H
     go_wp2_with (first | ((with_reducible refine gate_callee (f := 39) rfl ?_); refine goesL_ (some 18) rfl rfl Try.func39 (by kernel_rfl) rfl #[.slice Ao8 t385.length co8] rfl Hd.m_ ?_; (with_reducible refine (impl_IsRing.calls k _ _ t385 t391 _ ?side1 ?side2 A10.out).mono ?_); (case side1 => repeat (first | exact (Kd.R_reads' HO387.out).2.2 | (with_reducible refine Kd.C_alloc ?_ _) | (with_reducible refine Kd.C_drewN ?_ _) | (with_reducible refine Kd.C_drew ?_))); (case side2 => exact (Kd.R_reads' HO387.out).2.1); rintro e w35 ⟨rfl, hb⟩; refine ⟨_, rfl, ?_⟩; replace HO387 := Aside0.mk (Kd.R_below (Hd.r_ HO387) hb); replace HO390 := Aside0.mk (Kd.R_below (Hd.r_ HO390) hb); replace HB := Aside0.mk (below_step Hd.b_ hb); (try clear hb); (try clear hb2); (try clear hk); (try clear hi); obtain ⟨Ao36, co36, eo36⟩ := Kd.R_slice HO390.out; subst eo36) | ((with_reducible refine gate_callee (f := 39) rfl ?_); refine goesL_ (some 20) rfl rfl Try.func39 (by kernel_rfl) rfl #[.slice Ao36 t388.length co36] rfl Hd.m_ ?_; (with_reducible refine (impl_IsRing.calls k _ _ t388 t392 _ ?side1 ?side2 A11.out).mono ?_); (case side1 => repeat (first | exact (Kd.R_reads' HO390.out).2.2 | (with_reducible refine Kd.C_alloc ?_ _) | (with_reducible refine Kd.C_drewN ?_ _) | (with_reducible refine Kd.C_drew ?_))); (case side2 => exact (Kd.R_reads' HO390.out).2.1); rintro e w37 ⟨rfl, hb⟩; refine ⟨_, rfl, ?_⟩; replace HO387 := Aside0.mk (Kd.R_below (Hd.r_ HO387) hb); replace HO390 := Aside0.mk (Kd.R_below (Hd.r_ HO390) hb); replace HB := Aside0.mk (below_step Hd.b_ hb); (try clear hb); (try clear hb2); (try clear hk); (try clear hi)) | (go_at_call 40; (with_reducible refine (impl_TwiceArea.calls k _ _ t388 t393 _ ?side1 ?side2 A16.out).mono ?_); (case side1 => repeat (first | exact (Kd.R_reads' HO390.out).2.2 | (with_reducible refine Kd.C_alloc ?_ _) | (with_reducible refine Kd.C_drewN ?_ _) | (with_reducible refine Kd.C_drew ?_))); (case side2 => exact (Kd.R_reads' HO390.out).2.1); rintro e w38 ⟨rfl, hb⟩; replace HO387 := Aside0.mk (Kd.R_below (Hd.r_ HO387) hb); replace HO390 := Aside0.mk (Kd.R_below (Hd.r_ HO390) hb); replace HB := Aside0.mk (below_step Hd.b_ hb); (try clear hb); (try clear hb2); (try clear hk); (try clear hi)) | (go_at_call 40; (with_reducible refine (impl_TwiceArea.calls k _ _ t385 t394 _ ?side1 ?side2 A17.out).mono ?_); (case side1 => repeat (first | exact (Kd.R_reads' HO387.out).2.2 | (with_reducible refine Kd.C_alloc ?_ _) | (with_reducible refine Kd.C_drewN ?_ _) | (with_reducible refine Kd.C_drew ?_))); (case side2 => exact (Kd.R_reads' HO387.out).2.1); rintro e w39 ⟨rfl, hb⟩; replace HO387 := Aside0.mk (Kd.R_below (Hd.r_ HO387) hb); replace HO390 := Aside0.mk (Kd.R_below (Hd.r_ HO390) hb); replace HB := Aside0.mk (below_step Hd.b_ hb); (try clear hb); (try clear hb2); (try clear hk); (try clear hi)))
     go_meet
     case rel => exact ⟨_, (true), (by first | rfl | (simp; done) | (simp [*]; done)), H', ⟨by first | omega | exact Nat.le_refl _⟩, ⟨by (with_reducible repeat (first | apply Kd.R_alloc | apply Kd.R_drewN | apply Kd.R_drew)); exact Kd.R_mono HO387.out (fun _ hk => trivial)⟩, ⟨Hd.b_⟩⟩
  case rest =>
   clear HC6
   try clear c1
   try clear c2
   try clear p2
   try clear c3
   try clear p6
   try clear c7
   try clear c10
   try clear c12
   try clear c12b0
   try clear c12b1
   try clear c12b2
   try clear c18
   try clear c18b0
   try clear c18b1
   try clear c20
   try clear c37
   try clear c38
   try clear c39
   obtain ⟨kq, x38_5, rfl, HA, HJ5, HO_3, HB⟩ := hcut
   cases kq with
   | zero => exact absurd HA.out (by simp [laws_FnRings.j0])
   | succ kj5 =>
    have H := HA.out
    clear HA
    simp only [laws_FnRings.j0] at H
    by_cases c40 : x38_5 = true
    ·
     subst c40
     have H1 : (some false) = some r := by rw [if_pos rfl] at H; exact H
     clear H
     have H := H1
     clear H1
     obtain rfl := Option.some.inj H
     go_wp2
     go_ret
     exact ⟨Hd.e_, Hd.b_⟩
    ·
     replace c40 := Bool.eq_false_iff.mpr c40
     subst c40
     have H1 : ((spec_DrawRotateRing.f kj5 l0).bind fun bt397 => ((impl_RotateRing.f bt397.1 bt397.2).bind fun t401 => ((impl_IsRing.f kj5 bt397.1).bind fun t404 => ((impl_IsRing.f kj5 t401).bind fun t405 => (if (t404 != t405) = true then (laws_FnRings.j1 kj5 l0 t385 true) else ((impl_TwiceArea.f kj5 bt397.1).bind fun t406 => ((impl_TwiceArea.f kj5 t401).bind fun t407 => (if t406 = t407 then (laws_FnRings.j1 kj5 l0 t385 ((t401.length : Int) != (bt397.1.length : Int))) else (laws_FnRings.j1 kj5 l0 t385 true))))))))) = some r := by rw [if_neg (show ¬ (false = true) by decide)] at H; exact H
     clear H
     have H := H1
     clear H1
     replace H := Option.bind_eq_some_iff.mp H
     obtain ⟨⟨t397, t398⟩, A410, H⟩ := H
     replace H : ((impl_RotateRing.f t397 t398).bind fun t401 => ((impl_IsRing.f kj5 t397).bind fun t404 => ((impl_IsRing.f kj5 t401).bind fun t405 => (if (t404 != t405) = true then (laws_FnRings.j1 kj5 l0 t385 true) else ((impl_TwiceArea.f kj5 t397).bind fun t406 => ((impl_TwiceArea.f kj5 t401).bind fun t407 => (if t406 = t407 then (laws_FnRings.j1 kj5 l0 t385 ((t401.length : Int) != (t397.length : Int))) else (laws_FnRings.j1 kj5 l0 t385 true)))))))) = some r := H
     have A41 := Aside0.mk A410
     clear A410
     replace H := Option.bind_eq_some_iff.mp H
     obtain ⟨t401, A420, H⟩ := H
     replace H : ((impl_IsRing.f kj5 t397).bind fun t404 => ((impl_IsRing.f kj5 t401).bind fun t405 => (if (t404 != t405) = true then (laws_FnRings.j1 kj5 l0 t385 true) else ((impl_TwiceArea.f kj5 t397).bind fun t406 => ((impl_TwiceArea.f kj5 t401).bind fun t407 => (if t406 = t407 then (laws_FnRings.j1 kj5 l0 t385 ((t401.length : Int) != (t397.length : Int))) else (laws_FnRings.j1 kj5 l0 t385 true))))))) = some r := H
     have A42 := Aside0.mk A420
     clear A420
     have HC43 := Aside0.mk H
     clear H
     go_upto_region 9 with (first | ((with_reducible refine gate_callee (f := 41) rfl ?_); refine goesL_ (some 41) rfl rfl Try.func41 (by kernel_rfl) rfl #[.slice A0 l0.length c0] rfl Hd.m_ ?_; (with_reducible refine (spec_DrawRotateRing.calls kj5 _ _ l0 t397 t398 _ ?side1 ?side2 A41.out).mono ?_); (case side1 => repeat (first | exact (Kd.C_below HR0.out HB.out) | (with_reducible refine Kd.C_alloc ?_ _) | (with_reducible refine Kd.C_drewN ?_ _) | (with_reducible refine Kd.C_drew ?_))); (case side2 => exact HC0.out); rintro e w44 ⟨v399, rfl, ho0, hb⟩; refine ⟨_, rfl, ?_⟩; have HO400 := Aside0.mk (Kd.R_lower (Kd.R_new' ho0 (Kd.R_lt (Hd.r_ HO_3))) (below_size Hd.b_)); replace HO_3 := Aside0.mk (Kd.R_elder' (Hd.r_ HO_3) (Kd.R_base ho0) hb); replace HB := Aside0.mk (below_step Hd.b_ hb); (try clear hb); (try clear hb2); (try clear hk); (try clear hi); (try clear ho0); obtain ⟨Ao45, co45, eo45⟩ := Kd.R_slice HO400.out; subst eo45) | ((with_reducible refine gate_callee (f := 42) rfl ?_); refine goesL_ (some 46) rfl rfl Try.func42 (by kernel_rfl) rfl #[.slice Ao45 t397.length co45, .int .i64 t398] rfl Hd.m_ ?_; (with_reducible refine (impl_RotateRing.calls _ _ t397 t398 t401 _ ?side1 ?side2 A42.out).mono ?_); (case side1 => repeat (first | exact (Kd.R_reads' HO400.out).2.2 | (with_reducible refine Kd.C_alloc ?_ _) | (with_reducible refine Kd.C_drewN ?_ _) | (with_reducible refine Kd.C_drew ?_))); (case side2 => exact (Kd.R_reads' HO400.out).2.1); rintro e w46 ⟨v402, rfl, ho0, hb⟩; refine ⟨_, rfl, ?_⟩; have HO403 := Aside0.mk (Kd.R_lower (Kd.R_new' (Kd.R_new' ho0 (Kd.R_lt (Hd.r_ HO_3))) (Kd.R_lt (Hd.r_ HO400))) (below_size Hd.b_)); replace HO_3 := Aside0.mk (Kd.R_elder' (Hd.r_ HO_3) (Kd.R_base ho0) hb); replace HO400 := Aside0.mk (Kd.R_elder' (Hd.r_ HO400) (Kd.R_base ho0) hb); replace HB := Aside0.mk (below_step Hd.b_ hb); (try clear hb); (try clear hb2); (try clear hk); (try clear hi); (try clear ho0)))
     (try simp only [Act.put, List.setIfInBounds_toArray, List.set_cons_zero, List.set_cons_succ])
     go_cut [65] (fun v65 wc => ∃ (kq : Nat) (x65_42 : Bool), v65 = .bool x65_42 ∧ Aside0 (laws_FnRings.j1 kq l0 t385 x65_42 = some r) ∧ Aside0 (kq ≤ kj5) ∧ Aside0 (Kd.R k27 27 wc w.heap.size (fun _ => True) (.slice Ao8 t385.length co8) t385) ∧ Aside0 (Below w.heap.size w wc))
     case first =>
      have H := HC43.out
      clear HC43
      replace H := Option.bind_eq_some_iff.mp H
      obtain ⟨t404, A470, H⟩ := H
      replace H : ((impl_IsRing.f kj5 t401).bind fun t405 => (if (t404 != t405) = true then (laws_FnRings.j1 kj5 l0 t385 true) else ((impl_TwiceArea.f kj5 t397).bind fun t406 => ((impl_TwiceArea.f kj5 t401).bind fun t407 => (if t406 = t407 then (laws_FnRings.j1 kj5 l0 t385 ((t401.length : Int) != (t397.length : Int))) else (laws_FnRings.j1 kj5 l0 t385 true)))))) = some r := H
      have A47 := Aside0.mk A470
      clear A470
      replace H := Option.bind_eq_some_iff.mp H
      obtain ⟨t405, A480, H⟩ := H
      replace H : (if (t404 != t405) = true then (laws_FnRings.j1 kj5 l0 t385 true) else ((impl_TwiceArea.f kj5 t397).bind fun t406 => ((impl_TwiceArea.f kj5 t401).bind fun t407 => (if t406 = t407 then (laws_FnRings.j1 kj5 l0 t385 ((t401.length : Int) != (t397.length : Int))) else (laws_FnRings.j1 kj5 l0 t385 true))))) = some r := H
      have A48 := Aside0.mk A480
      clear A480
      by_cases c49 : (t404 != t405) = true
      ·
       rw [if_pos c49] at H
       have c49b0 : (t404 != t405) = true := c49
       (try (have c49b1 : decide (t404 = t405) = false := by simpa using c49))
       (try (have c49b2 : (t404 == t405) = false := by simpa using c49))
       (try (have c49b3 : ¬ (t404 = t405) := by simpa using c49))
       clear c49
       (first | rw [c49b0] | (simp only [i64_w, i32_w]; rw [c49b0]) | skip)
       have H' := Aside0.mk H
       clear H
       go_wp2_with (first | ((with_reducible refine gate_callee (f := 39) rfl ?_); refine goesL_ (some 48) rfl rfl Try.func39 (by kernel_rfl) rfl #[.slice Ao45 t397.length co45] rfl Hd.m_ ?_; (with_reducible refine (impl_IsRing.calls kj5 _ _ t397 t404 _ ?side1 ?side2 A47.out).mono ?_); (case side1 => repeat (first | exact (Kd.R_reads' HO400.out).2.2 | (with_reducible refine Kd.C_alloc ?_ _) | (with_reducible refine Kd.C_drewN ?_ _) | (with_reducible refine Kd.C_drew ?_))); (case side2 => exact (Kd.R_reads' HO400.out).2.1); rintro e w50 ⟨rfl, hb⟩; refine ⟨_, rfl, ?_⟩; replace HO_3 := Aside0.mk (Kd.R_below (Hd.r_ HO_3) hb); replace HO400 := Aside0.mk (Kd.R_below (Hd.r_ HO400) hb); replace HO403 := Aside0.mk (Kd.R_below (Hd.r_ HO403) hb); replace HB := Aside0.mk (below_step Hd.b_ hb); (try clear hb); (try clear hb2); (try clear hk); (try clear hi); obtain ⟨Ao51, co51, eo51⟩ := Kd.R_slice HO403.out; subst eo51) | ((with_reducible refine gate_callee (f := 39) rfl ?_); refine goesL_ (some 50) rfl rfl Try.func39 (by kernel_rfl) rfl #[.slice Ao51 t401.length co51] rfl Hd.m_ ?_; (with_reducible refine (impl_IsRing.calls kj5 _ _ t401 t405 _ ?side1 ?side2 A48.out).mono ?_); (case side1 => repeat (first | exact (Kd.R_reads' HO403.out).2.2 | (with_reducible refine Kd.C_alloc ?_ _) | (with_reducible refine Kd.C_drewN ?_ _) | (with_reducible refine Kd.C_drew ?_))); (case side2 => exact (Kd.R_reads' HO403.out).2.1); rintro e w52 ⟨rfl, hb⟩; refine ⟨_, rfl, ?_⟩; replace HO_3 := Aside0.mk (Kd.R_below (Hd.r_ HO_3) hb); replace HO400 := Aside0.mk (Kd.R_below (Hd.r_ HO400) hb); replace HO403 := Aside0.mk (Kd.R_below (Hd.r_ HO403) hb); replace HB := Aside0.mk (below_step Hd.b_ hb); (try clear hb); (try clear hb2); (try clear hk); (try clear hi)))
       go_meet
       case rel => exact ⟨_, (true), (by first | rfl | (simp; done) | (simp [*]; done)), H', ⟨by have := HJ5.out; first | omega | exact Nat.le_refl _⟩, ⟨by (with_reducible repeat (first | apply Kd.R_alloc | apply Kd.R_drewN | apply Kd.R_drew)); exact Kd.R_mono HO_3.out (fun _ hk => trivial)⟩, ⟨Hd.b_⟩⟩
      ·
       rw [if_neg c49] at H
       have c49b0 : (t404 != t405) = false := by simpa using c49
       (try (have c49b1 : decide (t404 = t405) = true := by simpa using c49))
       (try (have c49b2 : (t404 == t405) = true := by simpa using c49))
       clear c49
       (first | rw [c49b0] | (simp only [i64_w, i32_w]; rw [c49b0]) | skip)
       replace H := Option.bind_eq_some_iff.mp H
       obtain ⟨t406, A530, H⟩ := H
       replace H : ((impl_TwiceArea.f kj5 t401).bind fun t407 => (if t406 = t407 then (laws_FnRings.j1 kj5 l0 t385 ((t401.length : Int) != (t397.length : Int))) else (laws_FnRings.j1 kj5 l0 t385 true))) = some r := H
       have A53 := Aside0.mk A530
       clear A530
       replace H := Option.bind_eq_some_iff.mp H
       obtain ⟨t407, A540, H⟩ := H
       replace H : (if t406 = t407 then (laws_FnRings.j1 kj5 l0 t385 ((t401.length : Int) != (t397.length : Int))) else (laws_FnRings.j1 kj5 l0 t385 true)) = some r := H
       have A54 := Aside0.mk A540
       clear A540
       by_cases c55 : t406 = t407
       ·
        rw [if_pos c55] at H
        have c55b0 : (t406 == t407) = true := beq_iff_eq.mpr c55
        have c55b1 : (t406 != t407) = false := bne_eq_false_iff_eq.mpr c55
        clear c55
        have H' := Aside0.mk H
        clear H
        go_wp2_with (first | ((with_reducible refine gate_callee (f := 39) rfl ?_); refine goesL_ (some 48) rfl rfl Try.func39 (by kernel_rfl) rfl #[.slice Ao45 t397.length co45] rfl Hd.m_ ?_; (with_reducible refine (impl_IsRing.calls kj5 _ _ t397 t404 _ ?side1 ?side2 A47.out).mono ?_); (case side1 => repeat (first | exact (Kd.R_reads' HO400.out).2.2 | (with_reducible refine Kd.C_alloc ?_ _) | (with_reducible refine Kd.C_drewN ?_ _) | (with_reducible refine Kd.C_drew ?_))); (case side2 => exact (Kd.R_reads' HO400.out).2.1); rintro e w56 ⟨rfl, hb⟩; refine ⟨_, rfl, ?_⟩; replace HO_3 := Aside0.mk (Kd.R_below (Hd.r_ HO_3) hb); replace HO400 := Aside0.mk (Kd.R_below (Hd.r_ HO400) hb); replace HO403 := Aside0.mk (Kd.R_below (Hd.r_ HO403) hb); replace HB := Aside0.mk (below_step Hd.b_ hb); (try clear hb); (try clear hb2); (try clear hk); (try clear hi); obtain ⟨Ao57, co57, eo57⟩ := Kd.R_slice HO403.out; subst eo57) | ((with_reducible refine gate_callee (f := 39) rfl ?_); refine goesL_ (some 50) rfl rfl Try.func39 (by kernel_rfl) rfl #[.slice Ao57 t401.length co57] rfl Hd.m_ ?_; (with_reducible refine (impl_IsRing.calls kj5 _ _ t401 t405 _ ?side1 ?side2 A48.out).mono ?_); (case side1 => repeat (first | exact (Kd.R_reads' HO403.out).2.2 | (with_reducible refine Kd.C_alloc ?_ _) | (with_reducible refine Kd.C_drewN ?_ _) | (with_reducible refine Kd.C_drew ?_))); (case side2 => exact (Kd.R_reads' HO403.out).2.1); rintro e w58 ⟨rfl, hb⟩; refine ⟨_, rfl, ?_⟩; replace HO_3 := Aside0.mk (Kd.R_below (Hd.r_ HO_3) hb); replace HO400 := Aside0.mk (Kd.R_below (Hd.r_ HO400) hb); replace HO403 := Aside0.mk (Kd.R_below (Hd.r_ HO403) hb); replace HB := Aside0.mk (below_step Hd.b_ hb); (try clear hb); (try clear hb2); (try clear hk); (try clear hi)) | (go_at_call 40; (with_reducible refine (impl_TwiceArea.calls kj5 _ _ t397 t406 _ ?side1 ?side2 A53.out).mono ?_); (case side1 => repeat (first | exact (Kd.R_reads' HO400.out).2.2 | (with_reducible refine Kd.C_alloc ?_ _) | (with_reducible refine Kd.C_drewN ?_ _) | (with_reducible refine Kd.C_drew ?_))); (case side2 => exact (Kd.R_reads' HO400.out).2.1); rintro e w59 ⟨rfl, hb⟩; replace HO_3 := Aside0.mk (Kd.R_below (Hd.r_ HO_3) hb); replace HO400 := Aside0.mk (Kd.R_below (Hd.r_ HO400) hb); replace HO403 := Aside0.mk (Kd.R_below (Hd.r_ HO403) hb); replace HB := Aside0.mk (below_step Hd.b_ hb); (try clear hb); (try clear hb2); (try clear hk); (try clear hi)) | (go_at_call 40; (with_reducible refine (impl_TwiceArea.calls kj5 _ _ t401 t407 _ ?side1 ?side2 A54.out).mono ?_); (case side1 => repeat (first | exact (Kd.R_reads' HO403.out).2.2 | (with_reducible refine Kd.C_alloc ?_ _) | (with_reducible refine Kd.C_drewN ?_ _) | (with_reducible refine Kd.C_drew ?_))); (case side2 => exact (Kd.R_reads' HO403.out).2.1); rintro e w60 ⟨rfl, hb⟩; replace HO_3 := Aside0.mk (Kd.R_below (Hd.r_ HO_3) hb); replace HO400 := Aside0.mk (Kd.R_below (Hd.r_ HO400) hb); replace HO403 := Aside0.mk (Kd.R_below (Hd.r_ HO403) hb); replace HB := Aside0.mk (below_step Hd.b_ hb); (try clear hb); (try clear hb2); (try clear hk); (try clear hi)))
        go_meet
        case rel => exact ⟨_, (((t401.length : Int) != (t397.length : Int))), (by first | rfl | (simp; done) | (simp [*]; done)), H', ⟨by have := HJ5.out; first | omega | exact Nat.le_refl _⟩, ⟨by (with_reducible repeat (first | apply Kd.R_alloc | apply Kd.R_drewN | apply Kd.R_drew)); exact Kd.R_mono HO_3.out (fun _ hk => trivial)⟩, ⟨Hd.b_⟩⟩
       ·
        rw [if_neg c55] at H
        have c55b0 : (t406 == t407) = false := beq_eq_false_iff_ne.mpr c55
        have c55b1 : (t406 != t407) = true := bne_iff_ne.mpr c55
        have H' := Aside0.mk H
        clear H
        go_wp2_with (first | ((with_reducible refine gate_callee (f := 39) rfl ?_); refine goesL_ (some 48) rfl rfl Try.func39 (by kernel_rfl) rfl #[.slice Ao45 t397.length co45] rfl Hd.m_ ?_; (with_reducible refine (impl_IsRing.calls kj5 _ _ t397 t404 _ ?side1 ?side2 A47.out).mono ?_); (case side1 => repeat (first | exact (Kd.R_reads' HO400.out).2.2 | (with_reducible refine Kd.C_alloc ?_ _) | (with_reducible refine Kd.C_drewN ?_ _) | (with_reducible refine Kd.C_drew ?_))); (case side2 => exact (Kd.R_reads' HO400.out).2.1); rintro e w61 ⟨rfl, hb⟩; refine ⟨_, rfl, ?_⟩; replace HO_3 := Aside0.mk (Kd.R_below (Hd.r_ HO_3) hb); replace HO400 := Aside0.mk (Kd.R_below (Hd.r_ HO400) hb); replace HO403 := Aside0.mk (Kd.R_below (Hd.r_ HO403) hb); replace HB := Aside0.mk (below_step Hd.b_ hb); (try clear hb); (try clear hb2); (try clear hk); (try clear hi); obtain ⟨Ao62, co62, eo62⟩ := Kd.R_slice HO403.out; subst eo62) | ((with_reducible refine gate_callee (f := 39) rfl ?_); refine goesL_ (some 50) rfl rfl Try.func39 (by kernel_rfl) rfl #[.slice Ao62 t401.length co62] rfl Hd.m_ ?_; (with_reducible refine (impl_IsRing.calls kj5 _ _ t401 t405 _ ?side1 ?side2 A48.out).mono ?_); (case side1 => repeat (first | exact (Kd.R_reads' HO403.out).2.2 | (with_reducible refine Kd.C_alloc ?_ _) | (with_reducible refine Kd.C_drewN ?_ _) | (with_reducible refine Kd.C_drew ?_))); (case side2 => exact (Kd.R_reads' HO403.out).2.1); rintro e w63 ⟨rfl, hb⟩; refine ⟨_, rfl, ?_⟩; replace HO_3 := Aside0.mk (Kd.R_below (Hd.r_ HO_3) hb); replace HO400 := Aside0.mk (Kd.R_below (Hd.r_ HO400) hb); replace HO403 := Aside0.mk (Kd.R_below (Hd.r_ HO403) hb); replace HB := Aside0.mk (below_step Hd.b_ hb); (try clear hb); (try clear hb2); (try clear hk); (try clear hi)) | (go_at_call 40; (with_reducible refine (impl_TwiceArea.calls kj5 _ _ t397 t406 _ ?side1 ?side2 A53.out).mono ?_); (case side1 => repeat (first | exact (Kd.R_reads' HO400.out).2.2 | (with_reducible refine Kd.C_alloc ?_ _) | (with_reducible refine Kd.C_drewN ?_ _) | (with_reducible refine Kd.C_drew ?_))); (case side2 => exact (Kd.R_reads' HO400.out).2.1); rintro e w64 ⟨rfl, hb⟩; replace HO_3 := Aside0.mk (Kd.R_below (Hd.r_ HO_3) hb); replace HO400 := Aside0.mk (Kd.R_below (Hd.r_ HO400) hb); replace HO403 := Aside0.mk (Kd.R_below (Hd.r_ HO403) hb); replace HB := Aside0.mk (below_step Hd.b_ hb); (try clear hb); (try clear hb2); (try clear hk); (try clear hi)) | (go_at_call 40; (with_reducible refine (impl_TwiceArea.calls kj5 _ _ t401 t407 _ ?side1 ?side2 A54.out).mono ?_); (case side1 => repeat (first | exact (Kd.R_reads' HO403.out).2.2 | (with_reducible refine Kd.C_alloc ?_ _) | (with_reducible refine Kd.C_drewN ?_ _) | (with_reducible refine Kd.C_drew ?_))); (case side2 => exact (Kd.R_reads' HO403.out).2.1); rintro e w65 ⟨rfl, hb⟩; replace HO_3 := Aside0.mk (Kd.R_below (Hd.r_ HO_3) hb); replace HO400 := Aside0.mk (Kd.R_below (Hd.r_ HO400) hb); replace HO403 := Aside0.mk (Kd.R_below (Hd.r_ HO403) hb); replace HB := Aside0.mk (below_step Hd.b_ hb); (try clear hb); (try clear hb2); (try clear hk); (try clear hi)))
        go_meet
        case rel => exact ⟨_, (true), (by first | rfl | (simp; done) | (simp [*]; done)), H', ⟨by have := HJ5.out; first | omega | exact Nat.le_refl _⟩, ⟨by (with_reducible repeat (first | apply Kd.R_alloc | apply Kd.R_drewN | apply Kd.R_drew)); exact Kd.R_mono HO_3.out (fun _ hk => trivial)⟩, ⟨Hd.b_⟩⟩
     case rest =>
      clear HC43
      try clear c1
      try clear c2
      try clear p2
      try clear c3
      try clear c4
      try clear c5
      try clear p6
      try clear c7
      try clear c10
      try clear c12
      try clear c12b0
      try clear c12b1
      try clear c12b2
      try clear c18
      try clear c18b0
      try clear c18b1
      try clear c20
      try clear c37
      try clear c38
      try clear c39
      try clear c40
      try clear c41
      try clear c42
      try clear c49
      try clear c49b0
      try clear c49b1
      try clear c49b2
      try clear c55
      try clear c55b0
      try clear c55b1
      try clear p64
      try clear p2
      try clear p6
      obtain ⟨kq, x65_42, rfl, HA, HJ42, HO_3, HB⟩ := hcut
      cases kq with
      | zero => exact absurd HA.out (by simp [laws_FnRings.j1])
      | succ kj42 =>
       have H := HA.out
       clear HA
       simp only [laws_FnRings.j1] at H
       by_cases c66 : x65_42 = true
       ·
        subst c66
        have H1 : (some false) = some r := by rw [if_pos rfl] at H; exact H
        clear H
        have H := H1
        clear H1
        obtain rfl := Option.some.inj H
        go_wp2
        go_ret
        exact ⟨Hd.e_, Hd.b_⟩
       ·
        replace c66 := Bool.eq_false_iff.mpr c66
        subst c66
        have H1 : ((spec_DrawIsInside.f kj42 l0).bind fun bt408 => ((impl_IsInside.f kj42 bt408.1 bt408.2.1 bt408.2.2).bind fun t414 => ((impl_TurnRing.f bt408.1).bind fun t415 => ((impl_IsInside.f kj42 t415 bt408.2.1 bt408.2.2).bind fun t418 => (if (t414 != t418) = true then (some false) else ((impl_IsInside.f kj42 bt408.1 bt408.2.1 bt408.2.2).bind fun t419 => (if t419 = true then ((impl_IsPoint.f bt408.2.1 bt408.2.2).bind fun t420 => (laws_FnRings.j2 kj42 t385 (!t420))) else (laws_FnRings.j2 kj42 t385 false)))))))) = some r := by rw [if_neg (show ¬ (false = true) by decide)] at H; exact H
        clear H
        have H := H1
        clear H1
        replace H := Option.bind_eq_some_iff.mp H
        obtain ⟨⟨t408, t411, t412⟩, A670, H⟩ := H
        replace H : ((impl_IsInside.f kj42 t408 t411 t412).bind fun t414 => ((impl_TurnRing.f t408).bind fun t415 => ((impl_IsInside.f kj42 t415 t411 t412).bind fun t418 => (if (t414 != t418) = true then (some false) else ((impl_IsInside.f kj42 t408 t411 t412).bind fun t419 => (if t419 = true then ((impl_IsPoint.f t411 t412).bind fun t420 => (laws_FnRings.j2 kj42 t385 (!t420))) else (laws_FnRings.j2 kj42 t385 false))))))) = some r := H
        have A67 := Aside0.mk A670
        clear A670
        replace H := Option.bind_eq_some_iff.mp H
        obtain ⟨t414, A680, H⟩ := H
        replace H : ((impl_TurnRing.f t408).bind fun t415 => ((impl_IsInside.f kj42 t415 t411 t412).bind fun t418 => (if (t414 != t418) = true then (some false) else ((impl_IsInside.f kj42 t408 t411 t412).bind fun t419 => (if t419 = true then ((impl_IsPoint.f t411 t412).bind fun t420 => (laws_FnRings.j2 kj42 t385 (!t420))) else (laws_FnRings.j2 kj42 t385 false)))))) = some r := H
        have A68 := Aside0.mk A680
        clear A680
        replace H := Option.bind_eq_some_iff.mp H
        obtain ⟨t415, A690, H⟩ := H
        replace H : ((impl_IsInside.f kj42 t415 t411 t412).bind fun t418 => (if (t414 != t418) = true then (some false) else ((impl_IsInside.f kj42 t408 t411 t412).bind fun t419 => (if t419 = true then ((impl_IsPoint.f t411 t412).bind fun t420 => (laws_FnRings.j2 kj42 t385 (!t420))) else (laws_FnRings.j2 kj42 t385 false))))) = some r := H
        have A69 := Aside0.mk A690
        clear A690
        replace H := Option.bind_eq_some_iff.mp H
        obtain ⟨t418, A700, H⟩ := H
        replace H : (if (t414 != t418) = true then (some false) else ((impl_IsInside.f kj42 t408 t411 t412).bind fun t419 => (if t419 = true then ((impl_IsPoint.f t411 t412).bind fun t420 => (laws_FnRings.j2 kj42 t385 (!t420))) else (laws_FnRings.j2 kj42 t385 false)))) = some r := H
        have A70 := Aside0.mk A700
        clear A700
        by_cases c71 : (t414 != t418) = true
        ·
         rw [if_pos c71] at H
         have c71b0 : (t414 != t418) = true := c71
         (try (have c71b1 : decide (t414 = t418) = false := by simpa using c71))
         (try (have c71b2 : (t414 == t418) = false := by simpa using c71))
         (try (have c71b3 : ¬ (t414 = t418) := by simpa using c71))
         clear c71
         obtain rfl := Option.some.inj H
         try go_wp2_with (first | ((with_reducible refine gate_callee (f := 43) rfl ?_); refine goesL_ (some 68) rfl rfl Try.func43 (by kernel_rfl) rfl #[.slice A0 l0.length c0] rfl Hd.m_ ?_; (with_reducible refine (spec_DrawIsInside.calls kj42 _ _ l0 t408 t411 t412 _ ?side1 ?side2 A67.out).mono ?_); (case side1 => repeat (first | exact (Kd.C_below HR0.out HB.out) | (with_reducible refine Kd.C_alloc ?_ _) | (with_reducible refine Kd.C_drewN ?_ _) | (with_reducible refine Kd.C_drew ?_))); (case side2 => exact HC0.out); rintro e w72 ⟨v409, rfl, ho0, hb⟩; refine ⟨_, rfl, ?_⟩; have HO410 := Aside0.mk (Kd.R_lower (Kd.R_new' ho0 (Kd.R_lt (Hd.r_ HO_3))) (below_size Hd.b_)); replace HO_3 := Aside0.mk (Kd.R_elder' (Hd.r_ HO_3) (Kd.R_base ho0) hb); replace HB := Aside0.mk (below_step Hd.b_ hb); (try clear hb); (try clear hb2); (try clear hk); (try clear hi); (try clear ho0)) | ((with_reducible refine gate_dst (N := 9) rfl ?_); (try (refine gate_guard (by rfl) ?_; dsimp only)); refine Hd.box_ 9 (#[.int .i64 0, .int .i64 0]) 27 ?_; intro gb413 hg w73 hbox hb; replace HO_3 := Aside0.mk (Kd.R_below (Kd.R_elderB (Hd.r_ HO_3) gb413 (Nat.le_of_eq hg.symm)) hb); replace HO410 := Aside0.mk (Kd.R_below (Kd.R_elderB (Hd.r_ HO410) gb413 (Nat.le_of_eq hg.symm)) hb); have BK413 := Aside0.mk (hbox); have GW413 := Aside0.mk ((Hd.g_ hg Hd.b_ : w.heap.size ≤ gb413)); have GE413 := Aside0.mk ((Hd.g_ hg Hd.b_ : w.heap.size ≤ gb413)); replace HB := Aside0.mk (below_step Hd.b_ hb); clear hb hbox hg; obtain ⟨hcz74_0, hcz74_1⟩ := Hd.c2_ BK413.out; obtain ⟨hfz74_0, hfz74_1⟩ := Hd.f2_ BK413.out))
         have n0_ : Aside0 (Kd.R k27 27 ((w73.setCell ⟨gb413, 0, none⟩ (.int .i64 t411)).setCell ⟨gb413, 1, none⟩ (.int .i64 t412)) w.heap.size (fun k_ => some k_ ≠ (v409 : Value).ownBlock ∧ k_ ≠ gb413) (.slice Ao8 t385.length co8) t385) := ⟨by (with_reducible repeat (first | apply Kd.R_alloc | apply Kd.R_drewN | apply Kd.R_drew)); exact Kd.R_mono (Kd.R_far (p := ⟨gb413, 1, none⟩) (Kd.R_far (p := ⟨gb413, 0, none⟩) (Kd.R_mono HO_3.out (fun k_ hk => (⟨hk, hk.2⟩ : _ ∧ k_ ≠ gb413))) (fun _ hk => hk.2) (.int .i64 t411)) (fun _ hk => hk.2) (.int .i64 t412)) (fun _ hk => ⟨hk.1.1.2, hk.1.2⟩)⟩
         have n1_ : Aside0 (Kd.R k27 27 ((w73.setCell ⟨gb413, 0, none⟩ (.int .i64 t411)).setCell ⟨gb413, 1, none⟩ (.int .i64 t412)) w.heap.size (fun k_ => some k_ ≠ (.slice Ao8 t385.length co8 : Value).ownBlock ∧ k_ ≠ gb413) v409 t408) := ⟨by (with_reducible repeat (first | apply Kd.R_alloc | apply Kd.R_drewN | apply Kd.R_drew)); exact Kd.R_mono (Kd.R_far (p := ⟨gb413, 1, none⟩) (Kd.R_far (p := ⟨gb413, 0, none⟩) (Kd.R_mono HO410.out (fun k_ hk => (⟨hk, hk.2⟩ : _ ∧ k_ ≠ gb413))) (fun _ hk => hk.2) (.int .i64 t411)) (fun _ hk => hk.2) (.int .i64 t412)) (fun _ hk => ⟨hk.1.1.2, hk.1.2⟩)⟩
         have n2_ : Aside0 (((w73.setCell ⟨gb413, 0, none⟩ (.int .i64 t411)).setCell ⟨gb413, 1, none⟩ (.int .i64 t412)).heap[gb413]? = some (.cells #[.int .i64 t411, .int .i64 t412] 27 (0, 0))) := ⟨by (with_reducible repeat (first | refine blk_drewN ?_ _ | refine blk_drew ?_ | refine blk_alloc ?_ _)); refine blk_put (cs := #[.int .i64 t411, .int .i64 0]) ?_ 1 _ rfl; (with_reducible repeat (first | refine blk_drewN ?_ _ | refine blk_drew ?_ | refine blk_alloc ?_ _)); refine blk_put (cs := #[.int .i64 0, .int .i64 0]) ?_ 0 _ rfl; (with_reducible repeat (first | refine blk_drewN ?_ _ | refine blk_drew ?_ | refine blk_alloc ?_ _)); exact BK413.out⟩
         have n3_ : Aside0 (Below w.heap.size w ((w73.setCell ⟨gb413, 0, none⟩ (.int .i64 t411)).setCell ⟨gb413, 1, none⟩ (.int .i64 t412))) := ⟨Hd.b_⟩
         (try clear HO_3)
         (try clear HO410)
         (try clear BK413)
         (try clear HB)
         generalize ((w73.setCell ⟨gb413, 0, none⟩ (.int .i64 t411)).setCell ⟨gb413, 1, none⟩ (.int .i64 t412)) = w75 at n0_ n1_ n2_ n3_ ⊢
         have HO_3 := n0_
         have HO410 := n1_
         have BK413 := n2_
         have HB := n3_
         clear n0_ n1_ n2_ n3_
         replace HO_3 := Aside0.mk (Kd.R_drew HO_3.out)
         replace HO410 := Aside0.mk (Kd.R_drew HO410.out)
         replace BK413 := Aside0.mk (blk_drew BK413.out)
         replace HB := Aside0.mk (below_drew1 HB.out)
         obtain ⟨Ao77, co77, eo77⟩ := Kd.R_slice HO410.out
         (first | subst eo77 | (injection eo77 with f1_ f2_ f3_; have f4_ := f1_.symm; have f5_ := f3_.symm; clear f1_ f2_ f3_; subst f4_; subst f5_))
         refine start_ (n := 8) (S := fun w' => w'.cell? ⟨gb413, 0, none⟩ = some (.int .i64 t411) ∧ w'.cell? ⟨gb413, 1, none⟩ = some (.int .i64 t412)) (ds := []) #[false, false, false, false, false, false, false, false] (by kernel_rfl) rfl rfl ⟨(blk_cell BK413.out 0).trans rfl, (blk_cell BK413.out 1).trans rfl⟩ (fun hHeld => ?_); refine with_tabW laws_FnRings.tab12 laws_FnRings.bits12 (fun HT_ HW_ => ?_)
         generalize w75.drew = w76 at HO_3 HO410 BK413 HB hHeld ⊢
         refine Hd.p_ HT_ 0 (some 71) #[true, false, false, false, false, false, false, false] ?_
         refine Hd.p_ HT_ 3 (some 74) #[true, false, false, true, false, false, false, false] ?_
         refine Hd.t_ HT_ HW_ hHeld 1 (some 72) #[true, true, false, true, false, false, false, false] ?_
         refine Hd.t_ HT_ HW_ hHeld 5 (some 76) #[true, true, false, true, false, true, false, false] ?_
         refine Hd.o_ HT_ 2 (some 73) #[true, true, true, true, false, true, false, false] (fun K hK => ?_)
         refine goes_ Try.func44 (by kernel_rfl) rfl #[.slice Ao77 t408.length co77, .agg #[.int .i64 t411, .int .i64 t412]] (by rfl) rfl rfl Hd.m_ ?_
         with_reducible refine (impl_IsInside.calls kj42 _ _ t408 t411 t412 t414 _ ?side1 ?side2 A68.out).mono ?_
         (case side1 => repeat (first | exact (Kd.R_reads' HO410.out).2.2 | (with_reducible refine Kd.C_alloc ?_ _) | (with_reducible refine Kd.C_drewN ?_ _) | (with_reducible refine Kd.C_drew ?_)))
         (case side2 => exact (Kd.R_reads' HO410.out).2.1)
         rintro e w78 ⟨rfl, hb⟩
         refine ⟨_, rfl, ?_⟩
         replace HO_3 := Aside0.mk (Kd.R_below (Hd.r_ HO_3) hb)
         replace HO410 := Aside0.mk (Kd.R_below (Hd.r_ HO410) hb)
         replace BK413 := Aside0.mk (Hd.kb_ BK413 hb)
         replace HB := Aside0.mk (below_step Hd.b_ hb)
         (try clear hb)
         (try clear hb2)
         (try clear hk)
         (try clear hi)
         refine hK.out _ _ ⟨(blk_cell BK413.out 0).trans rfl, (blk_cell BK413.out 1).trans rfl⟩ (fun hHeld => ?_)
         clear hK K
         refine Hd.n_ (some 73) ?_
         refine Hd.o_ HT_ 4 (some 75) #[true, true, true, true, true, true, false, false] (fun K hK => ?_)
         refine goes_ Try.func38 (by kernel_rfl) rfl #[.slice Ao77 t408.length co77] (by rfl) rfl rfl Hd.m_ ?_
         with_reducible refine (impl_TurnRing.calls _ _ t408 t415 _ ?side1 ?side2 A69.out).mono ?_
         (case side1 => repeat (first | exact (Kd.R_reads' HO410.out).2.2 | (with_reducible refine Kd.C_alloc ?_ _) | (with_reducible refine Kd.C_drewN ?_ _) | (with_reducible refine Kd.C_drew ?_)))
         (case side2 => exact (Kd.R_reads' HO410.out).2.1)
         rintro e w79 ⟨v416, rfl, ho0, hb⟩
         refine ⟨_, rfl, ?_⟩
         have HO417 := Aside0.mk (Kd.R_lower (Kd.R_newB (Kd.R_new' (Kd.R_new' ho0 (Kd.R_lt (Hd.r_ HO_3))) (Kd.R_lt (Hd.r_ HO410))) (g := gb413) (o := .cells #[.int .i64 t411, .int .i64 t412] 27 (0, 0)) (Hd.k_ BK413)) (below_size Hd.b_))
         replace HO_3 := Aside0.mk (Kd.R_elder' (Hd.r_ HO_3) (Kd.R_base ho0) hb)
         replace HO410 := Aside0.mk (Kd.R_elder' (Hd.r_ HO410) (Kd.R_base ho0) hb)
         replace BK413 := Aside0.mk (Hd.kb_ BK413 hb)
         replace HB := Aside0.mk (below_step Hd.b_ hb)
         (try clear hb)
         (try clear hb2)
         (try clear hk)
         (try clear hi)
         (try clear ho0)
         obtain ⟨Ao80, co80, eo80⟩ := Kd.R_slice HO417.out
         (first | subst eo80 | (injection eo80 with f1_ f2_ f3_; have f4_ := f1_.symm; have f5_ := f3_.symm; clear f1_ f2_ f3_; subst f4_; subst f5_))
         refine hK.out _ _ ⟨(blk_cell BK413.out 0).trans rfl, (blk_cell BK413.out 1).trans rfl⟩ (fun hHeld => ?_)
         clear hK K
         refine Hd.n_ (some 75) ?_
         refine Hd.o_ HT_ 6 (some 77) #[true, true, true, true, true, true, true, false] (fun K hK => ?_)
         refine goes_ Try.func44 (by kernel_rfl) rfl #[.slice Ao80 t415.length co80, .agg #[.int .i64 t411, .int .i64 t412]] (by rfl) rfl rfl Hd.m_ ?_
         with_reducible refine (impl_IsInside.calls kj42 _ _ t415 t411 t412 t418 _ ?side1 ?side2 A70.out).mono ?_
         (case side1 => repeat (first | exact (Kd.R_reads' HO417.out).2.2 | (with_reducible refine Kd.C_alloc ?_ _) | (with_reducible refine Kd.C_drewN ?_ _) | (with_reducible refine Kd.C_drew ?_)))
         (case side2 => exact (Kd.R_reads' HO417.out).2.1)
         rintro e w81 ⟨rfl, hb⟩
         refine ⟨_, rfl, ?_⟩
         replace HO_3 := Aside0.mk (Kd.R_below (Hd.r_ HO_3) hb)
         replace HO410 := Aside0.mk (Kd.R_below (Hd.r_ HO410) hb)
         replace HO417 := Aside0.mk (Kd.R_below (Hd.r_ HO417) hb)
         replace BK413 := Aside0.mk (Hd.kb_ BK413 hb)
         replace HB := Aside0.mk (below_step Hd.b_ hb)
         (try clear hb)
         (try clear hb2)
         (try clear hk)
         (try clear hi)
         refine hK.out _ _ ⟨(blk_cell BK413.out 0).trans rfl, (blk_cell BK413.out 1).trans rfl⟩ (fun hHeld => ?_)
         clear hK K
         refine Hd.n_ (some 77) ?_
         refine Hd.p_ HT_ 7 (some 78) #[true, true, true, true, true, true, true, true] ?_
         refine done_ (done_of HT_.out (by kernel_rfl)) ?_
         try go_wp2
         go_ret
         exact ⟨Hd.e_, Hd.b_⟩
        ·
         rw [if_neg c71] at H
         have c71b0 : (t414 != t418) = false := by simpa using c71
         (try (have c71b1 : decide (t414 = t418) = true := by simpa using c71))
         (try (have c71b2 : (t414 == t418) = true := by simpa using c71))
         clear c71
         have HC82 := Aside0.mk H
         clear H
         try go_wp2_with (first | ((with_reducible refine gate_callee (f := 43) rfl ?_); refine goesL_ (some 68) rfl rfl Try.func43 (by kernel_rfl) rfl #[.slice A0 l0.length c0] rfl Hd.m_ ?_; (with_reducible refine (spec_DrawIsInside.calls kj42 _ _ l0 t408 t411 t412 _ ?side1 ?side2 A67.out).mono ?_); (case side1 => repeat (first | exact (Kd.C_below HR0.out HB.out) | (with_reducible refine Kd.C_alloc ?_ _) | (with_reducible refine Kd.C_drewN ?_ _) | (with_reducible refine Kd.C_drew ?_))); (case side2 => exact HC0.out); rintro e w83 ⟨v409, rfl, ho0, hb⟩; refine ⟨_, rfl, ?_⟩; have HO410 := Aside0.mk (Kd.R_lower (Kd.R_new' ho0 (Kd.R_lt (Hd.r_ HO_3))) (below_size Hd.b_)); replace HO_3 := Aside0.mk (Kd.R_elder' (Hd.r_ HO_3) (Kd.R_base ho0) hb); replace HB := Aside0.mk (below_step Hd.b_ hb); (try clear hb); (try clear hb2); (try clear hk); (try clear hi); (try clear ho0)) | ((with_reducible refine gate_dst (N := 9) rfl ?_); (try (refine gate_guard (by rfl) ?_; dsimp only)); refine Hd.box_ 9 (#[.int .i64 0, .int .i64 0]) 27 ?_; intro gb413 hg w84 hbox hb; replace HO_3 := Aside0.mk (Kd.R_below (Kd.R_elderB (Hd.r_ HO_3) gb413 (Nat.le_of_eq hg.symm)) hb); replace HO410 := Aside0.mk (Kd.R_below (Kd.R_elderB (Hd.r_ HO410) gb413 (Nat.le_of_eq hg.symm)) hb); have BK413 := Aside0.mk (hbox); have GW413 := Aside0.mk ((Hd.g_ hg Hd.b_ : w.heap.size ≤ gb413)); have GE413 := Aside0.mk ((Hd.g_ hg Hd.b_ : w.heap.size ≤ gb413)); replace HB := Aside0.mk (below_step Hd.b_ hb); clear hb hbox hg; obtain ⟨hcz85_0, hcz85_1⟩ := Hd.c2_ BK413.out; obtain ⟨hfz85_0, hfz85_1⟩ := Hd.f2_ BK413.out))
         have n0_ : Aside0 (Kd.R k27 27 ((w84.setCell ⟨gb413, 0, none⟩ (.int .i64 t411)).setCell ⟨gb413, 1, none⟩ (.int .i64 t412)) w.heap.size (fun k_ => some k_ ≠ (v409 : Value).ownBlock ∧ k_ ≠ gb413) (.slice Ao8 t385.length co8) t385) := ⟨by (with_reducible repeat (first | apply Kd.R_alloc | apply Kd.R_drewN | apply Kd.R_drew)); exact Kd.R_mono (Kd.R_far (p := ⟨gb413, 1, none⟩) (Kd.R_far (p := ⟨gb413, 0, none⟩) (Kd.R_mono HO_3.out (fun k_ hk => (⟨hk, hk.2⟩ : _ ∧ k_ ≠ gb413))) (fun _ hk => hk.2) (.int .i64 t411)) (fun _ hk => hk.2) (.int .i64 t412)) (fun _ hk => ⟨hk.1.1.2, hk.1.2⟩)⟩
         have n1_ : Aside0 (Kd.R k27 27 ((w84.setCell ⟨gb413, 0, none⟩ (.int .i64 t411)).setCell ⟨gb413, 1, none⟩ (.int .i64 t412)) w.heap.size (fun k_ => some k_ ≠ (.slice Ao8 t385.length co8 : Value).ownBlock ∧ k_ ≠ gb413) v409 t408) := ⟨by (with_reducible repeat (first | apply Kd.R_alloc | apply Kd.R_drewN | apply Kd.R_drew)); exact Kd.R_mono (Kd.R_far (p := ⟨gb413, 1, none⟩) (Kd.R_far (p := ⟨gb413, 0, none⟩) (Kd.R_mono HO410.out (fun k_ hk => (⟨hk, hk.2⟩ : _ ∧ k_ ≠ gb413))) (fun _ hk => hk.2) (.int .i64 t411)) (fun _ hk => hk.2) (.int .i64 t412)) (fun _ hk => ⟨hk.1.1.2, hk.1.2⟩)⟩
         have n2_ : Aside0 (((w84.setCell ⟨gb413, 0, none⟩ (.int .i64 t411)).setCell ⟨gb413, 1, none⟩ (.int .i64 t412)).heap[gb413]? = some (.cells #[.int .i64 t411, .int .i64 t412] 27 (0, 0))) := ⟨by (with_reducible repeat (first | refine blk_drewN ?_ _ | refine blk_drew ?_ | refine blk_alloc ?_ _)); refine blk_put (cs := #[.int .i64 t411, .int .i64 0]) ?_ 1 _ rfl; (with_reducible repeat (first | refine blk_drewN ?_ _ | refine blk_drew ?_ | refine blk_alloc ?_ _)); refine blk_put (cs := #[.int .i64 0, .int .i64 0]) ?_ 0 _ rfl; (with_reducible repeat (first | refine blk_drewN ?_ _ | refine blk_drew ?_ | refine blk_alloc ?_ _)); exact BK413.out⟩
         have n3_ : Aside0 (Below w.heap.size w ((w84.setCell ⟨gb413, 0, none⟩ (.int .i64 t411)).setCell ⟨gb413, 1, none⟩ (.int .i64 t412))) := ⟨Hd.b_⟩
         (try clear HO_3)
         (try clear HO410)
         (try clear BK413)
         (try clear HB)
         generalize ((w84.setCell ⟨gb413, 0, none⟩ (.int .i64 t411)).setCell ⟨gb413, 1, none⟩ (.int .i64 t412)) = w86 at n0_ n1_ n2_ n3_ ⊢
         have HO_3 := n0_
         have HO410 := n1_
         have BK413 := n2_
         have HB := n3_
         clear n0_ n1_ n2_ n3_
         replace HO_3 := Aside0.mk (Kd.R_drew HO_3.out)
         replace HO410 := Aside0.mk (Kd.R_drew HO410.out)
         replace BK413 := Aside0.mk (blk_drew BK413.out)
         replace HB := Aside0.mk (below_drew1 HB.out)
         obtain ⟨Ao88, co88, eo88⟩ := Kd.R_slice HO410.out
         (first | subst eo88 | (injection eo88 with f1_ f2_ f3_; have f4_ := f1_.symm; have f5_ := f3_.symm; clear f1_ f2_ f3_; subst f4_; subst f5_))
         refine start_ (n := 8) (S := fun w' => w'.cell? ⟨gb413, 0, none⟩ = some (.int .i64 t411) ∧ w'.cell? ⟨gb413, 1, none⟩ = some (.int .i64 t412)) (ds := []) #[false, false, false, false, false, false, false, false] (by kernel_rfl) rfl rfl ⟨(blk_cell BK413.out 0).trans rfl, (blk_cell BK413.out 1).trans rfl⟩ (fun hHeld => ?_); refine with_tabW laws_FnRings.tab12 laws_FnRings.bits12 (fun HT_ HW_ => ?_)
         generalize w86.drew = w87 at HO_3 HO410 BK413 HB hHeld ⊢
         refine Hd.p_ HT_ 0 (some 71) #[true, false, false, false, false, false, false, false] ?_
         refine Hd.p_ HT_ 3 (some 74) #[true, false, false, true, false, false, false, false] ?_
         refine Hd.t_ HT_ HW_ hHeld 1 (some 72) #[true, true, false, true, false, false, false, false] ?_
         refine Hd.t_ HT_ HW_ hHeld 5 (some 76) #[true, true, false, true, false, true, false, false] ?_
         refine Hd.o_ HT_ 2 (some 73) #[true, true, true, true, false, true, false, false] (fun K hK => ?_)
         refine goes_ Try.func44 (by kernel_rfl) rfl #[.slice Ao88 t408.length co88, .agg #[.int .i64 t411, .int .i64 t412]] (by rfl) rfl rfl Hd.m_ ?_
         with_reducible refine (impl_IsInside.calls kj42 _ _ t408 t411 t412 t414 _ ?side1 ?side2 A68.out).mono ?_
         (case side1 => repeat (first | exact (Kd.R_reads' HO410.out).2.2 | (with_reducible refine Kd.C_alloc ?_ _) | (with_reducible refine Kd.C_drewN ?_ _) | (with_reducible refine Kd.C_drew ?_)))
         (case side2 => exact (Kd.R_reads' HO410.out).2.1)
         rintro e w89 ⟨rfl, hb⟩
         refine ⟨_, rfl, ?_⟩
         replace HO_3 := Aside0.mk (Kd.R_below (Hd.r_ HO_3) hb)
         replace HO410 := Aside0.mk (Kd.R_below (Hd.r_ HO410) hb)
         replace BK413 := Aside0.mk (Hd.kb_ BK413 hb)
         replace HB := Aside0.mk (below_step Hd.b_ hb)
         (try clear hb)
         (try clear hb2)
         (try clear hk)
         (try clear hi)
         refine hK.out _ _ ⟨(blk_cell BK413.out 0).trans rfl, (blk_cell BK413.out 1).trans rfl⟩ (fun hHeld => ?_)
         clear hK K
         refine Hd.n_ (some 73) ?_
         refine Hd.o_ HT_ 4 (some 75) #[true, true, true, true, true, true, false, false] (fun K hK => ?_)
         refine goes_ Try.func38 (by kernel_rfl) rfl #[.slice Ao88 t408.length co88] (by rfl) rfl rfl Hd.m_ ?_
         with_reducible refine (impl_TurnRing.calls _ _ t408 t415 _ ?side1 ?side2 A69.out).mono ?_
         (case side1 => repeat (first | exact (Kd.R_reads' HO410.out).2.2 | (with_reducible refine Kd.C_alloc ?_ _) | (with_reducible refine Kd.C_drewN ?_ _) | (with_reducible refine Kd.C_drew ?_)))
         (case side2 => exact (Kd.R_reads' HO410.out).2.1)
         rintro e w90 ⟨v416, rfl, ho0, hb⟩
         refine ⟨_, rfl, ?_⟩
         have HO417 := Aside0.mk (Kd.R_lower (Kd.R_newB (Kd.R_new' (Kd.R_new' ho0 (Kd.R_lt (Hd.r_ HO_3))) (Kd.R_lt (Hd.r_ HO410))) (g := gb413) (o := .cells #[.int .i64 t411, .int .i64 t412] 27 (0, 0)) (Hd.k_ BK413)) (below_size Hd.b_))
         replace HO_3 := Aside0.mk (Kd.R_elder' (Hd.r_ HO_3) (Kd.R_base ho0) hb)
         replace HO410 := Aside0.mk (Kd.R_elder' (Hd.r_ HO410) (Kd.R_base ho0) hb)
         replace BK413 := Aside0.mk (Hd.kb_ BK413 hb)
         replace HB := Aside0.mk (below_step Hd.b_ hb)
         (try clear hb)
         (try clear hb2)
         (try clear hk)
         (try clear hi)
         (try clear ho0)
         obtain ⟨Ao91, co91, eo91⟩ := Kd.R_slice HO417.out
         (first | subst eo91 | (injection eo91 with f1_ f2_ f3_; have f4_ := f1_.symm; have f5_ := f3_.symm; clear f1_ f2_ f3_; subst f4_; subst f5_))
         refine hK.out _ _ ⟨(blk_cell BK413.out 0).trans rfl, (blk_cell BK413.out 1).trans rfl⟩ (fun hHeld => ?_)
         clear hK K
         refine Hd.n_ (some 75) ?_
         refine Hd.o_ HT_ 6 (some 77) #[true, true, true, true, true, true, true, false] (fun K hK => ?_)
         refine goes_ Try.func44 (by kernel_rfl) rfl #[.slice Ao91 t415.length co91, .agg #[.int .i64 t411, .int .i64 t412]] (by rfl) rfl rfl Hd.m_ ?_
         with_reducible refine (impl_IsInside.calls kj42 _ _ t415 t411 t412 t418 _ ?side1 ?side2 A70.out).mono ?_
         (case side1 => repeat (first | exact (Kd.R_reads' HO417.out).2.2 | (with_reducible refine Kd.C_alloc ?_ _) | (with_reducible refine Kd.C_drewN ?_ _) | (with_reducible refine Kd.C_drew ?_)))
         (case side2 => exact (Kd.R_reads' HO417.out).2.1)
         rintro e w92 ⟨rfl, hb⟩
         refine ⟨_, rfl, ?_⟩
         replace HO_3 := Aside0.mk (Kd.R_below (Hd.r_ HO_3) hb)
         replace HO410 := Aside0.mk (Kd.R_below (Hd.r_ HO410) hb)
         replace HO417 := Aside0.mk (Kd.R_below (Hd.r_ HO417) hb)
         replace BK413 := Aside0.mk (Hd.kb_ BK413 hb)
         replace HB := Aside0.mk (below_step Hd.b_ hb)
         (try clear hb)
         (try clear hb2)
         (try clear hk)
         (try clear hi)
         refine hK.out _ _ ⟨(blk_cell BK413.out 0).trans rfl, (blk_cell BK413.out 1).trans rfl⟩ (fun hHeld => ?_)
         clear hK K
         refine Hd.n_ (some 77) ?_
         refine Hd.p_ HT_ 7 (some 78) #[true, true, true, true, true, true, true, true] ?_
         refine done_ (done_of HT_.out (by kernel_rfl)) ?_
         go_upto_region 14 with (fail)
         go_cut [86] (fun v86 wc => ∃ (kq : Nat) (x86_81 : Bool), v86 = .bool x86_81 ∧ Aside0 (laws_FnRings.j2 kq t385 x86_81 = some r) ∧ Aside0 (kq ≤ kj42) ∧ Aside0 (Kd.R k27 27 wc w.heap.size (fun k_ => k_ ≠ gb413) (.slice Ao8 t385.length co8) t385) ∧ Aside0 (wc.heap[gb413]? = some (.cells #[.int .i64 t411, .int .i64 t412] 27 (0, 0))) ∧ Aside0 (Below w.heap.size w wc))
         case first =>
          have H := HC82.out
          clear HC82
          replace H := Option.bind_eq_some_iff.mp H
          obtain ⟨t419, A930, H⟩ := H
          replace H : (if t419 = true then ((impl_IsPoint.f t411 t412).bind fun t420 => (laws_FnRings.j2 kj42 t385 (!t420))) else (laws_FnRings.j2 kj42 t385 false)) = some r := H
          have A93 := Aside0.mk A930
          clear A930
          have Et419_ := Aside0.mk (show t419 = t414 from Option.some.inj (A93.out.symm.trans A68.out))
          by_cases c94 : t419 = true
          ·
           subst c94
           have H1 : ((impl_IsPoint.f t411 t412).bind fun t420 => (laws_FnRings.j2 kj42 t385 (!t420))) = some r := by rw [if_pos rfl] at H; exact H
           clear H
           have H := H1
           clear H1
           replace H := Option.bind_eq_some_iff.mp H
           obtain ⟨t420, A950, H⟩ := H
           replace H : (laws_FnRings.j2 kj42 t385 (!t420)) = some r := H
           have A95 := Aside0.mk A950
           clear A950
           have H' := Aside0.mk H
           clear H
           obtain ⟨hcz96_0, hcz96_1⟩ := Hd.c2_ BK413.out
           obtain ⟨hfz96_0, hfz96_1⟩ := Hd.f2_ BK413.out
           go_wp2_with (first | ((with_reducible refine gate_callee (f := 44) rfl ?_); refine goesL_ (some 81) rfl rfl Try.func44 (by kernel_rfl) rfl #[.slice Ao88 t408.length co88, .agg #[.int .i64 t411, .int .i64 t412]] rfl Hd.m_ ?_; (with_reducible refine (impl_IsInside.calls kj42 _ _ t408 t411 t412 true _ ?side1 ?side2 A93.out).mono ?_); (case side1 => repeat (first | exact (Kd.R_reads' HO410.out).2.2 | (with_reducible refine Kd.C_alloc ?_ _) | (with_reducible refine Kd.C_drewN ?_ _) | (with_reducible refine Kd.C_drew ?_))); (case side2 => exact (Kd.R_reads' HO410.out).2.1); rintro e w97 ⟨rfl, hb⟩; refine ⟨_, rfl, ?_⟩; replace HO_3 := Aside0.mk (Kd.R_below (Hd.r_ HO_3) hb); replace HO410 := Aside0.mk (Kd.R_below (Hd.r_ HO410) hb); replace HO417 := Aside0.mk (Kd.R_below (Hd.r_ HO417) hb); replace BK413 := Aside0.mk (Hd.kb_ BK413 hb); replace HB := Aside0.mk (below_step Hd.b_ hb); (try clear hb); (try clear hb2); (try clear hk); (try clear hi); obtain ⟨hcz98_0, hcz98_1⟩ := Hd.c2_ BK413.out; obtain ⟨hfz98_0, hfz98_1⟩ := Hd.f2_ BK413.out) | (go_at_call 45; (with_reducible refine (impl_IsPoint.calls t411 t412 t420 _ A95.out).mono ?_); rintro e w99 ⟨rfl, hb⟩; replace HO_3 := Aside0.mk (Kd.R_below (Hd.r_ HO_3) hb); replace HO410 := Aside0.mk (Kd.R_below (Hd.r_ HO410) hb); replace HO417 := Aside0.mk (Kd.R_below (Hd.r_ HO417) hb); replace BK413 := Aside0.mk (Hd.kb_ BK413 hb); replace HB := Aside0.mk (below_step Hd.b_ hb); (try clear hb); (try clear hb2); (try clear hk); (try clear hi)))
           go_meet
           case rel => exact ⟨_, (!t420), (by first | rfl | (simp; done) | (simp [*]; done) | (simp [Et419_.out]; done)), H', ⟨by have := HJ5.out; have := HJ42.out; first | omega | exact Nat.le_refl _⟩, ⟨by (with_reducible repeat (first | apply Kd.R_alloc | apply Kd.R_drewN | apply Kd.R_drew)); exact Kd.R_mono HO_3.out (fun _ hk => hk.1.2)⟩, ⟨by (with_reducible repeat (first | refine blk_drewN ?_ _ | refine blk_drew ?_ | refine blk_alloc ?_ _)); exact BK413.out⟩, ⟨Hd.b_⟩⟩
          ·
           replace c94 := Bool.eq_false_iff.mpr c94
           subst c94
           have H1 : (laws_FnRings.j2 kj42 t385 false) = some r := by rw [if_neg (show ¬ (false = true) by decide)] at H; exact H
           clear H
           have H := H1
           clear H1
           have H' := Aside0.mk H
           clear H
           obtain ⟨hcz100_0, hcz100_1⟩ := Hd.c2_ BK413.out
           obtain ⟨hfz100_0, hfz100_1⟩ := Hd.f2_ BK413.out
           go_wp2_with (first | ((with_reducible refine gate_callee (f := 44) rfl ?_); refine goesL_ (some 81) rfl rfl Try.func44 (by kernel_rfl) rfl #[.slice Ao88 t408.length co88, .agg #[.int .i64 t411, .int .i64 t412]] rfl Hd.m_ ?_; (with_reducible refine (impl_IsInside.calls kj42 _ _ t408 t411 t412 false _ ?side1 ?side2 A93.out).mono ?_); (case side1 => repeat (first | exact (Kd.R_reads' HO410.out).2.2 | (with_reducible refine Kd.C_alloc ?_ _) | (with_reducible refine Kd.C_drewN ?_ _) | (with_reducible refine Kd.C_drew ?_))); (case side2 => exact (Kd.R_reads' HO410.out).2.1); rintro e w101 ⟨rfl, hb⟩; refine ⟨_, rfl, ?_⟩; replace HO_3 := Aside0.mk (Kd.R_below (Hd.r_ HO_3) hb); replace HO410 := Aside0.mk (Kd.R_below (Hd.r_ HO410) hb); replace HO417 := Aside0.mk (Kd.R_below (Hd.r_ HO417) hb); replace BK413 := Aside0.mk (Hd.kb_ BK413 hb); replace HB := Aside0.mk (below_step Hd.b_ hb); (try clear hb); (try clear hb2); (try clear hk); (try clear hi)))
           go_meet
           case rel => exact ⟨_, (false), (by first | rfl | (simp; done) | (simp [*]; done) | (simp [Et419_.out]; done)), H', ⟨by have := HJ5.out; have := HJ42.out; first | omega | exact Nat.le_refl _⟩, ⟨by (with_reducible repeat (first | apply Kd.R_alloc | apply Kd.R_drewN | apply Kd.R_drew)); exact Kd.R_mono HO_3.out (fun _ hk => hk.1.2)⟩, ⟨by (with_reducible repeat (first | refine blk_drewN ?_ _ | refine blk_drew ?_ | refine blk_alloc ?_ _)); exact BK413.out⟩, ⟨Hd.b_⟩⟩
         case rest =>
          clear HC82
          try clear c1
          try clear c2
          try clear p2
          try clear c3
          try clear c4
          try clear c5
          try clear c6
          try clear p6
          try clear c7
          try clear c9
          try clear c10
          try clear c12
          try clear c12b0
          try clear c12b1
          try clear c12b2
          try clear c18
          try clear c18b0
          try clear c18b1
          try clear c20
          try clear c37
          try clear c38
          try clear c39
          try clear c40
          try clear c41
          try clear c42
          try clear c43
          try clear c44
          try clear c49
          try clear c49b0
          try clear c49b1
          try clear c49b2
          try clear c55
          try clear c55b0
          try clear c55b1
          try clear p64
          try clear c66
          try clear c71
          try clear c71b0
          try clear c71b1
          try clear c71b2
          try clear c94
          try clear hcz100_0
          try clear hcz100_1
          try clear hcz74_0
          try clear hcz74_1
          try clear hcz85_0
          try clear hcz85_1
          try clear hcz96_0
          try clear hcz96_1
          try clear hcz98_0
          try clear hcz98_1
          try clear hfz100_0
          try clear hfz100_1
          try clear hfz74_0
          try clear hfz74_1
          try clear hfz85_0
          try clear hfz85_1
          try clear hfz96_0
          try clear hfz96_1
          try clear hfz98_0
          try clear hfz98_1
          try clear p2
          try clear p6
          try clear p64
          obtain ⟨kq, x86_81, rfl, HA, HJ81, HO_3, BK413, HB⟩ := hcut
          cases kq with
          | zero => exact absurd HA.out (by simp [laws_FnRings.j2])
          | succ kj81 =>
           have H := HA.out
           clear HA
           simp only [laws_FnRings.j2] at H
           by_cases c102 : x86_81 = true
           ·
            subst c102
            have H1 : (some false) = some r := by rw [if_pos rfl] at H; exact H
            clear H
            have H := H1
            clear H1
            obtain rfl := Option.some.inj H
            go_wp2
            go_ret
            exact ⟨Hd.e_, Hd.b_⟩
           ·
            replace c102 := Bool.eq_false_iff.mpr c102
            subst c102
            have H1 : (laws_FnRings.l0 kj81 t385 0) = some r := by rw [if_neg (show ¬ (false = true) by decide)] at H; exact H
            clear H
            have H := H1
            clear H1
            have H' := Aside0.mk H
            clear H
            go_wp2
            go_loopg [10] kj81 (fun kq v10 w' => ∃ (x10_4 : Int), v10 = .int .i64 x10_4 ∧ Aside0 (laws_FnRings.l0 kq t385 x10_4 = some r) ∧ Aside0 (kq ≤ kj81) ∧ Aside0 (Kd.R k27 27 w' w.heap.size (fun k_ => k_ ≠ gb413) (.slice Ao8 t385.length co8) t385) ∧ Aside0 (w'.heap[gb413]? = some (.cells #[.int .i64 t411, .int .i64 t412] 27 (0, 0))) ∧ Aside0 (Below w.heap.size w w'))
            case atStart => exact ⟨(0), (by first | rfl | (simp; done) | (simp [*]; done)), H', ⟨Nat.le_refl _⟩, ⟨by (with_reducible repeat (first | apply Kd.R_alloc | apply Kd.R_drewN | apply Kd.R_drew)); exact HO_3.out⟩, ⟨by (with_reducible repeat (first | refine blk_drewN ?_ _ | refine blk_drew ?_ | refine blk_alloc ?_ _)); exact BK413.out⟩, ⟨Hd.b_⟩⟩
            case round =>
             clear H'
             try clear c1
             try clear c2
             try clear p2
             try clear c3
             try clear c4
             try clear c5
             try clear c6
             try clear p6
             try clear c7
             try clear c9
             try clear c10
             try clear c12
             try clear c12b0
             try clear c12b1
             try clear c12b2
             try clear c18
             try clear c18b0
             try clear c18b1
             try clear c20
             try clear c37
             try clear c38
             try clear c39
             try clear c40
             try clear c41
             try clear c42
             try clear c43
             try clear c44
             try clear c49
             try clear c49b0
             try clear c49b1
             try clear c49b2
             try clear c55
             try clear c55b0
             try clear c55b1
             try clear p64
             try clear c66
             try clear c71
             try clear c71b0
             try clear c71b1
             try clear c71b2
             try clear c94
             try clear c102
             try clear hcz100_0
             try clear hcz100_1
             try clear hcz74_0
             try clear hcz74_1
             try clear hcz85_0
             try clear hcz85_1
             try clear hcz96_0
             try clear hcz96_1
             try clear hcz98_0
             try clear hcz98_1
             try clear hfz100_0
             try clear hfz100_1
             try clear hfz74_0
             try clear hfz74_1
             try clear hfz85_0
             try clear hfz85_1
             try clear hfz96_0
             try clear hfz96_1
             try clear hfz98_0
             try clear hfz98_1
             try clear p2
             try clear p6
             try clear p64
             obtain ⟨x10_4, rfl, HA, HK4, HO_3, BK413, HB⟩ := hrel
             cases gk with
             | zero => exact absurd HA.out (by simp [laws_FnRings.l0])
             | succ k4 =>
              have H := HA.out
              clear HA
              simp only [laws_FnRings.l0] at H
              have HC103 := Aside0.mk H
              clear H
              go_upto_region 17 with (fail)
              go_cut [94] (fun v94 wc => ∃ (kq : Nat) (x94_102 : Bool), v94 = .bool x94_102 ∧ Aside0 (laws_FnRings.j4 kq t385 x10_4 x94_102 = some r) ∧ Aside0 (kq ≤ k4) ∧ Aside0 (Kd.R k27 27 wc w.heap.size (fun k_ => k_ ≠ gb413) (.slice Ao8 t385.length co8) t385) ∧ Aside0 (wc.heap[gb413]? = some (.cells #[.int .i64 t411, .int .i64 t412] 27 (0, 0))) ∧ Aside0 (Below w.heap.size w wc))
              case first =>
               have H := HC103.out
               clear HC103
               by_cases c104 : x10_4 < (t385.length : Int)
               ·
                rw [if_pos c104] at H
                have c104b0 : decide (x10_4 < (t385.length : Int)) = true := decide_eq_true c104
                clear c104
                (first | rw [c104b0] | (simp only [i64_w, i32_w]; rw [c104b0]) | skip)
                replace H := Option.bind_eq_some_iff.mp H
                obtain ⟨t421, A1050, H⟩ := H
                replace H : (laws_FnRings.j4 k4 t385 x10_4 t421) = some r := H
                have A105 := Aside0.mk A1050
                clear A1050
                have H' := Aside0.mk H
                clear H
                go_wp2_with (first | (go_at_call 39; (with_reducible refine (impl_IsRing.calls k4 _ _ t385 t421 _ ?side1 ?side2 A105.out).mono ?_); (case side1 => repeat (first | exact (Kd.R_reads' HO_3.out).2.2 | (with_reducible refine Kd.C_alloc ?_ _) | (with_reducible refine Kd.C_drewN ?_ _) | (with_reducible refine Kd.C_drew ?_))); (case side2 => exact (Kd.R_reads' HO_3.out).2.1); rintro e w106 ⟨rfl, hb⟩; replace HO_3 := Aside0.mk (Kd.R_below (Hd.r_ HO_3) hb); replace BK413 := Aside0.mk (Hd.kb_ BK413 hb); replace HB := Aside0.mk (below_step Hd.b_ hb); (try clear hb); (try clear hb2); (try clear hk); (try clear hi)))
                go_meet
                case rel => exact ⟨_, (t421), (by first | rfl | (simp; done) | (simp [*]; done)), H', ⟨by have := HJ5.out; have := HJ42.out; have := HJ81.out; have := HK4.out; first | omega | exact Nat.le_refl _⟩, ⟨by (with_reducible repeat (first | apply Kd.R_alloc | apply Kd.R_drewN | apply Kd.R_drew)); exact HO_3.out⟩, ⟨by (with_reducible repeat (first | refine blk_drewN ?_ _ | refine blk_drew ?_ | refine blk_alloc ?_ _)); exact BK413.out⟩, ⟨Hd.b_⟩⟩
               ·
                rw [if_neg c104] at H
                have c104b0 : decide (x10_4 < (t385.length : Int)) = false := decide_eq_false c104
                clear c104
                (first | rw [c104b0] | (simp only [i64_w, i32_w]; rw [c104b0]) | skip)
                have H' := Aside0.mk H
                clear H
                go_wp2
                go_meet
                case rel => exact ⟨_, (false), (by first | rfl | (simp; done) | (simp [*]; done)), H', ⟨by have := HJ5.out; have := HJ42.out; have := HJ81.out; have := HK4.out; first | omega | exact Nat.le_refl _⟩, ⟨by (with_reducible repeat (first | apply Kd.R_alloc | apply Kd.R_drewN | apply Kd.R_drew)); exact HO_3.out⟩, ⟨by (with_reducible repeat (first | refine blk_drewN ?_ _ | refine blk_drew ?_ | refine blk_alloc ?_ _)); exact BK413.out⟩, ⟨Hd.b_⟩⟩
              case rest =>
               clear HC103
               try clear c1
               try clear c2
               try clear p2
               try clear c3
               try clear c4
               try clear c5
               try clear c6
               try clear p6
               try clear c7
               try clear c9
               try clear c10
               try clear c12
               try clear c12b0
               try clear c12b1
               try clear c12b2
               try clear c18
               try clear c18b0
               try clear c18b1
               try clear c20
               try clear c37
               try clear c38
               try clear c39
               try clear c40
               try clear c41
               try clear c42
               try clear c43
               try clear c44
               try clear c49
               try clear c49b0
               try clear c49b1
               try clear c49b2
               try clear c55
               try clear c55b0
               try clear c55b1
               try clear p64
               try clear c66
               try clear c71
               try clear c71b0
               try clear c71b1
               try clear c71b2
               try clear c94
               try clear c102
               try clear c104
               try clear c104b0
               try clear hcz100_0
               try clear hcz100_1
               try clear hcz74_0
               try clear hcz74_1
               try clear hcz85_0
               try clear hcz85_1
               try clear hcz96_0
               try clear hcz96_1
               try clear hcz98_0
               try clear hcz98_1
               try clear hfz100_0
               try clear hfz100_1
               try clear hfz74_0
               try clear hfz74_1
               try clear hfz85_0
               try clear hfz85_1
               try clear hfz96_0
               try clear hfz96_1
               try clear hfz98_0
               try clear hfz98_1
               try clear p2
               try clear p6
               try clear p64
               obtain ⟨kq, x94_102, rfl, HA, HJ102, HO_3, BK413, HB⟩ := hcut
               cases kq with
               | zero => exact absurd HA.out (by simp [laws_FnRings.j4])
               | succ kj102 =>
                have H := HA.out
                clear HA
                simp only [laws_FnRings.j4] at H
                by_cases c107 : x94_102 = true
                ·
                 subst c107
                 have H1 : (if 0 ≤ x10_4 then (if x10_4 < (t385.length : Int) then ((impl_IsInside.f kj102 t385 ((rd_T27 t385 x10_4).f0) ((rd_T27 t385 x10_4).f1)).bind fun t423 => (if t423 = true then (laws_FnRings.l0 kj102 t385 (wrap64 (x10_4 + 1))) else (some false))) else (none)) else (none)) = some r := by rw [if_pos rfl] at H; exact H
                 clear H
                 have H := H1
                 clear H1
                 by_cases c108 : 0 ≤ x10_4
                 ·
                  rw [if_pos c108] at H
                  have c108b0 : decide (0 ≤ x10_4) = true := decide_eq_true c108
                  clear c108
                  by_cases c109 : x10_4 < (t385.length : Int)
                  ·
                   rw [if_pos c109] at H
                   have c109b0 : decide (x10_4 < (t385.length : Int)) = true := decide_eq_true c109
                   clear c109
                   replace H := Option.bind_eq_some_iff.mp H
                   obtain ⟨t423, A1100, H⟩ := H
                   replace H : (if t423 = true then (laws_FnRings.l0 kj102 t385 (wrap64 (x10_4 + 1))) else (some false)) = some r := H
                   have A110 := Aside0.mk A1100
                   clear A1100
                   by_cases c111 : t423 = true
                   ·
                    subst c111
                    have H1 : (laws_FnRings.l0 kj102 t385 (wrap64 (x10_4 + 1))) = some r := by rw [if_pos rfl] at H; exact H
                    clear H
                    have H := H1
                    clear H1
                    have H' := Aside0.mk H
                    clear H
                    have p422 : 0 ≤ (x10_4 : Int) := of_decide_eq_true Hd.a_
                    have q422 : x10_4 < (t385.length : Int) := of_decide_eq_true Hd.a_
                    obtain ⟨ad422, e422, hx422_0, hx422_1⟩ := at_T27 (Kd.R_reads' HO_3.out).2.2 x10_4 p422 q422
                    cases e422
                    replace p422 := eq_true p422
                    replace q422 := eq_true q422
                    go_wp2_with (first | ((with_reducible refine gate_callee (f := 44) rfl ?_); refine goesL_ (some 102) rfl rfl Try.func44 (by kernel_rfl) rfl #[.slice (some ad422) t385.length co8, .agg #[.int .i64 ((rd_T27 t385 x10_4).f0), .int .i64 ((rd_T27 t385 x10_4).f1)]] rfl Hd.m_ ?_; (with_reducible refine (impl_IsInside.calls kj102 _ _ t385 ((rd_T27 t385 x10_4).f0) ((rd_T27 t385 x10_4).f1) true _ ?side1 ?side2 A110.out).mono ?_); (case side1 => repeat (first | exact (Kd.R_reads' HO_3.out).2.2 | (with_reducible refine Kd.C_alloc ?_ _) | (with_reducible refine Kd.C_drewN ?_ _) | (with_reducible refine Kd.C_drew ?_))); (case side2 => exact (Kd.R_reads' HO_3.out).2.1); rintro e w112 ⟨rfl, hb⟩; refine ⟨_, rfl, ?_⟩; replace HO_3 := Aside0.mk (Kd.R_below (Hd.r_ HO_3) hb); replace BK413 := Aside0.mk (Hd.kb_ BK413 hb); replace HB := Aside0.mk (below_step Hd.b_ hb); (try clear hb); (try clear hb2); (try clear hk); (try clear hi)))
                    go_roundg kj102
                    case measure => have := HJ5.out; have := HJ42.out; have := HJ81.out; have := HK4.out; have := HJ102.out; omega
                    case rel => exact ⟨(wrap64 (x10_4 + 1)), (by first | rfl | (simp; done) | (simp [*]; done)), H', ⟨by have := HJ5.out; have := HJ42.out; have := HJ81.out; have := HK4.out; have := HJ102.out; omega⟩, ⟨by (with_reducible repeat (first | apply Kd.R_alloc | apply Kd.R_drewN | apply Kd.R_drew)); exact HO_3.out⟩, ⟨by (with_reducible repeat (first | refine blk_drewN ?_ _ | refine blk_drew ?_ | refine blk_alloc ?_ _)); exact BK413.out⟩, ⟨Hd.b_⟩⟩
                   ·
                    replace c111 := Bool.eq_false_iff.mpr c111
                    subst c111
                    have H1 : (some false) = some r := by rw [if_neg (show ¬ (false = true) by decide)] at H; exact H
                    clear H
                    have H := H1
                    clear H1
                    obtain rfl := Option.some.inj H
                    have p422 : 0 ≤ (x10_4 : Int) := of_decide_eq_true Hd.a_
                    have q422 : x10_4 < (t385.length : Int) := of_decide_eq_true Hd.a_
                    obtain ⟨ad422, e422, hx422_0, hx422_1⟩ := at_T27 (Kd.R_reads' HO_3.out).2.2 x10_4 p422 q422
                    cases e422
                    replace p422 := eq_true p422
                    replace q422 := eq_true q422
                    go_wp2_with (first | ((with_reducible refine gate_callee (f := 44) rfl ?_); refine goesL_ (some 102) rfl rfl Try.func44 (by kernel_rfl) rfl #[.slice (some ad422) t385.length co8, .agg #[.int .i64 ((rd_T27 t385 x10_4).f0), .int .i64 ((rd_T27 t385 x10_4).f1)]] rfl Hd.m_ ?_; (with_reducible refine (impl_IsInside.calls kj102 _ _ t385 ((rd_T27 t385 x10_4).f0) ((rd_T27 t385 x10_4).f1) false _ ?side1 ?side2 A110.out).mono ?_); (case side1 => repeat (first | exact (Kd.R_reads' HO_3.out).2.2 | (with_reducible refine Kd.C_alloc ?_ _) | (with_reducible refine Kd.C_drewN ?_ _) | (with_reducible refine Kd.C_drew ?_))); (case side2 => exact (Kd.R_reads' HO_3.out).2.1); rintro e w113 ⟨rfl, hb⟩; refine ⟨_, rfl, ?_⟩; replace HO_3 := Aside0.mk (Kd.R_below (Hd.r_ HO_3) hb); replace BK413 := Aside0.mk (Hd.kb_ BK413 hb); replace HB := Aside0.mk (below_step Hd.b_ hb); (try clear hb); (try clear hb2); (try clear hk); (try clear hi)))
                    go_ret
                    exact ⟨Hd.e_, Hd.b_⟩
                  ·
                   rw [if_neg c109] at H
                   exact absurd H (by simp)
                 ·
                  rw [if_neg c108] at H
                  exact absurd H (by simp)
                ·
                 replace c107 := Bool.eq_false_iff.mpr c107
                 subst c107
                 have H1 : ((impl_RingSegments.f kj102 t385).bind fun t424 => ((impl_IsRing.f kj102 t385).bind fun t427 => (if (((t424.length : Int) == (t385.length : Int)) == t427) = true then (some true) else (some ((t385.length : Int) == 0))))) = some r := by rw [if_neg (show ¬ (false = true) by decide)] at H; exact H
                 clear H
                 have H := H1
                 clear H1
                 replace H := Option.bind_eq_some_iff.mp H
                 obtain ⟨t424, A1140, H⟩ := H
                 replace H : ((impl_IsRing.f kj102 t385).bind fun t427 => (if (((t424.length : Int) == (t385.length : Int)) == t427) = true then (some true) else (some ((t385.length : Int) == 0)))) = some r := H
                 have A114 := Aside0.mk A1140
                 clear A1140
                 replace H := Option.bind_eq_some_iff.mp H
                 obtain ⟨t427, A1150, H⟩ := H
                 replace H : (if (((t424.length : Int) == (t385.length : Int)) == t427) = true then (some true) else (some ((t385.length : Int) == 0))) = some r := H
                 have A115 := Aside0.mk A1150
                 clear A1150
                 by_cases c116 : (((t424.length : Int) == (t385.length : Int)) == t427) = true
                 ·
                  rw [if_pos c116] at H
                  have c116b0 : (((t424.length : Int) == (t385.length : Int)) == t427) = true := c116
                  (try (have c116b1 : decide (((t424.length : Int) == (t385.length : Int)) = t427) = true := by simpa using c116))
                  (try (have c116b2 : (((t424.length : Int) == (t385.length : Int)) == t427) = true := by simpa using c116))
                  clear c116
                  obtain rfl := Option.some.inj H
                  go_wp2_with (first | ((with_reducible refine gate_callee (f := 46) rfl ?_); refine goesL_ (some 105) rfl rfl Try.func46 (by kernel_rfl) rfl #[.slice Ao8 t385.length co8] rfl Hd.m_ ?_; (with_reducible refine (impl_RingSegments.calls kj102 _ _ t385 t424 _ ?side1 ?side2 A114.out).mono ?_); (case side1 => repeat (first | exact (Kd.R_reads' HO_3.out).2.2 | (with_reducible refine Kd.C_alloc ?_ _) | (with_reducible refine Kd.C_drewN ?_ _) | (with_reducible refine Kd.C_drew ?_))); (case side2 => exact (Kd.R_reads' HO_3.out).2.1); rintro e w117 ⟨v425, rfl, ho0, hb⟩; refine ⟨_, rfl, ?_⟩; replace HO_3 := Aside0.mk (Kd.R_below (Hd.r_ HO_3) hb); have HO426 := Aside0.mk (Kd.R_lower ho0 (below_size Hd.b_)); replace BK413 := Aside0.mk (Hd.kb_ BK413 hb); replace HB := Aside0.mk (below_step Hd.b_ hb); (try clear hb); (try clear hb2); (try clear hk); (try clear hi); (try clear ho0); obtain ⟨Ao118, co118, eo118⟩ := Kd.R_slice HO426.out; subst eo118) | ((with_reducible refine gate_callee (f := 39) rfl ?_); refine goesL_ (some 111) rfl rfl Try.func39 (by kernel_rfl) rfl #[.slice Ao8 t385.length co8] rfl Hd.m_ ?_; (with_reducible refine (impl_IsRing.calls kj102 _ _ t385 t427 _ ?side1 ?side2 A115.out).mono ?_); (case side1 => repeat (first | exact (Kd.R_reads' HO_3.out).2.2 | (with_reducible refine Kd.C_alloc ?_ _) | (with_reducible refine Kd.C_drewN ?_ _) | (with_reducible refine Kd.C_drew ?_))); (case side2 => exact (Kd.R_reads' HO_3.out).2.1); rintro e w119 ⟨rfl, hb⟩; refine ⟨_, rfl, ?_⟩; replace HO_3 := Aside0.mk (Kd.R_below (Hd.r_ HO_3) hb); replace HO426 := Aside0.mk (Kd.R_below (Hd.r_ HO426) hb); replace BK413 := Aside0.mk (Hd.kb_ BK413 hb); replace HB := Aside0.mk (below_step Hd.b_ hb); (try clear hb); (try clear hb2); (try clear hk); (try clear hi)))
                  go_ret
                  exact ⟨Hd.e_, Hd.b_⟩
                 ·
                  rw [if_neg c116] at H
                  have c116b0 : (((t424.length : Int) == (t385.length : Int)) == t427) = false := by simpa using c116
                  (try (have c116b1 : decide (((t424.length : Int) == (t385.length : Int)) = t427) = false := by simpa using c116))
                  (try (have c116b2 : (((t424.length : Int) == (t385.length : Int)) == t427) = false := by simpa using c116))
                  (try (have c116b3 : ¬ (((t424.length : Int) == (t385.length : Int)) = t427) := by simpa using c116))
                  clear c116
                  obtain rfl := Option.some.inj H
                  go_wp2_with (first | ((with_reducible refine gate_callee (f := 46) rfl ?_); refine goesL_ (some 105) rfl rfl Try.func46 (by kernel_rfl) rfl #[.slice Ao8 t385.length co8] rfl Hd.m_ ?_; (with_reducible refine (impl_RingSegments.calls kj102 _ _ t385 t424 _ ?side1 ?side2 A114.out).mono ?_); (case side1 => repeat (first | exact (Kd.R_reads' HO_3.out).2.2 | (with_reducible refine Kd.C_alloc ?_ _) | (with_reducible refine Kd.C_drewN ?_ _) | (with_reducible refine Kd.C_drew ?_))); (case side2 => exact (Kd.R_reads' HO_3.out).2.1); rintro e w120 ⟨v425, rfl, ho0, hb⟩; refine ⟨_, rfl, ?_⟩; replace HO_3 := Aside0.mk (Kd.R_below (Hd.r_ HO_3) hb); have HO426 := Aside0.mk (Kd.R_lower ho0 (below_size Hd.b_)); replace BK413 := Aside0.mk (Hd.kb_ BK413 hb); replace HB := Aside0.mk (below_step Hd.b_ hb); (try clear hb); (try clear hb2); (try clear hk); (try clear hi); (try clear ho0); obtain ⟨Ao121, co121, eo121⟩ := Kd.R_slice HO426.out; subst eo121) | ((with_reducible refine gate_callee (f := 39) rfl ?_); refine goesL_ (some 111) rfl rfl Try.func39 (by kernel_rfl) rfl #[.slice Ao8 t385.length co8] rfl Hd.m_ ?_; (with_reducible refine (impl_IsRing.calls kj102 _ _ t385 t427 _ ?side1 ?side2 A115.out).mono ?_); (case side1 => repeat (first | exact (Kd.R_reads' HO_3.out).2.2 | (with_reducible refine Kd.C_alloc ?_ _) | (with_reducible refine Kd.C_drewN ?_ _) | (with_reducible refine Kd.C_drew ?_))); (case side2 => exact (Kd.R_reads' HO_3.out).2.1); rintro e w122 ⟨rfl, hb⟩; refine ⟨_, rfl, ?_⟩; replace HO_3 := Aside0.mk (Kd.R_below (Hd.r_ HO_3) hb); replace HO426 := Aside0.mk (Kd.R_below (Hd.r_ HO426) hb); replace BK413 := Aside0.mk (Hd.kb_ BK413 hb); replace HB := Aside0.mk (below_step Hd.b_ hb); (try clear hb); (try clear hb2); (try clear hk); (try clear hi)))
                  go_ret
                  exact ⟨Hd.e_, Hd.b_⟩
end Go.Proofs.Ytbackoeakepngaa.MFnRings
