-- Laid by this session's program pp.py, after the kit's print and texts of the session's own. Not trusted: Lean checks it.
import Derived.Test.YtbackoeakepngaaZFnSafeMx0
import Derived.Test.YtbackoeakepngaaZFnSafeMx1
import Derived.Test.YtbackoeakepngaaZFnSafeMx2
import Derived.Test.YtbackoeakepngaaZFnSafeMx4
import Derived.Test.YtbackoeakepngaaZFnSafeMx7
import Derived.Test.YtbackoeakepngaaZFnSafeMx8
import Derived.Test.YtbackoeakepngaaZFnSafeMx9
namespace Go.Proofs.Ytbackoeakepngaa.MFnSafe
open Go.RowKit Go.Proofs.YtbackoeakepngaaW.PrintWords Go.Proofs.YtbackoeakepngaaW.PrintLast Go.Proofs.YtbackoeakepngaaW.PrintMore
attribute [local go_sem] max2_int min2_int max_two min_two max_three min_three max_four min_four   -- for this text's walks alone
set_option linter.unusedVariables false
set_option linter.unusedSimpArgs false
attribute [local go_sem high] eqA27
mutual
def laws_FnSafe.j0 : Nat → List Int → List (S27) → List (List (S27)) → Int → List (S27) → Bool → Option (Bool)
 | 0, _, _, _, _, _, _ => none
 | k + 1, x0, x3, x4, x5, x6, x37 => if x37 = true then (some false) else ((impl_IsSimple.f k x3).bind fun t424 => (if t424 = true then ((impl_IsSimple.f k x6).bind fun t425 => (if t425 = true then (if 0 < (x6.length : Int) then (if 0 < (x3.length : Int) then (if (!(((rd_T27 x6 0).f0) == ((rd_T27 x3 0).f0)) || (!(((rd_T27 x6 0).f1) == ((rd_T27 x3 0).f1)))) = true then (laws_FnSafe.j1 k x0 x4 x5 x6 true) else (if 0 ≤ (wrap64 ((x6.length : Int) - 1)) then (if (wrap64 ((x6.length : Int) - 1)) < (x6.length : Int) then (if 0 ≤ (wrap64 ((x3.length : Int) - 1)) then (if (wrap64 ((x3.length : Int) - 1)) < (x3.length : Int) then (laws_FnSafe.j1 k x0 x4 x5 x6 (!(((rd_T27 x6 (wrap64 ((x6.length : Int) - 1))).f0) == ((rd_T27 x3 (wrap64 ((x3.length : Int) - 1))).f0)) || (!(((rd_T27 x6 (wrap64 ((x6.length : Int) - 1))).f1) == ((rd_T27 x3 (wrap64 ((x3.length : Int) - 1))).f1))))) else (none)) else (none)) else (none)) else (none))) else (none)) else (none)) else (laws_FnSafe.j1 k x0 x4 x5 x6 true))) else ((impl_EqualLines.f k x6 x3).bind fun t441 => (if t441 = true then ((spec_DrawDropPoint.f k x0).bind fun bt442 => ((impl_DropPoint.f k bt442.1 bt442.2).bind fun bt446 => (if bt446.2 = true then (if (bt446.1.length : Int) = (wrap64 ((bt442.1.length : Int) - 1)) then ((impl_IsPartOf.f k bt446.1 bt442.1).bind fun t450 => (some t450)) else (some false)) else (some true)))) else (some false)))))
def laws_FnSafe.j1 : Nat → List Int → List (List (S27)) → Int → List (S27) → Bool → Option (Bool)
 | 0, _, _, _, _, _ => none
 | k + 1, x0, x4, x5, x6, x66 => if x66 = true then (some false) else (laws_FnSafe.l0 k x0 x4 x5 x6 1)
def laws_FnSafe.l0 : Nat → List Int → List (List (S27)) → Int → List (S27) → Int → Option (Bool)
 | 0, _, _, _, _, _ => none
 | k + 1, x0, x4, x5, x6, x7 => if (wrap64 (x7 + 1)) < (x6.length : Int) then ((impl_CornerArea.f k x6 x7).bind fun t439 => (if t439 < x5 then ((impl_CanDrop.f k x6 x7 x4).bind fun t440 => (if t440 = true then (some false) else (laws_FnSafe.l0 k x0 x4 x5 x6 (wrap64 (x7 + 1))))) else (laws_FnSafe.l0 k x0 x4 x5 x6 (wrap64 (x7 + 1))))) else ((spec_DrawDropPoint.f k x0).bind fun bt430 => ((impl_DropPoint.f k bt430.1 bt430.2).bind fun bt434 => (if bt434.2 = true then (if (bt434.1.length : Int) = (wrap64 ((bt430.1.length : Int) - 1)) then ((impl_IsPartOf.f k bt434.1 bt430.1).bind fun t438 => (some t438)) else (some false)) else (some true))))
end
def laws_FnSafe.f (k : Nat) (l0 : List Int) : Option (Bool) := (laws_big.f l0).bind fun t405 => (if t405 = true then (some true) else ((spec_DrawSafeSimplify.f k l0).bind fun bt406 => ((impl_SafeSimplify.f k bt406.1 bt406.2.1 bt406.2.2).bind fun t413 => ((impl_IsPartOf.f k t413 bt406.1).bind fun t416 => (if t416 = true then ((impl_MeetsAll.f k bt406.1 bt406.2.1).bind fun t417 => ((impl_MeetsAll.f k t413 bt406.2.1).bind fun t420 => ((laws_noLess.f k t417 t420).bind fun t423 => (laws_FnSafe.j0 k l0 bt406.1 bt406.2.1 bt406.2.2 t413 (!t423))))) else (laws_FnSafe.j0 k l0 bt406.1 bt406.2.1 bt406.2.2 t413 true))))))
def laws_FnSafe.T8 : Bool × List (List Nat × List Nat) := (true, [([], []), ([0], [0]), ([1], [1]), ([2, 1], [2]), ([3], [3]), ([4, 3], [3, 4]), ([5, 3], [3, 5]), ([3], [3]), ([7, 3], [3, 7]), ([8, 3], [3, 8]), ([6, 9, 3], [3, 6, 9]), ([3, 10], [3, 10]), ([11, 3], [11]), ([12], [12]), ([12], [12]), ([14, 12], [12, 14]), ([15, 12], [12, 15]), ([13, 16, 12], [12, 13, 16]), ([17, 12], [12, 17]), ([12], [12]), ([12], [12]), ([20, 12], [12, 20]), ([21, 12], [12, 21]), ([19, 22, 12], [12, 19, 22]), ([23, 12], [12, 23]), ([18, 24, 12], [12, 18, 24]), ([12, 25], [12, 25])])
def laws_FnSafe.B8 : List Nat := [0, 1, 3, 7, 15, 31, 63, 15, 143, 399, 1023, 2047, 4095, 8191, 8191, 24575, 57343, 131071, 262143, 8191, 8191, 1056767, 3153919, 7872511, 16261119, 33554431, 67108863]
theorem laws_FnSafe.tab8 : rtab .any (opsOf Try.f8 8) = laws_FnSafe.T8 := by kernel_rfl
theorem laws_FnSafe.bits8 : waitsOk laws_FnSafe.T8.2 laws_FnSafe.B8 = true := by kernel_rfl
set_option maxHeartbeats 8000000 in
set_option maxRecDepth 100000 in
theorem laws_FnSafe.calls (k : Nat) (A0 : Option Addr) (c0 : Nat) (l0 : List Int) (r : Bool) (w : World) (hr0 : Kd.C (Kd.int .u8) w A0 l0.length l0) (hc0 : l0.length ≤ c0) (h : laws_FnSafe.f k l0 = some r) :
  Calls Try.prog 8 #[.slice A0 l0.length c0] w fun e w' => e = .returned (.bool r) ∧ Below w.heap.size w w' := by
 have hu27 := Try.underlying27
 have HR0 := Aside0.mk hr0
 have HC0 := Aside0.mk hc0
 clear hr0 hc0
 have HB := Aside0.mk (Below.refl w.heap.size w)
 have H : ((laws_big.f l0).bind fun t405 => (if t405 = true then (some true) else ((spec_DrawSafeSimplify.f k l0).bind fun bt406 => ((impl_SafeSimplify.f k bt406.1 bt406.2.1 bt406.2.2).bind fun t413 => ((impl_IsPartOf.f k t413 bt406.1).bind fun t416 => (if t416 = true then ((impl_MeetsAll.f k bt406.1 bt406.2.1).bind fun t417 => ((impl_MeetsAll.f k t413 bt406.2.1).bind fun t420 => ((laws_noLess.f k t417 t420).bind fun t423 => (laws_FnSafe.j0 k l0 bt406.1 bt406.2.1 bt406.2.2 t413 (!t423))))) else (laws_FnSafe.j0 k l0 bt406.1 bt406.2.1 bt406.2.2 t413 true))))))) = some r := h
 clear h
 replace H := Option.bind_eq_some_iff.mp H
 obtain ⟨t405, A20, H⟩ := H
 replace H : (if t405 = true then (some true) else ((spec_DrawSafeSimplify.f k l0).bind fun bt406 => ((impl_SafeSimplify.f k bt406.1 bt406.2.1 bt406.2.2).bind fun t413 => ((impl_IsPartOf.f k t413 bt406.1).bind fun t416 => (if t416 = true then ((impl_MeetsAll.f k bt406.1 bt406.2.1).bind fun t417 => ((impl_MeetsAll.f k t413 bt406.2.1).bind fun t420 => ((laws_noLess.f k t417 t420).bind fun t423 => (laws_FnSafe.j0 k l0 bt406.1 bt406.2.1 bt406.2.2 t413 (!t423))))) else (laws_FnSafe.j0 k l0 bt406.1 bt406.2.1 bt406.2.2 t413 true)))))) = some r := H
 have A2 := Aside0.mk A20
 clear A20
 by_cases c3 : t405 = true
 ·
  subst c3
  have H1 : (some true) = some r := by rw [if_pos rfl] at H; exact H
  clear H
  have H := H1
  clear H1
  obtain rfl := Option.some.inj H
  go_enter Try.func8, Try.ntmps8
  go_wp2_with (first | ((with_reducible refine gate_callee (f := 10) rfl ?_); refine goesL_ (some 13) rfl rfl Try.func10 (by kernel_rfl) rfl #[.slice A0 l0.length c0] rfl Hd.m_ ?_; (with_reducible refine (laws_big.calls _ _ l0 true _ ?side1 ?side2 A2.out).mono ?_); (case side1 => repeat (first | exact HR0.out | (with_reducible refine Kd.C_alloc ?_ _) | (with_reducible refine Kd.C_drewN ?_ _) | (with_reducible refine Kd.C_drew ?_))); (case side2 => exact HC0.out); rintro e w' ⟨rfl, ⟨nd, rfl⟩⟩; refine ⟨_, rfl, ?_⟩))
  go_ret
  exact ⟨Hd.e_, Hd.b_⟩
 ·
  replace c3 := Bool.eq_false_iff.mpr c3
  subst c3
  have H1 : ((spec_DrawSafeSimplify.f k l0).bind fun bt406 => ((impl_SafeSimplify.f k bt406.1 bt406.2.1 bt406.2.2).bind fun t413 => ((impl_IsPartOf.f k t413 bt406.1).bind fun t416 => (if t416 = true then ((impl_MeetsAll.f k bt406.1 bt406.2.1).bind fun t417 => ((impl_MeetsAll.f k t413 bt406.2.1).bind fun t420 => ((laws_noLess.f k t417 t420).bind fun t423 => (laws_FnSafe.j0 k l0 bt406.1 bt406.2.1 bt406.2.2 t413 (!t423))))) else (laws_FnSafe.j0 k l0 bt406.1 bt406.2.1 bt406.2.2 t413 true))))) = some r := by rw [if_neg (show ¬ (false = true) by decide)] at H; exact H
  clear H
  have H := H1
  clear H1
  replace H := Option.bind_eq_some_iff.mp H
  obtain ⟨⟨t406, t407, t408⟩, A40, H⟩ := H
  replace H : ((impl_SafeSimplify.f k t406 t407 t408).bind fun t413 => ((impl_IsPartOf.f k t413 t406).bind fun t416 => (if t416 = true then ((impl_MeetsAll.f k t406 t407).bind fun t417 => ((impl_MeetsAll.f k t413 t407).bind fun t420 => ((laws_noLess.f k t417 t420).bind fun t423 => (laws_FnSafe.j0 k l0 t406 t407 t408 t413 (!t423))))) else (laws_FnSafe.j0 k l0 t406 t407 t408 t413 true)))) = some r := H
  have A4 := Aside0.mk A40
  clear A40
  replace H := Option.bind_eq_some_iff.mp H
  obtain ⟨t413, A50, H⟩ := H
  replace H : ((impl_IsPartOf.f k t413 t406).bind fun t416 => (if t416 = true then ((impl_MeetsAll.f k t406 t407).bind fun t417 => ((impl_MeetsAll.f k t413 t407).bind fun t420 => ((laws_noLess.f k t417 t420).bind fun t423 => (laws_FnSafe.j0 k l0 t406 t407 t408 t413 (!t423))))) else (laws_FnSafe.j0 k l0 t406 t407 t408 t413 true))) = some r := H
  have A5 := Aside0.mk A50
  clear A50
  have HC6 := Aside0.mk H
  clear H
  go_enter Try.func8, Try.ntmps8
  go_upto_region 5 with (first | ((with_reducible refine gate_callee (f := 10) rfl ?_); refine goesL_ (some 13) rfl rfl Try.func10 (by kernel_rfl) rfl #[.slice A0 l0.length c0] rfl Hd.m_ ?_; (with_reducible refine (laws_big.calls _ _ l0 false _ ?side1 ?side2 A2.out).mono ?_); (case side1 => repeat (first | exact HR0.out | (with_reducible refine Kd.C_alloc ?_ _) | (with_reducible refine Kd.C_drewN ?_ _) | (with_reducible refine Kd.C_drew ?_))); (case side2 => exact HC0.out); rintro e w' ⟨rfl, ⟨nd, rfl⟩⟩; refine ⟨_, rfl, ?_⟩) | ((with_reducible refine gate_callee (f := 47) rfl ?_); refine goesL_ (some 16) rfl rfl Try.func47 (by kernel_rfl) rfl #[.slice A0 l0.length c0] rfl Hd.m_ ?_; (with_reducible refine (spec_DrawSafeSimplify.calls k _ _ l0 t406 t407 t408 _ ?side1 ?side2 A4.out).mono ?_); (case side1 => repeat (first | exact HR0.out | (with_reducible refine Kd.C_alloc ?_ _) | (with_reducible refine Kd.C_drewN ?_ _) | (with_reducible refine Kd.C_drew ?_))); (case side2 => exact HC0.out); rintro e w7 ⟨v409, v411, rfl, ho0, ho1, hb⟩; refine ⟨_, rfl, ?_⟩; have HO410 := Aside0.mk (Kd.R_lower ho0 (below_size Hd.b_)); have HO412 := Aside0.mk (Kd.S_lower ho1 (below_size Hd.b_)); replace HB := Aside0.mk (below_step Hd.b_ hb); (try clear hb); (try clear hb2); (try clear hk); (try clear hi); (try clear ho0); (try clear ho1); obtain ⟨Ao8, co8, eo8⟩ := Kd.R_slice HO410.out; subst eo8; obtain ⟨Ao9, co9, eo9⟩ := Kd.S_slice HO412.out; subst eo9) | ((with_reducible refine gate_callee (f := 48) rfl ?_); refine goesL_ (some 23) rfl rfl Try.func48 (by kernel_rfl) rfl #[.slice Ao8 t406.length co8, .slice Ao9 t407.length co9, .int .i64 t408] rfl Hd.m_ ?_; (with_reducible refine (impl_SafeSimplify.calls k _ _ t406 _ _ t407 t408 t413 _ ?side1 ?side2 ?side3 ?side4 A5.out).mono ?_); (case side1 => repeat (first | exact (Kd.R_reads' HO410.out).2.2 | (with_reducible refine Kd.C_alloc ?_ _) | (with_reducible refine Kd.C_drewN ?_ _) | (with_reducible refine Kd.C_drew ?_))); (case side2 => exact (Kd.R_reads' HO410.out).2.1); (case side3 => repeat (first | exact (Kd.S_reads' HO412.out).2.2 | (with_reducible refine Kd.C_alloc ?_ _) | (with_reducible refine Kd.C_drewN ?_ _) | (with_reducible refine Kd.C_drew ?_))); (case side4 => exact (Kd.S_reads' HO412.out).2.1); rintro e w10 ⟨v414, rfl, ho0, hb⟩; refine ⟨_, rfl, ?_⟩; replace HO412 := Aside0.mk (Kd.S_elder' (by (with_reducible repeat (first | apply Kd.S_alloc | apply Kd.S_drewN | apply Kd.S_drew)); exact HO412.out) (Kd.R_base ho0) hb); have HO415 := Aside0.mk (Kd.R_lower (Kd.R_new' ho0 (Kd.R_lt (Hd.r_ HO410))) (below_size Hd.b_)); replace HO410 := Aside0.mk (Kd.R_elder' (Hd.r_ HO410) (Kd.R_base ho0) hb); replace HB := Aside0.mk (below_step Hd.b_ hb); (try clear hb); (try clear hb2); (try clear hk); (try clear hi); (try clear ho0)))
  (try simp only [Act.put, List.setIfInBounds_toArray, List.set_cons_zero, List.set_cons_succ])
  go_cut [37] (fun v37 wc => ∃ (kq : Nat) (x37_5 : Bool), v37 = .bool x37_5 ∧ Aside0 (laws_FnSafe.j0 kq l0 t406 t407 t408 t413 x37_5 = some r) ∧ Aside0 (kq ≤ k) ∧ Aside0 (Kd.R k27 27 wc w.heap.size (fun k_ => some k_ ≠ (v414 : Value).ownBlock) (.slice Ao8 t406.length co8) t406) ∧ Aside0 (Kd.S (Kd.slice 27 k27) 24 wc w.heap.size (fun k_ => some k_ ≠ ((.slice Ao8 t406.length co8) : Value).ownBlock ∧ some k_ ≠ (v414 : Value).ownBlock) (.slice Ao9 t407.length co9) t407) ∧ Aside0 (Kd.R k27 27 wc w.heap.size (fun k_ => some k_ ≠ ((.slice Ao8 t406.length co8) : Value).ownBlock) v414 t413) ∧ Aside0 (Below w.heap.size w wc))
  case first =>
   have H := HC6.out
   clear HC6
   replace H := Option.bind_eq_some_iff.mp H
   obtain ⟨t416, A110, H⟩ := H
   replace H : (if t416 = true then ((impl_MeetsAll.f k t406 t407).bind fun t417 => ((impl_MeetsAll.f k t413 t407).bind fun t420 => ((laws_noLess.f k t417 t420).bind fun t423 => (laws_FnSafe.j0 k l0 t406 t407 t408 t413 (!t423))))) else (laws_FnSafe.j0 k l0 t406 t407 t408 t413 true)) = some r := H
   have A11 := Aside0.mk A110
   clear A110
   by_cases c12 : t416 = true
   ·
    subst c12
    have H1 : ((impl_MeetsAll.f k t406 t407).bind fun t417 => ((impl_MeetsAll.f k t413 t407).bind fun t420 => ((laws_noLess.f k t417 t420).bind fun t423 => (laws_FnSafe.j0 k l0 t406 t407 t408 t413 (!t423))))) = some r := by rw [if_pos rfl] at H; exact H
    clear H
    have H := H1
    clear H1
    replace H := Option.bind_eq_some_iff.mp H
    obtain ⟨t417, A130, H⟩ := H
    replace H : ((impl_MeetsAll.f k t413 t407).bind fun t420 => ((laws_noLess.f k t417 t420).bind fun t423 => (laws_FnSafe.j0 k l0 t406 t407 t408 t413 (!t423)))) = some r := H
    have A13 := Aside0.mk A130
    clear A130
    replace H := Option.bind_eq_some_iff.mp H
    obtain ⟨t420, A140, H⟩ := H
    replace H : ((laws_noLess.f k t417 t420).bind fun t423 => (laws_FnSafe.j0 k l0 t406 t407 t408 t413 (!t423))) = some r := H
    have A14 := Aside0.mk A140
    clear A140
    replace H := Option.bind_eq_some_iff.mp H
    obtain ⟨t423, A150, H⟩ := H
    replace H : (laws_FnSafe.j0 k l0 t406 t407 t408 t413 (!t423)) = some r := H
    have A15 := Aside0.mk A150
    clear A150
    have H' := Aside0.mk H
    clear H
    obtain ⟨Ao16, co16, eo16⟩ := Kd.R_slice HO415.out
    subst eo16
    go_wp2_with (first | ((with_reducible refine gate_callee (f := 32) rfl ?_); refine goesL_ (some 26) rfl rfl Try.func32 (by kernel_rfl) rfl #[.slice Ao16 t413.length co16, .slice Ao8 t406.length co8] rfl Hd.m_ ?_; (with_reducible refine (impl_IsPartOf.calls k _ _ t413 _ _ t406 true _ ?side1 ?side2 ?side3 ?side4 A11.out).mono ?_); (case side1 => repeat (first | exact (Kd.R_reads' HO415.out).2.2 | (with_reducible refine Kd.C_alloc ?_ _) | (with_reducible refine Kd.C_drewN ?_ _) | (with_reducible refine Kd.C_drew ?_))); (case side2 => exact (Kd.R_reads' HO415.out).2.1); (case side3 => repeat (first | exact (Kd.R_reads' HO410.out).2.2 | (with_reducible refine Kd.C_alloc ?_ _) | (with_reducible refine Kd.C_drewN ?_ _) | (with_reducible refine Kd.C_drew ?_))); (case side4 => exact (Kd.R_reads' HO410.out).2.1); rintro e w17 ⟨rfl, hb⟩; refine ⟨_, rfl, ?_⟩; replace HO410 := Aside0.mk (Kd.R_below (Hd.r_ HO410) hb); replace HO412 := Aside0.mk (Kd.S_below (by (with_reducible repeat (first | apply Kd.S_alloc | apply Kd.S_drewN | apply Kd.S_drew)); exact HO412.out) hb); replace HO415 := Aside0.mk (Kd.R_below (Hd.r_ HO415) hb); replace HB := Aside0.mk (below_step Hd.b_ hb); (try clear hb); (try clear hb2); (try clear hk); (try clear hi)) | (go_at_call 50; (with_reducible refine (impl_MeetsAll.calls k _ _ t406 _ _ t407 t417 _ ?side1 ?side2 ?side3 ?side4 A13.out).mono ?_); (case side1 => repeat (first | exact (Kd.R_reads' HO410.out).2.2 | (with_reducible refine Kd.C_alloc ?_ _) | (with_reducible refine Kd.C_drewN ?_ _) | (with_reducible refine Kd.C_drew ?_))); (case side2 => exact (Kd.R_reads' HO410.out).2.1); (case side3 => repeat (first | exact (Kd.S_reads' HO412.out).2.2 | (with_reducible refine Kd.C_alloc ?_ _) | (with_reducible refine Kd.C_drewN ?_ _) | (with_reducible refine Kd.C_drew ?_))); (case side4 => exact (Kd.S_reads' HO412.out).2.1); rintro e w18 ⟨v418, rfl, ho0, hb⟩; replace HO410 := Aside0.mk (Kd.R_below (Hd.r_ HO410) hb); replace HO412 := Aside0.mk (Kd.S_below (by (with_reducible repeat (first | apply Kd.S_alloc | apply Kd.S_drewN | apply Kd.S_drew)); exact HO412.out) hb); replace HO415 := Aside0.mk (Kd.R_below (Hd.r_ HO415) hb); have HO419 := Aside0.mk (Kd.R_lower ho0 (below_size Hd.b_)); replace HB := Aside0.mk (below_step Hd.b_ hb); (try clear hb); (try clear hb2); (try clear hk); (try clear hi); (try clear ho0)) | (go_at_call 50; (with_reducible refine (impl_MeetsAll.calls k _ _ t413 _ _ t407 t420 _ ?side1 ?side2 ?side3 ?side4 A14.out).mono ?_); (case side1 => repeat (first | exact (Kd.R_reads' HO415.out).2.2 | (with_reducible refine Kd.C_alloc ?_ _) | (with_reducible refine Kd.C_drewN ?_ _) | (with_reducible refine Kd.C_drew ?_))); (case side2 => exact (Kd.R_reads' HO415.out).2.1); (case side3 => repeat (first | exact (Kd.S_reads' HO412.out).2.2 | (with_reducible refine Kd.C_alloc ?_ _) | (with_reducible refine Kd.C_drewN ?_ _) | (with_reducible refine Kd.C_drew ?_))); (case side4 => exact (Kd.S_reads' HO412.out).2.1); rintro e w19 ⟨v421, rfl, ho0, hb⟩; replace HO410 := Aside0.mk (Kd.R_below (Hd.r_ HO410) hb); replace HO412 := Aside0.mk (Kd.S_below (by (with_reducible repeat (first | apply Kd.S_alloc | apply Kd.S_drewN | apply Kd.S_drew)); exact HO412.out) hb); replace HO415 := Aside0.mk (Kd.R_below (Hd.r_ HO415) hb); have HO422 := Aside0.mk (Kd.R_lower (Kd.R_new' ho0 (Kd.R_lt (Hd.r_ HO419))) (below_size Hd.b_)); replace HO419 := Aside0.mk (Kd.R_elder' (Hd.r_ HO419) (Kd.R_base ho0) hb); replace HB := Aside0.mk (below_step Hd.b_ hb); (try clear hb); (try clear hb2); (try clear hk); (try clear hi); (try clear ho0); obtain ⟨Ao20, co20, eo20⟩ := Kd.R_slice HO419.out; subst eo20; obtain ⟨Ao21, co21, eo21⟩ := Kd.R_slice HO422.out; subst eo21) | (go_at_call 49; (with_reducible refine (laws_noLess.calls k _ _ t417 _ _ t420 t423 _ ?side1 ?side2 ?side3 ?side4 A15.out).mono ?_); (case side1 => repeat (first | exact (Kd.R_reads' HO419.out).2.2 | (with_reducible refine Kd.C_alloc ?_ _) | (with_reducible refine Kd.C_drewN ?_ _) | (with_reducible refine Kd.C_drew ?_))); (case side2 => exact (Kd.R_reads' HO419.out).2.1); (case side3 => repeat (first | exact (Kd.R_reads' HO422.out).2.2 | (with_reducible refine Kd.C_alloc ?_ _) | (with_reducible refine Kd.C_drewN ?_ _) | (with_reducible refine Kd.C_drew ?_))); (case side4 => exact (Kd.R_reads' HO422.out).2.1); rintro e w' ⟨rfl, ⟨nd, rfl⟩⟩))
    go_meet
    case rel => exact ⟨_, (!t423), (by first | rfl | (simp; done) | (simp [*]; done)), H', ⟨by first | omega | exact Nat.le_refl _⟩, ⟨by (with_reducible repeat (first | apply Kd.R_alloc | apply Kd.R_drewN | apply Kd.R_drew)); exact Kd.R_mono HO410.out (fun _ hk => hk.2)⟩, ⟨by (with_reducible repeat (first | apply Kd.S_alloc | apply Kd.S_drewN | apply Kd.S_drew)); exact HO412.out⟩, ⟨by (with_reducible repeat (first | apply Kd.R_alloc | apply Kd.R_drewN | apply Kd.R_drew)); exact Kd.R_mono HO415.out (fun _ hk => hk.2)⟩, ⟨Hd.b_⟩⟩
   ·
    replace c12 := Bool.eq_false_iff.mpr c12
    subst c12
    have H1 : (laws_FnSafe.j0 k l0 t406 t407 t408 t413 true) = some r := by rw [if_neg (show ¬ (false = true) by decide)] at H; exact H
    clear H
    have H := H1
    clear H1
    have H' := Aside0.mk H
    clear H
    obtain ⟨Ao22, co22, eo22⟩ := Kd.R_slice HO415.out
    subst eo22
    go_wp2_with (first | ((with_reducible refine gate_callee (f := 32) rfl ?_); refine goesL_ (some 26) rfl rfl Try.func32 (by kernel_rfl) rfl #[.slice Ao22 t413.length co22, .slice Ao8 t406.length co8] rfl Hd.m_ ?_; (with_reducible refine (impl_IsPartOf.calls k _ _ t413 _ _ t406 false _ ?side1 ?side2 ?side3 ?side4 A11.out).mono ?_); (case side1 => repeat (first | exact (Kd.R_reads' HO415.out).2.2 | (with_reducible refine Kd.C_alloc ?_ _) | (with_reducible refine Kd.C_drewN ?_ _) | (with_reducible refine Kd.C_drew ?_))); (case side2 => exact (Kd.R_reads' HO415.out).2.1); (case side3 => repeat (first | exact (Kd.R_reads' HO410.out).2.2 | (with_reducible refine Kd.C_alloc ?_ _) | (with_reducible refine Kd.C_drewN ?_ _) | (with_reducible refine Kd.C_drew ?_))); (case side4 => exact (Kd.R_reads' HO410.out).2.1); rintro e w23 ⟨rfl, hb⟩; refine ⟨_, rfl, ?_⟩; replace HO410 := Aside0.mk (Kd.R_below (Hd.r_ HO410) hb); replace HO412 := Aside0.mk (Kd.S_below (by (with_reducible repeat (first | apply Kd.S_alloc | apply Kd.S_drewN | apply Kd.S_drew)); exact HO412.out) hb); replace HO415 := Aside0.mk (Kd.R_below (Hd.r_ HO415) hb); replace HB := Aside0.mk (below_step Hd.b_ hb); (try clear hb); (try clear hb2); (try clear hk); (try clear hi)))
    go_meet
    case rel => exact ⟨_, (true), (by first | rfl | (simp; done) | (simp [*]; done)), H', ⟨by first | omega | exact Nat.le_refl _⟩, ⟨by (with_reducible repeat (first | apply Kd.R_alloc | apply Kd.R_drewN | apply Kd.R_drew)); exact Kd.R_mono HO410.out (fun _ hk => hk.2)⟩, ⟨by (with_reducible repeat (first | apply Kd.S_alloc | apply Kd.S_drewN | apply Kd.S_drew)); exact HO412.out⟩, ⟨by (with_reducible repeat (first | apply Kd.R_alloc | apply Kd.R_drewN | apply Kd.R_drew)); exact Kd.R_mono HO415.out (fun _ hk => hk.2)⟩, ⟨Hd.b_⟩⟩
  case rest =>
   clear HC6
   try clear c1
   try clear p2
   try clear c3
   try clear c4
   try clear c8
   try clear c10
   try clear c12
   obtain ⟨kq, x37_5, rfl, HA, HJ5, HO_3, HO_4, HO_6, HB⟩ := hcut
   cases kq with
   | zero => exact absurd HA.out (by simp [laws_FnSafe.j0])
   | succ kj5 =>
    have H := HA.out
    clear HA
    simp only [laws_FnSafe.j0] at H
    by_cases c24 : x37_5 = true
    ·
     subst c24
     have H1 : (some false) = some r := by rw [if_pos rfl] at H; exact H
     clear H
     have H := H1
     clear H1
     obtain rfl := Option.some.inj H
     go_wp2
     go_ret
     exact ⟨Hd.e_, Hd.b_⟩
    ·
     replace c24 := Bool.eq_false_iff.mpr c24
     subst c24
     have H1 : ((impl_IsSimple.f kj5 t406).bind fun t424 => (if t424 = true then ((impl_IsSimple.f kj5 t413).bind fun t425 => (if t425 = true then (if 0 < (t413.length : Int) then (if 0 < (t406.length : Int) then (if (!(((rd_T27 t413 0).f0) == ((rd_T27 t406 0).f0)) || (!(((rd_T27 t413 0).f1) == ((rd_T27 t406 0).f1)))) = true then (laws_FnSafe.j1 kj5 l0 t407 t408 t413 true) else (if 0 ≤ (wrap64 ((t413.length : Int) - 1)) then (if (wrap64 ((t413.length : Int) - 1)) < (t413.length : Int) then (if 0 ≤ (wrap64 ((t406.length : Int) - 1)) then (if (wrap64 ((t406.length : Int) - 1)) < (t406.length : Int) then (laws_FnSafe.j1 kj5 l0 t407 t408 t413 (!(((rd_T27 t413 (wrap64 ((t413.length : Int) - 1))).f0) == ((rd_T27 t406 (wrap64 ((t406.length : Int) - 1))).f0)) || (!(((rd_T27 t413 (wrap64 ((t413.length : Int) - 1))).f1) == ((rd_T27 t406 (wrap64 ((t406.length : Int) - 1))).f1))))) else (none)) else (none)) else (none)) else (none))) else (none)) else (none)) else (laws_FnSafe.j1 kj5 l0 t407 t408 t413 true))) else ((impl_EqualLines.f kj5 t413 t406).bind fun t441 => (if t441 = true then ((spec_DrawDropPoint.f kj5 l0).bind fun bt442 => ((impl_DropPoint.f kj5 bt442.1 bt442.2).bind fun bt446 => (if bt446.2 = true then (if (bt446.1.length : Int) = (wrap64 ((bt442.1.length : Int) - 1)) then ((impl_IsPartOf.f kj5 bt446.1 bt442.1).bind fun t450 => (some t450)) else (some false)) else (some true)))) else (some false))))) = some r := by rw [if_neg (show ¬ (false = true) by decide)] at H; exact H
     clear H
     have H := H1
     clear H1
     replace H := Option.bind_eq_some_iff.mp H
     obtain ⟨t424, A250, H⟩ := H
     replace H : (if t424 = true then ((impl_IsSimple.f kj5 t413).bind fun t425 => (if t425 = true then (if 0 < (t413.length : Int) then (if 0 < (t406.length : Int) then (if (!(((rd_T27 t413 0).f0) == ((rd_T27 t406 0).f0)) || (!(((rd_T27 t413 0).f1) == ((rd_T27 t406 0).f1)))) = true then (laws_FnSafe.j1 kj5 l0 t407 t408 t413 true) else (if 0 ≤ (wrap64 ((t413.length : Int) - 1)) then (if (wrap64 ((t413.length : Int) - 1)) < (t413.length : Int) then (if 0 ≤ (wrap64 ((t406.length : Int) - 1)) then (if (wrap64 ((t406.length : Int) - 1)) < (t406.length : Int) then (laws_FnSafe.j1 kj5 l0 t407 t408 t413 (!(((rd_T27 t413 (wrap64 ((t413.length : Int) - 1))).f0) == ((rd_T27 t406 (wrap64 ((t406.length : Int) - 1))).f0)) || (!(((rd_T27 t413 (wrap64 ((t413.length : Int) - 1))).f1) == ((rd_T27 t406 (wrap64 ((t406.length : Int) - 1))).f1))))) else (none)) else (none)) else (none)) else (none))) else (none)) else (none)) else (laws_FnSafe.j1 kj5 l0 t407 t408 t413 true))) else ((impl_EqualLines.f kj5 t413 t406).bind fun t441 => (if t441 = true then ((spec_DrawDropPoint.f kj5 l0).bind fun bt442 => ((impl_DropPoint.f kj5 bt442.1 bt442.2).bind fun bt446 => (if bt446.2 = true then (if (bt446.1.length : Int) = (wrap64 ((bt442.1.length : Int) - 1)) then ((impl_IsPartOf.f kj5 bt446.1 bt442.1).bind fun t450 => (some t450)) else (some false)) else (some true)))) else (some false)))) = some r := H
     have A25 := Aside0.mk A250
     clear A250
     by_cases c26 : t424 = true
     ·
      subst c26
      have H1 : ((impl_IsSimple.f kj5 t413).bind fun t425 => (if t425 = true then (if 0 < (t413.length : Int) then (if 0 < (t406.length : Int) then (if (!(((rd_T27 t413 0).f0) == ((rd_T27 t406 0).f0)) || (!(((rd_T27 t413 0).f1) == ((rd_T27 t406 0).f1)))) = true then (laws_FnSafe.j1 kj5 l0 t407 t408 t413 true) else (if 0 ≤ (wrap64 ((t413.length : Int) - 1)) then (if (wrap64 ((t413.length : Int) - 1)) < (t413.length : Int) then (if 0 ≤ (wrap64 ((t406.length : Int) - 1)) then (if (wrap64 ((t406.length : Int) - 1)) < (t406.length : Int) then (laws_FnSafe.j1 kj5 l0 t407 t408 t413 (!(((rd_T27 t413 (wrap64 ((t413.length : Int) - 1))).f0) == ((rd_T27 t406 (wrap64 ((t406.length : Int) - 1))).f0)) || (!(((rd_T27 t413 (wrap64 ((t413.length : Int) - 1))).f1) == ((rd_T27 t406 (wrap64 ((t406.length : Int) - 1))).f1))))) else (none)) else (none)) else (none)) else (none))) else (none)) else (none)) else (laws_FnSafe.j1 kj5 l0 t407 t408 t413 true))) = some r := by rw [if_pos rfl] at H; exact H
      clear H
      have H := H1
      clear H1
      have HC27 := Aside0.mk H
      clear H
      go_upto_region 8 with (first | ((with_reducible refine gate_callee (f := 51) rfl ?_); refine goesL_ (some 39) rfl rfl Try.func51 (by kernel_rfl) rfl #[.slice Ao8 t406.length co8] rfl Hd.m_ ?_; (with_reducible refine (impl_IsSimple.calls kj5 _ _ t406 true _ ?side1 ?side2 A25.out).mono ?_); (case side1 => repeat (first | exact (Kd.R_reads' HO_3.out).2.2 | (with_reducible refine Kd.C_alloc ?_ _) | (with_reducible refine Kd.C_drewN ?_ _) | (with_reducible refine Kd.C_drew ?_))); (case side2 => exact (Kd.R_reads' HO_3.out).2.1); rintro e w28 ⟨rfl, hb⟩; refine ⟨_, rfl, ?_⟩; replace HO_3 := Aside0.mk (Kd.R_below (Hd.r_ HO_3) hb); replace HO_4 := Aside0.mk (Kd.S_below (by (with_reducible repeat (first | apply Kd.S_alloc | apply Kd.S_drewN | apply Kd.S_drew)); exact HO_4.out) hb); replace HO_6 := Aside0.mk (Kd.R_below (Hd.r_ HO_6) hb); replace HB := Aside0.mk (below_step Hd.b_ hb); (try clear hb); (try clear hb2); (try clear hk); (try clear hi)))
      (try simp only [Act.put, List.setIfInBounds_toArray, List.set_cons_zero, List.set_cons_succ])
      go_cut [66] (fun v66 wc => ∃ (kq : Nat) (x66_26 : Bool), v66 = .bool x66_26 ∧ Aside0 (laws_FnSafe.j1 kq l0 t407 t408 t413 x66_26 = some r) ∧ Aside0 (kq ≤ kj5) ∧ Aside0 (Kd.S (Kd.slice 27 k27) 24 wc w.heap.size (fun k_ => some k_ ≠ (v414 : Value).ownBlock) (.slice Ao9 t407.length co9) t407) ∧ Aside0 (Kd.R k27 27 wc w.heap.size (fun _ => True) v414 t413) ∧ Aside0 (Below w.heap.size w wc))
      case first =>
       have H := HC27.out
       clear HC27
       replace H := Option.bind_eq_some_iff.mp H
       obtain ⟨t425, A290, H⟩ := H
       replace H : (if t425 = true then (if 0 < (t413.length : Int) then (if 0 < (t406.length : Int) then (if (!(((rd_T27 t413 0).f0) == ((rd_T27 t406 0).f0)) || (!(((rd_T27 t413 0).f1) == ((rd_T27 t406 0).f1)))) = true then (laws_FnSafe.j1 kj5 l0 t407 t408 t413 true) else (if 0 ≤ (wrap64 ((t413.length : Int) - 1)) then (if (wrap64 ((t413.length : Int) - 1)) < (t413.length : Int) then (if 0 ≤ (wrap64 ((t406.length : Int) - 1)) then (if (wrap64 ((t406.length : Int) - 1)) < (t406.length : Int) then (laws_FnSafe.j1 kj5 l0 t407 t408 t413 (!(((rd_T27 t413 (wrap64 ((t413.length : Int) - 1))).f0) == ((rd_T27 t406 (wrap64 ((t406.length : Int) - 1))).f0)) || (!(((rd_T27 t413 (wrap64 ((t413.length : Int) - 1))).f1) == ((rd_T27 t406 (wrap64 ((t406.length : Int) - 1))).f1))))) else (none)) else (none)) else (none)) else (none))) else (none)) else (none)) else (laws_FnSafe.j1 kj5 l0 t407 t408 t413 true)) = some r := H
       have A29 := Aside0.mk A290
       clear A290
       by_cases c30 : t425 = true
       ·
        subst c30
        have H1 : (if 0 < (t413.length : Int) then (if 0 < (t406.length : Int) then (if (!(((rd_T27 t413 0).f0) == ((rd_T27 t406 0).f0)) || (!(((rd_T27 t413 0).f1) == ((rd_T27 t406 0).f1)))) = true then (laws_FnSafe.j1 kj5 l0 t407 t408 t413 true) else (if 0 ≤ (wrap64 ((t413.length : Int) - 1)) then (if (wrap64 ((t413.length : Int) - 1)) < (t413.length : Int) then (if 0 ≤ (wrap64 ((t406.length : Int) - 1)) then (if (wrap64 ((t406.length : Int) - 1)) < (t406.length : Int) then (laws_FnSafe.j1 kj5 l0 t407 t408 t413 (!(((rd_T27 t413 (wrap64 ((t413.length : Int) - 1))).f0) == ((rd_T27 t406 (wrap64 ((t406.length : Int) - 1))).f0)) || (!(((rd_T27 t413 (wrap64 ((t413.length : Int) - 1))).f1) == ((rd_T27 t406 (wrap64 ((t406.length : Int) - 1))).f1))))) else (none)) else (none)) else (none)) else (none))) else (none)) else (none)) = some r := by rw [if_pos rfl] at H; exact H
        clear H
        have H := H1
        clear H1
        by_cases c31 : 0 < (t413.length : Int)
        ·
         rw [if_pos c31] at H
         have c31b0 : decide (0 < (t413.length : Int)) = true := decide_eq_true c31
         have c31b1 : decide (0 < t413.length) = true := decide_eq_true (by omega)
         clear c31
         (first | rw [c31b0] | (simp only [i64_w, i32_w]; rw [c31b0]) | skip)
         by_cases c32 : 0 < (t406.length : Int)
         ·
          rw [if_pos c32] at H
          have c32b0 : decide (0 < (t406.length : Int)) = true := decide_eq_true c32
          have c32b1 : decide (0 < t406.length) = true := decide_eq_true (by omega)
          clear c32
          by_cases c33 : (!(((rd_T27 t413 0).f0) == ((rd_T27 t406 0).f0)) || (!(((rd_T27 t413 0).f1) == ((rd_T27 t406 0).f1)))) = true
          ·
           rw [if_pos c33] at H
           have c33b0 : (!(((rd_T27 t413 0).f0) == ((rd_T27 t406 0).f0)) || (!(((rd_T27 t413 0).f1) == ((rd_T27 t406 0).f1)))) = true := c33
           clear c33
           have H' := Aside0.mk H
           clear H
           try go_wp2
           replace HO_3 := Aside0.mk (Kd.R_drew HO_3.out)
           replace HO_4 := Aside0.mk (Kd.S_drew HO_4.out)
           replace HO_6 := Aside0.mk (Kd.R_drew HO_6.out)
           replace HB := Aside0.mk (below_drew1 HB.out)
           obtain ⟨Ao35, co35, eo35⟩ := Kd.R_slice HO_6.out
           (first | subst eo35 | (injection eo35 with f1_ f2_ f3_; have f4_ := f1_.symm; have f5_ := f3_.symm; clear f1_ f2_ f3_; subst f4_; subst f5_))
           have p426 : 0 ≤ (0 : Int) := (by omega)
           have q426 : 0 < (t413.length : Int) := of_decide_eq_true Hd.a_
           obtain ⟨ad426, e426, hx426_0, hx426_1⟩ := at_T27 (Kd.R_reads' HO_6.out).2.2 0 p426 q426
           cases e426
           have qi426 : (0 < t413.length) = True := eq_true (by omega)
           (try rw [show ((0 : Int)).toNat = 0 from rfl] at hx426_0)
           (try rw [show 0 * 2 = 0 from rfl] at hx426_0)
           (try rw [Addr.add_zero'] at hx426_0)
           (try rw [show ((0 : Int)).toNat = 0 from rfl] at hx426_1)
           (try rw [show 0 * 2 = 0 from rfl] at hx426_1)
           (try rw [Addr.add_zero'] at hx426_1)
           replace p426 := eq_true p426
           replace q426 := eq_true q426
           have p427 : 0 ≤ (0 : Int) := (by omega)
           have q427 : 0 < (t406.length : Int) := of_decide_eq_true Hd.a_
           obtain ⟨ad427, e427, hx427_0, hx427_1⟩ := at_T27 (Kd.R_reads' HO_3.out).2.2 0 p427 q427
           cases e427
           have qi427 : (0 < t406.length) = True := eq_true (by omega)
           (try rw [show ((0 : Int)).toNat = 0 from rfl] at hx427_0)
           (try rw [show 0 * 2 = 0 from rfl] at hx427_0)
           (try rw [Addr.add_zero'] at hx427_0)
           (try rw [show ((0 : Int)).toNat = 0 from rfl] at hx427_1)
           (try rw [show 0 * 2 = 0 from rfl] at hx427_1)
           (try rw [Addr.add_zero'] at hx427_1)
           replace p427 := eq_true p427
           replace q427 := eq_true q427
           refine start_ (n := 27) (S := fun w' => w'.cell? ad426 = some (.int .i64 ((rd_T27 t413 0).f0)) ∧ w'.cell? ⟨ad426.block, ad426.off + 1, none⟩ = some (.int .i64 ((rd_T27 t413 0).f1)) ∧ w'.cell? ad427 = some (.int .i64 ((rd_T27 t406 0).f0)) ∧ w'.cell? ⟨ad427.block, ad427.off + 1, none⟩ = some (.int .i64 ((rd_T27 t406 0).f1))) (ds := []) #[false, false, false, false, false, false, false, false, false, false, false, false, false, false, false, false, false, false, false, false, false, false, false, false, false, false, false] (by kernel_rfl) rfl rfl ⟨hx426_0, hx426_1, hx427_0, hx427_1⟩ (fun hHeld => ?_); refine with_tabW laws_FnSafe.tab8 laws_FnSafe.bits8 (fun HT_ HW_ => ?_)
           generalize w28.drew = w34 at HO_3 HO_4 HO_6 HB hx426_0 hx426_1 hx427_0 hx427_1 hHeld ⊢
           refine Hd.p_ HT_ 0 (some 40) #[true, false, false, false, false, false, false, false, false, false, false, false, false, false, false, false, false, false, false, false, false, false, false, false, false, false, false] ?_
           refine Hd.o_ HT_ 1 (some 41) #[true, true, false, false, false, false, false, false, false, false, false, false, false, false, false, false, false, false, false, false, false, false, false, false, false, false, false] (fun K hK => ?_)
           refine goes_ Try.func51 (by kernel_rfl) rfl #[.slice (some ad426) t413.length co35] (by rfl) rfl rfl Hd.m_ ?_
           with_reducible refine (impl_IsSimple.calls kj5 _ _ t413 true _ ?side1 ?side2 A29.out).mono ?_
           (case side1 => repeat (first | exact (Kd.R_reads' HO_6.out).2.2 | (with_reducible refine Kd.C_alloc ?_ _) | (with_reducible refine Kd.C_drewN ?_ _) | (with_reducible refine Kd.C_drew ?_)))
           (case side2 => exact (Kd.R_reads' HO_6.out).2.1)
           rintro e w36 ⟨rfl, hb⟩
           have HS0_ := (hb.cell (World.block_lt_of_cell? _ _ (hHeld.1))).trans (hHeld.1)
           have HS1_ := (hb.cell (World.block_lt_of_cell? _ _ (hHeld.2.1))).trans (hHeld.2.1)
           have HS2_ := (hb.cell (World.block_lt_of_cell? _ _ (hHeld.2.2.1))).trans (hHeld.2.2.1)
           have HS3_ := (hb.cell (World.block_lt_of_cell? _ _ (hHeld.2.2.2))).trans (hHeld.2.2.2)
           refine ⟨_, rfl, ?_⟩
           replace HO_3 := Aside0.mk (Kd.R_below (Hd.r_ HO_3) hb)
           replace HO_4 := Aside0.mk (Kd.S_below (by (with_reducible repeat (first | apply Kd.S_alloc | apply Kd.S_drewN | apply Kd.S_drew)); exact HO_4.out) hb)
           replace HO_6 := Aside0.mk (Kd.R_below (Hd.r_ HO_6) hb)
           replace HB := Aside0.mk (below_step Hd.b_ hb)
           (try clear hb)
           (try clear hb2)
           (try clear hk)
           (try clear hi)
           refine hK.out _ _ ⟨HS0_, HS1_, HS2_, HS3_⟩ (fun hHeld => ?_)
           clear hK K
           refine Hd.n_ (some 41) ?_
           refine Hd.p_ HT_ 2 (some 42) #[true, true, true, false, false, false, false, false, false, false, false, false, false, false, false, false, false, false, false, false, false, false, false, false, false, false, false] ?_
           refine Hd.p_ HT_ 3 (some 43) #[true, true, true, true, false, false, false, false, false, false, false, false, false, false, false, false, false, false, false, false, false, false, false, false, false, false, false] ?_
           refine Hd.p_ HT_ 4 (some 44) #[true, true, true, true, true, false, false, false, false, false, false, false, false, false, false, false, false, false, false, false, false, false, false, false, false, false, false] ?_
           refine Hd.p_ HT_ 5 (some 45) #[true, true, true, true, true, true, false, false, false, false, false, false, false, false, false, false, false, false, false, false, false, false, false, false, false, false, false] ?_
           refine Hd.p_ HT_ 7 (some 47) #[true, true, true, true, true, true, false, true, false, false, false, false, false, false, false, false, false, false, false, false, false, false, false, false, false, false, false] ?_
           refine Hd.p_ HT_ 8 (some 48) #[true, true, true, true, true, true, false, true, true, false, false, false, false, false, false, false, false, false, false, false, false, false, false, false, false, false, false] ?_
           refine Hd.t_ HT_ HW_ hHeld 6 (some 46) #[true, true, true, true, true, true, true, true, true, false, false, false, false, false, false, false, false, false, false, false, false, false, false, false, false, false, false] ?_
           refine Hd.t_ HT_ HW_ hHeld 9 (some 49) #[true, true, true, true, true, true, true, true, true, true, false, false, false, false, false, false, false, false, false, false, false, false, false, false, false, false, false] ?_
           refine Hd.p_ HT_ 10 (some 50) #[true, true, true, true, true, true, true, true, true, true, true, false, false, false, false, false, false, false, false, false, false, false, false, false, false, false, false] ?_
           refine Hd.p_ HT_ 11 (some 51) #[true, true, true, true, true, true, true, true, true, true, true, true, false, false, false, false, false, false, false, false, false, false, false, false, false, false, false] ?_
           refine Hd.p_ HT_ 12 (some 52) #[true, true, true, true, true, true, true, true, true, true, true, true, true, false, false, false, false, false, false, false, false, false, false, false, false, false, false] ?_
           refine pure_ (i := 13) (N := some 53) (v := undef) (a' := ?_) #[true, true, true, true, true, true, true, true, true, true, true, true, true, true, false, false, false, false, false, false, false, false, false, false, false, false, false] rfl rfl (any_of HT_.out (by kernel_rfl)) (fun _ _ _ h => h) (Or.inr ⟨by rfl, rfl⟩) ?_ ?_
           rotate_left
           ·
            simp only [Act.put, List.setIfInBounds_toArray, List.set_cons_zero, List.set_cons_succ, i64_w, i32_w]
            rfl
           refine pure_ (i := 14) (N := some 54) (v := undef) (a' := ?_) #[true, true, true, true, true, true, true, true, true, true, true, true, true, true, true, false, false, false, false, false, false, false, false, false, false, false, false] rfl rfl (any_of HT_.out (by kernel_rfl)) (fun _ _ _ h => h) (Or.inr ⟨by rfl, rfl⟩) ?_ ?_
           rotate_left
           ·
            simp only [Act.put, List.setIfInBounds_toArray, List.set_cons_zero, List.set_cons_succ, i64_w, i32_w]
            rfl
           refine pure_ (i := 15) (N := some 55) (v := undef) (a' := ?_) #[true, true, true, true, true, true, true, true, true, true, true, true, true, true, true, true, false, false, false, false, false, false, false, false, false, false, false] rfl rfl (any_of HT_.out (by kernel_rfl)) (fun _ _ _ h => h) (Or.inr ⟨by rfl, rfl⟩) ?_ ?_
           rotate_left
           ·
            simp only [Act.put, List.setIfInBounds_toArray, List.set_cons_zero, List.set_cons_succ, i64_w, i32_w]
            rfl
           refine pure_ (i := 16) (N := some 56) (v := undef) (a' := ?_) #[true, true, true, true, true, true, true, true, true, true, true, true, true, true, true, true, true, false, false, false, false, false, false, false, false, false, false] rfl rfl (any_of HT_.out (by kernel_rfl)) (fun _ _ _ h => h) (Or.inr ⟨by rfl, rfl⟩) ?_ ?_
           rotate_left
           ·
            simp only [Act.put, List.setIfInBounds_toArray, List.set_cons_zero, List.set_cons_succ, i64_w, i32_w]
            rfl
           refine pure_ (i := 17) (N := some 57) (v := undef) (a' := ?_) #[true, true, true, true, true, true, true, true, true, true, true, true, true, true, true, true, true, true, false, false, false, false, false, false, false, false, false] rfl rfl (any_of HT_.out (by kernel_rfl)) (fun _ _ _ h => h) (Or.inr ⟨by rfl, rfl⟩) ?_ ?_
           rotate_left
           ·
            simp only [Act.put, List.setIfInBounds_toArray, List.set_cons_zero, List.set_cons_succ, i64_w, i32_w]
            rfl
           refine pure_ (i := 18) (N := some 58) (v := undef) (a' := ?_) #[true, true, true, true, true, true, true, true, true, true, true, true, true, true, true, true, true, true, true, false, false, false, false, false, false, false, false] rfl rfl (any_of HT_.out (by kernel_rfl)) (fun _ _ _ h => h) (Or.inr ⟨by rfl, rfl⟩) ?_ ?_
           rotate_left
           ·
            simp only [Act.put, List.setIfInBounds_toArray, List.set_cons_zero, List.set_cons_succ, i64_w, i32_w]
            rfl
           refine pure_ (i := 19) (N := some 59) (v := undef) (a' := ?_) #[true, true, true, true, true, true, true, true, true, true, true, true, true, true, true, true, true, true, true, true, false, false, false, false, false, false, false] rfl rfl (any_of HT_.out (by kernel_rfl)) (fun _ _ _ h => h) (Or.inr ⟨by rfl, rfl⟩) ?_ ?_
           rotate_left
           ·
            simp only [Act.put, List.setIfInBounds_toArray, List.set_cons_zero, List.set_cons_succ, i64_w, i32_w]
            rfl
           refine pure_ (i := 20) (N := some 60) (v := undef) (a' := ?_) #[true, true, true, true, true, true, true, true, true, true, true, true, true, true, true, true, true, true, true, true, true, false, false, false, false, false, false] rfl rfl (any_of HT_.out (by kernel_rfl)) (fun _ _ _ h => h) (Or.inr ⟨by rfl, rfl⟩) ?_ ?_
           rotate_left
           ·
            simp only [Act.put, List.setIfInBounds_toArray, List.set_cons_zero, List.set_cons_succ, i64_w, i32_w]
            rfl
           refine pure_ (i := 21) (N := some 61) (v := undef) (a' := ?_) #[true, true, true, true, true, true, true, true, true, true, true, true, true, true, true, true, true, true, true, true, true, true, false, false, false, false, false] rfl rfl (any_of HT_.out (by kernel_rfl)) (fun _ _ _ h => h) (Or.inr ⟨by rfl, rfl⟩) ?_ ?_
           rotate_left
           ·
            simp only [Act.put, List.setIfInBounds_toArray, List.set_cons_zero, List.set_cons_succ, i64_w, i32_w]
            rfl
           refine pure_ (i := 22) (N := some 62) (v := undef) (a' := ?_) #[true, true, true, true, true, true, true, true, true, true, true, true, true, true, true, true, true, true, true, true, true, true, true, false, false, false, false] rfl rfl (any_of HT_.out (by kernel_rfl)) (fun _ _ _ h => h) (Or.inr ⟨by rfl, rfl⟩) ?_ ?_
           rotate_left
           ·
            simp only [Act.put, List.setIfInBounds_toArray, List.set_cons_zero, List.set_cons_succ, i64_w, i32_w]
            rfl
           refine pure_ (i := 23) (N := some 63) (v := undef) (a' := ?_) #[true, true, true, true, true, true, true, true, true, true, true, true, true, true, true, true, true, true, true, true, true, true, true, true, false, false, false] rfl rfl (any_of HT_.out (by kernel_rfl)) (fun _ _ _ h => h) (Or.inr ⟨by rfl, rfl⟩) ?_ ?_
           rotate_left
           ·
            simp only [Act.put, List.setIfInBounds_toArray, List.set_cons_zero, List.set_cons_succ, i64_w, i32_w]
            rfl
           refine pure_ (i := 24) (N := some 64) (v := undef) (a' := ?_) #[true, true, true, true, true, true, true, true, true, true, true, true, true, true, true, true, true, true, true, true, true, true, true, true, true, false, false] rfl rfl (any_of HT_.out (by kernel_rfl)) (fun _ _ _ h => h) (Or.inr ⟨by rfl, rfl⟩) ?_ ?_
           rotate_left
           ·
            simp only [Act.put, List.setIfInBounds_toArray, List.set_cons_zero, List.set_cons_succ, i64_w, i32_w]
            rfl
           refine pure_ (i := 25) (N := some 65) (v := undef) (a' := ?_) #[true, true, true, true, true, true, true, true, true, true, true, true, true, true, true, true, true, true, true, true, true, true, true, true, true, true, false] rfl rfl (any_of HT_.out (by kernel_rfl)) (fun _ _ _ h => h) (Or.inr ⟨by rfl, rfl⟩) ?_ ?_
           rotate_left
           ·
            simp only [Act.put, List.setIfInBounds_toArray, List.set_cons_zero, List.set_cons_succ, i64_w, i32_w]
            rfl
           refine Hd.p_ HT_ 26 (some 66) #[true, true, true, true, true, true, true, true, true, true, true, true, true, true, true, true, true, true, true, true, true, true, true, true, true, true, true] ?_
           refine done_ (done_of HT_.out (by kernel_rfl)) ?_
           try go_wp2
           go_meet
           case rel => exact ⟨_, (true), (by first | rfl | (simp; done) | (simp [*]; done)), H', ⟨by have := HJ5.out; first | omega | exact Nat.le_refl _⟩, ⟨by (with_reducible repeat (first | apply Kd.S_alloc | apply Kd.S_drewN | apply Kd.S_drew)); exact Kd.S_mono HO_4.out (fun _ hk => hk.2)⟩, ⟨by (with_reducible repeat (first | apply Kd.R_alloc | apply Kd.R_drewN | apply Kd.R_drew)); exact Kd.R_mono HO_6.out (fun _ hk => trivial)⟩, ⟨Hd.b_⟩⟩
          ·
           rw [if_neg c33] at H
           have c33b0 : (!(((rd_T27 t413 0).f0) == ((rd_T27 t406 0).f0)) || (!(((rd_T27 t413 0).f1) == ((rd_T27 t406 0).f1)))) = false := by simpa using c33
           clear c33
           obtain ⟨ji37, hji37⟩ : ∃ j_ : Int, (wrap64 ((t413.length : Int) - 1)) = j_ := ⟨_, rfl⟩
           replace H : (if 0 ≤ (ji37) then (if (ji37) < (t413.length : Int) then (if 0 ≤ (wrap64 ((t406.length : Int) - 1)) then (if (wrap64 ((t406.length : Int) - 1)) < (t406.length : Int) then (laws_FnSafe.j1 kj5 l0 t407 t408 t413 (!(((rd_T27 t413 (ji37)).f0) == ((rd_T27 t406 (wrap64 ((t406.length : Int) - 1))).f0)) || (!(((rd_T27 t413 (ji37)).f1) == ((rd_T27 t406 (wrap64 ((t406.length : Int) - 1))).f1))))) else (none)) else (none)) else (none)) else (none)) = some r := by first | (rw [hji37] at H; exact H) | (simp only [hji37] at H ⊢; exact H)
           (try rw [hji37] at A29)
           have hji37w : (IntKind.i64.wrap ((t413.length : Int) - 1)) = ji37 := (i64_w _).trans hji37
           by_cases c38 : 0 ≤ (ji37)
           ·
            rw [if_pos c38] at H
            have c38b0 : decide (0 ≤ (ji37)) = true := decide_eq_true c38
            clear c38
            by_cases c39 : (ji37) < (t413.length : Int)
            ·
             rw [if_pos c39] at H
             have c39b0 : decide ((ji37) < (t413.length : Int)) = true := decide_eq_true c39
             clear c39
             obtain ⟨ji40, hji40⟩ : ∃ j_ : Int, (wrap64 ((t406.length : Int) - 1)) = j_ := ⟨_, rfl⟩
             replace H : (if 0 ≤ (ji40) then (if (ji40) < (t406.length : Int) then (laws_FnSafe.j1 kj5 l0 t407 t408 t413 (!(((rd_T27 t413 (ji37)).f0) == ((rd_T27 t406 (ji40)).f0)) || (!(((rd_T27 t413 (ji37)).f1) == ((rd_T27 t406 (ji40)).f1))))) else (none)) else (none)) = some r := by first | (rw [hji40] at H; exact H) | (simp only [hji40] at H ⊢; exact H)
             (try rw [hji40] at A29)
             have hji40w : (IntKind.i64.wrap ((t406.length : Int) - 1)) = ji40 := (i64_w _).trans hji40
             by_cases c41 : 0 ≤ (ji40)
             ·
              rw [if_pos c41] at H
              have c41b0 : decide (0 ≤ (ji40)) = true := decide_eq_true c41
              clear c41
              by_cases c42 : (ji40) < (t406.length : Int)
              ·
               rw [if_pos c42] at H
               have c42b0 : decide ((ji40) < (t406.length : Int)) = true := decide_eq_true c42
               clear c42
               have H' := Aside0.mk H
               clear H
               try go_wp2
               replace HO_3 := Aside0.mk (Kd.R_drew HO_3.out)
               replace HO_4 := Aside0.mk (Kd.S_drew HO_4.out)
               replace HO_6 := Aside0.mk (Kd.R_drew HO_6.out)
               replace HB := Aside0.mk (below_drew1 HB.out)
               obtain ⟨Ao44, co44, eo44⟩ := Kd.R_slice HO_6.out
               (first | subst eo44 | (injection eo44 with f1_ f2_ f3_; have f4_ := f1_.symm; have f5_ := f3_.symm; clear f1_ f2_ f3_; subst f4_; subst f5_))
               have p426 : 0 ≤ (0 : Int) := (by omega)
               have q426 : 0 < (t413.length : Int) := of_decide_eq_true Hd.a_
               obtain ⟨ad426, e426, hx426_0, hx426_1⟩ := at_T27 (Kd.R_reads' HO_6.out).2.2 0 p426 q426
               cases e426
               have qi426 : (0 < t413.length) = True := eq_true (by omega)
               (try rw [show ((0 : Int)).toNat = 0 from rfl] at hx426_0)
               (try rw [show 0 * 2 = 0 from rfl] at hx426_0)
               (try rw [Addr.add_zero'] at hx426_0)
               (try rw [show ((0 : Int)).toNat = 0 from rfl] at hx426_1)
               (try rw [show 0 * 2 = 0 from rfl] at hx426_1)
               (try rw [Addr.add_zero'] at hx426_1)
               replace p426 := eq_true p426
               replace q426 := eq_true q426
               have p427 : 0 ≤ (0 : Int) := (by omega)
               have q427 : 0 < (t406.length : Int) := of_decide_eq_true Hd.a_
               obtain ⟨ad427, e427, hx427_0, hx427_1⟩ := at_T27 (Kd.R_reads' HO_3.out).2.2 0 p427 q427
               cases e427
               have qi427 : (0 < t406.length) = True := eq_true (by omega)
               (try rw [show ((0 : Int)).toNat = 0 from rfl] at hx427_0)
               (try rw [show 0 * 2 = 0 from rfl] at hx427_0)
               (try rw [Addr.add_zero'] at hx427_0)
               (try rw [show ((0 : Int)).toNat = 0 from rfl] at hx427_1)
               (try rw [show 0 * 2 = 0 from rfl] at hx427_1)
               (try rw [Addr.add_zero'] at hx427_1)
               replace p427 := eq_true p427
               replace q427 := eq_true q427
               have p428 : 0 ≤ ((ji37) : Int) := of_decide_eq_true Hd.a_
               have q428 : (ji37) < (t413.length : Int) := of_decide_eq_true Hd.a_
               obtain ⟨ad428, e428, hx428_0, hx428_1⟩ := at_T27 (Kd.R_reads' HO_6.out).2.2 (ji37) p428 q428
               obtain rfl : ad426 = ad428 := (by injection e428)
               replace p428 := eq_true p428
               replace q428 := eq_true q428
               have p429 : 0 ≤ ((ji40) : Int) := of_decide_eq_true Hd.a_
               have q429 : (ji40) < (t406.length : Int) := of_decide_eq_true Hd.a_
               obtain ⟨ad429, e429, hx429_0, hx429_1⟩ := at_T27 (Kd.R_reads' HO_3.out).2.2 (ji40) p429 q429
               obtain rfl : ad427 = ad429 := (by injection e429)
               replace p429 := eq_true p429
               replace q429 := eq_true q429
               refine start_ (n := 27) (S := fun w' => w'.cell? ad426 = some (.int .i64 ((rd_T27 t413 0).f0)) ∧ w'.cell? ⟨ad426.block, ad426.off + 1, none⟩ = some (.int .i64 ((rd_T27 t413 0).f1)) ∧ w'.cell? ad427 = some (.int .i64 ((rd_T27 t406 0).f0)) ∧ w'.cell? ⟨ad427.block, ad427.off + 1, none⟩ = some (.int .i64 ((rd_T27 t406 0).f1)) ∧ w'.cell? (ad426.add (((ji37)).toNat * 2)) = some (.int .i64 ((rd_T27 t413 (ji37)).f0)) ∧ w'.cell? ⟨(ad426.add (((ji37)).toNat * 2)).block, (ad426.add (((ji37)).toNat * 2)).off + 1, none⟩ = some (.int .i64 ((rd_T27 t413 (ji37)).f1)) ∧ w'.cell? (ad427.add (((ji40)).toNat * 2)) = some (.int .i64 ((rd_T27 t406 (ji40)).f0)) ∧ w'.cell? ⟨(ad427.add (((ji40)).toNat * 2)).block, (ad427.add (((ji40)).toNat * 2)).off + 1, none⟩ = some (.int .i64 ((rd_T27 t406 (ji40)).f1))) (ds := []) #[false, false, false, false, false, false, false, false, false, false, false, false, false, false, false, false, false, false, false, false, false, false, false, false, false, false, false] (by kernel_rfl) rfl rfl ⟨hx426_0, hx426_1, hx427_0, hx427_1, hx428_0, hx428_1, hx429_0, hx429_1⟩ (fun hHeld => ?_); refine with_tabW laws_FnSafe.tab8 laws_FnSafe.bits8 (fun HT_ HW_ => ?_)
               generalize w28.drew = w43 at HO_3 HO_4 HO_6 HB hx426_0 hx426_1 hx427_0 hx427_1 hx428_0 hx428_1 hx429_0 hx429_1 hHeld ⊢
               refine Hd.p_ HT_ 0 (some 40) #[true, false, false, false, false, false, false, false, false, false, false, false, false, false, false, false, false, false, false, false, false, false, false, false, false, false, false] ?_
               refine Hd.o_ HT_ 1 (some 41) #[true, true, false, false, false, false, false, false, false, false, false, false, false, false, false, false, false, false, false, false, false, false, false, false, false, false, false] (fun K hK => ?_)
               refine goes_ Try.func51 (by kernel_rfl) rfl #[.slice (some ad426) t413.length co44] (by rfl) rfl rfl Hd.m_ ?_
               with_reducible refine (impl_IsSimple.calls kj5 _ _ t413 true _ ?side1 ?side2 A29.out).mono ?_
               (case side1 => repeat (first | exact (Kd.R_reads' HO_6.out).2.2 | (with_reducible refine Kd.C_alloc ?_ _) | (with_reducible refine Kd.C_drewN ?_ _) | (with_reducible refine Kd.C_drew ?_)))
               (case side2 => exact (Kd.R_reads' HO_6.out).2.1)
               rintro e w45 ⟨rfl, hb⟩
               have HS0_ := (hb.cell (World.block_lt_of_cell? _ _ (hHeld.1))).trans (hHeld.1)
               have HS1_ := (hb.cell (World.block_lt_of_cell? _ _ (hHeld.2.1))).trans (hHeld.2.1)
               have HS2_ := (hb.cell (World.block_lt_of_cell? _ _ (hHeld.2.2.1))).trans (hHeld.2.2.1)
               have HS3_ := (hb.cell (World.block_lt_of_cell? _ _ (hHeld.2.2.2.1))).trans (hHeld.2.2.2.1)
               have HS4_ := (hb.cell (World.block_lt_of_cell? _ _ (hHeld.2.2.2.2.1))).trans (hHeld.2.2.2.2.1)
               have HS5_ := (hb.cell (World.block_lt_of_cell? _ _ (hHeld.2.2.2.2.2.1))).trans (hHeld.2.2.2.2.2.1)
               have HS6_ := (hb.cell (World.block_lt_of_cell? _ _ (hHeld.2.2.2.2.2.2.1))).trans (hHeld.2.2.2.2.2.2.1)
               have HS7_ := (hb.cell (World.block_lt_of_cell? _ _ (hHeld.2.2.2.2.2.2.2))).trans (hHeld.2.2.2.2.2.2.2)
               refine ⟨_, rfl, ?_⟩
               replace HO_3 := Aside0.mk (Kd.R_below (Hd.r_ HO_3) hb)
               replace HO_4 := Aside0.mk (Kd.S_below (by (with_reducible repeat (first | apply Kd.S_alloc | apply Kd.S_drewN | apply Kd.S_drew)); exact HO_4.out) hb)
               replace HO_6 := Aside0.mk (Kd.R_below (Hd.r_ HO_6) hb)
               replace HB := Aside0.mk (below_step Hd.b_ hb)
               (try clear hb)
               (try clear hb2)
               (try clear hk)
               (try clear hi)
               refine hK.out _ _ ⟨HS0_, HS1_, HS2_, HS3_, HS4_, HS5_, HS6_, HS7_⟩ (fun hHeld => ?_)
               clear hK K
               refine Hd.n_ (some 41) ?_
               refine Hd.p_ HT_ 2 (some 42) #[true, true, true, false, false, false, false, false, false, false, false, false, false, false, false, false, false, false, false, false, false, false, false, false, false, false, false] ?_
               refine Hd.p_ HT_ 3 (some 43) #[true, true, true, true, false, false, false, false, false, false, false, false, false, false, false, false, false, false, false, false, false, false, false, false, false, false, false] ?_
               refine Hd.p_ HT_ 4 (some 44) #[true, true, true, true, true, false, false, false, false, false, false, false, false, false, false, false, false, false, false, false, false, false, false, false, false, false, false] ?_
               refine Hd.p_ HT_ 5 (some 45) #[true, true, true, true, true, true, false, false, false, false, false, false, false, false, false, false, false, false, false, false, false, false, false, false, false, false, false] ?_
               refine Hd.p_ HT_ 7 (some 47) #[true, true, true, true, true, true, false, true, false, false, false, false, false, false, false, false, false, false, false, false, false, false, false, false, false, false, false] ?_
               refine Hd.p_ HT_ 8 (some 48) #[true, true, true, true, true, true, false, true, true, false, false, false, false, false, false, false, false, false, false, false, false, false, false, false, false, false, false] ?_
               refine Hd.t_ HT_ HW_ hHeld 6 (some 46) #[true, true, true, true, true, true, true, true, true, false, false, false, false, false, false, false, false, false, false, false, false, false, false, false, false, false, false] ?_
               refine Hd.t_ HT_ HW_ hHeld 9 (some 49) #[true, true, true, true, true, true, true, true, true, true, false, false, false, false, false, false, false, false, false, false, false, false, false, false, false, false, false] ?_
               refine Hd.p_ HT_ 10 (some 50) #[true, true, true, true, true, true, true, true, true, true, true, false, false, false, false, false, false, false, false, false, false, false, false, false, false, false, false] ?_
               refine Hd.p_ HT_ 11 (some 51) #[true, true, true, true, true, true, true, true, true, true, true, true, false, false, false, false, false, false, false, false, false, false, false, false, false, false, false] ?_
               refine Hd.p_ HT_ 12 (some 52) #[true, true, true, true, true, true, true, true, true, true, true, true, true, false, false, false, false, false, false, false, false, false, false, false, false, false, false] ?_
               refine Hd.p_ HT_ 13 (some 53) #[true, true, true, true, true, true, true, true, true, true, true, true, true, true, false, false, false, false, false, false, false, false, false, false, false, false, false] ?_
               refine Hd.p_ HT_ 14 (some 54) #[true, true, true, true, true, true, true, true, true, true, true, true, true, true, true, false, false, false, false, false, false, false, false, false, false, false, false] ?_
               refine Hd.p_ HT_ 15 (some 55) #[true, true, true, true, true, true, true, true, true, true, true, true, true, true, true, true, false, false, false, false, false, false, false, false, false, false, false] ?_
               refine Hd.p_ HT_ 16 (some 56) #[true, true, true, true, true, true, true, true, true, true, true, true, true, true, true, true, true, false, false, false, false, false, false, false, false, false, false] ?_
               refine Hd.p_ HT_ 17 (some 57) #[true, true, true, true, true, true, true, true, true, true, true, true, true, true, true, true, true, true, false, false, false, false, false, false, false, false, false] ?_
               refine Hd.p_ HT_ 19 (some 59) #[true, true, true, true, true, true, true, true, true, true, true, true, true, true, true, true, true, true, false, true, false, false, false, false, false, false, false] ?_
               refine Hd.p_ HT_ 20 (some 60) #[true, true, true, true, true, true, true, true, true, true, true, true, true, true, true, true, true, true, false, true, true, false, false, false, false, false, false] ?_
               refine Hd.p_ HT_ 21 (some 61) #[true, true, true, true, true, true, true, true, true, true, true, true, true, true, true, true, true, true, false, true, true, true, false, false, false, false, false] ?_
               refine Hd.p_ HT_ 22 (some 62) #[true, true, true, true, true, true, true, true, true, true, true, true, true, true, true, true, true, true, false, true, true, true, true, false, false, false, false] ?_
               refine Hd.p_ HT_ 23 (some 63) #[true, true, true, true, true, true, true, true, true, true, true, true, true, true, true, true, true, true, false, true, true, true, true, true, false, false, false] ?_
               refine Hd.t_ HT_ HW_ hHeld 18 (some 58) #[true, true, true, true, true, true, true, true, true, true, true, true, true, true, true, true, true, true, true, true, true, true, true, true, false, false, false] ?_
               refine Hd.t_ HT_ HW_ hHeld 24 (some 64) #[true, true, true, true, true, true, true, true, true, true, true, true, true, true, true, true, true, true, true, true, true, true, true, true, true, false, false] ?_
               refine Hd.p_ HT_ 25 (some 65) #[true, true, true, true, true, true, true, true, true, true, true, true, true, true, true, true, true, true, true, true, true, true, true, true, true, true, false] ?_
               refine Hd.p_ HT_ 26 (some 66) #[true, true, true, true, true, true, true, true, true, true, true, true, true, true, true, true, true, true, true, true, true, true, true, true, true, true, true] ?_
               refine done_ (done_of HT_.out (by kernel_rfl)) ?_
               try go_wp2
               go_meet
               case rel => exact ⟨_, ((!(((rd_T27 t413 (ji37)).f0) == ((rd_T27 t406 (ji40)).f0)) || (!(((rd_T27 t413 (ji37)).f1) == ((rd_T27 t406 (ji40)).f1))))), (by first | rfl | (simp; done) | (simp only [← hji37, ← hji40] <;> (first | rfl | simp)) | (simp [*]; done)), H', ⟨by have := HJ5.out; first | omega | exact Nat.le_refl _⟩, ⟨by (with_reducible repeat (first | apply Kd.S_alloc | apply Kd.S_drewN | apply Kd.S_drew)); exact Kd.S_mono HO_4.out (fun _ hk => hk.2)⟩, ⟨by (with_reducible repeat (first | apply Kd.R_alloc | apply Kd.R_drewN | apply Kd.R_drew)); exact Kd.R_mono HO_6.out (fun _ hk => trivial)⟩, ⟨Hd.b_⟩⟩
              ·
               rw [if_neg c42] at H
               exact absurd H (by simp)
             ·
              rw [if_neg c41] at H
              exact absurd H (by simp)
            ·
             rw [if_neg c39] at H
             exact absurd H (by simp)
           ·
            rw [if_neg c38] at H
            exact absurd H (by simp)
         ·
          rw [if_neg c32] at H
          exact absurd H (by simp)
        ·
         rw [if_neg c31] at H
         exact absurd H (by simp)
       ·
        replace c30 := Bool.eq_false_iff.mpr c30
        subst c30
        have H1 : (laws_FnSafe.j1 kj5 l0 t407 t408 t413 true) = some r := by rw [if_neg (show ¬ (false = true) by decide)] at H; exact H
        clear H
        have H := H1
        clear H1
        have H' := Aside0.mk H
        clear H
        try go_wp2
        replace HO_3 := Aside0.mk (Kd.R_drew HO_3.out)
        replace HO_4 := Aside0.mk (Kd.S_drew HO_4.out)
        replace HO_6 := Aside0.mk (Kd.R_drew HO_6.out)
        replace HB := Aside0.mk (below_drew1 HB.out)
        obtain ⟨Ao47, co47, eo47⟩ := Kd.R_slice HO_6.out
        (first | subst eo47 | (injection eo47 with f1_ f2_ f3_; have f4_ := f1_.symm; have f5_ := f3_.symm; clear f1_ f2_ f3_; subst f4_; subst f5_))
        refine start_ (n := 27) (S := fun w' => True) (ds := []) #[false, false, false, false, false, false, false, false, false, false, false, false, false, false, false, false, false, false, false, false, false, false, false, false, false, false, false] (by kernel_rfl) rfl rfl trivial (fun hHeld => ?_); refine with_tabW laws_FnSafe.tab8 laws_FnSafe.bits8 (fun HT_ HW_ => ?_)
        generalize w28.drew = w46 at HO_3 HO_4 HO_6 HB hHeld ⊢
        refine Hd.p_ HT_ 0 (some 40) #[true, false, false, false, false, false, false, false, false, false, false, false, false, false, false, false, false, false, false, false, false, false, false, false, false, false, false] ?_
        refine Hd.o_ HT_ 1 (some 41) #[true, true, false, false, false, false, false, false, false, false, false, false, false, false, false, false, false, false, false, false, false, false, false, false, false, false, false] (fun K hK => ?_)
        refine goes_ Try.func51 (by kernel_rfl) rfl #[.slice Ao47 t413.length co47] (by rfl) rfl rfl Hd.m_ ?_
        with_reducible refine (impl_IsSimple.calls kj5 _ _ t413 false _ ?side1 ?side2 A29.out).mono ?_
        (case side1 => repeat (first | exact (Kd.R_reads' HO_6.out).2.2 | (with_reducible refine Kd.C_alloc ?_ _) | (with_reducible refine Kd.C_drewN ?_ _) | (with_reducible refine Kd.C_drew ?_)))
        (case side2 => exact (Kd.R_reads' HO_6.out).2.1)
        rintro e w48 ⟨rfl, hb⟩
        refine ⟨_, rfl, ?_⟩
        replace HO_3 := Aside0.mk (Kd.R_below (Hd.r_ HO_3) hb)
        replace HO_4 := Aside0.mk (Kd.S_below (by (with_reducible repeat (first | apply Kd.S_alloc | apply Kd.S_drewN | apply Kd.S_drew)); exact HO_4.out) hb)
        replace HO_6 := Aside0.mk (Kd.R_below (Hd.r_ HO_6) hb)
        replace HB := Aside0.mk (below_step Hd.b_ hb)
        (try clear hb)
        (try clear hb2)
        (try clear hk)
        (try clear hi)
        refine hK.out _ _ trivial (fun hHeld => ?_)
        clear hK K
        refine Hd.n_ (some 41) ?_
        refine Hd.p_ HT_ 2 (some 42) #[true, true, true, false, false, false, false, false, false, false, false, false, false, false, false, false, false, false, false, false, false, false, false, false, false, false, false] ?_
        refine Hd.p_ HT_ 3 (some 43) #[true, true, true, true, false, false, false, false, false, false, false, false, false, false, false, false, false, false, false, false, false, false, false, false, false, false, false] ?_
        refine pure_ (i := 4) (N := some 44) (v := undef) (a' := ?_) #[true, true, true, true, true, false, false, false, false, false, false, false, false, false, false, false, false, false, false, false, false, false, false, false, false, false, false] rfl rfl (any_of HT_.out (by kernel_rfl)) (fun _ _ _ h => h) (Or.inr ⟨by rfl, rfl⟩) ?_ ?_
        rotate_left
        ·
         simp only [Act.put, List.setIfInBounds_toArray, List.set_cons_zero, List.set_cons_succ, i64_w, i32_w]
         rfl
        refine pure_ (i := 5) (N := some 45) (v := undef) (a' := ?_) #[true, true, true, true, true, true, false, false, false, false, false, false, false, false, false, false, false, false, false, false, false, false, false, false, false, false, false] rfl rfl (any_of HT_.out (by kernel_rfl)) (fun _ _ _ h => h) (Or.inr ⟨by rfl, rfl⟩) ?_ ?_
        rotate_left
        ·
         simp only [Act.put, List.setIfInBounds_toArray, List.set_cons_zero, List.set_cons_succ, i64_w, i32_w]
         rfl
        refine pure_ (i := 6) (N := some 46) (v := undef) (a' := ?_) #[true, true, true, true, true, true, true, false, false, false, false, false, false, false, false, false, false, false, false, false, false, false, false, false, false, false, false] rfl rfl (any_of HT_.out (by kernel_rfl)) (fun _ _ _ h => h) (Or.inr ⟨by rfl, rfl⟩) ?_ ?_
        rotate_left
        ·
         simp only [Act.put, List.setIfInBounds_toArray, List.set_cons_zero, List.set_cons_succ, i64_w, i32_w]
         rfl
        refine pure_ (i := 7) (N := some 47) (v := undef) (a' := ?_) #[true, true, true, true, true, true, true, true, false, false, false, false, false, false, false, false, false, false, false, false, false, false, false, false, false, false, false] rfl rfl (any_of HT_.out (by kernel_rfl)) (fun _ _ _ h => h) (Or.inr ⟨by rfl, rfl⟩) ?_ ?_
        rotate_left
        ·
         simp only [Act.put, List.setIfInBounds_toArray, List.set_cons_zero, List.set_cons_succ, i64_w, i32_w]
         rfl
        refine pure_ (i := 8) (N := some 48) (v := undef) (a' := ?_) #[true, true, true, true, true, true, true, true, true, false, false, false, false, false, false, false, false, false, false, false, false, false, false, false, false, false, false] rfl rfl (any_of HT_.out (by kernel_rfl)) (fun _ _ _ h => h) (Or.inr ⟨by rfl, rfl⟩) ?_ ?_
        rotate_left
        ·
         simp only [Act.put, List.setIfInBounds_toArray, List.set_cons_zero, List.set_cons_succ, i64_w, i32_w]
         rfl
        refine pure_ (i := 9) (N := some 49) (v := undef) (a' := ?_) #[true, true, true, true, true, true, true, true, true, true, false, false, false, false, false, false, false, false, false, false, false, false, false, false, false, false, false] rfl rfl (any_of HT_.out (by kernel_rfl)) (fun _ _ _ h => h) (Or.inr ⟨by rfl, rfl⟩) ?_ ?_
        rotate_left
        ·
         simp only [Act.put, List.setIfInBounds_toArray, List.set_cons_zero, List.set_cons_succ, i64_w, i32_w]
         rfl
        refine pure_ (i := 10) (N := some 50) (v := undef) (a' := ?_) #[true, true, true, true, true, true, true, true, true, true, true, false, false, false, false, false, false, false, false, false, false, false, false, false, false, false, false] rfl rfl (any_of HT_.out (by kernel_rfl)) (fun _ _ _ h => h) (Or.inr ⟨by rfl, rfl⟩) ?_ ?_
        rotate_left
        ·
         simp only [Act.put, List.setIfInBounds_toArray, List.set_cons_zero, List.set_cons_succ, i64_w, i32_w]
         rfl
        refine Hd.p_ HT_ 11 (some 51) #[true, true, true, true, true, true, true, true, true, true, true, true, false, false, false, false, false, false, false, false, false, false, false, false, false, false, false] ?_
        refine Hd.p_ HT_ 12 (some 52) #[true, true, true, true, true, true, true, true, true, true, true, true, true, false, false, false, false, false, false, false, false, false, false, false, false, false, false] ?_
        refine pure_ (i := 13) (N := some 53) (v := undef) (a' := ?_) #[true, true, true, true, true, true, true, true, true, true, true, true, true, true, false, false, false, false, false, false, false, false, false, false, false, false, false] rfl rfl (any_of HT_.out (by kernel_rfl)) (fun _ _ _ h => h) (Or.inr ⟨by rfl, rfl⟩) ?_ ?_
        rotate_left
        ·
         simp only [Act.put, List.setIfInBounds_toArray, List.set_cons_zero, List.set_cons_succ, i64_w, i32_w]
         rfl
        refine pure_ (i := 14) (N := some 54) (v := undef) (a' := ?_) #[true, true, true, true, true, true, true, true, true, true, true, true, true, true, true, false, false, false, false, false, false, false, false, false, false, false, false] rfl rfl (any_of HT_.out (by kernel_rfl)) (fun _ _ _ h => h) (Or.inr ⟨by rfl, rfl⟩) ?_ ?_
        rotate_left
        ·
         simp only [Act.put, List.setIfInBounds_toArray, List.set_cons_zero, List.set_cons_succ, i64_w, i32_w]
         rfl
        refine pure_ (i := 15) (N := some 55) (v := undef) (a' := ?_) #[true, true, true, true, true, true, true, true, true, true, true, true, true, true, true, true, false, false, false, false, false, false, false, false, false, false, false] rfl rfl (any_of HT_.out (by kernel_rfl)) (fun _ _ _ h => h) (Or.inr ⟨by rfl, rfl⟩) ?_ ?_
        rotate_left
        ·
         simp only [Act.put, List.setIfInBounds_toArray, List.set_cons_zero, List.set_cons_succ, i64_w, i32_w]
         rfl
        refine pure_ (i := 16) (N := some 56) (v := undef) (a' := ?_) #[true, true, true, true, true, true, true, true, true, true, true, true, true, true, true, true, true, false, false, false, false, false, false, false, false, false, false] rfl rfl (any_of HT_.out (by kernel_rfl)) (fun _ _ _ h => h) (Or.inr ⟨by rfl, rfl⟩) ?_ ?_
        rotate_left
        ·
         simp only [Act.put, List.setIfInBounds_toArray, List.set_cons_zero, List.set_cons_succ, i64_w, i32_w]
         rfl
        refine pure_ (i := 17) (N := some 57) (v := undef) (a' := ?_) #[true, true, true, true, true, true, true, true, true, true, true, true, true, true, true, true, true, true, false, false, false, false, false, false, false, false, false] rfl rfl (any_of HT_.out (by kernel_rfl)) (fun _ _ _ h => h) (Or.inr ⟨by rfl, rfl⟩) ?_ ?_
        rotate_left
        ·
         simp only [Act.put, List.setIfInBounds_toArray, List.set_cons_zero, List.set_cons_succ, i64_w, i32_w]
         rfl
        refine pure_ (i := 18) (N := some 58) (v := undef) (a' := ?_) #[true, true, true, true, true, true, true, true, true, true, true, true, true, true, true, true, true, true, true, false, false, false, false, false, false, false, false] rfl rfl (any_of HT_.out (by kernel_rfl)) (fun _ _ _ h => h) (Or.inr ⟨by rfl, rfl⟩) ?_ ?_
        rotate_left
        ·
         simp only [Act.put, List.setIfInBounds_toArray, List.set_cons_zero, List.set_cons_succ, i64_w, i32_w]
         rfl
        refine pure_ (i := 19) (N := some 59) (v := undef) (a' := ?_) #[true, true, true, true, true, true, true, true, true, true, true, true, true, true, true, true, true, true, true, true, false, false, false, false, false, false, false] rfl rfl (any_of HT_.out (by kernel_rfl)) (fun _ _ _ h => h) (Or.inr ⟨by rfl, rfl⟩) ?_ ?_
        rotate_left
        ·
         simp only [Act.put, List.setIfInBounds_toArray, List.set_cons_zero, List.set_cons_succ, i64_w, i32_w]
         rfl
        refine pure_ (i := 20) (N := some 60) (v := undef) (a' := ?_) #[true, true, true, true, true, true, true, true, true, true, true, true, true, true, true, true, true, true, true, true, true, false, false, false, false, false, false] rfl rfl (any_of HT_.out (by kernel_rfl)) (fun _ _ _ h => h) (Or.inr ⟨by rfl, rfl⟩) ?_ ?_
        rotate_left
        ·
         simp only [Act.put, List.setIfInBounds_toArray, List.set_cons_zero, List.set_cons_succ, i64_w, i32_w]
         rfl
        refine pure_ (i := 21) (N := some 61) (v := undef) (a' := ?_) #[true, true, true, true, true, true, true, true, true, true, true, true, true, true, true, true, true, true, true, true, true, true, false, false, false, false, false] rfl rfl (any_of HT_.out (by kernel_rfl)) (fun _ _ _ h => h) (Or.inr ⟨by rfl, rfl⟩) ?_ ?_
        rotate_left
        ·
         simp only [Act.put, List.setIfInBounds_toArray, List.set_cons_zero, List.set_cons_succ, i64_w, i32_w]
         rfl
        refine pure_ (i := 22) (N := some 62) (v := undef) (a' := ?_) #[true, true, true, true, true, true, true, true, true, true, true, true, true, true, true, true, true, true, true, true, true, true, true, false, false, false, false] rfl rfl (any_of HT_.out (by kernel_rfl)) (fun _ _ _ h => h) (Or.inr ⟨by rfl, rfl⟩) ?_ ?_
        rotate_left
        ·
         simp only [Act.put, List.setIfInBounds_toArray, List.set_cons_zero, List.set_cons_succ, i64_w, i32_w]
         rfl
        refine pure_ (i := 23) (N := some 63) (v := undef) (a' := ?_) #[true, true, true, true, true, true, true, true, true, true, true, true, true, true, true, true, true, true, true, true, true, true, true, true, false, false, false] rfl rfl (any_of HT_.out (by kernel_rfl)) (fun _ _ _ h => h) (Or.inr ⟨by rfl, rfl⟩) ?_ ?_
        rotate_left
        ·
         simp only [Act.put, List.setIfInBounds_toArray, List.set_cons_zero, List.set_cons_succ, i64_w, i32_w]
         rfl
        refine pure_ (i := 24) (N := some 64) (v := undef) (a' := ?_) #[true, true, true, true, true, true, true, true, true, true, true, true, true, true, true, true, true, true, true, true, true, true, true, true, true, false, false] rfl rfl (any_of HT_.out (by kernel_rfl)) (fun _ _ _ h => h) (Or.inr ⟨by rfl, rfl⟩) ?_ ?_
        rotate_left
        ·
         simp only [Act.put, List.setIfInBounds_toArray, List.set_cons_zero, List.set_cons_succ, i64_w, i32_w]
         rfl
        refine pure_ (i := 25) (N := some 65) (v := undef) (a' := ?_) #[true, true, true, true, true, true, true, true, true, true, true, true, true, true, true, true, true, true, true, true, true, true, true, true, true, true, false] rfl rfl (any_of HT_.out (by kernel_rfl)) (fun _ _ _ h => h) (Or.inr ⟨by rfl, rfl⟩) ?_ ?_
        rotate_left
        ·
         simp only [Act.put, List.setIfInBounds_toArray, List.set_cons_zero, List.set_cons_succ, i64_w, i32_w]
         rfl
        refine Hd.p_ HT_ 26 (some 66) #[true, true, true, true, true, true, true, true, true, true, true, true, true, true, true, true, true, true, true, true, true, true, true, true, true, true, true] ?_
        refine done_ (done_of HT_.out (by kernel_rfl)) ?_
        try go_wp2
        go_meet
        case rel => exact ⟨_, (true), (by first | rfl | (simp; done) | (simp [*]; done)), H', ⟨by have := HJ5.out; first | omega | exact Nat.le_refl _⟩, ⟨by (with_reducible repeat (first | apply Kd.S_alloc | apply Kd.S_drewN | apply Kd.S_drew)); exact Kd.S_mono HO_4.out (fun _ hk => hk.2)⟩, ⟨by (with_reducible repeat (first | apply Kd.R_alloc | apply Kd.R_drewN | apply Kd.R_drew)); exact Kd.R_mono HO_6.out (fun _ hk => trivial)⟩, ⟨Hd.b_⟩⟩
      case rest =>
       clear HC27
       try clear p2
       try clear c3
       try clear c4
       try clear p4
       try clear q4
       try clear hx4
       try clear qi4
       try clear c5
       try clear p6
       try clear c30
       try clear c31
       try clear c32
       try clear c33
       try clear c33b0
       try clear c38
       try clear c38b0
       try clear c39
       try clear c39b0
       try clear c41
       try clear c41b0
       try clear c42
       try clear c42b0
       try clear p42
       try clear q42
       try clear hx42
       try clear qi42
       try clear hx426_0
       try clear hx426_1
       try clear hx427_0
       try clear hx427_1
       try clear hx428_0
       try clear hx428_1
       try clear hx429_0
       try clear hx429_1
       try clear p426
       try clear p427
       try clear p428
       try clear p429
       try clear q426
       try clear q427
       try clear q428
       try clear q429
       obtain ⟨kq, x66_26, rfl, HA, HJ26, HO_4, HO_6, HB⟩ := hcut
       cases kq with
       | zero => exact absurd HA.out (by simp [laws_FnSafe.j1])
       | succ kj26 =>
        have H := HA.out
        clear HA
        simp only [laws_FnSafe.j1] at H
        by_cases c49 : x66_26 = true
        ·
         subst c49
         have H1 : (some false) = some r := by rw [if_pos rfl] at H; exact H
         clear H
         have H := H1
         clear H1
         obtain rfl := Option.some.inj H
         go_wp2
         go_ret
         exact ⟨Hd.e_, Hd.b_⟩
        ·
         replace c49 := Bool.eq_false_iff.mpr c49
         subst c49
         have H1 : (laws_FnSafe.l0 kj26 l0 t407 t408 t413 1) = some r := by rw [if_neg (show ¬ (false = true) by decide)] at H; exact H
         clear H
         have H := H1
         clear H1
         have H' := Aside0.mk H
         clear H
         go_wp2
         go_loopg [7] kj26 (fun kq v7 w' => ∃ (x7_3 : Int), v7 = .int .i64 x7_3 ∧ Aside0 (laws_FnSafe.l0 kq l0 t407 t408 t413 x7_3 = some r) ∧ Aside0 (kq ≤ kj26) ∧ Aside0 (Kd.S (Kd.slice 27 k27) 24 w' w.heap.size (fun k_ => some k_ ≠ (v414 : Value).ownBlock) (.slice Ao9 t407.length co9) t407) ∧ Aside0 (Kd.R k27 27 w' w.heap.size (fun _ => True) v414 t413) ∧ Aside0 (Below w.heap.size w w'))
         case atStart => exact ⟨(1), (by first | rfl | (simp; done) | (simp [*]; done)), H', ⟨Nat.le_refl _⟩, ⟨by (with_reducible repeat (first | apply Kd.S_alloc | apply Kd.S_drewN | apply Kd.S_drew)); exact HO_4.out⟩, ⟨by (with_reducible repeat (first | apply Kd.R_alloc | apply Kd.R_drewN | apply Kd.R_drew)); exact HO_6.out⟩, ⟨Hd.b_⟩⟩
         case round =>
          clear H'
          try clear p2
          try clear c3
          try clear c4
          try clear p4
          try clear q4
          try clear hx4
          try clear qi4
          try clear c5
          try clear p6
          try clear c30
          try clear c31
          try clear c32
          try clear c33
          try clear c33b0
          try clear c38
          try clear c38b0
          try clear c39
          try clear c39b0
          try clear c41
          try clear c41b0
          try clear c42
          try clear c42b0
          try clear p42
          try clear q42
          try clear hx42
          try clear qi42
          try clear c49
          try clear hx426_0
          try clear hx426_1
          try clear hx427_0
          try clear hx427_1
          try clear hx428_0
          try clear hx428_1
          try clear hx429_0
          try clear hx429_1
          try clear p2
          try clear p4
          try clear p42
          try clear p426
          try clear p427
          try clear p428
          try clear p429
          try clear p6
          try clear q4
          try clear q42
          try clear q426
          try clear q427
          try clear q428
          try clear q429
          obtain ⟨x7_3, rfl, HA, HK3, HO_4, HO_6, HB⟩ := hrel
          cases gk with
          | zero => exact absurd HA.out (by simp [laws_FnSafe.l0])
          | succ k3 =>
           have H := HA.out
           clear HA
           simp only [laws_FnSafe.l0] at H
           by_cases c50 : (wrap64 (x7_3 + 1)) < (t413.length : Int)
           ·
            rw [if_pos c50] at H
            have c50b0 : decide ((wrap64 (x7_3 + 1)) < (t413.length : Int)) = true := decide_eq_true c50
            clear c50
            replace H := Option.bind_eq_some_iff.mp H
            obtain ⟨t439, A510, H⟩ := H
            replace H : (if t439 < t408 then ((impl_CanDrop.f k3 t413 x7_3 t407).bind fun t440 => (if t440 = true then (some false) else (laws_FnSafe.l0 k3 l0 t407 t408 t413 (wrap64 (x7_3 + 1))))) else (laws_FnSafe.l0 k3 l0 t407 t408 t413 (wrap64 (x7_3 + 1)))) = some r := H
            have A51 := Aside0.mk A510
            clear A510
            by_cases c52 : t439 < t408
            ·
             rw [if_pos c52] at H
             have c52b0 : decide (t439 < t408) = true := decide_eq_true c52
             clear c52
             replace H := Option.bind_eq_some_iff.mp H
             obtain ⟨t440, A530, H⟩ := H
             replace H : (if t440 = true then (some false) else (laws_FnSafe.l0 k3 l0 t407 t408 t413 (wrap64 (x7_3 + 1)))) = some r := H
             have A53 := Aside0.mk A530
             clear A530
             by_cases c54 : t440 = true
             ·
              subst c54
              have H1 : (some false) = some r := by rw [if_pos rfl] at H; exact H
              clear H
              have H := H1
              clear H1
              obtain rfl := Option.some.inj H
              obtain ⟨Ao55, co55, eo55⟩ := Kd.R_slice HO_6.out
              subst eo55
              go_wp2_with (first | ((with_reducible refine gate_callee (f := 52) rfl ?_); refine goesL_ (some 76) rfl rfl Try.func52 (by kernel_rfl) rfl #[.slice Ao55 t413.length co55, .int .i64 x7_3] rfl Hd.m_ ?_; (with_reducible refine (impl_CornerArea.calls k3 _ _ t413 x7_3 t439 _ ?side1 ?side2 A51.out).mono ?_); (case side1 => repeat (first | exact (Kd.R_reads' HO_6.out).2.2 | (with_reducible refine Kd.C_alloc ?_ _) | (with_reducible refine Kd.C_drewN ?_ _) | (with_reducible refine Kd.C_drew ?_))); (case side2 => exact (Kd.R_reads' HO_6.out).2.1); rintro e w56 ⟨rfl, hb⟩; refine ⟨_, rfl, ?_⟩; replace HO_4 := Aside0.mk (Kd.S_below (by (with_reducible repeat (first | apply Kd.S_alloc | apply Kd.S_drewN | apply Kd.S_drew)); exact HO_4.out) hb); replace HO_6 := Aside0.mk (Kd.R_below (Hd.r_ HO_6) hb); replace HB := Aside0.mk (below_step Hd.b_ hb); (try clear hb); (try clear hb2); (try clear hk); (try clear hi)) | (go_at_call 53; (with_reducible refine (impl_CanDrop.calls k3 _ _ t413 x7_3 _ _ t407 true _ ?side1 ?side2 ?side3 ?side4 A53.out).mono ?_); (case side1 => repeat (first | exact (Kd.R_reads' HO_6.out).2.2 | (with_reducible refine Kd.C_alloc ?_ _) | (with_reducible refine Kd.C_drewN ?_ _) | (with_reducible refine Kd.C_drew ?_))); (case side2 => exact (Kd.R_reads' HO_6.out).2.1); (case side3 => repeat (first | exact (Kd.S_reads' HO_4.out).2.2 | (with_reducible refine Kd.C_alloc ?_ _) | (with_reducible refine Kd.C_drewN ?_ _) | (with_reducible refine Kd.C_drew ?_))); (case side4 => exact (Kd.S_reads' HO_4.out).2.1); rintro e w57 ⟨rfl, hb⟩; replace HO_4 := Aside0.mk (Kd.S_below (by (with_reducible repeat (first | apply Kd.S_alloc | apply Kd.S_drewN | apply Kd.S_drew)); exact HO_4.out) hb); replace HO_6 := Aside0.mk (Kd.R_below (Hd.r_ HO_6) hb); replace HB := Aside0.mk (below_step Hd.b_ hb); (try clear hb); (try clear hb2); (try clear hk); (try clear hi)))
              go_ret
              exact ⟨Hd.e_, Hd.b_⟩
             ·
              replace c54 := Bool.eq_false_iff.mpr c54
              subst c54
              have H1 : (laws_FnSafe.l0 k3 l0 t407 t408 t413 (wrap64 (x7_3 + 1))) = some r := by rw [if_neg (show ¬ (false = true) by decide)] at H; exact H
              clear H
              have H := H1
              clear H1
              have H' := Aside0.mk H
              clear H
              obtain ⟨Ao58, co58, eo58⟩ := Kd.R_slice HO_6.out
              subst eo58
              go_wp2_with (first | ((with_reducible refine gate_callee (f := 52) rfl ?_); refine goesL_ (some 76) rfl rfl Try.func52 (by kernel_rfl) rfl #[.slice Ao58 t413.length co58, .int .i64 x7_3] rfl Hd.m_ ?_; (with_reducible refine (impl_CornerArea.calls k3 _ _ t413 x7_3 t439 _ ?side1 ?side2 A51.out).mono ?_); (case side1 => repeat (first | exact (Kd.R_reads' HO_6.out).2.2 | (with_reducible refine Kd.C_alloc ?_ _) | (with_reducible refine Kd.C_drewN ?_ _) | (with_reducible refine Kd.C_drew ?_))); (case side2 => exact (Kd.R_reads' HO_6.out).2.1); rintro e w59 ⟨rfl, hb⟩; refine ⟨_, rfl, ?_⟩; replace HO_4 := Aside0.mk (Kd.S_below (by (with_reducible repeat (first | apply Kd.S_alloc | apply Kd.S_drewN | apply Kd.S_drew)); exact HO_4.out) hb); replace HO_6 := Aside0.mk (Kd.R_below (Hd.r_ HO_6) hb); replace HB := Aside0.mk (below_step Hd.b_ hb); (try clear hb); (try clear hb2); (try clear hk); (try clear hi)) | (go_at_call 53; (with_reducible refine (impl_CanDrop.calls k3 _ _ t413 x7_3 _ _ t407 false _ ?side1 ?side2 ?side3 ?side4 A53.out).mono ?_); (case side1 => repeat (first | exact (Kd.R_reads' HO_6.out).2.2 | (with_reducible refine Kd.C_alloc ?_ _) | (with_reducible refine Kd.C_drewN ?_ _) | (with_reducible refine Kd.C_drew ?_))); (case side2 => exact (Kd.R_reads' HO_6.out).2.1); (case side3 => repeat (first | exact (Kd.S_reads' HO_4.out).2.2 | (with_reducible refine Kd.C_alloc ?_ _) | (with_reducible refine Kd.C_drewN ?_ _) | (with_reducible refine Kd.C_drew ?_))); (case side4 => exact (Kd.S_reads' HO_4.out).2.1); rintro e w60 ⟨rfl, hb⟩; replace HO_4 := Aside0.mk (Kd.S_below (by (with_reducible repeat (first | apply Kd.S_alloc | apply Kd.S_drewN | apply Kd.S_drew)); exact HO_4.out) hb); replace HO_6 := Aside0.mk (Kd.R_below (Hd.r_ HO_6) hb); replace HB := Aside0.mk (below_step Hd.b_ hb); (try clear hb); (try clear hb2); (try clear hk); (try clear hi)))
              go_roundg k3
              case measure => have := HJ5.out; have := HJ26.out; have := HK3.out; omega
              case rel => exact ⟨(wrap64 (x7_3 + 1)), (by first | rfl | (simp; done) | (simp [*]; done)), H', ⟨by have := HJ5.out; have := HJ26.out; have := HK3.out; omega⟩, ⟨by (with_reducible repeat (first | apply Kd.S_alloc | apply Kd.S_drewN | apply Kd.S_drew)); exact HO_4.out⟩, ⟨by (with_reducible repeat (first | apply Kd.R_alloc | apply Kd.R_drewN | apply Kd.R_drew)); exact HO_6.out⟩, ⟨Hd.b_⟩⟩
            ·
             rw [if_neg c52] at H
             have c52b0 : decide (t439 < t408) = false := decide_eq_false c52
             clear c52
             have H' := Aside0.mk H
             clear H
             obtain ⟨Ao61, co61, eo61⟩ := Kd.R_slice HO_6.out
             subst eo61
             go_wp2_with (first | ((with_reducible refine gate_callee (f := 52) rfl ?_); refine goesL_ (some 76) rfl rfl Try.func52 (by kernel_rfl) rfl #[.slice Ao61 t413.length co61, .int .i64 x7_3] rfl Hd.m_ ?_; (with_reducible refine (impl_CornerArea.calls k3 _ _ t413 x7_3 t439 _ ?side1 ?side2 A51.out).mono ?_); (case side1 => repeat (first | exact (Kd.R_reads' HO_6.out).2.2 | (with_reducible refine Kd.C_alloc ?_ _) | (with_reducible refine Kd.C_drewN ?_ _) | (with_reducible refine Kd.C_drew ?_))); (case side2 => exact (Kd.R_reads' HO_6.out).2.1); rintro e w62 ⟨rfl, hb⟩; refine ⟨_, rfl, ?_⟩; replace HO_4 := Aside0.mk (Kd.S_below (by (with_reducible repeat (first | apply Kd.S_alloc | apply Kd.S_drewN | apply Kd.S_drew)); exact HO_4.out) hb); replace HO_6 := Aside0.mk (Kd.R_below (Hd.r_ HO_6) hb); replace HB := Aside0.mk (below_step Hd.b_ hb); (try clear hb); (try clear hb2); (try clear hk); (try clear hi)))
             go_roundg k3
             case measure => have := HJ5.out; have := HJ26.out; have := HK3.out; omega
             case rel => exact ⟨(wrap64 (x7_3 + 1)), (by first | rfl | (simp; done) | (simp [*]; done)), H', ⟨by have := HJ5.out; have := HJ26.out; have := HK3.out; omega⟩, ⟨by (with_reducible repeat (first | apply Kd.S_alloc | apply Kd.S_drewN | apply Kd.S_drew)); exact HO_4.out⟩, ⟨by (with_reducible repeat (first | apply Kd.R_alloc | apply Kd.R_drewN | apply Kd.R_drew)); exact HO_6.out⟩, ⟨Hd.b_⟩⟩
           ·
            rw [if_neg c50] at H
            have c50b0 : decide ((wrap64 (x7_3 + 1)) < (t413.length : Int)) = false := decide_eq_false c50
            clear c50
            replace H := Option.bind_eq_some_iff.mp H
            obtain ⟨⟨t430, t431⟩, A630, H⟩ := H
            replace H : ((impl_DropPoint.f k3 t430 t431).bind fun bt434 => (if bt434.2 = true then (if (bt434.1.length : Int) = (wrap64 ((t430.length : Int) - 1)) then ((impl_IsPartOf.f k3 bt434.1 t430).bind fun t438 => (some t438)) else (some false)) else (some true))) = some r := H
            have A63 := Aside0.mk A630
            clear A630
            replace H := Option.bind_eq_some_iff.mp H
            obtain ⟨⟨t434, t435⟩, A640, H⟩ := H
            replace H : (if t435 = true then (if (t434.length : Int) = (wrap64 ((t430.length : Int) - 1)) then ((impl_IsPartOf.f k3 t434 t430).bind fun t438 => (some t438)) else (some false)) else (some true)) = some r := H
            have A64 := Aside0.mk A640
            clear A640
            by_cases c65 : t435 = true
            ·
             subst c65
             have H1 : (if (t434.length : Int) = (wrap64 ((t430.length : Int) - 1)) then ((impl_IsPartOf.f k3 t434 t430).bind fun t438 => (some t438)) else (some false)) = some r := by rw [if_pos rfl] at H; exact H
             clear H
             have H := H1
             clear H1
             by_cases c66 : (t434.length : Int) = (wrap64 ((t430.length : Int) - 1))
             ·
              rw [if_pos c66] at H
              have c66b0 : ((t434.length : Int) == (wrap64 ((t430.length : Int) - 1))) = true := beq_iff_eq.mpr c66
              have c66b1 : ((t434.length : Int) != (wrap64 ((t430.length : Int) - 1))) = false := bne_eq_false_iff_eq.mpr c66
              clear c66
              replace H := Option.bind_eq_some_iff.mp H
              obtain ⟨t438, A670, H⟩ := H
              replace H : (some t438) = some r := H
              have A67 := Aside0.mk A670
              clear A670
              obtain rfl := Option.some.inj H
              obtain ⟨Ao68, co68, eo68⟩ := Kd.R_slice HO_6.out
              subst eo68
              go_wp2_with (first | ((with_reducible refine gate_callee (f := 55) rfl ?_); refine goesL_ (some 91) rfl rfl Try.func55 (by kernel_rfl) rfl #[.slice A0 l0.length c0] rfl Hd.m_ ?_; (with_reducible refine (spec_DrawDropPoint.calls k3 _ _ l0 t430 t431 _ ?side1 ?side2 A63.out).mono ?_); (case side1 => repeat (first | exact (Kd.C_below HR0.out HB.out) | (with_reducible refine Kd.C_alloc ?_ _) | (with_reducible refine Kd.C_drewN ?_ _) | (with_reducible refine Kd.C_drew ?_))); (case side2 => exact HC0.out); rintro e w69 ⟨v432, rfl, ho0, hb⟩; refine ⟨_, rfl, ?_⟩; replace HO_4 := Aside0.mk (Kd.S_elder' (by (with_reducible repeat (first | apply Kd.S_alloc | apply Kd.S_drewN | apply Kd.S_drew)); exact HO_4.out) (Kd.R_base ho0) hb); have HO433 := Aside0.mk (Kd.R_lower (Kd.R_new' ho0 (Kd.R_lt (Hd.r_ HO_6))) (below_size Hd.b_)); replace HO_6 := Aside0.mk (Kd.R_elder' (Hd.r_ HO_6) (Kd.R_base ho0) hb); replace HB := Aside0.mk (below_step Hd.b_ hb); (try clear hb); (try clear hb2); (try clear hk); (try clear hi); (try clear ho0); obtain ⟨Ao70, co70, eo70⟩ := Kd.R_slice HO433.out; subst eo70) | ((with_reducible refine gate_callee (f := 56) rfl ?_); refine goesL_ (some 97) rfl rfl Try.func56 (by kernel_rfl) rfl #[.slice Ao70 t430.length co70, .int .i64 t431] rfl Hd.m_ ?_; (with_reducible refine (impl_DropPoint.calls k3 _ _ t430 t431 t434 true _ ?side1 ?side2 A64.out).mono ?_); (case side1 => repeat (first | exact (Kd.R_reads' HO433.out).2.2 | (with_reducible refine Kd.C_alloc ?_ _) | (with_reducible refine Kd.C_drewN ?_ _) | (with_reducible refine Kd.C_drew ?_))); (case side2 => exact (Kd.R_reads' HO433.out).2.1); rintro e w71 ⟨v436, rfl, ho0, hb⟩; refine ⟨_, rfl, ?_⟩; replace HO_4 := Aside0.mk (Kd.S_elder' (by (with_reducible repeat (first | apply Kd.S_alloc | apply Kd.S_drewN | apply Kd.S_drew)); exact HO_4.out) (Kd.R_base ho0) hb); have HO437 := Aside0.mk (Kd.R_lower (Kd.R_new' (Kd.R_new' ho0 (Kd.R_lt (Hd.r_ HO_6))) (Kd.R_lt (Hd.r_ HO433))) (below_size Hd.b_)); replace HO_6 := Aside0.mk (Kd.R_elder' (Hd.r_ HO_6) (Kd.R_base ho0) hb); replace HO433 := Aside0.mk (Kd.R_elder' (Hd.r_ HO433) (Kd.R_base ho0) hb); replace HB := Aside0.mk (below_step Hd.b_ hb); (try clear hb); (try clear hb2); (try clear hk); (try clear hi); (try clear ho0); obtain ⟨Ao72, co72, eo72⟩ := Kd.R_slice HO437.out; subst eo72) | (go_at_call 32; (with_reducible refine (impl_IsPartOf.calls k3 _ _ t434 _ _ t430 t438 _ ?side1 ?side2 ?side3 ?side4 A67.out).mono ?_); (case side1 => repeat (first | exact (Kd.R_reads' HO437.out).2.2 | (with_reducible refine Kd.C_alloc ?_ _) | (with_reducible refine Kd.C_drewN ?_ _) | (with_reducible refine Kd.C_drew ?_))); (case side2 => exact (Kd.R_reads' HO437.out).2.1); (case side3 => repeat (first | exact (Kd.R_reads' HO433.out).2.2 | (with_reducible refine Kd.C_alloc ?_ _) | (with_reducible refine Kd.C_drewN ?_ _) | (with_reducible refine Kd.C_drew ?_))); (case side4 => exact (Kd.R_reads' HO433.out).2.1); rintro e w73 ⟨rfl, hb⟩; replace HO_4 := Aside0.mk (Kd.S_below (by (with_reducible repeat (first | apply Kd.S_alloc | apply Kd.S_drewN | apply Kd.S_drew)); exact HO_4.out) hb); replace HO_6 := Aside0.mk (Kd.R_below (Hd.r_ HO_6) hb); replace HO433 := Aside0.mk (Kd.R_below (Hd.r_ HO433) hb); replace HO437 := Aside0.mk (Kd.R_below (Hd.r_ HO437) hb); replace HB := Aside0.mk (below_step Hd.b_ hb); (try clear hb); (try clear hb2); (try clear hk); (try clear hi)))
              go_ret
              exact ⟨Hd.e_, Hd.b_⟩
             ·
              rw [if_neg c66] at H
              have c66b0 : ((t434.length : Int) == (wrap64 ((t430.length : Int) - 1))) = false := beq_eq_false_iff_ne.mpr c66
              have c66b1 : ((t434.length : Int) != (wrap64 ((t430.length : Int) - 1))) = true := bne_iff_ne.mpr c66
              obtain rfl := Option.some.inj H
              obtain ⟨Ao74, co74, eo74⟩ := Kd.R_slice HO_6.out
              subst eo74
              go_wp2_with (first | ((with_reducible refine gate_callee (f := 55) rfl ?_); refine goesL_ (some 91) rfl rfl Try.func55 (by kernel_rfl) rfl #[.slice A0 l0.length c0] rfl Hd.m_ ?_; (with_reducible refine (spec_DrawDropPoint.calls k3 _ _ l0 t430 t431 _ ?side1 ?side2 A63.out).mono ?_); (case side1 => repeat (first | exact (Kd.C_below HR0.out HB.out) | (with_reducible refine Kd.C_alloc ?_ _) | (with_reducible refine Kd.C_drewN ?_ _) | (with_reducible refine Kd.C_drew ?_))); (case side2 => exact HC0.out); rintro e w75 ⟨v432, rfl, ho0, hb⟩; refine ⟨_, rfl, ?_⟩; replace HO_4 := Aside0.mk (Kd.S_elder' (by (with_reducible repeat (first | apply Kd.S_alloc | apply Kd.S_drewN | apply Kd.S_drew)); exact HO_4.out) (Kd.R_base ho0) hb); have HO433 := Aside0.mk (Kd.R_lower (Kd.R_new' ho0 (Kd.R_lt (Hd.r_ HO_6))) (below_size Hd.b_)); replace HO_6 := Aside0.mk (Kd.R_elder' (Hd.r_ HO_6) (Kd.R_base ho0) hb); replace HB := Aside0.mk (below_step Hd.b_ hb); (try clear hb); (try clear hb2); (try clear hk); (try clear hi); (try clear ho0); obtain ⟨Ao76, co76, eo76⟩ := Kd.R_slice HO433.out; subst eo76) | ((with_reducible refine gate_callee (f := 56) rfl ?_); refine goesL_ (some 97) rfl rfl Try.func56 (by kernel_rfl) rfl #[.slice Ao76 t430.length co76, .int .i64 t431] rfl Hd.m_ ?_; (with_reducible refine (impl_DropPoint.calls k3 _ _ t430 t431 t434 true _ ?side1 ?side2 A64.out).mono ?_); (case side1 => repeat (first | exact (Kd.R_reads' HO433.out).2.2 | (with_reducible refine Kd.C_alloc ?_ _) | (with_reducible refine Kd.C_drewN ?_ _) | (with_reducible refine Kd.C_drew ?_))); (case side2 => exact (Kd.R_reads' HO433.out).2.1); rintro e w77 ⟨v436, rfl, ho0, hb⟩; refine ⟨_, rfl, ?_⟩; replace HO_4 := Aside0.mk (Kd.S_elder' (by (with_reducible repeat (first | apply Kd.S_alloc | apply Kd.S_drewN | apply Kd.S_drew)); exact HO_4.out) (Kd.R_base ho0) hb); have HO437 := Aside0.mk (Kd.R_lower (Kd.R_new' (Kd.R_new' ho0 (Kd.R_lt (Hd.r_ HO_6))) (Kd.R_lt (Hd.r_ HO433))) (below_size Hd.b_)); replace HO_6 := Aside0.mk (Kd.R_elder' (Hd.r_ HO_6) (Kd.R_base ho0) hb); replace HO433 := Aside0.mk (Kd.R_elder' (Hd.r_ HO433) (Kd.R_base ho0) hb); replace HB := Aside0.mk (below_step Hd.b_ hb); (try clear hb); (try clear hb2); (try clear hk); (try clear hi); (try clear ho0); obtain ⟨Ao78, co78, eo78⟩ := Kd.R_slice HO437.out; subst eo78))
              go_ret
              exact ⟨Hd.e_, Hd.b_⟩
            ·
             replace c65 := Bool.eq_false_iff.mpr c65
             subst c65
             have H1 : (some true) = some r := by rw [if_neg (show ¬ (false = true) by decide)] at H; exact H
             clear H
             have H := H1
             clear H1
             obtain rfl := Option.some.inj H
             obtain ⟨Ao79, co79, eo79⟩ := Kd.R_slice HO_6.out
             subst eo79
             go_wp2_with (first | ((with_reducible refine gate_callee (f := 55) rfl ?_); refine goesL_ (some 91) rfl rfl Try.func55 (by kernel_rfl) rfl #[.slice A0 l0.length c0] rfl Hd.m_ ?_; (with_reducible refine (spec_DrawDropPoint.calls k3 _ _ l0 t430 t431 _ ?side1 ?side2 A63.out).mono ?_); (case side1 => repeat (first | exact (Kd.C_below HR0.out HB.out) | (with_reducible refine Kd.C_alloc ?_ _) | (with_reducible refine Kd.C_drewN ?_ _) | (with_reducible refine Kd.C_drew ?_))); (case side2 => exact HC0.out); rintro e w80 ⟨v432, rfl, ho0, hb⟩; refine ⟨_, rfl, ?_⟩; replace HO_4 := Aside0.mk (Kd.S_elder' (by (with_reducible repeat (first | apply Kd.S_alloc | apply Kd.S_drewN | apply Kd.S_drew)); exact HO_4.out) (Kd.R_base ho0) hb); have HO433 := Aside0.mk (Kd.R_lower (Kd.R_new' ho0 (Kd.R_lt (Hd.r_ HO_6))) (below_size Hd.b_)); replace HO_6 := Aside0.mk (Kd.R_elder' (Hd.r_ HO_6) (Kd.R_base ho0) hb); replace HB := Aside0.mk (below_step Hd.b_ hb); (try clear hb); (try clear hb2); (try clear hk); (try clear hi); (try clear ho0); obtain ⟨Ao81, co81, eo81⟩ := Kd.R_slice HO433.out; subst eo81) | ((with_reducible refine gate_callee (f := 56) rfl ?_); refine goesL_ (some 97) rfl rfl Try.func56 (by kernel_rfl) rfl #[.slice Ao81 t430.length co81, .int .i64 t431] rfl Hd.m_ ?_; (with_reducible refine (impl_DropPoint.calls k3 _ _ t430 t431 t434 false _ ?side1 ?side2 A64.out).mono ?_); (case side1 => repeat (first | exact (Kd.R_reads' HO433.out).2.2 | (with_reducible refine Kd.C_alloc ?_ _) | (with_reducible refine Kd.C_drewN ?_ _) | (with_reducible refine Kd.C_drew ?_))); (case side2 => exact (Kd.R_reads' HO433.out).2.1); rintro e w82 ⟨v436, rfl, ho0, hb⟩; refine ⟨_, rfl, ?_⟩; replace HO_4 := Aside0.mk (Kd.S_elder' (by (with_reducible repeat (first | apply Kd.S_alloc | apply Kd.S_drewN | apply Kd.S_drew)); exact HO_4.out) (Kd.R_base ho0) hb); have HO437 := Aside0.mk (Kd.R_lower (Kd.R_new' (Kd.R_new' ho0 (Kd.R_lt (Hd.r_ HO_6))) (Kd.R_lt (Hd.r_ HO433))) (below_size Hd.b_)); replace HO_6 := Aside0.mk (Kd.R_elder' (Hd.r_ HO_6) (Kd.R_base ho0) hb); replace HO433 := Aside0.mk (Kd.R_elder' (Hd.r_ HO433) (Kd.R_base ho0) hb); replace HB := Aside0.mk (below_step Hd.b_ hb); (try clear hb); (try clear hb2); (try clear hk); (try clear hi); (try clear ho0)))
             go_ret
             exact ⟨Hd.e_, Hd.b_⟩
     ·
      replace c26 := Bool.eq_false_iff.mpr c26
      subst c26
      have H1 : ((impl_EqualLines.f kj5 t413 t406).bind fun t441 => (if t441 = true then ((spec_DrawDropPoint.f kj5 l0).bind fun bt442 => ((impl_DropPoint.f kj5 bt442.1 bt442.2).bind fun bt446 => (if bt446.2 = true then (if (bt446.1.length : Int) = (wrap64 ((bt442.1.length : Int) - 1)) then ((impl_IsPartOf.f kj5 bt446.1 bt442.1).bind fun t450 => (some t450)) else (some false)) else (some true)))) else (some false))) = some r := by rw [if_neg (show ¬ (false = true) by decide)] at H; exact H
      clear H
      have H := H1
      clear H1
      replace H := Option.bind_eq_some_iff.mp H
      obtain ⟨t441, A830, H⟩ := H
      replace H : (if t441 = true then ((spec_DrawDropPoint.f kj5 l0).bind fun bt442 => ((impl_DropPoint.f kj5 bt442.1 bt442.2).bind fun bt446 => (if bt446.2 = true then (if (bt446.1.length : Int) = (wrap64 ((bt442.1.length : Int) - 1)) then ((impl_IsPartOf.f kj5 bt446.1 bt442.1).bind fun t450 => (some t450)) else (some false)) else (some true)))) else (some false)) = some r := H
      have A83 := Aside0.mk A830
      clear A830
      by_cases c84 : t441 = true
      ·
       subst c84
       have H1 : ((spec_DrawDropPoint.f kj5 l0).bind fun bt442 => ((impl_DropPoint.f kj5 bt442.1 bt442.2).bind fun bt446 => (if bt446.2 = true then (if (bt446.1.length : Int) = (wrap64 ((bt442.1.length : Int) - 1)) then ((impl_IsPartOf.f kj5 bt446.1 bt442.1).bind fun t450 => (some t450)) else (some false)) else (some true)))) = some r := by rw [if_pos rfl] at H; exact H
       clear H
       have H := H1
       clear H1
       replace H := Option.bind_eq_some_iff.mp H
       obtain ⟨⟨t442, t443⟩, A850, H⟩ := H
       replace H : ((impl_DropPoint.f kj5 t442 t443).bind fun bt446 => (if bt446.2 = true then (if (bt446.1.length : Int) = (wrap64 ((t442.length : Int) - 1)) then ((impl_IsPartOf.f kj5 bt446.1 t442).bind fun t450 => (some t450)) else (some false)) else (some true))) = some r := H
       have A85 := Aside0.mk A850
       clear A850
       replace H := Option.bind_eq_some_iff.mp H
       obtain ⟨⟨t446, t447⟩, A860, H⟩ := H
       replace H : (if t447 = true then (if (t446.length : Int) = (wrap64 ((t442.length : Int) - 1)) then ((impl_IsPartOf.f kj5 t446 t442).bind fun t450 => (some t450)) else (some false)) else (some true)) = some r := H
       have A86 := Aside0.mk A860
       clear A860
       by_cases c87 : t447 = true
       ·
        subst c87
        have H1 : (if (t446.length : Int) = (wrap64 ((t442.length : Int) - 1)) then ((impl_IsPartOf.f kj5 t446 t442).bind fun t450 => (some t450)) else (some false)) = some r := by rw [if_pos rfl] at H; exact H
        clear H
        have H := H1
        clear H1
        by_cases c88 : (t446.length : Int) = (wrap64 ((t442.length : Int) - 1))
        ·
         rw [if_pos c88] at H
         have c88b0 : ((t446.length : Int) == (wrap64 ((t442.length : Int) - 1))) = true := beq_iff_eq.mpr c88
         have c88b1 : ((t446.length : Int) != (wrap64 ((t442.length : Int) - 1))) = false := bne_eq_false_iff_eq.mpr c88
         clear c88
         replace H := Option.bind_eq_some_iff.mp H
         obtain ⟨t450, A890, H⟩ := H
         replace H : (some t450) = some r := H
         have A89 := Aside0.mk A890
         clear A890
         obtain rfl := Option.some.inj H
         go_wp2_with (first | ((with_reducible refine gate_callee (f := 51) rfl ?_); refine goesL_ (some 39) rfl rfl Try.func51 (by kernel_rfl) rfl #[.slice Ao8 t406.length co8] rfl Hd.m_ ?_; (with_reducible refine (impl_IsSimple.calls kj5 _ _ t406 false _ ?side1 ?side2 A25.out).mono ?_); (case side1 => repeat (first | exact (Kd.R_reads' HO_3.out).2.2 | (with_reducible refine Kd.C_alloc ?_ _) | (with_reducible refine Kd.C_drewN ?_ _) | (with_reducible refine Kd.C_drew ?_))); (case side2 => exact (Kd.R_reads' HO_3.out).2.1); rintro e w90 ⟨rfl, hb⟩; refine ⟨_, rfl, ?_⟩; replace HO_3 := Aside0.mk (Kd.R_below (Hd.r_ HO_3) hb); replace HO_4 := Aside0.mk (Kd.S_below (by (with_reducible repeat (first | apply Kd.S_alloc | apply Kd.S_drewN | apply Kd.S_drew)); exact HO_4.out) hb); replace HO_6 := Aside0.mk (Kd.R_below (Hd.r_ HO_6) hb); replace HB := Aside0.mk (below_step Hd.b_ hb); (try clear hb); (try clear hb2); (try clear hk); (try clear hi); obtain ⟨Ao91, co91, eo91⟩ := Kd.R_slice HO_6.out; subst eo91) | ((with_reducible refine gate_callee (f := 54) rfl ?_); refine goesL_ (some 87) rfl rfl Try.func54 (by kernel_rfl) rfl #[.slice Ao91 t413.length co91, .slice Ao8 t406.length co8] rfl Hd.m_ ?_; (with_reducible refine (impl_EqualLines.calls kj5 _ _ t413 _ _ t406 true _ ?side1 ?side2 ?side3 ?side4 A83.out).mono ?_); (case side1 => repeat (first | exact (Kd.R_reads' HO_6.out).2.2 | (with_reducible refine Kd.C_alloc ?_ _) | (with_reducible refine Kd.C_drewN ?_ _) | (with_reducible refine Kd.C_drew ?_))); (case side2 => exact (Kd.R_reads' HO_6.out).2.1); (case side3 => repeat (first | exact (Kd.R_reads' HO_3.out).2.2 | (with_reducible refine Kd.C_alloc ?_ _) | (with_reducible refine Kd.C_drewN ?_ _) | (with_reducible refine Kd.C_drew ?_))); (case side4 => exact (Kd.R_reads' HO_3.out).2.1); rintro e w' ⟨rfl, ⟨nd, rfl⟩⟩; refine ⟨_, rfl, ?_⟩) | ((with_reducible refine gate_callee (f := 55) rfl ?_); refine goesL_ (some 91) rfl rfl Try.func55 (by kernel_rfl) rfl #[.slice A0 l0.length c0] rfl Hd.m_ ?_; (with_reducible refine (spec_DrawDropPoint.calls kj5 _ _ l0 t442 t443 _ ?side1 ?side2 A85.out).mono ?_); (case side1 => repeat (first | exact (Kd.C_below HR0.out Hd.b_) | (with_reducible refine Kd.C_alloc ?_ _) | (with_reducible refine Kd.C_drewN ?_ _) | (with_reducible refine Kd.C_drew ?_))); (case side2 => exact HC0.out); rintro e w92 ⟨v444, rfl, ho0, hb⟩; refine ⟨_, rfl, ?_⟩; replace HO_4 := Aside0.mk (Kd.S_elder' (by (with_reducible repeat (first | apply Kd.S_alloc | apply Kd.S_drewN | apply Kd.S_drew)); exact HO_4.out) (Kd.R_base ho0) hb); have HO445 := Aside0.mk (Kd.R_lower (Kd.R_new' (Kd.R_new' ho0 (Kd.R_lt (Hd.r_ HO_3))) (Kd.R_lt (Hd.r_ HO_6))) (below_size Hd.b_)); replace HO_3 := Aside0.mk (Kd.R_elder' (Hd.r_ HO_3) (Kd.R_base ho0) hb); replace HO_6 := Aside0.mk (Kd.R_elder' (Hd.r_ HO_6) (Kd.R_base ho0) hb); replace HB := Aside0.mk (below_step Hd.b_ hb); (try clear hb); (try clear hb2); (try clear hk); (try clear hi); (try clear ho0); obtain ⟨Ao93, co93, eo93⟩ := Kd.R_slice HO445.out; subst eo93) | ((with_reducible refine gate_callee (f := 56) rfl ?_); refine goesL_ (some 97) rfl rfl Try.func56 (by kernel_rfl) rfl #[.slice Ao93 t442.length co93, .int .i64 t443] rfl Hd.m_ ?_; (with_reducible refine (impl_DropPoint.calls kj5 _ _ t442 t443 t446 true _ ?side1 ?side2 A86.out).mono ?_); (case side1 => repeat (first | exact (Kd.R_reads' HO445.out).2.2 | (with_reducible refine Kd.C_alloc ?_ _) | (with_reducible refine Kd.C_drewN ?_ _) | (with_reducible refine Kd.C_drew ?_))); (case side2 => exact (Kd.R_reads' HO445.out).2.1); rintro e w94 ⟨v448, rfl, ho0, hb⟩; refine ⟨_, rfl, ?_⟩; replace HO_4 := Aside0.mk (Kd.S_elder' (by (with_reducible repeat (first | apply Kd.S_alloc | apply Kd.S_drewN | apply Kd.S_drew)); exact HO_4.out) (Kd.R_base ho0) hb); have HO449 := Aside0.mk (Kd.R_lower (Kd.R_new' (Kd.R_new' (Kd.R_new' ho0 (Kd.R_lt (Hd.r_ HO_3))) (Kd.R_lt (Hd.r_ HO_6))) (Kd.R_lt (Hd.r_ HO445))) (below_size Hd.b_)); replace HO_3 := Aside0.mk (Kd.R_elder' (Hd.r_ HO_3) (Kd.R_base ho0) hb); replace HO_6 := Aside0.mk (Kd.R_elder' (Hd.r_ HO_6) (Kd.R_base ho0) hb); replace HO445 := Aside0.mk (Kd.R_elder' (Hd.r_ HO445) (Kd.R_base ho0) hb); replace HB := Aside0.mk (below_step Hd.b_ hb); (try clear hb); (try clear hb2); (try clear hk); (try clear hi); (try clear ho0); obtain ⟨Ao95, co95, eo95⟩ := Kd.R_slice HO449.out; subst eo95) | (go_at_call 32; (with_reducible refine (impl_IsPartOf.calls kj5 _ _ t446 _ _ t442 t450 _ ?side1 ?side2 ?side3 ?side4 A89.out).mono ?_); (case side1 => repeat (first | exact (Kd.R_reads' HO449.out).2.2 | (with_reducible refine Kd.C_alloc ?_ _) | (with_reducible refine Kd.C_drewN ?_ _) | (with_reducible refine Kd.C_drew ?_))); (case side2 => exact (Kd.R_reads' HO449.out).2.1); (case side3 => repeat (first | exact (Kd.R_reads' HO445.out).2.2 | (with_reducible refine Kd.C_alloc ?_ _) | (with_reducible refine Kd.C_drewN ?_ _) | (with_reducible refine Kd.C_drew ?_))); (case side4 => exact (Kd.R_reads' HO445.out).2.1); rintro e w96 ⟨rfl, hb⟩; replace HO_3 := Aside0.mk (Kd.R_below (Hd.r_ HO_3) hb); replace HO_4 := Aside0.mk (Kd.S_below (by (with_reducible repeat (first | apply Kd.S_alloc | apply Kd.S_drewN | apply Kd.S_drew)); exact HO_4.out) hb); replace HO_6 := Aside0.mk (Kd.R_below (Hd.r_ HO_6) hb); replace HO445 := Aside0.mk (Kd.R_below (Hd.r_ HO445) hb); replace HO449 := Aside0.mk (Kd.R_below (Hd.r_ HO449) hb); replace HB := Aside0.mk (below_step Hd.b_ hb); (try clear hb); (try clear hb2); (try clear hk); (try clear hi)))
         go_ret
         exact ⟨Hd.e_, Hd.b_⟩
        ·
         rw [if_neg c88] at H
         have c88b0 : ((t446.length : Int) == (wrap64 ((t442.length : Int) - 1))) = false := beq_eq_false_iff_ne.mpr c88
         have c88b1 : ((t446.length : Int) != (wrap64 ((t442.length : Int) - 1))) = true := bne_iff_ne.mpr c88
         obtain rfl := Option.some.inj H
         go_wp2_with (first | ((with_reducible refine gate_callee (f := 51) rfl ?_); refine goesL_ (some 39) rfl rfl Try.func51 (by kernel_rfl) rfl #[.slice Ao8 t406.length co8] rfl Hd.m_ ?_; (with_reducible refine (impl_IsSimple.calls kj5 _ _ t406 false _ ?side1 ?side2 A25.out).mono ?_); (case side1 => repeat (first | exact (Kd.R_reads' HO_3.out).2.2 | (with_reducible refine Kd.C_alloc ?_ _) | (with_reducible refine Kd.C_drewN ?_ _) | (with_reducible refine Kd.C_drew ?_))); (case side2 => exact (Kd.R_reads' HO_3.out).2.1); rintro e w97 ⟨rfl, hb⟩; refine ⟨_, rfl, ?_⟩; replace HO_3 := Aside0.mk (Kd.R_below (Hd.r_ HO_3) hb); replace HO_4 := Aside0.mk (Kd.S_below (by (with_reducible repeat (first | apply Kd.S_alloc | apply Kd.S_drewN | apply Kd.S_drew)); exact HO_4.out) hb); replace HO_6 := Aside0.mk (Kd.R_below (Hd.r_ HO_6) hb); replace HB := Aside0.mk (below_step Hd.b_ hb); (try clear hb); (try clear hb2); (try clear hk); (try clear hi); obtain ⟨Ao98, co98, eo98⟩ := Kd.R_slice HO_6.out; subst eo98) | ((with_reducible refine gate_callee (f := 54) rfl ?_); refine goesL_ (some 87) rfl rfl Try.func54 (by kernel_rfl) rfl #[.slice Ao98 t413.length co98, .slice Ao8 t406.length co8] rfl Hd.m_ ?_; (with_reducible refine (impl_EqualLines.calls kj5 _ _ t413 _ _ t406 true _ ?side1 ?side2 ?side3 ?side4 A83.out).mono ?_); (case side1 => repeat (first | exact (Kd.R_reads' HO_6.out).2.2 | (with_reducible refine Kd.C_alloc ?_ _) | (with_reducible refine Kd.C_drewN ?_ _) | (with_reducible refine Kd.C_drew ?_))); (case side2 => exact (Kd.R_reads' HO_6.out).2.1); (case side3 => repeat (first | exact (Kd.R_reads' HO_3.out).2.2 | (with_reducible refine Kd.C_alloc ?_ _) | (with_reducible refine Kd.C_drewN ?_ _) | (with_reducible refine Kd.C_drew ?_))); (case side4 => exact (Kd.R_reads' HO_3.out).2.1); rintro e w' ⟨rfl, ⟨nd, rfl⟩⟩; refine ⟨_, rfl, ?_⟩) | ((with_reducible refine gate_callee (f := 55) rfl ?_); refine goesL_ (some 91) rfl rfl Try.func55 (by kernel_rfl) rfl #[.slice A0 l0.length c0] rfl Hd.m_ ?_; (with_reducible refine (spec_DrawDropPoint.calls kj5 _ _ l0 t442 t443 _ ?side1 ?side2 A85.out).mono ?_); (case side1 => repeat (first | exact (Kd.C_below HR0.out Hd.b_) | (with_reducible refine Kd.C_alloc ?_ _) | (with_reducible refine Kd.C_drewN ?_ _) | (with_reducible refine Kd.C_drew ?_))); (case side2 => exact HC0.out); rintro e w99 ⟨v444, rfl, ho0, hb⟩; refine ⟨_, rfl, ?_⟩; replace HO_4 := Aside0.mk (Kd.S_elder' (by (with_reducible repeat (first | apply Kd.S_alloc | apply Kd.S_drewN | apply Kd.S_drew)); exact HO_4.out) (Kd.R_base ho0) hb); have HO445 := Aside0.mk (Kd.R_lower (Kd.R_new' (Kd.R_new' ho0 (Kd.R_lt (Hd.r_ HO_3))) (Kd.R_lt (Hd.r_ HO_6))) (below_size Hd.b_)); replace HO_3 := Aside0.mk (Kd.R_elder' (Hd.r_ HO_3) (Kd.R_base ho0) hb); replace HO_6 := Aside0.mk (Kd.R_elder' (Hd.r_ HO_6) (Kd.R_base ho0) hb); replace HB := Aside0.mk (below_step Hd.b_ hb); (try clear hb); (try clear hb2); (try clear hk); (try clear hi); (try clear ho0); obtain ⟨Ao100, co100, eo100⟩ := Kd.R_slice HO445.out; subst eo100) | ((with_reducible refine gate_callee (f := 56) rfl ?_); refine goesL_ (some 97) rfl rfl Try.func56 (by kernel_rfl) rfl #[.slice Ao100 t442.length co100, .int .i64 t443] rfl Hd.m_ ?_; (with_reducible refine (impl_DropPoint.calls kj5 _ _ t442 t443 t446 true _ ?side1 ?side2 A86.out).mono ?_); (case side1 => repeat (first | exact (Kd.R_reads' HO445.out).2.2 | (with_reducible refine Kd.C_alloc ?_ _) | (with_reducible refine Kd.C_drewN ?_ _) | (with_reducible refine Kd.C_drew ?_))); (case side2 => exact (Kd.R_reads' HO445.out).2.1); rintro e w101 ⟨v448, rfl, ho0, hb⟩; refine ⟨_, rfl, ?_⟩; replace HO_4 := Aside0.mk (Kd.S_elder' (by (with_reducible repeat (first | apply Kd.S_alloc | apply Kd.S_drewN | apply Kd.S_drew)); exact HO_4.out) (Kd.R_base ho0) hb); have HO449 := Aside0.mk (Kd.R_lower (Kd.R_new' (Kd.R_new' (Kd.R_new' ho0 (Kd.R_lt (Hd.r_ HO_3))) (Kd.R_lt (Hd.r_ HO_6))) (Kd.R_lt (Hd.r_ HO445))) (below_size Hd.b_)); replace HO_3 := Aside0.mk (Kd.R_elder' (Hd.r_ HO_3) (Kd.R_base ho0) hb); replace HO_6 := Aside0.mk (Kd.R_elder' (Hd.r_ HO_6) (Kd.R_base ho0) hb); replace HO445 := Aside0.mk (Kd.R_elder' (Hd.r_ HO445) (Kd.R_base ho0) hb); replace HB := Aside0.mk (below_step Hd.b_ hb); (try clear hb); (try clear hb2); (try clear hk); (try clear hi); (try clear ho0); obtain ⟨Ao102, co102, eo102⟩ := Kd.R_slice HO449.out; subst eo102))
         go_ret
         exact ⟨Hd.e_, Hd.b_⟩
       ·
        replace c87 := Bool.eq_false_iff.mpr c87
        subst c87
        have H1 : (some true) = some r := by rw [if_neg (show ¬ (false = true) by decide)] at H; exact H
        clear H
        have H := H1
        clear H1
        obtain rfl := Option.some.inj H
        go_wp2_with (first | ((with_reducible refine gate_callee (f := 51) rfl ?_); refine goesL_ (some 39) rfl rfl Try.func51 (by kernel_rfl) rfl #[.slice Ao8 t406.length co8] rfl Hd.m_ ?_; (with_reducible refine (impl_IsSimple.calls kj5 _ _ t406 false _ ?side1 ?side2 A25.out).mono ?_); (case side1 => repeat (first | exact (Kd.R_reads' HO_3.out).2.2 | (with_reducible refine Kd.C_alloc ?_ _) | (with_reducible refine Kd.C_drewN ?_ _) | (with_reducible refine Kd.C_drew ?_))); (case side2 => exact (Kd.R_reads' HO_3.out).2.1); rintro e w103 ⟨rfl, hb⟩; refine ⟨_, rfl, ?_⟩; replace HO_3 := Aside0.mk (Kd.R_below (Hd.r_ HO_3) hb); replace HO_4 := Aside0.mk (Kd.S_below (by (with_reducible repeat (first | apply Kd.S_alloc | apply Kd.S_drewN | apply Kd.S_drew)); exact HO_4.out) hb); replace HO_6 := Aside0.mk (Kd.R_below (Hd.r_ HO_6) hb); replace HB := Aside0.mk (below_step Hd.b_ hb); (try clear hb); (try clear hb2); (try clear hk); (try clear hi); obtain ⟨Ao104, co104, eo104⟩ := Kd.R_slice HO_6.out; subst eo104) | ((with_reducible refine gate_callee (f := 54) rfl ?_); refine goesL_ (some 87) rfl rfl Try.func54 (by kernel_rfl) rfl #[.slice Ao104 t413.length co104, .slice Ao8 t406.length co8] rfl Hd.m_ ?_; (with_reducible refine (impl_EqualLines.calls kj5 _ _ t413 _ _ t406 true _ ?side1 ?side2 ?side3 ?side4 A83.out).mono ?_); (case side1 => repeat (first | exact (Kd.R_reads' HO_6.out).2.2 | (with_reducible refine Kd.C_alloc ?_ _) | (with_reducible refine Kd.C_drewN ?_ _) | (with_reducible refine Kd.C_drew ?_))); (case side2 => exact (Kd.R_reads' HO_6.out).2.1); (case side3 => repeat (first | exact (Kd.R_reads' HO_3.out).2.2 | (with_reducible refine Kd.C_alloc ?_ _) | (with_reducible refine Kd.C_drewN ?_ _) | (with_reducible refine Kd.C_drew ?_))); (case side4 => exact (Kd.R_reads' HO_3.out).2.1); rintro e w' ⟨rfl, ⟨nd, rfl⟩⟩; refine ⟨_, rfl, ?_⟩) | ((with_reducible refine gate_callee (f := 55) rfl ?_); refine goesL_ (some 91) rfl rfl Try.func55 (by kernel_rfl) rfl #[.slice A0 l0.length c0] rfl Hd.m_ ?_; (with_reducible refine (spec_DrawDropPoint.calls kj5 _ _ l0 t442 t443 _ ?side1 ?side2 A85.out).mono ?_); (case side1 => repeat (first | exact (Kd.C_below HR0.out Hd.b_) | (with_reducible refine Kd.C_alloc ?_ _) | (with_reducible refine Kd.C_drewN ?_ _) | (with_reducible refine Kd.C_drew ?_))); (case side2 => exact HC0.out); rintro e w105 ⟨v444, rfl, ho0, hb⟩; refine ⟨_, rfl, ?_⟩; replace HO_4 := Aside0.mk (Kd.S_elder' (by (with_reducible repeat (first | apply Kd.S_alloc | apply Kd.S_drewN | apply Kd.S_drew)); exact HO_4.out) (Kd.R_base ho0) hb); have HO445 := Aside0.mk (Kd.R_lower (Kd.R_new' (Kd.R_new' ho0 (Kd.R_lt (Hd.r_ HO_3))) (Kd.R_lt (Hd.r_ HO_6))) (below_size Hd.b_)); replace HO_3 := Aside0.mk (Kd.R_elder' (Hd.r_ HO_3) (Kd.R_base ho0) hb); replace HO_6 := Aside0.mk (Kd.R_elder' (Hd.r_ HO_6) (Kd.R_base ho0) hb); replace HB := Aside0.mk (below_step Hd.b_ hb); (try clear hb); (try clear hb2); (try clear hk); (try clear hi); (try clear ho0); obtain ⟨Ao106, co106, eo106⟩ := Kd.R_slice HO445.out; subst eo106) | ((with_reducible refine gate_callee (f := 56) rfl ?_); refine goesL_ (some 97) rfl rfl Try.func56 (by kernel_rfl) rfl #[.slice Ao106 t442.length co106, .int .i64 t443] rfl Hd.m_ ?_; (with_reducible refine (impl_DropPoint.calls kj5 _ _ t442 t443 t446 false _ ?side1 ?side2 A86.out).mono ?_); (case side1 => repeat (first | exact (Kd.R_reads' HO445.out).2.2 | (with_reducible refine Kd.C_alloc ?_ _) | (with_reducible refine Kd.C_drewN ?_ _) | (with_reducible refine Kd.C_drew ?_))); (case side2 => exact (Kd.R_reads' HO445.out).2.1); rintro e w107 ⟨v448, rfl, ho0, hb⟩; refine ⟨_, rfl, ?_⟩; replace HO_4 := Aside0.mk (Kd.S_elder' (by (with_reducible repeat (first | apply Kd.S_alloc | apply Kd.S_drewN | apply Kd.S_drew)); exact HO_4.out) (Kd.R_base ho0) hb); have HO449 := Aside0.mk (Kd.R_lower (Kd.R_new' (Kd.R_new' (Kd.R_new' ho0 (Kd.R_lt (Hd.r_ HO_3))) (Kd.R_lt (Hd.r_ HO_6))) (Kd.R_lt (Hd.r_ HO445))) (below_size Hd.b_)); replace HO_3 := Aside0.mk (Kd.R_elder' (Hd.r_ HO_3) (Kd.R_base ho0) hb); replace HO_6 := Aside0.mk (Kd.R_elder' (Hd.r_ HO_6) (Kd.R_base ho0) hb); replace HO445 := Aside0.mk (Kd.R_elder' (Hd.r_ HO445) (Kd.R_base ho0) hb); replace HB := Aside0.mk (below_step Hd.b_ hb); (try clear hb); (try clear hb2); (try clear hk); (try clear hi); (try clear ho0)))
        go_ret
        exact ⟨Hd.e_, Hd.b_⟩
      ·
       replace c84 := Bool.eq_false_iff.mpr c84
       subst c84
       have H1 : (some false) = some r := by rw [if_neg (show ¬ (false = true) by decide)] at H; exact H
       clear H
       have H := H1
       clear H1
       obtain rfl := Option.some.inj H
       go_wp2_with (first | ((with_reducible refine gate_callee (f := 51) rfl ?_); refine goesL_ (some 39) rfl rfl Try.func51 (by kernel_rfl) rfl #[.slice Ao8 t406.length co8] rfl Hd.m_ ?_; (with_reducible refine (impl_IsSimple.calls kj5 _ _ t406 false _ ?side1 ?side2 A25.out).mono ?_); (case side1 => repeat (first | exact (Kd.R_reads' HO_3.out).2.2 | (with_reducible refine Kd.C_alloc ?_ _) | (with_reducible refine Kd.C_drewN ?_ _) | (with_reducible refine Kd.C_drew ?_))); (case side2 => exact (Kd.R_reads' HO_3.out).2.1); rintro e w108 ⟨rfl, hb⟩; refine ⟨_, rfl, ?_⟩; replace HO_3 := Aside0.mk (Kd.R_below (Hd.r_ HO_3) hb); replace HO_4 := Aside0.mk (Kd.S_below (by (with_reducible repeat (first | apply Kd.S_alloc | apply Kd.S_drewN | apply Kd.S_drew)); exact HO_4.out) hb); replace HO_6 := Aside0.mk (Kd.R_below (Hd.r_ HO_6) hb); replace HB := Aside0.mk (below_step Hd.b_ hb); (try clear hb); (try clear hb2); (try clear hk); (try clear hi); obtain ⟨Ao109, co109, eo109⟩ := Kd.R_slice HO_6.out; subst eo109) | ((with_reducible refine gate_callee (f := 54) rfl ?_); refine goesL_ (some 87) rfl rfl Try.func54 (by kernel_rfl) rfl #[.slice Ao109 t413.length co109, .slice Ao8 t406.length co8] rfl Hd.m_ ?_; (with_reducible refine (impl_EqualLines.calls kj5 _ _ t413 _ _ t406 false _ ?side1 ?side2 ?side3 ?side4 A83.out).mono ?_); (case side1 => repeat (first | exact (Kd.R_reads' HO_6.out).2.2 | (with_reducible refine Kd.C_alloc ?_ _) | (with_reducible refine Kd.C_drewN ?_ _) | (with_reducible refine Kd.C_drew ?_))); (case side2 => exact (Kd.R_reads' HO_6.out).2.1); (case side3 => repeat (first | exact (Kd.R_reads' HO_3.out).2.2 | (with_reducible refine Kd.C_alloc ?_ _) | (with_reducible refine Kd.C_drewN ?_ _) | (with_reducible refine Kd.C_drew ?_))); (case side4 => exact (Kd.R_reads' HO_3.out).2.1); rintro e w' ⟨rfl, ⟨nd, rfl⟩⟩; refine ⟨_, rfl, ?_⟩))
       go_ret
       exact ⟨Hd.e_, Hd.b_⟩
end Go.Proofs.Ytbackoeakepngaa.MFnSafe
