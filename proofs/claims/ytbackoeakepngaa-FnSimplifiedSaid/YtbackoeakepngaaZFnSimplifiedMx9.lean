-- Laid by this session's program pp.py, after the kit's print and texts of the session's own. Not trusted: Lean checks it.
import Derived.Test.YtbackoeakepngaaZFnSimplifiedMx0
import Derived.Test.YtbackoeakepngaaZFnSimplifiedMx2
import Derived.Test.YtbackoeakepngaaZFnSimplifiedMx3
import Derived.Test.YtbackoeakepngaaZFnSimplifiedMx6
import Derived.Test.YtbackoeakepngaaZFnSimplifiedMx7
import Derived.Test.YtbackoeakepngaaZFnSimplifiedMx8
namespace Go.Proofs.Ytbackoeakepngaa.MFnSimplified
open Go.RowKit Go.Proofs.YtbackoeakepngaaW.PrintWords Go.Proofs.YtbackoeakepngaaW.PrintLast Go.Proofs.YtbackoeakepngaaW.PrintMore
attribute [local go_sem] max2_int min2_int max_two min_two max_three min_three max_four min_four   -- for this text's walks alone
set_option linter.unusedVariables false
set_option linter.unusedSimpArgs false
mutual
def laws_FnSimplified.j0 : Nat → List Int → List (S27) → Int → List (S27) → Bool → Option (Bool)
 | 0, _, _, _, _, _ => none
 | k + 1, x0, x3, x4, x5, x33 => if x33 = true then (some false) else ((impl_IsLine.f k x3).bind fun t376 => (if t376 = true then (if x4 ≥ 0 then (if x4 ≤ 200 then ((impl_IsLine.f k x5).bind fun t377 => (if t377 = true then ((impl_IsFaithful.f k x3 x5 x4).bind fun t378 => (laws_FnSimplified.j1 k x0 (!t378))) else (laws_FnSimplified.j1 k x0 false))) else (laws_FnSimplified.j1 k x0 false)) else (laws_FnSimplified.j1 k x0 false)) else (laws_FnSimplified.j1 k x0 false)))
def laws_FnSimplified.j1 : Nat → List Int → Bool → Option (Bool)
 | 0, _, _ => none
 | k + 1, x0, x54 => if x54 = true then (some false) else ((spec_DrawIsNear.f k x0).bind fun bt379 => ((impl_IsNear.f bt379.1 bt379.2.1 bt379.2.2.1 bt379.2.2.2.1 bt379.2.2.2.2.1 bt379.2.2.2.2.2.1 bt379.2.2.2.2.2.2).bind fun t388 => (if t388 = true then (if bt379.2.2.2.2.2.2 = 200 then (some true) else ((impl_IsNear.f bt379.1 bt379.2.1 bt379.2.2.1 bt379.2.2.2.1 bt379.2.2.2.2.1 bt379.2.2.2.2.2.1 (wrap64 (bt379.2.2.2.2.2.2 + 1))).bind fun t389 => (some t389))) else (some true))))
end
def laws_FnSimplified.f (k : Nat) (l0 : List Int) : Option (Bool) := (laws_big.f l0).bind fun t366 => (if t366 = true then (some true) else ((spec_DrawSimplifyLine.f k l0).bind fun bt367 => ((impl_SimplifyLine.f k bt367.1 bt367.2).bind fun t371 => ((impl_IsPartOf.f k t371 bt367.1).bind fun t374 => (if t374 = true then ((impl_CountLeftOut.f k bt367.1 bt367.2).bind fun t375 => (laws_FnSimplified.j0 k l0 bt367.1 bt367.2 t371 (t375 != (wrap64 ((bt367.1.length : Int) - (t371.length : Int)))))) else (laws_FnSimplified.j0 k l0 bt367.1 bt367.2 t371 true))))))
set_option maxHeartbeats 8000000 in
set_option maxRecDepth 100000 in
theorem laws_FnSimplified.calls (k : Nat) (A0 : Option Addr) (c0 : Nat) (l0 : List Int) (r : Bool) (w : World) (hr0 : Kd.C (Kd.int .u8) w A0 l0.length l0) (hc0 : l0.length ≤ c0) (h : laws_FnSimplified.f k l0 = some r) :
  Calls Try.prog 6 #[.slice A0 l0.length c0] w fun e w' => e = .returned (.bool r) ∧ Below w.heap.size w w' := by
 have hu53 := Try.underlying53
 have hu27 := Try.underlying27
 have HR0 := Aside0.mk hr0
 have HC0 := Aside0.mk hc0
 clear hr0 hc0
 have HB := Aside0.mk (Below.refl w.heap.size w)
 have H : ((laws_big.f l0).bind fun t366 => (if t366 = true then (some true) else ((spec_DrawSimplifyLine.f k l0).bind fun bt367 => ((impl_SimplifyLine.f k bt367.1 bt367.2).bind fun t371 => ((impl_IsPartOf.f k t371 bt367.1).bind fun t374 => (if t374 = true then ((impl_CountLeftOut.f k bt367.1 bt367.2).bind fun t375 => (laws_FnSimplified.j0 k l0 bt367.1 bt367.2 t371 (t375 != (wrap64 ((bt367.1.length : Int) - (t371.length : Int)))))) else (laws_FnSimplified.j0 k l0 bt367.1 bt367.2 t371 true))))))) = some r := h
 clear h
 replace H := Option.bind_eq_some_iff.mp H
 obtain ⟨t366, A20, H⟩ := H
 replace H : (if t366 = true then (some true) else ((spec_DrawSimplifyLine.f k l0).bind fun bt367 => ((impl_SimplifyLine.f k bt367.1 bt367.2).bind fun t371 => ((impl_IsPartOf.f k t371 bt367.1).bind fun t374 => (if t374 = true then ((impl_CountLeftOut.f k bt367.1 bt367.2).bind fun t375 => (laws_FnSimplified.j0 k l0 bt367.1 bt367.2 t371 (t375 != (wrap64 ((bt367.1.length : Int) - (t371.length : Int)))))) else (laws_FnSimplified.j0 k l0 bt367.1 bt367.2 t371 true)))))) = some r := H
 have A2 := Aside0.mk A20
 clear A20
 by_cases c3 : t366 = true
 ·
  subst c3
  have H1 : (some true) = some r := by rw [if_pos rfl] at H; exact H
  clear H
  have H := H1
  clear H1
  obtain rfl := Option.some.inj H
  go_enter Try.func6, Try.ntmps6
  go_wp2_with (first | ((with_reducible refine gate_callee (f := 10) rfl ?_); refine goesL_ (some 10) rfl rfl Try.func10 (by kernel_rfl) rfl #[.slice A0 l0.length c0] rfl Hd.m_ ?_; (with_reducible refine (laws_big.calls _ _ l0 true _ ?side1 ?side2 A2.out).mono ?_); (case side1 => repeat (first | exact HR0.out | (with_reducible refine Kd.C_alloc ?_ _) | (with_reducible refine Kd.C_drewN ?_ _) | (with_reducible refine Kd.C_drew ?_))); (case side2 => exact HC0.out); rintro e w' ⟨rfl, ⟨nd, rfl⟩⟩; refine ⟨_, rfl, ?_⟩))
  go_ret
  exact ⟨Hd.e_, Hd.b_⟩
 ·
  replace c3 := Bool.eq_false_iff.mpr c3
  subst c3
  have H1 : ((spec_DrawSimplifyLine.f k l0).bind fun bt367 => ((impl_SimplifyLine.f k bt367.1 bt367.2).bind fun t371 => ((impl_IsPartOf.f k t371 bt367.1).bind fun t374 => (if t374 = true then ((impl_CountLeftOut.f k bt367.1 bt367.2).bind fun t375 => (laws_FnSimplified.j0 k l0 bt367.1 bt367.2 t371 (t375 != (wrap64 ((bt367.1.length : Int) - (t371.length : Int)))))) else (laws_FnSimplified.j0 k l0 bt367.1 bt367.2 t371 true))))) = some r := by rw [if_neg (show ¬ (false = true) by decide)] at H; exact H
  clear H
  have H := H1
  clear H1
  replace H := Option.bind_eq_some_iff.mp H
  obtain ⟨⟨t367, t368⟩, A40, H⟩ := H
  replace H : ((impl_SimplifyLine.f k t367 t368).bind fun t371 => ((impl_IsPartOf.f k t371 t367).bind fun t374 => (if t374 = true then ((impl_CountLeftOut.f k t367 t368).bind fun t375 => (laws_FnSimplified.j0 k l0 t367 t368 t371 (t375 != (wrap64 ((t367.length : Int) - (t371.length : Int)))))) else (laws_FnSimplified.j0 k l0 t367 t368 t371 true)))) = some r := H
  have A4 := Aside0.mk A40
  clear A40
  replace H := Option.bind_eq_some_iff.mp H
  obtain ⟨t371, A50, H⟩ := H
  replace H : ((impl_IsPartOf.f k t371 t367).bind fun t374 => (if t374 = true then ((impl_CountLeftOut.f k t367 t368).bind fun t375 => (laws_FnSimplified.j0 k l0 t367 t368 t371 (t375 != (wrap64 ((t367.length : Int) - (t371.length : Int)))))) else (laws_FnSimplified.j0 k l0 t367 t368 t371 true))) = some r := H
  have A5 := Aside0.mk A50
  clear A50
  have HC6 := Aside0.mk H
  clear H
  go_enter Try.func6, Try.ntmps6
  go_upto_region 5 with (first | ((with_reducible refine gate_callee (f := 10) rfl ?_); refine goesL_ (some 10) rfl rfl Try.func10 (by kernel_rfl) rfl #[.slice A0 l0.length c0] rfl Hd.m_ ?_; (with_reducible refine (laws_big.calls _ _ l0 false _ ?side1 ?side2 A2.out).mono ?_); (case side1 => repeat (first | exact HR0.out | (with_reducible refine Kd.C_alloc ?_ _) | (with_reducible refine Kd.C_drewN ?_ _) | (with_reducible refine Kd.C_drew ?_))); (case side2 => exact HC0.out); rintro e w' ⟨rfl, ⟨nd, rfl⟩⟩; refine ⟨_, rfl, ?_⟩) | ((with_reducible refine gate_callee (f := 31) rfl ?_); refine goesL_ (some 13) rfl rfl Try.func31 (by kernel_rfl) rfl #[.slice A0 l0.length c0] rfl Hd.m_ ?_; (with_reducible refine (spec_DrawSimplifyLine.calls k _ _ l0 t367 t368 _ ?side1 ?side2 A4.out).mono ?_); (case side1 => repeat (first | exact HR0.out | (with_reducible refine Kd.C_alloc ?_ _) | (with_reducible refine Kd.C_drewN ?_ _) | (with_reducible refine Kd.C_drew ?_))); (case side2 => exact HC0.out); rintro e w7 ⟨v369, rfl, ho0, hb⟩; refine ⟨_, rfl, ?_⟩; have HO370 := Aside0.mk (Kd.R_lower ho0 (below_size Hd.b_)); replace HB := Aside0.mk (below_step Hd.b_ hb); (try clear hb); (try clear hb2); (try clear hk); (try clear hi); (try clear ho0); obtain ⟨Ao8, co8, eo8⟩ := Kd.R_slice HO370.out; subst eo8) | ((with_reducible refine gate_callee (f := 28) rfl ?_); refine goesL_ (some 18) rfl rfl Try.func28 (by kernel_rfl) rfl #[.slice Ao8 t367.length co8, .int .i64 t368] rfl Hd.m_ ?_; (with_reducible refine (impl_SimplifyLine.calls k _ _ t367 t368 t371 _ ?side1 ?side2 A5.out).mono ?_); (case side1 => repeat (first | exact (Kd.R_reads' HO370.out).2.2 | (with_reducible refine Kd.C_alloc ?_ _) | (with_reducible refine Kd.C_drewN ?_ _) | (with_reducible refine Kd.C_drew ?_))); (case side2 => exact (Kd.R_reads' HO370.out).2.1); rintro e w9 ⟨v372, rfl, ho0, hb⟩; refine ⟨_, rfl, ?_⟩; have HO373 := Aside0.mk (Kd.R_lower (Kd.R_new' ho0 (Kd.R_lt (Hd.r_ HO370))) (below_size Hd.b_)); replace HO370 := Aside0.mk (Kd.R_elder' (Hd.r_ HO370) (Kd.R_base ho0) hb); replace HB := Aside0.mk (below_step Hd.b_ hb); (try clear hb); (try clear hb2); (try clear hk); (try clear hi); (try clear ho0)))
  (try simp only [Act.put, List.setIfInBounds_toArray, List.set_cons_zero, List.set_cons_succ])
  go_cut [33] (fun v33 wc => ∃ (kq : Nat) (x33_5 : Bool), v33 = .bool x33_5 ∧ Aside0 (laws_FnSimplified.j0 kq l0 t367 t368 t371 x33_5 = some r) ∧ Aside0 (kq ≤ k) ∧ Aside0 (Kd.R k27 27 wc w.heap.size (fun k_ => some k_ ≠ (v372 : Value).ownBlock) (.slice Ao8 t367.length co8) t367) ∧ Aside0 (Kd.R k27 27 wc w.heap.size (fun k_ => some k_ ≠ ((.slice Ao8 t367.length co8) : Value).ownBlock) v372 t371) ∧ Aside0 (Below w.heap.size w wc))
  case first =>
   have H := HC6.out
   clear HC6
   replace H := Option.bind_eq_some_iff.mp H
   obtain ⟨t374, A100, H⟩ := H
   replace H : (if t374 = true then ((impl_CountLeftOut.f k t367 t368).bind fun t375 => (laws_FnSimplified.j0 k l0 t367 t368 t371 (t375 != (wrap64 ((t367.length : Int) - (t371.length : Int)))))) else (laws_FnSimplified.j0 k l0 t367 t368 t371 true)) = some r := H
   have A10 := Aside0.mk A100
   clear A100
   by_cases c11 : t374 = true
   ·
    subst c11
    have H1 : ((impl_CountLeftOut.f k t367 t368).bind fun t375 => (laws_FnSimplified.j0 k l0 t367 t368 t371 (t375 != (wrap64 ((t367.length : Int) - (t371.length : Int)))))) = some r := by rw [if_pos rfl] at H; exact H
    clear H
    have H := H1
    clear H1
    replace H := Option.bind_eq_some_iff.mp H
    obtain ⟨t375, A120, H⟩ := H
    replace H : (laws_FnSimplified.j0 k l0 t367 t368 t371 (t375 != (wrap64 ((t367.length : Int) - (t371.length : Int))))) = some r := H
    have A12 := Aside0.mk A120
    clear A120
    have H' := Aside0.mk H
    clear H
    obtain ⟨Ao13, co13, eo13⟩ := Kd.R_slice HO373.out
    subst eo13
    go_wp2_with (first | ((with_reducible refine gate_callee (f := 32) rfl ?_); refine goesL_ (some 21) rfl rfl Try.func32 (by kernel_rfl) rfl #[.slice Ao13 t371.length co13, .slice Ao8 t367.length co8] rfl Hd.m_ ?_; (with_reducible refine (impl_IsPartOf.calls k _ _ t371 _ _ t367 true _ ?side1 ?side2 ?side3 ?side4 A10.out).mono ?_); (case side1 => repeat (first | exact (Kd.R_reads' HO373.out).2.2 | (with_reducible refine Kd.C_alloc ?_ _) | (with_reducible refine Kd.C_drewN ?_ _) | (with_reducible refine Kd.C_drew ?_))); (case side2 => exact (Kd.R_reads' HO373.out).2.1); (case side3 => repeat (first | exact (Kd.R_reads' HO370.out).2.2 | (with_reducible refine Kd.C_alloc ?_ _) | (with_reducible refine Kd.C_drewN ?_ _) | (with_reducible refine Kd.C_drew ?_))); (case side4 => exact (Kd.R_reads' HO370.out).2.1); rintro e w14 ⟨rfl, hb⟩; refine ⟨_, rfl, ?_⟩; replace HO370 := Aside0.mk (Kd.R_below (Hd.r_ HO370) hb); replace HO373 := Aside0.mk (Kd.R_below (Hd.r_ HO373) hb); replace HB := Aside0.mk (below_step Hd.b_ hb); (try clear hb); (try clear hb2); (try clear hk); (try clear hi)) | (go_at_call 25; (with_reducible refine (impl_CountLeftOut.calls k _ _ t367 t368 t375 _ ?side1 ?side2 A12.out).mono ?_); (case side1 => repeat (first | exact (Kd.R_reads' HO370.out).2.2 | (with_reducible refine Kd.C_alloc ?_ _) | (with_reducible refine Kd.C_drewN ?_ _) | (with_reducible refine Kd.C_drew ?_))); (case side2 => exact (Kd.R_reads' HO370.out).2.1); rintro e w15 ⟨rfl, hb⟩; replace HO370 := Aside0.mk (Kd.R_below (Hd.r_ HO370) hb); replace HO373 := Aside0.mk (Kd.R_below (Hd.r_ HO373) hb); replace HB := Aside0.mk (below_step Hd.b_ hb); (try clear hb); (try clear hb2); (try clear hk); (try clear hi)))
    go_meet
    case rel => exact ⟨_, ((t375 != (wrap64 ((t367.length : Int) - (t371.length : Int))))), (by first | rfl | (simp; done) | (simp [*]; done)), H', ⟨by first | omega | exact Nat.le_refl _⟩, ⟨by (with_reducible repeat (first | apply Kd.R_alloc | apply Kd.R_drewN | apply Kd.R_drew)); exact Kd.R_mono HO370.out (fun _ hk => hk.2)⟩, ⟨by (with_reducible repeat (first | apply Kd.R_alloc | apply Kd.R_drewN | apply Kd.R_drew)); exact Kd.R_mono HO373.out (fun _ hk => hk.2)⟩, ⟨Hd.b_⟩⟩
   ·
    replace c11 := Bool.eq_false_iff.mpr c11
    subst c11
    have H1 : (laws_FnSimplified.j0 k l0 t367 t368 t371 true) = some r := by rw [if_neg (show ¬ (false = true) by decide)] at H; exact H
    clear H
    have H := H1
    clear H1
    have H' := Aside0.mk H
    clear H
    obtain ⟨Ao16, co16, eo16⟩ := Kd.R_slice HO373.out
    subst eo16
    go_wp2_with (first | ((with_reducible refine gate_callee (f := 32) rfl ?_); refine goesL_ (some 21) rfl rfl Try.func32 (by kernel_rfl) rfl #[.slice Ao16 t371.length co16, .slice Ao8 t367.length co8] rfl Hd.m_ ?_; (with_reducible refine (impl_IsPartOf.calls k _ _ t371 _ _ t367 false _ ?side1 ?side2 ?side3 ?side4 A10.out).mono ?_); (case side1 => repeat (first | exact (Kd.R_reads' HO373.out).2.2 | (with_reducible refine Kd.C_alloc ?_ _) | (with_reducible refine Kd.C_drewN ?_ _) | (with_reducible refine Kd.C_drew ?_))); (case side2 => exact (Kd.R_reads' HO373.out).2.1); (case side3 => repeat (first | exact (Kd.R_reads' HO370.out).2.2 | (with_reducible refine Kd.C_alloc ?_ _) | (with_reducible refine Kd.C_drewN ?_ _) | (with_reducible refine Kd.C_drew ?_))); (case side4 => exact (Kd.R_reads' HO370.out).2.1); rintro e w17 ⟨rfl, hb⟩; refine ⟨_, rfl, ?_⟩; replace HO370 := Aside0.mk (Kd.R_below (Hd.r_ HO370) hb); replace HO373 := Aside0.mk (Kd.R_below (Hd.r_ HO373) hb); replace HB := Aside0.mk (below_step Hd.b_ hb); (try clear hb); (try clear hb2); (try clear hk); (try clear hi)))
    go_meet
    case rel => exact ⟨_, (true), (by first | rfl | (simp; done) | (simp [*]; done)), H', ⟨by first | omega | exact Nat.le_refl _⟩, ⟨by (with_reducible repeat (first | apply Kd.R_alloc | apply Kd.R_drewN | apply Kd.R_drew)); exact Kd.R_mono HO370.out (fun _ hk => hk.2)⟩, ⟨by (with_reducible repeat (first | apply Kd.R_alloc | apply Kd.R_drewN | apply Kd.R_drew)); exact Kd.R_mono HO373.out (fun _ hk => hk.2)⟩, ⟨Hd.b_⟩⟩
  case rest =>
   clear HC6
   try clear c1
   try clear c2
   try clear p2
   try clear c3
   try clear c6
   try clear p6
   try clear c10
   try clear c11
   obtain ⟨kq, x33_5, rfl, HA, HJ5, HO_3, HO_5, HB⟩ := hcut
   cases kq with
   | zero => exact absurd HA.out (by simp [laws_FnSimplified.j0])
   | succ kj5 =>
    have H := HA.out
    clear HA
    simp only [laws_FnSimplified.j0] at H
    by_cases c18 : x33_5 = true
    ·
     subst c18
     have H1 : (some false) = some r := by rw [if_pos rfl] at H; exact H
     clear H
     have H := H1
     clear H1
     obtain rfl := Option.some.inj H
     go_wp2
     go_ret
     exact ⟨Hd.e_, Hd.b_⟩
    ·
     replace c18 := Bool.eq_false_iff.mpr c18
     subst c18
     have H1 : ((impl_IsLine.f kj5 t367).bind fun t376 => (if t376 = true then (if t368 ≥ 0 then (if t368 ≤ 200 then ((impl_IsLine.f kj5 t371).bind fun t377 => (if t377 = true then ((impl_IsFaithful.f kj5 t367 t371 t368).bind fun t378 => (laws_FnSimplified.j1 kj5 l0 (!t378))) else (laws_FnSimplified.j1 kj5 l0 false))) else (laws_FnSimplified.j1 kj5 l0 false)) else (laws_FnSimplified.j1 kj5 l0 false)) else (laws_FnSimplified.j1 kj5 l0 false))) = some r := by rw [if_neg (show ¬ (false = true) by decide)] at H; exact H
     clear H
     have H := H1
     clear H1
     have HC19 := Aside0.mk H
     clear H
     go_upto_region 7 with (fail)
     go_cut [54] (fun v54 wc => ∃ (kq : Nat) (x54_18 : Bool), v54 = .bool x54_18 ∧ Aside0 (laws_FnSimplified.j1 kq l0 x54_18 = some r) ∧ Aside0 (kq ≤ kj5) ∧ Aside0 (Below w.heap.size w wc))
     case first =>
      have H := HC19.out
      clear HC19
      replace H := Option.bind_eq_some_iff.mp H
      obtain ⟨t376, A200, H⟩ := H
      replace H : (if t376 = true then (if t368 ≥ 0 then (if t368 ≤ 200 then ((impl_IsLine.f kj5 t371).bind fun t377 => (if t377 = true then ((impl_IsFaithful.f kj5 t367 t371 t368).bind fun t378 => (laws_FnSimplified.j1 kj5 l0 (!t378))) else (laws_FnSimplified.j1 kj5 l0 false))) else (laws_FnSimplified.j1 kj5 l0 false)) else (laws_FnSimplified.j1 kj5 l0 false)) else (laws_FnSimplified.j1 kj5 l0 false)) = some r := H
      have A20 := Aside0.mk A200
      clear A200
      by_cases c21 : t376 = true
      ·
       subst c21
       have H1 : (if t368 ≥ 0 then (if t368 ≤ 200 then ((impl_IsLine.f kj5 t371).bind fun t377 => (if t377 = true then ((impl_IsFaithful.f kj5 t367 t371 t368).bind fun t378 => (laws_FnSimplified.j1 kj5 l0 (!t378))) else (laws_FnSimplified.j1 kj5 l0 false))) else (laws_FnSimplified.j1 kj5 l0 false)) else (laws_FnSimplified.j1 kj5 l0 false)) = some r := by rw [if_pos rfl] at H; exact H
       clear H
       have H := H1
       clear H1
       by_cases c22 : t368 ≥ 0
       ·
        rw [if_pos c22] at H
        have c22b0 : decide (0 ≤ t368) = true := decide_eq_true c22
        clear c22
        (first | rw [c22b0] | (simp only [i64_w, i32_w]; rw [c22b0]) | skip)
        by_cases c23 : t368 ≤ 200
        ·
         rw [if_pos c23] at H
         have c23b0 : decide (t368 ≤ 200) = true := decide_eq_true c23
         clear c23
         replace H := Option.bind_eq_some_iff.mp H
         obtain ⟨t377, A240, H⟩ := H
         replace H : (if t377 = true then ((impl_IsFaithful.f kj5 t367 t371 t368).bind fun t378 => (laws_FnSimplified.j1 kj5 l0 (!t378))) else (laws_FnSimplified.j1 kj5 l0 false)) = some r := H
         have A24 := Aside0.mk A240
         clear A240
         by_cases c25 : t377 = true
         ·
          subst c25
          have H1 : ((impl_IsFaithful.f kj5 t367 t371 t368).bind fun t378 => (laws_FnSimplified.j1 kj5 l0 (!t378))) = some r := by rw [if_pos rfl] at H; exact H
          clear H
          have H := H1
          clear H1
          replace H := Option.bind_eq_some_iff.mp H
          obtain ⟨t378, A260, H⟩ := H
          replace H : (laws_FnSimplified.j1 kj5 l0 (!t378)) = some r := H
          have A26 := Aside0.mk A260
          clear A260
          have H' := Aside0.mk H
          clear H
          go_wp2_with (first | ((with_reducible refine gate_callee (f := 33) rfl ?_); refine goesL_ (some 35) rfl rfl Try.func33 (by kernel_rfl) rfl #[.slice Ao8 t367.length co8] rfl Hd.m_ ?_; (with_reducible refine (impl_IsLine.calls kj5 _ _ t367 true _ ?side1 ?side2 A20.out).mono ?_); (case side1 => repeat (first | exact (Kd.R_reads' HO_3.out).2.2 | (with_reducible refine Kd.C_alloc ?_ _) | (with_reducible refine Kd.C_drewN ?_ _) | (with_reducible refine Kd.C_drew ?_))); (case side2 => exact (Kd.R_reads' HO_3.out).2.1); rintro e w27 ⟨rfl, hb⟩; refine ⟨_, rfl, ?_⟩; replace HO_3 := Aside0.mk (Kd.R_below (Hd.r_ HO_3) hb); replace HO_5 := Aside0.mk (Kd.R_below (Hd.r_ HO_5) hb); replace HB := Aside0.mk (below_step Hd.b_ hb); (try clear hb); (try clear hb2); (try clear hk); (try clear hi); obtain ⟨Ao28, co28, eo28⟩ := Kd.R_slice HO_5.out; subst eo28) | (go_at_call 33; (with_reducible refine (impl_IsLine.calls kj5 _ _ t371 true _ ?side1 ?side2 A24.out).mono ?_); (case side1 => repeat (first | exact (Kd.R_reads' HO_5.out).2.2 | (with_reducible refine Kd.C_alloc ?_ _) | (with_reducible refine Kd.C_drewN ?_ _) | (with_reducible refine Kd.C_drew ?_))); (case side2 => exact (Kd.R_reads' HO_5.out).2.1); rintro e w29 ⟨rfl, hb⟩; replace HO_3 := Aside0.mk (Kd.R_below (Hd.r_ HO_3) hb); replace HO_5 := Aside0.mk (Kd.R_below (Hd.r_ HO_5) hb); replace HB := Aside0.mk (below_step Hd.b_ hb); (try clear hb); (try clear hb2); (try clear hk); (try clear hi)) | (go_at_call 34; (with_reducible refine (impl_IsFaithful.calls kj5 _ _ t367 _ _ t371 t368 t378 _ ?side1 ?side2 ?side3 ?side4 A26.out).mono ?_); (case side1 => repeat (first | exact (Kd.R_reads' HO_3.out).2.2 | (with_reducible refine Kd.C_alloc ?_ _) | (with_reducible refine Kd.C_drewN ?_ _) | (with_reducible refine Kd.C_drew ?_))); (case side2 => exact (Kd.R_reads' HO_3.out).2.1); (case side3 => repeat (first | exact (Kd.R_reads' HO_5.out).2.2 | (with_reducible refine Kd.C_alloc ?_ _) | (with_reducible refine Kd.C_drewN ?_ _) | (with_reducible refine Kd.C_drew ?_))); (case side4 => exact (Kd.R_reads' HO_5.out).2.1); rintro e w30 ⟨rfl, hb⟩; replace HO_3 := Aside0.mk (Kd.R_below (Hd.r_ HO_3) hb); replace HO_5 := Aside0.mk (Kd.R_below (Hd.r_ HO_5) hb); replace HB := Aside0.mk (below_step Hd.b_ hb); (try clear hb); (try clear hb2); (try clear hk); (try clear hi)))
          go_meet
          case rel => exact ⟨_, (!t378), (by first | rfl | (simp; done) | (simp [*]; done)), H', ⟨by have := HJ5.out; first | omega | exact Nat.le_refl _⟩, ⟨Hd.b_⟩⟩
         ·
          replace c25 := Bool.eq_false_iff.mpr c25
          subst c25
          have H1 : (laws_FnSimplified.j1 kj5 l0 false) = some r := by rw [if_neg (show ¬ (false = true) by decide)] at H; exact H
          clear H
          have H := H1
          clear H1
          have H' := Aside0.mk H
          clear H
          go_wp2_with (first | ((with_reducible refine gate_callee (f := 33) rfl ?_); refine goesL_ (some 35) rfl rfl Try.func33 (by kernel_rfl) rfl #[.slice Ao8 t367.length co8] rfl Hd.m_ ?_; (with_reducible refine (impl_IsLine.calls kj5 _ _ t367 true _ ?side1 ?side2 A20.out).mono ?_); (case side1 => repeat (first | exact (Kd.R_reads' HO_3.out).2.2 | (with_reducible refine Kd.C_alloc ?_ _) | (with_reducible refine Kd.C_drewN ?_ _) | (with_reducible refine Kd.C_drew ?_))); (case side2 => exact (Kd.R_reads' HO_3.out).2.1); rintro e w31 ⟨rfl, hb⟩; refine ⟨_, rfl, ?_⟩; replace HO_3 := Aside0.mk (Kd.R_below (Hd.r_ HO_3) hb); replace HO_5 := Aside0.mk (Kd.R_below (Hd.r_ HO_5) hb); replace HB := Aside0.mk (below_step Hd.b_ hb); (try clear hb); (try clear hb2); (try clear hk); (try clear hi); obtain ⟨Ao32, co32, eo32⟩ := Kd.R_slice HO_5.out; subst eo32) | (go_at_call 33; (with_reducible refine (impl_IsLine.calls kj5 _ _ t371 false _ ?side1 ?side2 A24.out).mono ?_); (case side1 => repeat (first | exact (Kd.R_reads' HO_5.out).2.2 | (with_reducible refine Kd.C_alloc ?_ _) | (with_reducible refine Kd.C_drewN ?_ _) | (with_reducible refine Kd.C_drew ?_))); (case side2 => exact (Kd.R_reads' HO_5.out).2.1); rintro e w33 ⟨rfl, hb⟩; replace HO_3 := Aside0.mk (Kd.R_below (Hd.r_ HO_3) hb); replace HO_5 := Aside0.mk (Kd.R_below (Hd.r_ HO_5) hb); replace HB := Aside0.mk (below_step Hd.b_ hb); (try clear hb); (try clear hb2); (try clear hk); (try clear hi)))
          go_meet
          case rel => exact ⟨_, (false), (by first | rfl | (simp; done) | (simp [*]; done)), H', ⟨by have := HJ5.out; first | omega | exact Nat.le_refl _⟩, ⟨Hd.b_⟩⟩
        ·
         rw [if_neg c23] at H
         have c23b0 : decide (t368 ≤ 200) = false := decide_eq_false c23
         clear c23
         have H' := Aside0.mk H
         clear H
         go_wp2_with (first | ((with_reducible refine gate_callee (f := 33) rfl ?_); refine goesL_ (some 35) rfl rfl Try.func33 (by kernel_rfl) rfl #[.slice Ao8 t367.length co8] rfl Hd.m_ ?_; (with_reducible refine (impl_IsLine.calls kj5 _ _ t367 true _ ?side1 ?side2 A20.out).mono ?_); (case side1 => repeat (first | exact (Kd.R_reads' HO_3.out).2.2 | (with_reducible refine Kd.C_alloc ?_ _) | (with_reducible refine Kd.C_drewN ?_ _) | (with_reducible refine Kd.C_drew ?_))); (case side2 => exact (Kd.R_reads' HO_3.out).2.1); rintro e w34 ⟨rfl, hb⟩; refine ⟨_, rfl, ?_⟩; replace HO_3 := Aside0.mk (Kd.R_below (Hd.r_ HO_3) hb); replace HO_5 := Aside0.mk (Kd.R_below (Hd.r_ HO_5) hb); replace HB := Aside0.mk (below_step Hd.b_ hb); (try clear hb); (try clear hb2); (try clear hk); (try clear hi)))
         go_meet
         case rel => exact ⟨_, (false), (by first | rfl | (simp; done) | (simp [*]; done)), H', ⟨by have := HJ5.out; first | omega | exact Nat.le_refl _⟩, ⟨Hd.b_⟩⟩
       ·
        rw [if_neg c22] at H
        have c22b0 : decide (0 ≤ t368) = false := decide_eq_false c22
        clear c22
        (first | rw [c22b0] | (simp only [i64_w, i32_w]; rw [c22b0]) | skip)
        have H' := Aside0.mk H
        clear H
        go_wp2_with (first | ((with_reducible refine gate_callee (f := 33) rfl ?_); refine goesL_ (some 35) rfl rfl Try.func33 (by kernel_rfl) rfl #[.slice Ao8 t367.length co8] rfl Hd.m_ ?_; (with_reducible refine (impl_IsLine.calls kj5 _ _ t367 true _ ?side1 ?side2 A20.out).mono ?_); (case side1 => repeat (first | exact (Kd.R_reads' HO_3.out).2.2 | (with_reducible refine Kd.C_alloc ?_ _) | (with_reducible refine Kd.C_drewN ?_ _) | (with_reducible refine Kd.C_drew ?_))); (case side2 => exact (Kd.R_reads' HO_3.out).2.1); rintro e w35 ⟨rfl, hb⟩; refine ⟨_, rfl, ?_⟩; replace HO_3 := Aside0.mk (Kd.R_below (Hd.r_ HO_3) hb); replace HO_5 := Aside0.mk (Kd.R_below (Hd.r_ HO_5) hb); replace HB := Aside0.mk (below_step Hd.b_ hb); (try clear hb); (try clear hb2); (try clear hk); (try clear hi)))
        go_meet
        case rel => exact ⟨_, (false), (by first | rfl | (simp; done) | (simp [*]; done)), H', ⟨by have := HJ5.out; first | omega | exact Nat.le_refl _⟩, ⟨Hd.b_⟩⟩
      ·
       replace c21 := Bool.eq_false_iff.mpr c21
       subst c21
       have H1 : (laws_FnSimplified.j1 kj5 l0 false) = some r := by rw [if_neg (show ¬ (false = true) by decide)] at H; exact H
       clear H
       have H := H1
       clear H1
       have H' := Aside0.mk H
       clear H
       go_wp2_with (first | ((with_reducible refine gate_callee (f := 33) rfl ?_); refine goesL_ (some 35) rfl rfl Try.func33 (by kernel_rfl) rfl #[.slice Ao8 t367.length co8] rfl Hd.m_ ?_; (with_reducible refine (impl_IsLine.calls kj5 _ _ t367 false _ ?side1 ?side2 A20.out).mono ?_); (case side1 => repeat (first | exact (Kd.R_reads' HO_3.out).2.2 | (with_reducible refine Kd.C_alloc ?_ _) | (with_reducible refine Kd.C_drewN ?_ _) | (with_reducible refine Kd.C_drew ?_))); (case side2 => exact (Kd.R_reads' HO_3.out).2.1); rintro e w36 ⟨rfl, hb⟩; refine ⟨_, rfl, ?_⟩; replace HO_3 := Aside0.mk (Kd.R_below (Hd.r_ HO_3) hb); replace HO_5 := Aside0.mk (Kd.R_below (Hd.r_ HO_5) hb); replace HB := Aside0.mk (below_step Hd.b_ hb); (try clear hb); (try clear hb2); (try clear hk); (try clear hi)))
       go_meet
       case rel => exact ⟨_, (false), (by first | rfl | (simp; done) | (simp [*]; done)), H', ⟨by have := HJ5.out; first | omega | exact Nat.le_refl _⟩, ⟨Hd.b_⟩⟩
     case rest =>
      clear HC19
      try clear c1
      try clear c2
      try clear p2
      try clear c3
      try clear c6
      try clear p6
      try clear c10
      try clear c11
      try clear c18
      try clear c21
      try clear c22
      try clear c22b0
      try clear c23
      try clear c23b0
      try clear c25
      try clear c28
      try clear c31
      try clear c32
      try clear c33
      try clear p2
      try clear p6
      obtain ⟨kq, x54_18, rfl, HA, HJ18, HB⟩ := hcut
      cases kq with
      | zero => exact absurd HA.out (by simp [laws_FnSimplified.j1])
      | succ kj18 =>
       have H := HA.out
       clear HA
       simp only [laws_FnSimplified.j1] at H
       by_cases c37 : x54_18 = true
       ·
        subst c37
        have H1 : (some false) = some r := by rw [if_pos rfl] at H; exact H
        clear H
        have H := H1
        clear H1
        obtain rfl := Option.some.inj H
        go_wp2
        go_ret
        exact ⟨Hd.e_, Hd.b_⟩
       ·
        replace c37 := Bool.eq_false_iff.mpr c37
        subst c37
        have H1 : ((spec_DrawIsNear.f kj18 l0).bind fun bt379 => ((impl_IsNear.f bt379.1 bt379.2.1 bt379.2.2.1 bt379.2.2.2.1 bt379.2.2.2.2.1 bt379.2.2.2.2.2.1 bt379.2.2.2.2.2.2).bind fun t388 => (if t388 = true then (if bt379.2.2.2.2.2.2 = 200 then (some true) else ((impl_IsNear.f bt379.1 bt379.2.1 bt379.2.2.1 bt379.2.2.2.1 bt379.2.2.2.2.1 bt379.2.2.2.2.2.1 (wrap64 (bt379.2.2.2.2.2.2 + 1))).bind fun t389 => (some t389))) else (some true)))) = some r := by rw [if_neg (show ¬ (false = true) by decide)] at H; exact H
        clear H
        have H := H1
        clear H1
        replace H := Option.bind_eq_some_iff.mp H
        obtain ⟨⟨t379, t380, t381, t382, t383, t384, t385⟩, A380, H⟩ := H
        replace H : ((impl_IsNear.f t379 t380 t381 t382 t383 t384 t385).bind fun t388 => (if t388 = true then (if t385 = 200 then (some true) else ((impl_IsNear.f t379 t380 t381 t382 t383 t384 (wrap64 (t385 + 1))).bind fun t389 => (some t389))) else (some true))) = some r := H
        have A38 := Aside0.mk A380
        clear A380
        replace H := Option.bind_eq_some_iff.mp H
        obtain ⟨t388, A390, H⟩ := H
        replace H : (if t388 = true then (if t385 = 200 then (some true) else ((impl_IsNear.f t379 t380 t381 t382 t383 t384 (wrap64 (t385 + 1))).bind fun t389 => (some t389))) else (some true)) = some r := H
        have A39 := Aside0.mk A390
        clear A390
        by_cases c40 : t388 = true
        ·
         subst c40
         have H1 : (if t385 = 200 then (some true) else ((impl_IsNear.f t379 t380 t381 t382 t383 t384 (wrap64 (t385 + 1))).bind fun t389 => (some t389))) = some r := by rw [if_pos rfl] at H; exact H
         clear H
         have H := H1
         clear H1
         by_cases c41 : t385 = 200
         ·
          rw [if_pos c41] at H
          have c41b0 : (t385 == 200) = true := beq_iff_eq.mpr c41
          have c41b1 : (t385 != 200) = false := bne_eq_false_iff_eq.mpr c41
          clear c41
          obtain rfl := Option.some.inj H
          go_wp2_with (first | ((with_reducible refine gate_callee (f := 35) rfl ?_); refine goesL_ (some 57) rfl rfl Try.func35 (by kernel_rfl) rfl #[.slice A0 l0.length c0] rfl Hd.m_ ?_; (with_reducible refine (spec_DrawIsNear.calls kj18 _ _ l0 t379 t380 t381 t382 t383 t384 t385 _ ?side1 ?side2 A38.out).mono ?_); (case side1 => repeat (first | exact (Kd.C_below HR0.out HB.out) | (with_reducible refine Kd.C_alloc ?_ _) | (with_reducible refine Kd.C_drewN ?_ _) | (with_reducible refine Kd.C_drew ?_))); (case side2 => exact HC0.out); rintro e w42 ⟨rfl, hb⟩; refine ⟨_, rfl, ?_⟩; replace HB := Aside0.mk (below_step Hd.b_ hb); (try clear hb); (try clear hb2); (try clear hk); (try clear hi)) | ((with_reducible refine gate_dst (N := 6) rfl ?_); (try (refine gate_guard (by rfl) ?_; dsimp only)); refine Hd.box_ 6 (#[.int .i64 0, .int .i64 0, .int .i64 0, .int .i64 0]) 53 ?_; intro gb386 hg w43 hbox hb; have BK386 := Aside0.mk (hbox); have GW386 := Aside0.mk ((Hd.g_ hg Hd.b_ : w.heap.size ≤ gb386)); have GE386 := Aside0.mk ((Hd.g_ hg Hd.b_ : w.heap.size ≤ gb386)); replace HB := Aside0.mk (below_step Hd.b_ hb); clear hb hbox hg) | ((with_reducible refine gate_dst (N := 7) rfl ?_); (try (refine gate_guard (by rfl) ?_; dsimp only)); refine Hd.box_ 7 (#[.int .i64 0, .int .i64 0]) 27 ?_; intro gb387 hg w44 hbox hb; have BK387 := Aside0.mk (hbox); have GW387 := Aside0.mk ((Hd.g_ hg Hd.b_ : w.heap.size ≤ gb387)); have GE387 := Aside0.mk ((Hd.g_ hg Hd.b_ : w.heap.size ≤ gb387)); replace HB := Aside0.mk (below_step Hd.b_ hb); have NB386_387 := Aside0.mk ((Hd.lt_ BK386 hg)); have NB387_386 := Aside0.mk ((Hd.gt_ BK386 hg)); replace BK386 := Aside0.mk (Hd.kb_ BK386 hb); clear hb hbox hg; have hnb45 := NB386_387.out; have hnc45 := NB387_386.out; obtain ⟨hcz46_0, hcz46_1, hcz46_2, hcz46_3⟩ := Hd.c4_ BK386.out; obtain ⟨hfz46_0, hfz46_1, hfz46_2, hfz46_3⟩ := Hd.f4_ BK386.out; obtain ⟨hcz47_0, hcz47_1⟩ := Hd.c2_ BK387.out; obtain ⟨hfz47_0, hfz47_1⟩ := Hd.f2_ BK387.out) | ((with_reducible refine gate_callee (f := 36) rfl ?_); refine goesL_ (some 64) rfl rfl Try.func36 (by kernel_rfl) rfl #[.agg #[.int .i64 t379, .int .i64 t380, .int .i64 t381, .int .i64 t382], .agg #[.int .i64 t383, .int .i64 t384], .int .i64 t385] rfl Hd.m_ ?_; (with_reducible refine (impl_IsNear.calls t379 t380 t381 t382 t383 t384 t385 true _ A39.out).mono ?_); rintro e w48 ⟨rfl, hb⟩; refine ⟨_, rfl, ?_⟩; replace BK386 := Aside0.mk (blk_below (g := gb386) (o := .cells #[.int .i64 t379, .int .i64 t380, .int .i64 t381, .int .i64 t382] 53 (0, 0)) (by (with_reducible repeat (first | refine blk_drewN ?_ _ | refine blk_drew ?_ | refine blk_alloc ?_ _)); refine blk_far ?_ NB386_387.out _; (with_reducible repeat (first | refine blk_drewN ?_ _ | refine blk_drew ?_ | refine blk_alloc ?_ _)); refine blk_far ?_ NB386_387.out _; (with_reducible repeat (first | refine blk_drewN ?_ _ | refine blk_drew ?_ | refine blk_alloc ?_ _)); refine blk_put (cs := #[.int .i64 t379, .int .i64 t380, .int .i64 t381, .int .i64 0]) ?_ 3 _ rfl; (with_reducible repeat (first | refine blk_drewN ?_ _ | refine blk_drew ?_ | refine blk_alloc ?_ _)); refine blk_put (cs := #[.int .i64 t379, .int .i64 t380, .int .i64 0, .int .i64 0]) ?_ 2 _ rfl; (with_reducible repeat (first | refine blk_drewN ?_ _ | refine blk_drew ?_ | refine blk_alloc ?_ _)); refine blk_put (cs := #[.int .i64 t379, .int .i64 0, .int .i64 0, .int .i64 0]) ?_ 1 _ rfl; (with_reducible repeat (first | refine blk_drewN ?_ _ | refine blk_drew ?_ | refine blk_alloc ?_ _)); refine blk_put (cs := #[.int .i64 0, .int .i64 0, .int .i64 0, .int .i64 0]) ?_ 0 _ rfl; (with_reducible repeat (first | refine blk_drewN ?_ _ | refine blk_drew ?_ | refine blk_alloc ?_ _)); exact BK386.out) hb); replace BK387 := Aside0.mk (blk_below (g := gb387) (o := .cells #[.int .i64 t383, .int .i64 t384] 27 (0, 0)) (by (with_reducible repeat (first | refine blk_drewN ?_ _ | refine blk_drew ?_ | refine blk_alloc ?_ _)); refine blk_put (cs := #[.int .i64 t383, .int .i64 0]) ?_ 1 _ rfl; (with_reducible repeat (first | refine blk_drewN ?_ _ | refine blk_drew ?_ | refine blk_alloc ?_ _)); refine blk_put (cs := #[.int .i64 0, .int .i64 0]) ?_ 0 _ rfl; (with_reducible repeat (first | refine blk_drewN ?_ _ | refine blk_drew ?_ | refine blk_alloc ?_ _)); refine blk_far ?_ NB387_386.out _; (with_reducible repeat (first | refine blk_drewN ?_ _ | refine blk_drew ?_ | refine blk_alloc ?_ _)); refine blk_far ?_ NB387_386.out _; (with_reducible repeat (first | refine blk_drewN ?_ _ | refine blk_drew ?_ | refine blk_alloc ?_ _)); refine blk_far ?_ NB387_386.out _; (with_reducible repeat (first | refine blk_drewN ?_ _ | refine blk_drew ?_ | refine blk_alloc ?_ _)); refine blk_far ?_ NB387_386.out _; (with_reducible repeat (first | refine blk_drewN ?_ _ | refine blk_drew ?_ | refine blk_alloc ?_ _)); exact BK387.out) hb); replace HB := Aside0.mk (below_step Hd.b_ hb); (try clear hb); (try clear hb2); (try clear hk); (try clear hi)))
          go_ret
          exact ⟨Hd.e_, Hd.b_⟩
         ·
          rw [if_neg c41] at H
          have c41b0 : (t385 == 200) = false := beq_eq_false_iff_ne.mpr c41
          have c41b1 : (t385 != 200) = true := bne_iff_ne.mpr c41
          replace H := Option.bind_eq_some_iff.mp H
          obtain ⟨t389, A490, H⟩ := H
          replace H : (some t389) = some r := H
          have A49 := Aside0.mk A490
          clear A490
          obtain rfl := Option.some.inj H
          go_wp2_with (first | ((with_reducible refine gate_callee (f := 35) rfl ?_); refine goesL_ (some 57) rfl rfl Try.func35 (by kernel_rfl) rfl #[.slice A0 l0.length c0] rfl Hd.m_ ?_; (with_reducible refine (spec_DrawIsNear.calls kj18 _ _ l0 t379 t380 t381 t382 t383 t384 t385 _ ?side1 ?side2 A38.out).mono ?_); (case side1 => repeat (first | exact (Kd.C_below HR0.out HB.out) | (with_reducible refine Kd.C_alloc ?_ _) | (with_reducible refine Kd.C_drewN ?_ _) | (with_reducible refine Kd.C_drew ?_))); (case side2 => exact HC0.out); rintro e w50 ⟨rfl, hb⟩; refine ⟨_, rfl, ?_⟩; replace HB := Aside0.mk (below_step Hd.b_ hb); (try clear hb); (try clear hb2); (try clear hk); (try clear hi)) | ((with_reducible refine gate_dst (N := 6) rfl ?_); (try (refine gate_guard (by rfl) ?_; dsimp only)); refine Hd.box_ 6 (#[.int .i64 0, .int .i64 0, .int .i64 0, .int .i64 0]) 53 ?_; intro gb386 hg w51 hbox hb; have BK386 := Aside0.mk (hbox); have GW386 := Aside0.mk ((Hd.g_ hg Hd.b_ : w.heap.size ≤ gb386)); have GE386 := Aside0.mk ((Hd.g_ hg Hd.b_ : w.heap.size ≤ gb386)); replace HB := Aside0.mk (below_step Hd.b_ hb); clear hb hbox hg) | ((with_reducible refine gate_dst (N := 7) rfl ?_); (try (refine gate_guard (by rfl) ?_; dsimp only)); refine Hd.box_ 7 (#[.int .i64 0, .int .i64 0]) 27 ?_; intro gb387 hg w52 hbox hb; have BK387 := Aside0.mk (hbox); have GW387 := Aside0.mk ((Hd.g_ hg Hd.b_ : w.heap.size ≤ gb387)); have GE387 := Aside0.mk ((Hd.g_ hg Hd.b_ : w.heap.size ≤ gb387)); replace HB := Aside0.mk (below_step Hd.b_ hb); have NB386_387 := Aside0.mk ((Hd.lt_ BK386 hg)); have NB387_386 := Aside0.mk ((Hd.gt_ BK386 hg)); replace BK386 := Aside0.mk (Hd.kb_ BK386 hb); clear hb hbox hg; have hnb53 := NB386_387.out; have hnc53 := NB387_386.out; obtain ⟨hcz54_0, hcz54_1, hcz54_2, hcz54_3⟩ := Hd.c4_ BK386.out; obtain ⟨hfz54_0, hfz54_1, hfz54_2, hfz54_3⟩ := Hd.f4_ BK386.out; obtain ⟨hcz55_0, hcz55_1⟩ := Hd.c2_ BK387.out; obtain ⟨hfz55_0, hfz55_1⟩ := Hd.f2_ BK387.out) | ((with_reducible refine gate_callee (f := 36) rfl ?_); refine goesL_ (some 64) rfl rfl Try.func36 (by kernel_rfl) rfl #[.agg #[.int .i64 t379, .int .i64 t380, .int .i64 t381, .int .i64 t382], .agg #[.int .i64 t383, .int .i64 t384], .int .i64 t385] rfl Hd.m_ ?_; (with_reducible refine (impl_IsNear.calls t379 t380 t381 t382 t383 t384 t385 true _ A39.out).mono ?_); rintro e w56 ⟨rfl, hb⟩; refine ⟨_, rfl, ?_⟩; replace BK386 := Aside0.mk (blk_below (g := gb386) (o := .cells #[.int .i64 t379, .int .i64 t380, .int .i64 t381, .int .i64 t382] 53 (0, 0)) (by (with_reducible repeat (first | refine blk_drewN ?_ _ | refine blk_drew ?_ | refine blk_alloc ?_ _)); refine blk_far ?_ NB386_387.out _; (with_reducible repeat (first | refine blk_drewN ?_ _ | refine blk_drew ?_ | refine blk_alloc ?_ _)); refine blk_far ?_ NB386_387.out _; (with_reducible repeat (first | refine blk_drewN ?_ _ | refine blk_drew ?_ | refine blk_alloc ?_ _)); refine blk_put (cs := #[.int .i64 t379, .int .i64 t380, .int .i64 t381, .int .i64 0]) ?_ 3 _ rfl; (with_reducible repeat (first | refine blk_drewN ?_ _ | refine blk_drew ?_ | refine blk_alloc ?_ _)); refine blk_put (cs := #[.int .i64 t379, .int .i64 t380, .int .i64 0, .int .i64 0]) ?_ 2 _ rfl; (with_reducible repeat (first | refine blk_drewN ?_ _ | refine blk_drew ?_ | refine blk_alloc ?_ _)); refine blk_put (cs := #[.int .i64 t379, .int .i64 0, .int .i64 0, .int .i64 0]) ?_ 1 _ rfl; (with_reducible repeat (first | refine blk_drewN ?_ _ | refine blk_drew ?_ | refine blk_alloc ?_ _)); refine blk_put (cs := #[.int .i64 0, .int .i64 0, .int .i64 0, .int .i64 0]) ?_ 0 _ rfl; (with_reducible repeat (first | refine blk_drewN ?_ _ | refine blk_drew ?_ | refine blk_alloc ?_ _)); exact BK386.out) hb); replace BK387 := Aside0.mk (blk_below (g := gb387) (o := .cells #[.int .i64 t383, .int .i64 t384] 27 (0, 0)) (by (with_reducible repeat (first | refine blk_drewN ?_ _ | refine blk_drew ?_ | refine blk_alloc ?_ _)); refine blk_put (cs := #[.int .i64 t383, .int .i64 0]) ?_ 1 _ rfl; (with_reducible repeat (first | refine blk_drewN ?_ _ | refine blk_drew ?_ | refine blk_alloc ?_ _)); refine blk_put (cs := #[.int .i64 0, .int .i64 0]) ?_ 0 _ rfl; (with_reducible repeat (first | refine blk_drewN ?_ _ | refine blk_drew ?_ | refine blk_alloc ?_ _)); refine blk_far ?_ NB387_386.out _; (with_reducible repeat (first | refine blk_drewN ?_ _ | refine blk_drew ?_ | refine blk_alloc ?_ _)); refine blk_far ?_ NB387_386.out _; (with_reducible repeat (first | refine blk_drewN ?_ _ | refine blk_drew ?_ | refine blk_alloc ?_ _)); refine blk_far ?_ NB387_386.out _; (with_reducible repeat (first | refine blk_drewN ?_ _ | refine blk_drew ?_ | refine blk_alloc ?_ _)); refine blk_far ?_ NB387_386.out _; (with_reducible repeat (first | refine blk_drewN ?_ _ | refine blk_drew ?_ | refine blk_alloc ?_ _)); exact BK387.out) hb); replace HB := Aside0.mk (below_step Hd.b_ hb); (try clear hb); (try clear hb2); (try clear hk); (try clear hi); obtain ⟨hcz57_0, hcz57_1, hcz57_2, hcz57_3⟩ := Hd.c4_ BK386.out; obtain ⟨hfz57_0, hfz57_1, hfz57_2, hfz57_3⟩ := Hd.f4_ BK386.out; obtain ⟨hcz58_0, hcz58_1⟩ := Hd.c2_ BK387.out; obtain ⟨hfz58_0, hfz58_1⟩ := Hd.f2_ BK387.out) | (go_at_call 36; (with_reducible refine (impl_IsNear.calls t379 t380 t381 t382 t383 t384 (wrap64 (t385 + 1)) t389 _ A49.out).mono ?_); rintro e w59 ⟨rfl, hb⟩; replace BK386 := Aside0.mk (Hd.kb_ BK386 hb); replace BK387 := Aside0.mk (Hd.kb_ BK387 hb); replace HB := Aside0.mk (below_step Hd.b_ hb); (try clear hb); (try clear hb2); (try clear hk); (try clear hi)))
          go_ret
          exact ⟨Hd.e_, Hd.b_⟩
        ·
         replace c40 := Bool.eq_false_iff.mpr c40
         subst c40
         have H1 : (some true) = some r := by rw [if_neg (show ¬ (false = true) by decide)] at H; exact H
         clear H
         have H := H1
         clear H1
         obtain rfl := Option.some.inj H
         go_wp2_with (first | ((with_reducible refine gate_callee (f := 35) rfl ?_); refine goesL_ (some 57) rfl rfl Try.func35 (by kernel_rfl) rfl #[.slice A0 l0.length c0] rfl Hd.m_ ?_; (with_reducible refine (spec_DrawIsNear.calls kj18 _ _ l0 t379 t380 t381 t382 t383 t384 t385 _ ?side1 ?side2 A38.out).mono ?_); (case side1 => repeat (first | exact (Kd.C_below HR0.out HB.out) | (with_reducible refine Kd.C_alloc ?_ _) | (with_reducible refine Kd.C_drewN ?_ _) | (with_reducible refine Kd.C_drew ?_))); (case side2 => exact HC0.out); rintro e w60 ⟨rfl, hb⟩; refine ⟨_, rfl, ?_⟩; replace HB := Aside0.mk (below_step Hd.b_ hb); (try clear hb); (try clear hb2); (try clear hk); (try clear hi)) | ((with_reducible refine gate_dst (N := 6) rfl ?_); (try (refine gate_guard (by rfl) ?_; dsimp only)); refine Hd.box_ 6 (#[.int .i64 0, .int .i64 0, .int .i64 0, .int .i64 0]) 53 ?_; intro gb386 hg w61 hbox hb; have BK386 := Aside0.mk (hbox); have GW386 := Aside0.mk ((Hd.g_ hg Hd.b_ : w.heap.size ≤ gb386)); have GE386 := Aside0.mk ((Hd.g_ hg Hd.b_ : w.heap.size ≤ gb386)); replace HB := Aside0.mk (below_step Hd.b_ hb); clear hb hbox hg) | ((with_reducible refine gate_dst (N := 7) rfl ?_); (try (refine gate_guard (by rfl) ?_; dsimp only)); refine Hd.box_ 7 (#[.int .i64 0, .int .i64 0]) 27 ?_; intro gb387 hg w62 hbox hb; have BK387 := Aside0.mk (hbox); have GW387 := Aside0.mk ((Hd.g_ hg Hd.b_ : w.heap.size ≤ gb387)); have GE387 := Aside0.mk ((Hd.g_ hg Hd.b_ : w.heap.size ≤ gb387)); replace HB := Aside0.mk (below_step Hd.b_ hb); have NB386_387 := Aside0.mk ((Hd.lt_ BK386 hg)); have NB387_386 := Aside0.mk ((Hd.gt_ BK386 hg)); replace BK386 := Aside0.mk (Hd.kb_ BK386 hb); clear hb hbox hg; have hnb63 := NB386_387.out; have hnc63 := NB387_386.out; obtain ⟨hcz64_0, hcz64_1, hcz64_2, hcz64_3⟩ := Hd.c4_ BK386.out; obtain ⟨hfz64_0, hfz64_1, hfz64_2, hfz64_3⟩ := Hd.f4_ BK386.out; obtain ⟨hcz65_0, hcz65_1⟩ := Hd.c2_ BK387.out; obtain ⟨hfz65_0, hfz65_1⟩ := Hd.f2_ BK387.out) | ((with_reducible refine gate_callee (f := 36) rfl ?_); refine goesL_ (some 64) rfl rfl Try.func36 (by kernel_rfl) rfl #[.agg #[.int .i64 t379, .int .i64 t380, .int .i64 t381, .int .i64 t382], .agg #[.int .i64 t383, .int .i64 t384], .int .i64 t385] rfl Hd.m_ ?_; (with_reducible refine (impl_IsNear.calls t379 t380 t381 t382 t383 t384 t385 false _ A39.out).mono ?_); rintro e w66 ⟨rfl, hb⟩; refine ⟨_, rfl, ?_⟩; replace BK386 := Aside0.mk (blk_below (g := gb386) (o := .cells #[.int .i64 t379, .int .i64 t380, .int .i64 t381, .int .i64 t382] 53 (0, 0)) (by (with_reducible repeat (first | refine blk_drewN ?_ _ | refine blk_drew ?_ | refine blk_alloc ?_ _)); refine blk_far ?_ NB386_387.out _; (with_reducible repeat (first | refine blk_drewN ?_ _ | refine blk_drew ?_ | refine blk_alloc ?_ _)); refine blk_far ?_ NB386_387.out _; (with_reducible repeat (first | refine blk_drewN ?_ _ | refine blk_drew ?_ | refine blk_alloc ?_ _)); refine blk_put (cs := #[.int .i64 t379, .int .i64 t380, .int .i64 t381, .int .i64 0]) ?_ 3 _ rfl; (with_reducible repeat (first | refine blk_drewN ?_ _ | refine blk_drew ?_ | refine blk_alloc ?_ _)); refine blk_put (cs := #[.int .i64 t379, .int .i64 t380, .int .i64 0, .int .i64 0]) ?_ 2 _ rfl; (with_reducible repeat (first | refine blk_drewN ?_ _ | refine blk_drew ?_ | refine blk_alloc ?_ _)); refine blk_put (cs := #[.int .i64 t379, .int .i64 0, .int .i64 0, .int .i64 0]) ?_ 1 _ rfl; (with_reducible repeat (first | refine blk_drewN ?_ _ | refine blk_drew ?_ | refine blk_alloc ?_ _)); refine blk_put (cs := #[.int .i64 0, .int .i64 0, .int .i64 0, .int .i64 0]) ?_ 0 _ rfl; (with_reducible repeat (first | refine blk_drewN ?_ _ | refine blk_drew ?_ | refine blk_alloc ?_ _)); exact BK386.out) hb); replace BK387 := Aside0.mk (blk_below (g := gb387) (o := .cells #[.int .i64 t383, .int .i64 t384] 27 (0, 0)) (by (with_reducible repeat (first | refine blk_drewN ?_ _ | refine blk_drew ?_ | refine blk_alloc ?_ _)); refine blk_put (cs := #[.int .i64 t383, .int .i64 0]) ?_ 1 _ rfl; (with_reducible repeat (first | refine blk_drewN ?_ _ | refine blk_drew ?_ | refine blk_alloc ?_ _)); refine blk_put (cs := #[.int .i64 0, .int .i64 0]) ?_ 0 _ rfl; (with_reducible repeat (first | refine blk_drewN ?_ _ | refine blk_drew ?_ | refine blk_alloc ?_ _)); refine blk_far ?_ NB387_386.out _; (with_reducible repeat (first | refine blk_drewN ?_ _ | refine blk_drew ?_ | refine blk_alloc ?_ _)); refine blk_far ?_ NB387_386.out _; (with_reducible repeat (first | refine blk_drewN ?_ _ | refine blk_drew ?_ | refine blk_alloc ?_ _)); refine blk_far ?_ NB387_386.out _; (with_reducible repeat (first | refine blk_drewN ?_ _ | refine blk_drew ?_ | refine blk_alloc ?_ _)); refine blk_far ?_ NB387_386.out _; (with_reducible repeat (first | refine blk_drewN ?_ _ | refine blk_drew ?_ | refine blk_alloc ?_ _)); exact BK387.out) hb); replace HB := Aside0.mk (below_step Hd.b_ hb); (try clear hb); (try clear hb2); (try clear hk); (try clear hi)))
         go_ret
         exact ⟨Hd.e_, Hd.b_⟩
end Go.Proofs.Ytbackoeakepngaa.MFnSimplified
